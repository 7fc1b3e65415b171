/- The abstract code is what the translated functions are compiled to. -/
import Derived.Test.YtgiabfngopkpmaaHpp
import Derived.Test.YtgiabfngopkpmaaChecked
import Derived.KernelRfl
namespace Rv.Hp
open Go.Proofs
set_option maxRecDepth 100000
def tab:List (Nat×Nat):=[(8,30),(9,31),(10,32),(39,253),(95,291),(40,254),(41,255),(6,229),(33,54),(88,106),(89,107),(32,65),(38,81),(81,94),(127,127),(92,136),(35,134),(122,104),(124,105),(74,78),(87,181),(144,210),(121,197),(123,198),(93,199),(86,180),(31,158),(79,99),(80,76),(126,135),(91,131),(125,122),(90,98),(36,251),(34,250),(94,290),(37,252),(5,230),(100,72),(65,73),(58,74),(61,75),(43,36),(44,56),(45,86),(47,89),(97,69),(99,70),(107,67),(128,195),(129,196),(96,176),(49,177),(98,178),(70,179),(42,157),(56,96),(135,128),(136,137),(137,138),(132,139),(105,133),(52,186),(133,115),(134,123),(104,101),(103,205),(51,188),(76,102),(145,132),(130,124),(109,82),(142,118),(112,92),(131,125),(102,100),(101,204),(46,189),(50,256),(48,257),(7,231),(3,318)]
theorem c8:FnOK Try.prog (tblOf tab) A (8,30):=⟨Try.f8,p30,Try.func8,by kernel_rfl,by kernel_rfl,by kernel_rfl,by kernel_rfl⟩
theorem c9:FnOK Try.prog (tblOf tab) A (9,31):=⟨Try.f9,p31,Try.func9,by kernel_rfl,by kernel_rfl,by kernel_rfl,by kernel_rfl⟩
theorem c10:FnOK Try.prog (tblOf tab) A (10,32):=⟨Try.f10,p32,Try.func10,by kernel_rfl,by kernel_rfl,by kernel_rfl,by kernel_rfl⟩
theorem c39:FnOK Try.prog (tblOf tab) A (39,253):=⟨Try.f39,p253,Try.func39,by kernel_rfl,by kernel_rfl,by kernel_rfl,by kernel_rfl⟩
theorem c95:FnOK Try.prog (tblOf tab) A (95,291):=⟨Try.f95,p291,Try.func95,by kernel_rfl,by kernel_rfl,by kernel_rfl,by kernel_rfl⟩
theorem c40:FnOK Try.prog (tblOf tab) A (40,254):=⟨Try.f40,p254,Try.func40,by kernel_rfl,by kernel_rfl,by kernel_rfl,by kernel_rfl⟩
theorem c41:FnOK Try.prog (tblOf tab) A (41,255):=⟨Try.f41,p255,Try.func41,by kernel_rfl,by kernel_rfl,by kernel_rfl,by kernel_rfl⟩
theorem c6:FnOK Try.prog (tblOf tab) A (6,229):=⟨Try.f6,p229,Try.func6,by kernel_rfl,by kernel_rfl,by kernel_rfl,by kernel_rfl⟩
theorem c33:FnOK Try.prog (tblOf tab) A (33,54):=⟨Try.f33,p54,Try.func33,by kernel_rfl,by kernel_rfl,by kernel_rfl,by kernel_rfl⟩
theorem c88:FnOK Try.prog (tblOf tab) A (88,106):=⟨Try.f88,p106,Try.func88,by kernel_rfl,by kernel_rfl,by kernel_rfl,by kernel_rfl⟩
theorem c89:FnOK Try.prog (tblOf tab) A (89,107):=⟨Try.f89,p107,Try.func89,by kernel_rfl,by kernel_rfl,by kernel_rfl,by kernel_rfl⟩
theorem c32:FnOK Try.prog (tblOf tab) A (32,65):=⟨Try.f32,p65,Try.func32,by kernel_rfl,by kernel_rfl,by kernel_rfl,by kernel_rfl⟩
theorem c38:FnOK Try.prog (tblOf tab) A (38,81):=⟨Try.f38,p81,Try.func38,by kernel_rfl,by kernel_rfl,by kernel_rfl,by kernel_rfl⟩
theorem c81:FnOK Try.prog (tblOf tab) A (81,94):=⟨Try.f81,p94,Try.func81,by kernel_rfl,by kernel_rfl,by kernel_rfl,by kernel_rfl⟩
theorem c127:FnOK Try.prog (tblOf tab) A (127,127):=⟨Try.f127,p127,Try.func127,by kernel_rfl,by kernel_rfl,by kernel_rfl,by kernel_rfl⟩
theorem c92:FnOK Try.prog (tblOf tab) A (92,136):=⟨Try.f92,p136,Try.func92,by kernel_rfl,by kernel_rfl,by kernel_rfl,by kernel_rfl⟩
theorem c35:FnOK Try.prog (tblOf tab) A (35,134):=⟨Try.f35,p134,Try.func35,by kernel_rfl,by kernel_rfl,by kernel_rfl,by kernel_rfl⟩
theorem c122:FnOK Try.prog (tblOf tab) A (122,104):=⟨Try.f122,p104,Try.func122,by kernel_rfl,by kernel_rfl,by kernel_rfl,by kernel_rfl⟩
theorem c124:FnOK Try.prog (tblOf tab) A (124,105):=⟨Try.f124,p105,Try.func124,by kernel_rfl,by kernel_rfl,by kernel_rfl,by kernel_rfl⟩
theorem c74:FnOK Try.prog (tblOf tab) A (74,78):=⟨Try.f74,p78,Try.func74,by kernel_rfl,by kernel_rfl,by kernel_rfl,by kernel_rfl⟩
theorem c87:FnOK Try.prog (tblOf tab) A (87,181):=⟨Try.f87,p181,Try.func87,by kernel_rfl,by kernel_rfl,by kernel_rfl,by kernel_rfl⟩
theorem c144:FnOK Try.prog (tblOf tab) A (144,210):=⟨Try.f144,p210,Try.func144,by kernel_rfl,by kernel_rfl,by kernel_rfl,by kernel_rfl⟩
theorem c121:FnOK Try.prog (tblOf tab) A (121,197):=⟨Try.f121,p197,Try.func121,by kernel_rfl,by kernel_rfl,by kernel_rfl,by kernel_rfl⟩
theorem c123:FnOK Try.prog (tblOf tab) A (123,198):=⟨Try.f123,p198,Try.func123,by kernel_rfl,by kernel_rfl,by kernel_rfl,by kernel_rfl⟩
theorem c93:FnOK Try.prog (tblOf tab) A (93,199):=⟨Try.f93,p199,Try.func93,by kernel_rfl,by kernel_rfl,by kernel_rfl,by kernel_rfl⟩
theorem c86:FnOK Try.prog (tblOf tab) A (86,180):=⟨Try.f86,p180,Try.func86,by kernel_rfl,by kernel_rfl,by kernel_rfl,by kernel_rfl⟩
theorem c31:FnOK Try.prog (tblOf tab) A (31,158):=⟨Try.f31,p158,Try.func31,by kernel_rfl,by kernel_rfl,by kernel_rfl,by kernel_rfl⟩
theorem c79:FnOK Try.prog (tblOf tab) A (79,99):=⟨Try.f79,p99,Try.func79,by kernel_rfl,by kernel_rfl,by kernel_rfl,by kernel_rfl⟩
theorem c80:FnOK Try.prog (tblOf tab) A (80,76):=⟨Try.f80,p76,Try.func80,by kernel_rfl,by kernel_rfl,by kernel_rfl,by kernel_rfl⟩
theorem c126:FnOK Try.prog (tblOf tab) A (126,135):=⟨Try.f126,p135,Try.func126,by kernel_rfl,by kernel_rfl,by kernel_rfl,by kernel_rfl⟩
theorem c91:FnOK Try.prog (tblOf tab) A (91,131):=⟨Try.f91,p131,Try.func91,by kernel_rfl,by kernel_rfl,by kernel_rfl,by kernel_rfl⟩
theorem c125:FnOK Try.prog (tblOf tab) A (125,122):=⟨Try.f125,p122,Try.func125,by kernel_rfl,by kernel_rfl,by kernel_rfl,by kernel_rfl⟩
theorem c90:FnOK Try.prog (tblOf tab) A (90,98):=⟨Try.f90,p98,Try.func90,by kernel_rfl,by kernel_rfl,by kernel_rfl,by kernel_rfl⟩
theorem c36:FnOK Try.prog (tblOf tab) A (36,251):=⟨Try.f36,p251,Try.func36,by kernel_rfl,by kernel_rfl,by kernel_rfl,by kernel_rfl⟩
theorem c34:FnOK Try.prog (tblOf tab) A (34,250):=⟨Try.f34,p250,Try.func34,by kernel_rfl,by kernel_rfl,by kernel_rfl,by kernel_rfl⟩
theorem c94:FnOK Try.prog (tblOf tab) A (94,290):=⟨Try.f94,p290,Try.func94,by kernel_rfl,by kernel_rfl,by kernel_rfl,by kernel_rfl⟩
theorem c37:FnOK Try.prog (tblOf tab) A (37,252):=⟨Try.f37,p252,Try.func37,by kernel_rfl,by kernel_rfl,by kernel_rfl,by kernel_rfl⟩
theorem c5:FnOK Try.prog (tblOf tab) A (5,230):=⟨Try.f5,p230,Try.func5,by kernel_rfl,by kernel_rfl,by kernel_rfl,by kernel_rfl⟩
theorem c100:FnOK Try.prog (tblOf tab) A (100,72):=⟨Try.f100,p72,Try.func100,by kernel_rfl,by kernel_rfl,by kernel_rfl,by kernel_rfl⟩
theorem c65:FnOK Try.prog (tblOf tab) A (65,73):=⟨Try.f65,p73,Try.func65,by kernel_rfl,by kernel_rfl,by kernel_rfl,by kernel_rfl⟩
theorem c58:FnOK Try.prog (tblOf tab) A (58,74):=⟨Try.f58,p74,Try.func58,by kernel_rfl,by kernel_rfl,by kernel_rfl,by kernel_rfl⟩
theorem c61:FnOK Try.prog (tblOf tab) A (61,75):=⟨Try.f61,p75,Try.func61,by kernel_rfl,by kernel_rfl,by kernel_rfl,by kernel_rfl⟩
theorem c43:FnOK Try.prog (tblOf tab) A (43,36):=⟨Try.f43,p36,Try.func43,by kernel_rfl,by kernel_rfl,by kernel_rfl,by kernel_rfl⟩
theorem c44:FnOK Try.prog (tblOf tab) A (44,56):=⟨Try.f44,p56,Try.func44,by kernel_rfl,by kernel_rfl,by kernel_rfl,by kernel_rfl⟩
theorem c45:FnOK Try.prog (tblOf tab) A (45,86):=⟨Try.f45,p86,Try.func45,by kernel_rfl,by kernel_rfl,by kernel_rfl,by kernel_rfl⟩
theorem c47:FnOK Try.prog (tblOf tab) A (47,89):=⟨Try.f47,p89,Try.func47,by kernel_rfl,by kernel_rfl,by kernel_rfl,by kernel_rfl⟩
theorem c97:FnOK Try.prog (tblOf tab) A (97,69):=⟨Try.f97,p69,Try.func97,by kernel_rfl,by kernel_rfl,by kernel_rfl,by kernel_rfl⟩
theorem c99:FnOK Try.prog (tblOf tab) A (99,70):=⟨Try.f99,p70,Try.func99,by kernel_rfl,by kernel_rfl,by kernel_rfl,by kernel_rfl⟩
theorem c107:FnOK Try.prog (tblOf tab) A (107,67):=⟨Try.f107,p67,Try.func107,by kernel_rfl,by kernel_rfl,by kernel_rfl,by kernel_rfl⟩
theorem c128:FnOK Try.prog (tblOf tab) A (128,195):=⟨Try.f128,p195,Try.func128,by kernel_rfl,by kernel_rfl,by kernel_rfl,by kernel_rfl⟩
theorem c129:FnOK Try.prog (tblOf tab) A (129,196):=⟨Try.f129,p196,Try.func129,by kernel_rfl,by kernel_rfl,by kernel_rfl,by kernel_rfl⟩
theorem c96:FnOK Try.prog (tblOf tab) A (96,176):=⟨Try.f96,p176,Try.func96,by kernel_rfl,by kernel_rfl,by kernel_rfl,by kernel_rfl⟩
theorem c49:FnOK Try.prog (tblOf tab) A (49,177):=⟨Try.f49,p177,Try.func49,by kernel_rfl,by kernel_rfl,by kernel_rfl,by kernel_rfl⟩
theorem c98:FnOK Try.prog (tblOf tab) A (98,178):=⟨Try.f98,p178,Try.func98,by kernel_rfl,by kernel_rfl,by kernel_rfl,by kernel_rfl⟩
theorem c70:FnOK Try.prog (tblOf tab) A (70,179):=⟨Try.f70,p179,Try.func70,by kernel_rfl,by kernel_rfl,by kernel_rfl,by kernel_rfl⟩
theorem c42:FnOK Try.prog (tblOf tab) A (42,157):=⟨Try.f42,p157,Try.func42,by kernel_rfl,by kernel_rfl,by kernel_rfl,by kernel_rfl⟩
theorem c56:FnOK Try.prog (tblOf tab) A (56,96):=⟨Try.f56,p96,Try.func56,by kernel_rfl,by kernel_rfl,by kernel_rfl,by kernel_rfl⟩
theorem c135:FnOK Try.prog (tblOf tab) A (135,128):=⟨Try.f135,p128,Try.func135,by kernel_rfl,by kernel_rfl,by kernel_rfl,by kernel_rfl⟩
theorem c136:FnOK Try.prog (tblOf tab) A (136,137):=⟨Try.f136,p137,Try.func136,by kernel_rfl,by kernel_rfl,by kernel_rfl,by kernel_rfl⟩
theorem c137:FnOK Try.prog (tblOf tab) A (137,138):=⟨Try.f137,p138,Try.func137,by kernel_rfl,by kernel_rfl,by kernel_rfl,by kernel_rfl⟩
theorem c132:FnOK Try.prog (tblOf tab) A (132,139):=⟨Try.f132,p139,Try.func132,by kernel_rfl,by kernel_rfl,by kernel_rfl,by kernel_rfl⟩
theorem c105:FnOK Try.prog (tblOf tab) A (105,133):=⟨Try.f105,p133,Try.func105,by kernel_rfl,by kernel_rfl,by kernel_rfl,by kernel_rfl⟩
theorem c52:FnOK Try.prog (tblOf tab) A (52,186):=⟨Try.f52,p186,Try.func52,by kernel_rfl,by kernel_rfl,by kernel_rfl,by kernel_rfl⟩
theorem c133:FnOK Try.prog (tblOf tab) A (133,115):=⟨Try.f133,p115,Try.func133,by kernel_rfl,by kernel_rfl,by kernel_rfl,by kernel_rfl⟩
theorem c134:FnOK Try.prog (tblOf tab) A (134,123):=⟨Try.f134,p123,Try.func134,by kernel_rfl,by kernel_rfl,by kernel_rfl,by kernel_rfl⟩
theorem c104:FnOK Try.prog (tblOf tab) A (104,101):=⟨Try.f104,p101,Try.func104,by kernel_rfl,by kernel_rfl,by kernel_rfl,by kernel_rfl⟩
theorem c103:FnOK Try.prog (tblOf tab) A (103,205):=⟨Try.f103,p205,Try.func103,by kernel_rfl,by kernel_rfl,by kernel_rfl,by kernel_rfl⟩
theorem c51:FnOK Try.prog (tblOf tab) A (51,188):=⟨Try.f51,p188,Try.func51,by kernel_rfl,by kernel_rfl,by kernel_rfl,by kernel_rfl⟩
theorem c76:FnOK Try.prog (tblOf tab) A (76,102):=⟨Try.f76,p102,Try.func76,by kernel_rfl,by kernel_rfl,by kernel_rfl,by kernel_rfl⟩
theorem c145:FnOK Try.prog (tblOf tab) A (145,132):=⟨Try.f145,p132,Try.func145,by kernel_rfl,by kernel_rfl,by kernel_rfl,by kernel_rfl⟩
theorem c130:FnOK Try.prog (tblOf tab) A (130,124):=⟨Try.f130,p124,Try.func130,by kernel_rfl,by kernel_rfl,by kernel_rfl,by kernel_rfl⟩
theorem c109:FnOK Try.prog (tblOf tab) A (109,82):=⟨Try.f109,p82,Try.func109,by kernel_rfl,by kernel_rfl,by kernel_rfl,by kernel_rfl⟩
theorem c142:FnOK Try.prog (tblOf tab) A (142,118):=⟨Try.f142,p118,Try.func142,by kernel_rfl,by kernel_rfl,by kernel_rfl,by kernel_rfl⟩
theorem c112:FnOK Try.prog (tblOf tab) A (112,92):=⟨Try.f112,p92,Try.func112,by kernel_rfl,by kernel_rfl,by kernel_rfl,by kernel_rfl⟩
theorem c131:FnOK Try.prog (tblOf tab) A (131,125):=⟨Try.f131,p125,Try.func131,by kernel_rfl,by kernel_rfl,by kernel_rfl,by kernel_rfl⟩
theorem c102:FnOK Try.prog (tblOf tab) A (102,100):=⟨Try.f102,p100,Try.func102,by kernel_rfl,by kernel_rfl,by kernel_rfl,by kernel_rfl⟩
theorem c101:FnOK Try.prog (tblOf tab) A (101,204):=⟨Try.f101,p204,Try.func101,by kernel_rfl,by kernel_rfl,by kernel_rfl,by kernel_rfl⟩
theorem c46:FnOK Try.prog (tblOf tab) A (46,189):=⟨Try.f46,p189,Try.func46,by kernel_rfl,by kernel_rfl,by kernel_rfl,by kernel_rfl⟩
theorem c50:FnOK Try.prog (tblOf tab) A (50,256):=⟨Try.f50,p256,Try.func50,by kernel_rfl,by kernel_rfl,by kernel_rfl,by kernel_rfl⟩
theorem c48:FnOK Try.prog (tblOf tab) A (48,257):=⟨Try.f48,p257,Try.func48,by kernel_rfl,by kernel_rfl,by kernel_rfl,by kernel_rfl⟩
theorem c7:FnOK Try.prog (tblOf tab) A (7,231):=⟨Try.f7,p231,Try.func7,by kernel_rfl,by kernel_rfl,by kernel_rfl,by kernel_rfl⟩
theorem c3:FnOK Try.prog (tblOf tab) A (3,318):=⟨Try.f3,p318,Try.func3,by kernel_rfl,by kernel_rfl,by kernel_rfl,by kernel_rfl⟩
theorem models:Models Try.prog (tblOf tab) A:=by
 refine models_of (by kernel_rfl) fun x hx=>?_;simp only[tab,List.mem_cons,List.not_mem_nil,or_false]at hx;rcases hx with rfl|rfl|rfl|rfl|rfl|rfl|rfl|rfl|rfl|rfl|rfl|rfl|rfl|rfl|rfl|rfl|rfl|rfl|rfl|rfl|rfl|rfl|rfl|rfl|rfl|rfl|rfl|rfl|rfl|rfl|rfl|rfl|rfl|rfl|rfl|rfl|rfl|rfl|rfl|rfl|rfl|rfl|rfl|rfl|rfl|rfl|rfl|rfl|rfl|rfl|rfl|rfl|rfl|rfl|rfl|rfl|rfl|rfl|rfl|rfl|rfl|rfl|rfl|rfl|rfl|rfl|rfl|rfl|rfl|rfl|rfl|rfl|rfl|rfl|rfl|rfl|rfl|rfl|rfl|rfl|rfl|rfl
 ·exact c8
 ·exact c9
 ·exact c10
 ·exact c39
 ·exact c95
 ·exact c40
 ·exact c41
 ·exact c6
 ·exact c33
 ·exact c88
 ·exact c89
 ·exact c32
 ·exact c38
 ·exact c81
 ·exact c127
 ·exact c92
 ·exact c35
 ·exact c122
 ·exact c124
 ·exact c74
 ·exact c87
 ·exact c144
 ·exact c121
 ·exact c123
 ·exact c93
 ·exact c86
 ·exact c31
 ·exact c79
 ·exact c80
 ·exact c126
 ·exact c91
 ·exact c125
 ·exact c90
 ·exact c36
 ·exact c34
 ·exact c94
 ·exact c37
 ·exact c5
 ·exact c100
 ·exact c65
 ·exact c58
 ·exact c61
 ·exact c43
 ·exact c44
 ·exact c45
 ·exact c47
 ·exact c97
 ·exact c99
 ·exact c107
 ·exact c128
 ·exact c129
 ·exact c96
 ·exact c49
 ·exact c98
 ·exact c70
 ·exact c42
 ·exact c56
 ·exact c135
 ·exact c136
 ·exact c137
 ·exact c132
 ·exact c105
 ·exact c52
 ·exact c133
 ·exact c134
 ·exact c104
 ·exact c103
 ·exact c51
 ·exact c76
 ·exact c145
 ·exact c130
 ·exact c109
 ·exact c142
 ·exact c112
 ·exact c131
 ·exact c102
 ·exact c101
 ·exact c46
 ·exact c50
 ·exact c48
 ·exact c7
 ·exact c3
end Rv.Hp
