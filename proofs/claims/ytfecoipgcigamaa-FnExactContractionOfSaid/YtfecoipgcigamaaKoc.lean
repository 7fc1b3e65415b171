/- The abstract code is what the translated functions are compiled to. -/
import Derived.Test.YtfecoipgcigamaaKop
import Derived.Test.YtfecoipgcigamaaChecked
import Derived.KernelRfl
namespace Rv.Ko
open Go.Proofs
set_option maxRecDepth 100000
def tab:List (Nat×Nat):=[(42,43),(79,44),(43,11),(11,10),(46,47),(86,48),(47,13),(13,12),(8,30),(100,51),(50,17),(16,16),(9,31),(101,52),(51,21),(17,20),(33,56),(87,67),(116,115),(89,82),(71,73),(34,86),(88,87),(90,88),(36,89),(131,130),(125,129),(124,116),(118,128),(123,117),(91,90),(127,119),(93,91),(126,118),(92,92),(48,42),(96,102),(95,132),(98,124),(114,96),(119,137),(120,138),(115,139),(78,133),(113,125),(75,100),(117,123),(77,101),(132,126),(128,103),(94,63),(76,205),(40,188),(41,186),(74,204),(35,189),(97,190),(129,173),(99,191),(49,171),(14,154),(15,228),(22,54),(80,78),(81,79),(82,80),(27,81),(44,39),(108,99),(61,76),(59,94),(110,127),(60,136),(24,134),(109,135),(58,131),(107,122),(57,98),(25,251),(23,250),(84,272),(121,335),(83,333),(122,61),(85,334),(45,332),(12,326),(18,327),(10,32),(102,59),(52,53),(19,328),(4,339)]
theorem c42:FnOK Try.prog (tblOf tab) A (42,43):=⟨Try.f42,p43,Try.func42,by kernel_rfl,by kernel_rfl,by kernel_rfl,by kernel_rfl⟩
theorem c79:FnOK Try.prog (tblOf tab) A (79,44):=⟨Try.f79,p44,Try.func79,by kernel_rfl,by kernel_rfl,by kernel_rfl,by kernel_rfl⟩
theorem c43:FnOK Try.prog (tblOf tab) A (43,11):=⟨Try.f43,p11,Try.func43,by kernel_rfl,by kernel_rfl,by kernel_rfl,by kernel_rfl⟩
theorem c11:FnOK Try.prog (tblOf tab) A (11,10):=⟨Try.f11,p10,Try.func11,by kernel_rfl,by kernel_rfl,by kernel_rfl,by kernel_rfl⟩
theorem c46:FnOK Try.prog (tblOf tab) A (46,47):=⟨Try.f46,p47,Try.func46,by kernel_rfl,by kernel_rfl,by kernel_rfl,by kernel_rfl⟩
theorem c86:FnOK Try.prog (tblOf tab) A (86,48):=⟨Try.f86,p48,Try.func86,by kernel_rfl,by kernel_rfl,by kernel_rfl,by kernel_rfl⟩
theorem c47:FnOK Try.prog (tblOf tab) A (47,13):=⟨Try.f47,p13,Try.func47,by kernel_rfl,by kernel_rfl,by kernel_rfl,by kernel_rfl⟩
theorem c13:FnOK Try.prog (tblOf tab) A (13,12):=⟨Try.f13,p12,Try.func13,by kernel_rfl,by kernel_rfl,by kernel_rfl,by kernel_rfl⟩
theorem c8:FnOK Try.prog (tblOf tab) A (8,30):=⟨Try.f8,p30,Try.func8,by kernel_rfl,by kernel_rfl,by kernel_rfl,by kernel_rfl⟩
theorem c100:FnOK Try.prog (tblOf tab) A (100,51):=⟨Try.f100,p51,Try.func100,by kernel_rfl,by kernel_rfl,by kernel_rfl,by kernel_rfl⟩
theorem c50:FnOK Try.prog (tblOf tab) A (50,17):=⟨Try.f50,p17,Try.func50,by kernel_rfl,by kernel_rfl,by kernel_rfl,by kernel_rfl⟩
theorem c16:FnOK Try.prog (tblOf tab) A (16,16):=⟨Try.f16,p16,Try.func16,by kernel_rfl,by kernel_rfl,by kernel_rfl,by kernel_rfl⟩
theorem c9:FnOK Try.prog (tblOf tab) A (9,31):=⟨Try.f9,p31,Try.func9,by kernel_rfl,by kernel_rfl,by kernel_rfl,by kernel_rfl⟩
theorem c101:FnOK Try.prog (tblOf tab) A (101,52):=⟨Try.f101,p52,Try.func101,by kernel_rfl,by kernel_rfl,by kernel_rfl,by kernel_rfl⟩
theorem c51:FnOK Try.prog (tblOf tab) A (51,21):=⟨Try.f51,p21,Try.func51,by kernel_rfl,by kernel_rfl,by kernel_rfl,by kernel_rfl⟩
theorem c17:FnOK Try.prog (tblOf tab) A (17,20):=⟨Try.f17,p20,Try.func17,by kernel_rfl,by kernel_rfl,by kernel_rfl,by kernel_rfl⟩
theorem c33:FnOK Try.prog (tblOf tab) A (33,56):=⟨Try.f33,p56,Try.func33,by kernel_rfl,by kernel_rfl,by kernel_rfl,by kernel_rfl⟩
theorem c87:FnOK Try.prog (tblOf tab) A (87,67):=⟨Try.f87,p67,Try.func87,by kernel_rfl,by kernel_rfl,by kernel_rfl,by kernel_rfl⟩
theorem c116:FnOK Try.prog (tblOf tab) A (116,115):=⟨Try.f116,p115,Try.func116,by kernel_rfl,by kernel_rfl,by kernel_rfl,by kernel_rfl⟩
theorem c89:FnOK Try.prog (tblOf tab) A (89,82):=⟨Try.f89,p82,Try.func89,by kernel_rfl,by kernel_rfl,by kernel_rfl,by kernel_rfl⟩
theorem c71:FnOK Try.prog (tblOf tab) A (71,73):=⟨Try.f71,p73,Try.func71,by kernel_rfl,by kernel_rfl,by kernel_rfl,by kernel_rfl⟩
theorem c34:FnOK Try.prog (tblOf tab) A (34,86):=⟨Try.f34,p86,Try.func34,by kernel_rfl,by kernel_rfl,by kernel_rfl,by kernel_rfl⟩
theorem c88:FnOK Try.prog (tblOf tab) A (88,87):=⟨Try.f88,p87,Try.func88,by kernel_rfl,by kernel_rfl,by kernel_rfl,by kernel_rfl⟩
theorem c90:FnOK Try.prog (tblOf tab) A (90,88):=⟨Try.f90,p88,Try.func90,by kernel_rfl,by kernel_rfl,by kernel_rfl,by kernel_rfl⟩
theorem c36:FnOK Try.prog (tblOf tab) A (36,89):=⟨Try.f36,p89,Try.func36,by kernel_rfl,by kernel_rfl,by kernel_rfl,by kernel_rfl⟩
theorem c131:FnOK Try.prog (tblOf tab) A (131,130):=⟨Try.f131,p130,Try.func131,by kernel_rfl,by kernel_rfl,by kernel_rfl,by kernel_rfl⟩
theorem c125:FnOK Try.prog (tblOf tab) A (125,129):=⟨Try.f125,p129,Try.func125,by kernel_rfl,by kernel_rfl,by kernel_rfl,by kernel_rfl⟩
theorem c124:FnOK Try.prog (tblOf tab) A (124,116):=⟨Try.f124,p116,Try.func124,by kernel_rfl,by kernel_rfl,by kernel_rfl,by kernel_rfl⟩
theorem c118:FnOK Try.prog (tblOf tab) A (118,128):=⟨Try.f118,p128,Try.func118,by kernel_rfl,by kernel_rfl,by kernel_rfl,by kernel_rfl⟩
theorem c123:FnOK Try.prog (tblOf tab) A (123,117):=⟨Try.f123,p117,Try.func123,by kernel_rfl,by kernel_rfl,by kernel_rfl,by kernel_rfl⟩
theorem c91:FnOK Try.prog (tblOf tab) A (91,90):=⟨Try.f91,p90,Try.func91,by kernel_rfl,by kernel_rfl,by kernel_rfl,by kernel_rfl⟩
theorem c127:FnOK Try.prog (tblOf tab) A (127,119):=⟨Try.f127,p119,Try.func127,by kernel_rfl,by kernel_rfl,by kernel_rfl,by kernel_rfl⟩
theorem c93:FnOK Try.prog (tblOf tab) A (93,91):=⟨Try.f93,p91,Try.func93,by kernel_rfl,by kernel_rfl,by kernel_rfl,by kernel_rfl⟩
theorem c126:FnOK Try.prog (tblOf tab) A (126,118):=⟨Try.f126,p118,Try.func126,by kernel_rfl,by kernel_rfl,by kernel_rfl,by kernel_rfl⟩
theorem c92:FnOK Try.prog (tblOf tab) A (92,92):=⟨Try.f92,p92,Try.func92,by kernel_rfl,by kernel_rfl,by kernel_rfl,by kernel_rfl⟩
theorem c48:FnOK Try.prog (tblOf tab) A (48,42):=⟨Try.f48,p42,Try.func48,by kernel_rfl,by kernel_rfl,by kernel_rfl,by kernel_rfl⟩
theorem c96:FnOK Try.prog (tblOf tab) A (96,102):=⟨Try.f96,p102,Try.func96,by kernel_rfl,by kernel_rfl,by kernel_rfl,by kernel_rfl⟩
theorem c95:FnOK Try.prog (tblOf tab) A (95,132):=⟨Try.f95,p132,Try.func95,by kernel_rfl,by kernel_rfl,by kernel_rfl,by kernel_rfl⟩
theorem c98:FnOK Try.prog (tblOf tab) A (98,124):=⟨Try.f98,p124,Try.func98,by kernel_rfl,by kernel_rfl,by kernel_rfl,by kernel_rfl⟩
theorem c114:FnOK Try.prog (tblOf tab) A (114,96):=⟨Try.f114,p96,Try.func114,by kernel_rfl,by kernel_rfl,by kernel_rfl,by kernel_rfl⟩
theorem c119:FnOK Try.prog (tblOf tab) A (119,137):=⟨Try.f119,p137,Try.func119,by kernel_rfl,by kernel_rfl,by kernel_rfl,by kernel_rfl⟩
theorem c120:FnOK Try.prog (tblOf tab) A (120,138):=⟨Try.f120,p138,Try.func120,by kernel_rfl,by kernel_rfl,by kernel_rfl,by kernel_rfl⟩
theorem c115:FnOK Try.prog (tblOf tab) A (115,139):=⟨Try.f115,p139,Try.func115,by kernel_rfl,by kernel_rfl,by kernel_rfl,by kernel_rfl⟩
theorem c78:FnOK Try.prog (tblOf tab) A (78,133):=⟨Try.f78,p133,Try.func78,by kernel_rfl,by kernel_rfl,by kernel_rfl,by kernel_rfl⟩
theorem c113:FnOK Try.prog (tblOf tab) A (113,125):=⟨Try.f113,p125,Try.func113,by kernel_rfl,by kernel_rfl,by kernel_rfl,by kernel_rfl⟩
theorem c75:FnOK Try.prog (tblOf tab) A (75,100):=⟨Try.f75,p100,Try.func75,by kernel_rfl,by kernel_rfl,by kernel_rfl,by kernel_rfl⟩
theorem c117:FnOK Try.prog (tblOf tab) A (117,123):=⟨Try.f117,p123,Try.func117,by kernel_rfl,by kernel_rfl,by kernel_rfl,by kernel_rfl⟩
theorem c77:FnOK Try.prog (tblOf tab) A (77,101):=⟨Try.f77,p101,Try.func77,by kernel_rfl,by kernel_rfl,by kernel_rfl,by kernel_rfl⟩
theorem c132:FnOK Try.prog (tblOf tab) A (132,126):=⟨Try.f132,p126,Try.func132,by kernel_rfl,by kernel_rfl,by kernel_rfl,by kernel_rfl⟩
theorem c128:FnOK Try.prog (tblOf tab) A (128,103):=⟨Try.f128,p103,Try.func128,by kernel_rfl,by kernel_rfl,by kernel_rfl,by kernel_rfl⟩
theorem c94:FnOK Try.prog (tblOf tab) A (94,63):=⟨Try.f94,p63,Try.func94,by kernel_rfl,by kernel_rfl,by kernel_rfl,by kernel_rfl⟩
theorem c76:FnOK Try.prog (tblOf tab) A (76,205):=⟨Try.f76,p205,Try.func76,by kernel_rfl,by kernel_rfl,by kernel_rfl,by kernel_rfl⟩
theorem c40:FnOK Try.prog (tblOf tab) A (40,188):=⟨Try.f40,p188,Try.func40,by kernel_rfl,by kernel_rfl,by kernel_rfl,by kernel_rfl⟩
theorem c41:FnOK Try.prog (tblOf tab) A (41,186):=⟨Try.f41,p186,Try.func41,by kernel_rfl,by kernel_rfl,by kernel_rfl,by kernel_rfl⟩
theorem c74:FnOK Try.prog (tblOf tab) A (74,204):=⟨Try.f74,p204,Try.func74,by kernel_rfl,by kernel_rfl,by kernel_rfl,by kernel_rfl⟩
theorem c35:FnOK Try.prog (tblOf tab) A (35,189):=⟨Try.f35,p189,Try.func35,by kernel_rfl,by kernel_rfl,by kernel_rfl,by kernel_rfl⟩
theorem c97:FnOK Try.prog (tblOf tab) A (97,190):=⟨Try.f97,p190,Try.func97,by kernel_rfl,by kernel_rfl,by kernel_rfl,by kernel_rfl⟩
theorem c129:FnOK Try.prog (tblOf tab) A (129,173):=⟨Try.f129,p173,Try.func129,by kernel_rfl,by kernel_rfl,by kernel_rfl,by kernel_rfl⟩
theorem c99:FnOK Try.prog (tblOf tab) A (99,191):=⟨Try.f99,p191,Try.func99,by kernel_rfl,by kernel_rfl,by kernel_rfl,by kernel_rfl⟩
theorem c49:FnOK Try.prog (tblOf tab) A (49,171):=⟨Try.f49,p171,Try.func49,by kernel_rfl,by kernel_rfl,by kernel_rfl,by kernel_rfl⟩
theorem c14:FnOK Try.prog (tblOf tab) A (14,154):=⟨Try.f14,p154,Try.func14,by kernel_rfl,by kernel_rfl,by kernel_rfl,by kernel_rfl⟩
theorem c15:FnOK Try.prog (tblOf tab) A (15,228):=⟨Try.f15,p228,Try.func15,by kernel_rfl,by kernel_rfl,by kernel_rfl,by kernel_rfl⟩
theorem c22:FnOK Try.prog (tblOf tab) A (22,54):=⟨Try.f22,p54,Try.func22,by kernel_rfl,by kernel_rfl,by kernel_rfl,by kernel_rfl⟩
theorem c80:FnOK Try.prog (tblOf tab) A (80,78):=⟨Try.f80,p78,Try.func80,by kernel_rfl,by kernel_rfl,by kernel_rfl,by kernel_rfl⟩
theorem c81:FnOK Try.prog (tblOf tab) A (81,79):=⟨Try.f81,p79,Try.func81,by kernel_rfl,by kernel_rfl,by kernel_rfl,by kernel_rfl⟩
theorem c82:FnOK Try.prog (tblOf tab) A (82,80):=⟨Try.f82,p80,Try.func82,by kernel_rfl,by kernel_rfl,by kernel_rfl,by kernel_rfl⟩
theorem c27:FnOK Try.prog (tblOf tab) A (27,81):=⟨Try.f27,p81,Try.func27,by kernel_rfl,by kernel_rfl,by kernel_rfl,by kernel_rfl⟩
theorem c44:FnOK Try.prog (tblOf tab) A (44,39):=⟨Try.f44,p39,Try.func44,by kernel_rfl,by kernel_rfl,by kernel_rfl,by kernel_rfl⟩
theorem c108:FnOK Try.prog (tblOf tab) A (108,99):=⟨Try.f108,p99,Try.func108,by kernel_rfl,by kernel_rfl,by kernel_rfl,by kernel_rfl⟩
theorem c61:FnOK Try.prog (tblOf tab) A (61,76):=⟨Try.f61,p76,Try.func61,by kernel_rfl,by kernel_rfl,by kernel_rfl,by kernel_rfl⟩
theorem c59:FnOK Try.prog (tblOf tab) A (59,94):=⟨Try.f59,p94,Try.func59,by kernel_rfl,by kernel_rfl,by kernel_rfl,by kernel_rfl⟩
theorem c110:FnOK Try.prog (tblOf tab) A (110,127):=⟨Try.f110,p127,Try.func110,by kernel_rfl,by kernel_rfl,by kernel_rfl,by kernel_rfl⟩
theorem c60:FnOK Try.prog (tblOf tab) A (60,136):=⟨Try.f60,p136,Try.func60,by kernel_rfl,by kernel_rfl,by kernel_rfl,by kernel_rfl⟩
theorem c24:FnOK Try.prog (tblOf tab) A (24,134):=⟨Try.f24,p134,Try.func24,by kernel_rfl,by kernel_rfl,by kernel_rfl,by kernel_rfl⟩
theorem c109:FnOK Try.prog (tblOf tab) A (109,135):=⟨Try.f109,p135,Try.func109,by kernel_rfl,by kernel_rfl,by kernel_rfl,by kernel_rfl⟩
theorem c58:FnOK Try.prog (tblOf tab) A (58,131):=⟨Try.f58,p131,Try.func58,by kernel_rfl,by kernel_rfl,by kernel_rfl,by kernel_rfl⟩
theorem c107:FnOK Try.prog (tblOf tab) A (107,122):=⟨Try.f107,p122,Try.func107,by kernel_rfl,by kernel_rfl,by kernel_rfl,by kernel_rfl⟩
theorem c57:FnOK Try.prog (tblOf tab) A (57,98):=⟨Try.f57,p98,Try.func57,by kernel_rfl,by kernel_rfl,by kernel_rfl,by kernel_rfl⟩
theorem c25:FnOK Try.prog (tblOf tab) A (25,251):=⟨Try.f25,p251,Try.func25,by kernel_rfl,by kernel_rfl,by kernel_rfl,by kernel_rfl⟩
theorem c23:FnOK Try.prog (tblOf tab) A (23,250):=⟨Try.f23,p250,Try.func23,by kernel_rfl,by kernel_rfl,by kernel_rfl,by kernel_rfl⟩
theorem c84:FnOK Try.prog (tblOf tab) A (84,272):=⟨Try.f84,p272,Try.func84,by kernel_rfl,by kernel_rfl,by kernel_rfl,by kernel_rfl⟩
theorem c121:FnOK Try.prog (tblOf tab) A (121,335):=⟨Try.f121,p335,Try.func121,by kernel_rfl,by kernel_rfl,by kernel_rfl,by kernel_rfl⟩
theorem c83:FnOK Try.prog (tblOf tab) A (83,333):=⟨Try.f83,p333,Try.func83,by kernel_rfl,by kernel_rfl,by kernel_rfl,by kernel_rfl⟩
theorem c122:FnOK Try.prog (tblOf tab) A (122,61):=⟨Try.f122,p61,Try.func122,by kernel_rfl,by kernel_rfl,by kernel_rfl,by kernel_rfl⟩
theorem c85:FnOK Try.prog (tblOf tab) A (85,334):=⟨Try.f85,p334,Try.func85,by kernel_rfl,by kernel_rfl,by kernel_rfl,by kernel_rfl⟩
theorem c45:FnOK Try.prog (tblOf tab) A (45,332):=⟨Try.f45,p332,Try.func45,by kernel_rfl,by kernel_rfl,by kernel_rfl,by kernel_rfl⟩
theorem c12:FnOK Try.prog (tblOf tab) A (12,326):=⟨Try.f12,p326,Try.func12,by kernel_rfl,by kernel_rfl,by kernel_rfl,by kernel_rfl⟩
theorem c18:FnOK Try.prog (tblOf tab) A (18,327):=⟨Try.f18,p327,Try.func18,by kernel_rfl,by kernel_rfl,by kernel_rfl,by kernel_rfl⟩
theorem c10:FnOK Try.prog (tblOf tab) A (10,32):=⟨Try.f10,p32,Try.func10,by kernel_rfl,by kernel_rfl,by kernel_rfl,by kernel_rfl⟩
theorem c102:FnOK Try.prog (tblOf tab) A (102,59):=⟨Try.f102,p59,Try.func102,by kernel_rfl,by kernel_rfl,by kernel_rfl,by kernel_rfl⟩
theorem c52:FnOK Try.prog (tblOf tab) A (52,53):=⟨Try.f52,p53,Try.func52,by kernel_rfl,by kernel_rfl,by kernel_rfl,by kernel_rfl⟩
theorem c19:FnOK Try.prog (tblOf tab) A (19,328):=⟨Try.f19,p328,Try.func19,by kernel_rfl,by kernel_rfl,by kernel_rfl,by kernel_rfl⟩
theorem c4:FnOK Try.prog (tblOf tab) A (4,339):=⟨Try.f4,p339,Try.func4,by kernel_rfl,by kernel_rfl,by kernel_rfl,by kernel_rfl⟩
theorem models:Models Try.prog (tblOf tab) A:=by
 refine models_of (by kernel_rfl) fun x hx=>?_;simp only[tab,List.mem_cons,List.not_mem_nil,or_false]at hx;rcases hx with rfl|rfl|rfl|rfl|rfl|rfl|rfl|rfl|rfl|rfl|rfl|rfl|rfl|rfl|rfl|rfl|rfl|rfl|rfl|rfl|rfl|rfl|rfl|rfl|rfl|rfl|rfl|rfl|rfl|rfl|rfl|rfl|rfl|rfl|rfl|rfl|rfl|rfl|rfl|rfl|rfl|rfl|rfl|rfl|rfl|rfl|rfl|rfl|rfl|rfl|rfl|rfl|rfl|rfl|rfl|rfl|rfl|rfl|rfl|rfl|rfl|rfl|rfl|rfl|rfl|rfl|rfl|rfl|rfl|rfl|rfl|rfl|rfl|rfl|rfl|rfl|rfl|rfl|rfl|rfl|rfl|rfl|rfl|rfl|rfl|rfl|rfl|rfl|rfl|rfl|rfl|rfl|rfl
 ·exact c42
 ·exact c79
 ·exact c43
 ·exact c11
 ·exact c46
 ·exact c86
 ·exact c47
 ·exact c13
 ·exact c8
 ·exact c100
 ·exact c50
 ·exact c16
 ·exact c9
 ·exact c101
 ·exact c51
 ·exact c17
 ·exact c33
 ·exact c87
 ·exact c116
 ·exact c89
 ·exact c71
 ·exact c34
 ·exact c88
 ·exact c90
 ·exact c36
 ·exact c131
 ·exact c125
 ·exact c124
 ·exact c118
 ·exact c123
 ·exact c91
 ·exact c127
 ·exact c93
 ·exact c126
 ·exact c92
 ·exact c48
 ·exact c96
 ·exact c95
 ·exact c98
 ·exact c114
 ·exact c119
 ·exact c120
 ·exact c115
 ·exact c78
 ·exact c113
 ·exact c75
 ·exact c117
 ·exact c77
 ·exact c132
 ·exact c128
 ·exact c94
 ·exact c76
 ·exact c40
 ·exact c41
 ·exact c74
 ·exact c35
 ·exact c97
 ·exact c129
 ·exact c99
 ·exact c49
 ·exact c14
 ·exact c15
 ·exact c22
 ·exact c80
 ·exact c81
 ·exact c82
 ·exact c27
 ·exact c44
 ·exact c108
 ·exact c61
 ·exact c59
 ·exact c110
 ·exact c60
 ·exact c24
 ·exact c109
 ·exact c58
 ·exact c107
 ·exact c57
 ·exact c25
 ·exact c23
 ·exact c84
 ·exact c121
 ·exact c83
 ·exact c122
 ·exact c85
 ·exact c45
 ·exact c12
 ·exact c18
 ·exact c10
 ·exact c102
 ·exact c52
 ·exact c19
 ·exact c4
end Rv.Ko
