/- The abstract code is what the translated functions are compiled to. -/
import Derived.Test.YtadnnniccgdigaaGreatPbp
import Derived.Test.YtadnnniccgdigaaGreatChecked
import Derived.KernelRfl
namespace Rv.Pb
open Go.Proofs
set_option maxRecDepth 100000
def tab:List (Nat×Nat):=[(6,140),(89,56),(118,67),(136,115),(87,82),(75,73),(104,86),(131,87),(132,88),(64,89),(162,130),(153,129),(152,116),(123,128),(151,117),(121,90),(146,119),(106,91),(154,118),(133,92),(72,42),(88,83),(90,84),(77,85),(38,41),(47,166),(113,102),(122,96),(124,137),(125,138),(126,139),(62,133),(115,125),(74,202),(79,211),(114,203),(57,184),(59,185),(60,169),(18,151),(161,123),(145,101),(144,205),(112,204),(56,187),(105,188),(48,170),(20,152),(55,156),(10,160),(82,54),(140,78),(141,79),(108,80),(54,81),(96,39),(109,99),(85,76),(84,77),(81,38),(49,247),(110,94),(111,127),(149,136),(147,134),(148,135),(107,131),(117,122),(83,310),(116,311),(58,280),(51,281),(52,279),(53,330),(50,329),(13,321),(12,322),(9,323),(8,324),(91,405),(93,416),(102,412),(103,411),(142,95),(97,55),(137,421),(164,98),(165,424),(157,417),(156,423),(138,415),(160,453),(143,452),(98,450),(46,447),(7,426),(11,427),(14,428),(15,429),(16,430),(17,431),(127,201),(63,200),(150,212),(119,208),(120,451),(61,448),(19,432),(21,433),(3,454)]
abbrev K(x:Nat×Nat):Prop:=FnOK Tryz.prog (tblOf tab) A x
theorem c6:K (6,140):=⟨Tryz.f6,p140,Tryz.func6,by kernel_rfl,by kernel_rfl,by kernel_rfl,by kernel_rfl⟩
theorem c89:K (89,56):=⟨Tryz.f89,p56,Tryz.func89,by kernel_rfl,by kernel_rfl,by kernel_rfl,by kernel_rfl⟩
theorem c118:K (118,67):=⟨Tryz.f118,p67,Tryz.func118,by kernel_rfl,by kernel_rfl,by kernel_rfl,by kernel_rfl⟩
theorem c136:K (136,115):=⟨Tryz.f136,p115,Tryz.func136,by kernel_rfl,by kernel_rfl,by kernel_rfl,by kernel_rfl⟩
theorem c87:K (87,82):=⟨Tryz.f87,p82,Tryz.func87,by kernel_rfl,by kernel_rfl,by kernel_rfl,by kernel_rfl⟩
theorem c75:K (75,73):=⟨Tryz.f75,p73,Tryz.func75,by kernel_rfl,by kernel_rfl,by kernel_rfl,by kernel_rfl⟩
theorem c104:K (104,86):=⟨Tryz.f104,p86,Tryz.func104,by kernel_rfl,by kernel_rfl,by kernel_rfl,by kernel_rfl⟩
theorem c131:K (131,87):=⟨Tryz.f131,p87,Tryz.func131,by kernel_rfl,by kernel_rfl,by kernel_rfl,by kernel_rfl⟩
theorem c132:K (132,88):=⟨Tryz.f132,p88,Tryz.func132,by kernel_rfl,by kernel_rfl,by kernel_rfl,by kernel_rfl⟩
theorem c64:K (64,89):=⟨Tryz.f64,p89,Tryz.func64,by kernel_rfl,by kernel_rfl,by kernel_rfl,by kernel_rfl⟩
theorem c162:K (162,130):=⟨Tryz.f162,p130,Tryz.func162,by kernel_rfl,by kernel_rfl,by kernel_rfl,by kernel_rfl⟩
theorem c153:K (153,129):=⟨Tryz.f153,p129,Tryz.func153,by kernel_rfl,by kernel_rfl,by kernel_rfl,by kernel_rfl⟩
theorem c152:K (152,116):=⟨Tryz.f152,p116,Tryz.func152,by kernel_rfl,by kernel_rfl,by kernel_rfl,by kernel_rfl⟩
theorem c123:K (123,128):=⟨Tryz.f123,p128,Tryz.func123,by kernel_rfl,by kernel_rfl,by kernel_rfl,by kernel_rfl⟩
theorem c151:K (151,117):=⟨Tryz.f151,p117,Tryz.func151,by kernel_rfl,by kernel_rfl,by kernel_rfl,by kernel_rfl⟩
theorem c121:K (121,90):=⟨Tryz.f121,p90,Tryz.func121,by kernel_rfl,by kernel_rfl,by kernel_rfl,by kernel_rfl⟩
theorem c146:K (146,119):=⟨Tryz.f146,p119,Tryz.func146,by kernel_rfl,by kernel_rfl,by kernel_rfl,by kernel_rfl⟩
theorem c106:K (106,91):=⟨Tryz.f106,p91,Tryz.func106,by kernel_rfl,by kernel_rfl,by kernel_rfl,by kernel_rfl⟩
theorem c154:K (154,118):=⟨Tryz.f154,p118,Tryz.func154,by kernel_rfl,by kernel_rfl,by kernel_rfl,by kernel_rfl⟩
theorem c133:K (133,92):=⟨Tryz.f133,p92,Tryz.func133,by kernel_rfl,by kernel_rfl,by kernel_rfl,by kernel_rfl⟩
theorem c72:K (72,42):=⟨Tryz.f72,p42,Tryz.func72,by kernel_rfl,by kernel_rfl,by kernel_rfl,by kernel_rfl⟩
theorem c88:K (88,83):=⟨Tryz.f88,p83,Tryz.func88,by kernel_rfl,by kernel_rfl,by kernel_rfl,by kernel_rfl⟩
theorem c90:K (90,84):=⟨Tryz.f90,p84,Tryz.func90,by kernel_rfl,by kernel_rfl,by kernel_rfl,by kernel_rfl⟩
theorem c77:K (77,85):=⟨Tryz.f77,p85,Tryz.func77,by kernel_rfl,by kernel_rfl,by kernel_rfl,by kernel_rfl⟩
theorem c38:K (38,41):=⟨Tryz.f38,p41,Tryz.func38,by kernel_rfl,by kernel_rfl,by kernel_rfl,by kernel_rfl⟩
theorem c47:K (47,166):=⟨Tryz.f47,p166,Tryz.func47,by kernel_rfl,by kernel_rfl,by kernel_rfl,by kernel_rfl⟩
theorem c113:K (113,102):=⟨Tryz.f113,p102,Tryz.func113,by kernel_rfl,by kernel_rfl,by kernel_rfl,by kernel_rfl⟩
theorem c122:K (122,96):=⟨Tryz.f122,p96,Tryz.func122,by kernel_rfl,by kernel_rfl,by kernel_rfl,by kernel_rfl⟩
theorem c124:K (124,137):=⟨Tryz.f124,p137,Tryz.func124,by kernel_rfl,by kernel_rfl,by kernel_rfl,by kernel_rfl⟩
theorem c125:K (125,138):=⟨Tryz.f125,p138,Tryz.func125,by kernel_rfl,by kernel_rfl,by kernel_rfl,by kernel_rfl⟩
theorem c126:K (126,139):=⟨Tryz.f126,p139,Tryz.func126,by kernel_rfl,by kernel_rfl,by kernel_rfl,by kernel_rfl⟩
theorem c62:K (62,133):=⟨Tryz.f62,p133,Tryz.func62,by kernel_rfl,by kernel_rfl,by kernel_rfl,by kernel_rfl⟩
theorem c115:K (115,125):=⟨Tryz.f115,p125,Tryz.func115,by kernel_rfl,by kernel_rfl,by kernel_rfl,by kernel_rfl⟩
theorem c74:K (74,202):=⟨Tryz.f74,p202,Tryz.func74,by kernel_rfl,by kernel_rfl,by kernel_rfl,by kernel_rfl⟩
theorem c79:K (79,211):=⟨Tryz.f79,p211,Tryz.func79,by kernel_rfl,by kernel_rfl,by kernel_rfl,by kernel_rfl⟩
theorem c114:K (114,203):=⟨Tryz.f114,p203,Tryz.func114,by kernel_rfl,by kernel_rfl,by kernel_rfl,by kernel_rfl⟩
theorem c57:K (57,184):=⟨Tryz.f57,p184,Tryz.func57,by kernel_rfl,by kernel_rfl,by kernel_rfl,by kernel_rfl⟩
theorem c59:K (59,185):=⟨Tryz.f59,p185,Tryz.func59,by kernel_rfl,by kernel_rfl,by kernel_rfl,by kernel_rfl⟩
theorem c60:K (60,169):=⟨Tryz.f60,p169,Tryz.func60,by kernel_rfl,by kernel_rfl,by kernel_rfl,by kernel_rfl⟩
theorem c18:K (18,151):=⟨Tryz.f18,p151,Tryz.func18,by kernel_rfl,by kernel_rfl,by kernel_rfl,by kernel_rfl⟩
theorem c161:K (161,123):=⟨Tryz.f161,p123,Tryz.func161,by kernel_rfl,by kernel_rfl,by kernel_rfl,by kernel_rfl⟩
theorem c145:K (145,101):=⟨Tryz.f145,p101,Tryz.func145,by kernel_rfl,by kernel_rfl,by kernel_rfl,by kernel_rfl⟩
theorem c144:K (144,205):=⟨Tryz.f144,p205,Tryz.func144,by kernel_rfl,by kernel_rfl,by kernel_rfl,by kernel_rfl⟩
theorem c112:K (112,204):=⟨Tryz.f112,p204,Tryz.func112,by kernel_rfl,by kernel_rfl,by kernel_rfl,by kernel_rfl⟩
theorem c56:K (56,187):=⟨Tryz.f56,p187,Tryz.func56,by kernel_rfl,by kernel_rfl,by kernel_rfl,by kernel_rfl⟩
theorem c105:K (105,188):=⟨Tryz.f105,p188,Tryz.func105,by kernel_rfl,by kernel_rfl,by kernel_rfl,by kernel_rfl⟩
theorem c48:K (48,170):=⟨Tryz.f48,p170,Tryz.func48,by kernel_rfl,by kernel_rfl,by kernel_rfl,by kernel_rfl⟩
theorem c20:K (20,152):=⟨Tryz.f20,p152,Tryz.func20,by kernel_rfl,by kernel_rfl,by kernel_rfl,by kernel_rfl⟩
theorem c55:K (55,156):=⟨Tryz.f55,p156,Tryz.func55,by kernel_rfl,by kernel_rfl,by kernel_rfl,by kernel_rfl⟩
theorem c10:K (10,160):=⟨Tryz.f10,p160,Tryz.func10,by kernel_rfl,by kernel_rfl,by kernel_rfl,by kernel_rfl⟩
theorem c82:K (82,54):=⟨Tryz.f82,p54,Tryz.func82,by kernel_rfl,by kernel_rfl,by kernel_rfl,by kernel_rfl⟩
theorem c140:K (140,78):=⟨Tryz.f140,p78,Tryz.func140,by kernel_rfl,by kernel_rfl,by kernel_rfl,by kernel_rfl⟩
theorem c141:K (141,79):=⟨Tryz.f141,p79,Tryz.func141,by kernel_rfl,by kernel_rfl,by kernel_rfl,by kernel_rfl⟩
theorem c108:K (108,80):=⟨Tryz.f108,p80,Tryz.func108,by kernel_rfl,by kernel_rfl,by kernel_rfl,by kernel_rfl⟩
theorem c54:K (54,81):=⟨Tryz.f54,p81,Tryz.func54,by kernel_rfl,by kernel_rfl,by kernel_rfl,by kernel_rfl⟩
theorem c96:K (96,39):=⟨Tryz.f96,p39,Tryz.func96,by kernel_rfl,by kernel_rfl,by kernel_rfl,by kernel_rfl⟩
theorem c109:K (109,99):=⟨Tryz.f109,p99,Tryz.func109,by kernel_rfl,by kernel_rfl,by kernel_rfl,by kernel_rfl⟩
theorem c85:K (85,76):=⟨Tryz.f85,p76,Tryz.func85,by kernel_rfl,by kernel_rfl,by kernel_rfl,by kernel_rfl⟩
theorem c84:K (84,77):=⟨Tryz.f84,p77,Tryz.func84,by kernel_rfl,by kernel_rfl,by kernel_rfl,by kernel_rfl⟩
theorem c81:K (81,38):=⟨Tryz.f81,p38,Tryz.func81,by kernel_rfl,by kernel_rfl,by kernel_rfl,by kernel_rfl⟩
theorem c49:K (49,247):=⟨Tryz.f49,p247,Tryz.func49,by kernel_rfl,by kernel_rfl,by kernel_rfl,by kernel_rfl⟩
theorem c110:K (110,94):=⟨Tryz.f110,p94,Tryz.func110,by kernel_rfl,by kernel_rfl,by kernel_rfl,by kernel_rfl⟩
theorem c111:K (111,127):=⟨Tryz.f111,p127,Tryz.func111,by kernel_rfl,by kernel_rfl,by kernel_rfl,by kernel_rfl⟩
theorem c149:K (149,136):=⟨Tryz.f149,p136,Tryz.func149,by kernel_rfl,by kernel_rfl,by kernel_rfl,by kernel_rfl⟩
theorem c147:K (147,134):=⟨Tryz.f147,p134,Tryz.func147,by kernel_rfl,by kernel_rfl,by kernel_rfl,by kernel_rfl⟩
theorem c148:K (148,135):=⟨Tryz.f148,p135,Tryz.func148,by kernel_rfl,by kernel_rfl,by kernel_rfl,by kernel_rfl⟩
theorem c107:K (107,131):=⟨Tryz.f107,p131,Tryz.func107,by kernel_rfl,by kernel_rfl,by kernel_rfl,by kernel_rfl⟩
theorem c117:K (117,122):=⟨Tryz.f117,p122,Tryz.func117,by kernel_rfl,by kernel_rfl,by kernel_rfl,by kernel_rfl⟩
theorem c83:K (83,310):=⟨Tryz.f83,p310,Tryz.func83,by kernel_rfl,by kernel_rfl,by kernel_rfl,by kernel_rfl⟩
theorem c116:K (116,311):=⟨Tryz.f116,p311,Tryz.func116,by kernel_rfl,by kernel_rfl,by kernel_rfl,by kernel_rfl⟩
theorem c58:K (58,280):=⟨Tryz.f58,p280,Tryz.func58,by kernel_rfl,by kernel_rfl,by kernel_rfl,by kernel_rfl⟩
theorem c51:K (51,281):=⟨Tryz.f51,p281,Tryz.func51,by kernel_rfl,by kernel_rfl,by kernel_rfl,by kernel_rfl⟩
theorem c52:K (52,279):=⟨Tryz.f52,p279,Tryz.func52,by kernel_rfl,by kernel_rfl,by kernel_rfl,by kernel_rfl⟩
theorem c53:K (53,330):=⟨Tryz.f53,p330,Tryz.func53,by kernel_rfl,by kernel_rfl,by kernel_rfl,by kernel_rfl⟩
theorem c50:K (50,329):=⟨Tryz.f50,p329,Tryz.func50,by kernel_rfl,by kernel_rfl,by kernel_rfl,by kernel_rfl⟩
theorem c13:K (13,321):=⟨Tryz.f13,p321,Tryz.func13,by kernel_rfl,by kernel_rfl,by kernel_rfl,by kernel_rfl⟩
theorem c12:K (12,322):=⟨Tryz.f12,p322,Tryz.func12,by kernel_rfl,by kernel_rfl,by kernel_rfl,by kernel_rfl⟩
theorem c9:K (9,323):=⟨Tryz.f9,p323,Tryz.func9,by kernel_rfl,by kernel_rfl,by kernel_rfl,by kernel_rfl⟩
theorem c8:K (8,324):=⟨Tryz.f8,p324,Tryz.func8,by kernel_rfl,by kernel_rfl,by kernel_rfl,by kernel_rfl⟩
theorem c91:K (91,405):=⟨Tryz.f91,p405,Tryz.func91,by kernel_rfl,by kernel_rfl,by kernel_rfl,by kernel_rfl⟩
theorem c93:K (93,416):=⟨Tryz.f93,p416,Tryz.func93,by kernel_rfl,by kernel_rfl,by kernel_rfl,by kernel_rfl⟩
theorem c102:K (102,412):=⟨Tryz.f102,p412,Tryz.func102,by kernel_rfl,by kernel_rfl,by kernel_rfl,by kernel_rfl⟩
theorem c103:K (103,411):=⟨Tryz.f103,p411,Tryz.func103,by kernel_rfl,by kernel_rfl,by kernel_rfl,by kernel_rfl⟩
theorem c142:K (142,95):=⟨Tryz.f142,p95,Tryz.func142,by kernel_rfl,by kernel_rfl,by kernel_rfl,by kernel_rfl⟩
theorem c97:K (97,55):=⟨Tryz.f97,p55,Tryz.func97,by kernel_rfl,by kernel_rfl,by kernel_rfl,by kernel_rfl⟩
theorem c137:K (137,421):=⟨Tryz.f137,p421,Tryz.func137,by kernel_rfl,by kernel_rfl,by kernel_rfl,by kernel_rfl⟩
theorem c164:K (164,98):=⟨Tryz.f164,p98,Tryz.func164,by kernel_rfl,by kernel_rfl,by kernel_rfl,by kernel_rfl⟩
theorem c165:K (165,424):=⟨Tryz.f165,p424,Tryz.func165,by kernel_rfl,by kernel_rfl,by kernel_rfl,by kernel_rfl⟩
theorem c157:K (157,417):=⟨Tryz.f157,p417,Tryz.func157,by kernel_rfl,by kernel_rfl,by kernel_rfl,by kernel_rfl⟩
theorem c156:K (156,423):=⟨Tryz.f156,p423,Tryz.func156,by kernel_rfl,by kernel_rfl,by kernel_rfl,by kernel_rfl⟩
theorem c138:K (138,415):=⟨Tryz.f138,p415,Tryz.func138,by kernel_rfl,by kernel_rfl,by kernel_rfl,by kernel_rfl⟩
theorem c160:K (160,453):=⟨Tryz.f160,p453,Tryz.func160,by kernel_rfl,by kernel_rfl,by kernel_rfl,by kernel_rfl⟩
theorem c143:K (143,452):=⟨Tryz.f143,p452,Tryz.func143,by kernel_rfl,by kernel_rfl,by kernel_rfl,by kernel_rfl⟩
theorem c98:K (98,450):=⟨Tryz.f98,p450,Tryz.func98,by kernel_rfl,by kernel_rfl,by kernel_rfl,by kernel_rfl⟩
theorem c46:K (46,447):=⟨Tryz.f46,p447,Tryz.func46,by kernel_rfl,by kernel_rfl,by kernel_rfl,by kernel_rfl⟩
theorem c7:K (7,426):=⟨Tryz.f7,p426,Tryz.func7,by kernel_rfl,by kernel_rfl,by kernel_rfl,by kernel_rfl⟩
theorem c11:K (11,427):=⟨Tryz.f11,p427,Tryz.func11,by kernel_rfl,by kernel_rfl,by kernel_rfl,by kernel_rfl⟩
theorem c14:K (14,428):=⟨Tryz.f14,p428,Tryz.func14,by kernel_rfl,by kernel_rfl,by kernel_rfl,by kernel_rfl⟩
theorem c15:K (15,429):=⟨Tryz.f15,p429,Tryz.func15,by kernel_rfl,by kernel_rfl,by kernel_rfl,by kernel_rfl⟩
theorem c16:K (16,430):=⟨Tryz.f16,p430,Tryz.func16,by kernel_rfl,by kernel_rfl,by kernel_rfl,by kernel_rfl⟩
theorem c17:K (17,431):=⟨Tryz.f17,p431,Tryz.func17,by kernel_rfl,by kernel_rfl,by kernel_rfl,by kernel_rfl⟩
theorem c127:K (127,201):=⟨Tryz.f127,p201,Tryz.func127,by kernel_rfl,by kernel_rfl,by kernel_rfl,by kernel_rfl⟩
theorem c63:K (63,200):=⟨Tryz.f63,p200,Tryz.func63,by kernel_rfl,by kernel_rfl,by kernel_rfl,by kernel_rfl⟩
theorem c150:K (150,212):=⟨Tryz.f150,p212,Tryz.func150,by kernel_rfl,by kernel_rfl,by kernel_rfl,by kernel_rfl⟩
theorem c119:K (119,208):=⟨Tryz.f119,p208,Tryz.func119,by kernel_rfl,by kernel_rfl,by kernel_rfl,by kernel_rfl⟩
theorem c120:K (120,451):=⟨Tryz.f120,p451,Tryz.func120,by kernel_rfl,by kernel_rfl,by kernel_rfl,by kernel_rfl⟩
theorem c61:K (61,448):=⟨Tryz.f61,p448,Tryz.func61,by kernel_rfl,by kernel_rfl,by kernel_rfl,by kernel_rfl⟩
theorem c19:K (19,432):=⟨Tryz.f19,p432,Tryz.func19,by kernel_rfl,by kernel_rfl,by kernel_rfl,by kernel_rfl⟩
theorem c21:K (21,433):=⟨Tryz.f21,p433,Tryz.func21,by kernel_rfl,by kernel_rfl,by kernel_rfl,by kernel_rfl⟩
theorem c3:K (3,454):=⟨Tryz.f3,p454,Tryz.func3,by kernel_rfl,by kernel_rfl,by kernel_rfl,by kernel_rfl⟩
theorem models:Models Tryz.prog (tblOf tab) A:=by
 refine models_of (by kernel_rfl) fun x hx=>?_;simp only[tab,List.mem_cons,List.not_mem_nil,or_false]at hx;rcases hx with rfl|rfl|rfl|rfl|rfl|rfl|rfl|rfl|rfl|rfl|rfl|rfl|rfl|rfl|rfl|rfl|rfl|rfl|rfl|rfl|rfl|rfl|rfl|rfl|rfl|rfl|rfl|rfl|rfl|rfl|rfl|rfl|rfl|rfl|rfl|rfl|rfl|rfl|rfl|rfl|rfl|rfl|rfl|rfl|rfl|rfl|rfl|rfl|rfl|rfl|rfl|rfl|rfl|rfl|rfl|rfl|rfl|rfl|rfl|rfl|rfl|rfl|rfl|rfl|rfl|rfl|rfl|rfl|rfl|rfl|rfl|rfl|rfl|rfl|rfl|rfl|rfl|rfl|rfl|rfl|rfl|rfl|rfl|rfl|rfl|rfl|rfl|rfl|rfl|rfl|rfl|rfl|rfl|rfl|rfl|rfl|rfl|rfl|rfl|rfl|rfl|rfl|rfl|rfl|rfl|rfl|rfl|rfl|rfl|rfl
 ·exact c6
 ·exact c89
 ·exact c118
 ·exact c136
 ·exact c87
 ·exact c75
 ·exact c104
 ·exact c131
 ·exact c132
 ·exact c64
 ·exact c162
 ·exact c153
 ·exact c152
 ·exact c123
 ·exact c151
 ·exact c121
 ·exact c146
 ·exact c106
 ·exact c154
 ·exact c133
 ·exact c72
 ·exact c88
 ·exact c90
 ·exact c77
 ·exact c38
 ·exact c47
 ·exact c113
 ·exact c122
 ·exact c124
 ·exact c125
 ·exact c126
 ·exact c62
 ·exact c115
 ·exact c74
 ·exact c79
 ·exact c114
 ·exact c57
 ·exact c59
 ·exact c60
 ·exact c18
 ·exact c161
 ·exact c145
 ·exact c144
 ·exact c112
 ·exact c56
 ·exact c105
 ·exact c48
 ·exact c20
 ·exact c55
 ·exact c10
 ·exact c82
 ·exact c140
 ·exact c141
 ·exact c108
 ·exact c54
 ·exact c96
 ·exact c109
 ·exact c85
 ·exact c84
 ·exact c81
 ·exact c49
 ·exact c110
 ·exact c111
 ·exact c149
 ·exact c147
 ·exact c148
 ·exact c107
 ·exact c117
 ·exact c83
 ·exact c116
 ·exact c58
 ·exact c51
 ·exact c52
 ·exact c53
 ·exact c50
 ·exact c13
 ·exact c12
 ·exact c9
 ·exact c8
 ·exact c91
 ·exact c93
 ·exact c102
 ·exact c103
 ·exact c142
 ·exact c97
 ·exact c137
 ·exact c164
 ·exact c165
 ·exact c157
 ·exact c156
 ·exact c138
 ·exact c160
 ·exact c143
 ·exact c98
 ·exact c46
 ·exact c7
 ·exact c11
 ·exact c14
 ·exact c15
 ·exact c16
 ·exact c17
 ·exact c127
 ·exact c63
 ·exact c150
 ·exact c119
 ·exact c120
 ·exact c61
 ·exact c19
 ·exact c21
 ·exact c3
end Rv.Pb
