/- The abstract code is what the translated functions are compiled to. -/
import Derived.Test.YtoejjfefmcbkpaaGreatHmp
import Derived.Test.YtoejjfefmcbkpaaGreatChecked
import Derived.KernelRfl
namespace Rv.Hm
open Go.Proofs
set_option maxRecDepth 100000
def tab:List (Nat×Nat):=[(6,140),(47,405),(53,416),(140,94),(145,95),(111,55),(109,412),(120,80),(89,54),(68,99),(121,76),(133,81),(113,127),(156,136),(154,134),(155,135),(129,131),(153,122),(127,98),(92,424),(110,417),(144,423),(108,415),(48,486),(95,498),(49,487),(131,78),(132,79),(82,39),(71,272),(26,474),(69,273),(70,304),(52,489),(51,490),(146,500),(147,501),(112,499),(50,488),(7,457),(57,73),(60,86),(118,119),(61,91),(78,56),(59,102),(117,132),(58,124),(64,165),(119,96),(62,173),(148,307),(114,276),(102,67),(141,115),(104,82),(103,87),(105,88),(106,89),(134,130),(93,129),(143,116),(150,128),(142,117),(107,90),(123,118),(74,92),(46,42),(83,305),(55,313),(115,306),(54,274),(63,309),(79,308),(116,275),(56,244),(8,458),(86,302),(66,303),(65,270),(72,287),(90,271),(67,242),(9,459),(10,460),(151,137),(152,138),(125,139),(126,133),(122,125),(73,100),(76,186),(149,123),(124,101),(75,205),(11,461),(128,251),(77,491),(12,462),(80,492),(13,463),(3,502)]
abbrev K(x:Nat×Nat):Prop:=FnOK Tryz.prog (tblOf tab) A x
theorem c6:K (6,140):=⟨Tryz.f6,p140,Tryz.func6,by kernel_rfl,by kernel_rfl,by kernel_rfl,by kernel_rfl⟩
theorem c47:K (47,405):=⟨Tryz.f47,p405,Tryz.func47,by kernel_rfl,by kernel_rfl,by kernel_rfl,by kernel_rfl⟩
theorem c53:K (53,416):=⟨Tryz.f53,p416,Tryz.func53,by kernel_rfl,by kernel_rfl,by kernel_rfl,by kernel_rfl⟩
theorem c140:K (140,94):=⟨Tryz.f140,p94,Tryz.func140,by kernel_rfl,by kernel_rfl,by kernel_rfl,by kernel_rfl⟩
theorem c145:K (145,95):=⟨Tryz.f145,p95,Tryz.func145,by kernel_rfl,by kernel_rfl,by kernel_rfl,by kernel_rfl⟩
theorem c111:K (111,55):=⟨Tryz.f111,p55,Tryz.func111,by kernel_rfl,by kernel_rfl,by kernel_rfl,by kernel_rfl⟩
theorem c109:K (109,412):=⟨Tryz.f109,p412,Tryz.func109,by kernel_rfl,by kernel_rfl,by kernel_rfl,by kernel_rfl⟩
theorem c120:K (120,80):=⟨Tryz.f120,p80,Tryz.func120,by kernel_rfl,by kernel_rfl,by kernel_rfl,by kernel_rfl⟩
theorem c89:K (89,54):=⟨Tryz.f89,p54,Tryz.func89,by kernel_rfl,by kernel_rfl,by kernel_rfl,by kernel_rfl⟩
theorem c68:K (68,99):=⟨Tryz.f68,p99,Tryz.func68,by kernel_rfl,by kernel_rfl,by kernel_rfl,by kernel_rfl⟩
theorem c121:K (121,76):=⟨Tryz.f121,p76,Tryz.func121,by kernel_rfl,by kernel_rfl,by kernel_rfl,by kernel_rfl⟩
theorem c133:K (133,81):=⟨Tryz.f133,p81,Tryz.func133,by kernel_rfl,by kernel_rfl,by kernel_rfl,by kernel_rfl⟩
theorem c113:K (113,127):=⟨Tryz.f113,p127,Tryz.func113,by kernel_rfl,by kernel_rfl,by kernel_rfl,by kernel_rfl⟩
theorem c156:K (156,136):=⟨Tryz.f156,p136,Tryz.func156,by kernel_rfl,by kernel_rfl,by kernel_rfl,by kernel_rfl⟩
theorem c154:K (154,134):=⟨Tryz.f154,p134,Tryz.func154,by kernel_rfl,by kernel_rfl,by kernel_rfl,by kernel_rfl⟩
theorem c155:K (155,135):=⟨Tryz.f155,p135,Tryz.func155,by kernel_rfl,by kernel_rfl,by kernel_rfl,by kernel_rfl⟩
theorem c129:K (129,131):=⟨Tryz.f129,p131,Tryz.func129,by kernel_rfl,by kernel_rfl,by kernel_rfl,by kernel_rfl⟩
theorem c153:K (153,122):=⟨Tryz.f153,p122,Tryz.func153,by kernel_rfl,by kernel_rfl,by kernel_rfl,by kernel_rfl⟩
theorem c127:K (127,98):=⟨Tryz.f127,p98,Tryz.func127,by kernel_rfl,by kernel_rfl,by kernel_rfl,by kernel_rfl⟩
theorem c92:K (92,424):=⟨Tryz.f92,p424,Tryz.func92,by kernel_rfl,by kernel_rfl,by kernel_rfl,by kernel_rfl⟩
theorem c110:K (110,417):=⟨Tryz.f110,p417,Tryz.func110,by kernel_rfl,by kernel_rfl,by kernel_rfl,by kernel_rfl⟩
theorem c144:K (144,423):=⟨Tryz.f144,p423,Tryz.func144,by kernel_rfl,by kernel_rfl,by kernel_rfl,by kernel_rfl⟩
theorem c108:K (108,415):=⟨Tryz.f108,p415,Tryz.func108,by kernel_rfl,by kernel_rfl,by kernel_rfl,by kernel_rfl⟩
theorem c48:K (48,486):=⟨Tryz.f48,p486,Tryz.func48,by kernel_rfl,by kernel_rfl,by kernel_rfl,by kernel_rfl⟩
theorem c95:K (95,498):=⟨Tryz.f95,p498,Tryz.func95,by kernel_rfl,by kernel_rfl,by kernel_rfl,by kernel_rfl⟩
theorem c49:K (49,487):=⟨Tryz.f49,p487,Tryz.func49,by kernel_rfl,by kernel_rfl,by kernel_rfl,by kernel_rfl⟩
theorem c131:K (131,78):=⟨Tryz.f131,p78,Tryz.func131,by kernel_rfl,by kernel_rfl,by kernel_rfl,by kernel_rfl⟩
theorem c132:K (132,79):=⟨Tryz.f132,p79,Tryz.func132,by kernel_rfl,by kernel_rfl,by kernel_rfl,by kernel_rfl⟩
theorem c82:K (82,39):=⟨Tryz.f82,p39,Tryz.func82,by kernel_rfl,by kernel_rfl,by kernel_rfl,by kernel_rfl⟩
theorem c71:K (71,272):=⟨Tryz.f71,p272,Tryz.func71,by kernel_rfl,by kernel_rfl,by kernel_rfl,by kernel_rfl⟩
theorem c26:K (26,474):=⟨Tryz.f26,p474,Tryz.func26,by kernel_rfl,by kernel_rfl,by kernel_rfl,by kernel_rfl⟩
theorem c69:K (69,273):=⟨Tryz.f69,p273,Tryz.func69,by kernel_rfl,by kernel_rfl,by kernel_rfl,by kernel_rfl⟩
theorem c70:K (70,304):=⟨Tryz.f70,p304,Tryz.func70,by kernel_rfl,by kernel_rfl,by kernel_rfl,by kernel_rfl⟩
theorem c52:K (52,489):=⟨Tryz.f52,p489,Tryz.func52,by kernel_rfl,by kernel_rfl,by kernel_rfl,by kernel_rfl⟩
theorem c51:K (51,490):=⟨Tryz.f51,p490,Tryz.func51,by kernel_rfl,by kernel_rfl,by kernel_rfl,by kernel_rfl⟩
theorem c146:K (146,500):=⟨Tryz.f146,p500,Tryz.func146,by kernel_rfl,by kernel_rfl,by kernel_rfl,by kernel_rfl⟩
theorem c147:K (147,501):=⟨Tryz.f147,p501,Tryz.func147,by kernel_rfl,by kernel_rfl,by kernel_rfl,by kernel_rfl⟩
theorem c112:K (112,499):=⟨Tryz.f112,p499,Tryz.func112,by kernel_rfl,by kernel_rfl,by kernel_rfl,by kernel_rfl⟩
theorem c50:K (50,488):=⟨Tryz.f50,p488,Tryz.func50,by kernel_rfl,by kernel_rfl,by kernel_rfl,by kernel_rfl⟩
theorem c7:K (7,457):=⟨Tryz.f7,p457,Tryz.func7,by kernel_rfl,by kernel_rfl,by kernel_rfl,by kernel_rfl⟩
theorem c57:K (57,73):=⟨Tryz.f57,p73,Tryz.func57,by kernel_rfl,by kernel_rfl,by kernel_rfl,by kernel_rfl⟩
theorem c60:K (60,86):=⟨Tryz.f60,p86,Tryz.func60,by kernel_rfl,by kernel_rfl,by kernel_rfl,by kernel_rfl⟩
theorem c118:K (118,119):=⟨Tryz.f118,p119,Tryz.func118,by kernel_rfl,by kernel_rfl,by kernel_rfl,by kernel_rfl⟩
theorem c61:K (61,91):=⟨Tryz.f61,p91,Tryz.func61,by kernel_rfl,by kernel_rfl,by kernel_rfl,by kernel_rfl⟩
theorem c78:K (78,56):=⟨Tryz.f78,p56,Tryz.func78,by kernel_rfl,by kernel_rfl,by kernel_rfl,by kernel_rfl⟩
theorem c59:K (59,102):=⟨Tryz.f59,p102,Tryz.func59,by kernel_rfl,by kernel_rfl,by kernel_rfl,by kernel_rfl⟩
theorem c117:K (117,132):=⟨Tryz.f117,p132,Tryz.func117,by kernel_rfl,by kernel_rfl,by kernel_rfl,by kernel_rfl⟩
theorem c58:K (58,124):=⟨Tryz.f58,p124,Tryz.func58,by kernel_rfl,by kernel_rfl,by kernel_rfl,by kernel_rfl⟩
theorem c64:K (64,165):=⟨Tryz.f64,p165,Tryz.func64,by kernel_rfl,by kernel_rfl,by kernel_rfl,by kernel_rfl⟩
theorem c119:K (119,96):=⟨Tryz.f119,p96,Tryz.func119,by kernel_rfl,by kernel_rfl,by kernel_rfl,by kernel_rfl⟩
theorem c62:K (62,173):=⟨Tryz.f62,p173,Tryz.func62,by kernel_rfl,by kernel_rfl,by kernel_rfl,by kernel_rfl⟩
theorem c148:K (148,307):=⟨Tryz.f148,p307,Tryz.func148,by kernel_rfl,by kernel_rfl,by kernel_rfl,by kernel_rfl⟩
theorem c114:K (114,276):=⟨Tryz.f114,p276,Tryz.func114,by kernel_rfl,by kernel_rfl,by kernel_rfl,by kernel_rfl⟩
theorem c102:K (102,67):=⟨Tryz.f102,p67,Tryz.func102,by kernel_rfl,by kernel_rfl,by kernel_rfl,by kernel_rfl⟩
theorem c141:K (141,115):=⟨Tryz.f141,p115,Tryz.func141,by kernel_rfl,by kernel_rfl,by kernel_rfl,by kernel_rfl⟩
theorem c104:K (104,82):=⟨Tryz.f104,p82,Tryz.func104,by kernel_rfl,by kernel_rfl,by kernel_rfl,by kernel_rfl⟩
theorem c103:K (103,87):=⟨Tryz.f103,p87,Tryz.func103,by kernel_rfl,by kernel_rfl,by kernel_rfl,by kernel_rfl⟩
theorem c105:K (105,88):=⟨Tryz.f105,p88,Tryz.func105,by kernel_rfl,by kernel_rfl,by kernel_rfl,by kernel_rfl⟩
theorem c106:K (106,89):=⟨Tryz.f106,p89,Tryz.func106,by kernel_rfl,by kernel_rfl,by kernel_rfl,by kernel_rfl⟩
theorem c134:K (134,130):=⟨Tryz.f134,p130,Tryz.func134,by kernel_rfl,by kernel_rfl,by kernel_rfl,by kernel_rfl⟩
theorem c93:K (93,129):=⟨Tryz.f93,p129,Tryz.func93,by kernel_rfl,by kernel_rfl,by kernel_rfl,by kernel_rfl⟩
theorem c143:K (143,116):=⟨Tryz.f143,p116,Tryz.func143,by kernel_rfl,by kernel_rfl,by kernel_rfl,by kernel_rfl⟩
theorem c150:K (150,128):=⟨Tryz.f150,p128,Tryz.func150,by kernel_rfl,by kernel_rfl,by kernel_rfl,by kernel_rfl⟩
theorem c142:K (142,117):=⟨Tryz.f142,p117,Tryz.func142,by kernel_rfl,by kernel_rfl,by kernel_rfl,by kernel_rfl⟩
theorem c107:K (107,90):=⟨Tryz.f107,p90,Tryz.func107,by kernel_rfl,by kernel_rfl,by kernel_rfl,by kernel_rfl⟩
theorem c123:K (123,118):=⟨Tryz.f123,p118,Tryz.func123,by kernel_rfl,by kernel_rfl,by kernel_rfl,by kernel_rfl⟩
theorem c74:K (74,92):=⟨Tryz.f74,p92,Tryz.func74,by kernel_rfl,by kernel_rfl,by kernel_rfl,by kernel_rfl⟩
theorem c46:K (46,42):=⟨Tryz.f46,p42,Tryz.func46,by kernel_rfl,by kernel_rfl,by kernel_rfl,by kernel_rfl⟩
theorem c83:K (83,305):=⟨Tryz.f83,p305,Tryz.func83,by kernel_rfl,by kernel_rfl,by kernel_rfl,by kernel_rfl⟩
theorem c55:K (55,313):=⟨Tryz.f55,p313,Tryz.func55,by kernel_rfl,by kernel_rfl,by kernel_rfl,by kernel_rfl⟩
theorem c115:K (115,306):=⟨Tryz.f115,p306,Tryz.func115,by kernel_rfl,by kernel_rfl,by kernel_rfl,by kernel_rfl⟩
theorem c54:K (54,274):=⟨Tryz.f54,p274,Tryz.func54,by kernel_rfl,by kernel_rfl,by kernel_rfl,by kernel_rfl⟩
theorem c63:K (63,309):=⟨Tryz.f63,p309,Tryz.func63,by kernel_rfl,by kernel_rfl,by kernel_rfl,by kernel_rfl⟩
theorem c79:K (79,308):=⟨Tryz.f79,p308,Tryz.func79,by kernel_rfl,by kernel_rfl,by kernel_rfl,by kernel_rfl⟩
theorem c116:K (116,275):=⟨Tryz.f116,p275,Tryz.func116,by kernel_rfl,by kernel_rfl,by kernel_rfl,by kernel_rfl⟩
theorem c56:K (56,244):=⟨Tryz.f56,p244,Tryz.func56,by kernel_rfl,by kernel_rfl,by kernel_rfl,by kernel_rfl⟩
theorem c8:K (8,458):=⟨Tryz.f8,p458,Tryz.func8,by kernel_rfl,by kernel_rfl,by kernel_rfl,by kernel_rfl⟩
theorem c86:K (86,302):=⟨Tryz.f86,p302,Tryz.func86,by kernel_rfl,by kernel_rfl,by kernel_rfl,by kernel_rfl⟩
theorem c66:K (66,303):=⟨Tryz.f66,p303,Tryz.func66,by kernel_rfl,by kernel_rfl,by kernel_rfl,by kernel_rfl⟩
theorem c65:K (65,270):=⟨Tryz.f65,p270,Tryz.func65,by kernel_rfl,by kernel_rfl,by kernel_rfl,by kernel_rfl⟩
theorem c72:K (72,287):=⟨Tryz.f72,p287,Tryz.func72,by kernel_rfl,by kernel_rfl,by kernel_rfl,by kernel_rfl⟩
theorem c90:K (90,271):=⟨Tryz.f90,p271,Tryz.func90,by kernel_rfl,by kernel_rfl,by kernel_rfl,by kernel_rfl⟩
theorem c67:K (67,242):=⟨Tryz.f67,p242,Tryz.func67,by kernel_rfl,by kernel_rfl,by kernel_rfl,by kernel_rfl⟩
theorem c9:K (9,459):=⟨Tryz.f9,p459,Tryz.func9,by kernel_rfl,by kernel_rfl,by kernel_rfl,by kernel_rfl⟩
theorem c10:K (10,460):=⟨Tryz.f10,p460,Tryz.func10,by kernel_rfl,by kernel_rfl,by kernel_rfl,by kernel_rfl⟩
theorem c151:K (151,137):=⟨Tryz.f151,p137,Tryz.func151,by kernel_rfl,by kernel_rfl,by kernel_rfl,by kernel_rfl⟩
theorem c152:K (152,138):=⟨Tryz.f152,p138,Tryz.func152,by kernel_rfl,by kernel_rfl,by kernel_rfl,by kernel_rfl⟩
theorem c125:K (125,139):=⟨Tryz.f125,p139,Tryz.func125,by kernel_rfl,by kernel_rfl,by kernel_rfl,by kernel_rfl⟩
theorem c126:K (126,133):=⟨Tryz.f126,p133,Tryz.func126,by kernel_rfl,by kernel_rfl,by kernel_rfl,by kernel_rfl⟩
theorem c122:K (122,125):=⟨Tryz.f122,p125,Tryz.func122,by kernel_rfl,by kernel_rfl,by kernel_rfl,by kernel_rfl⟩
theorem c73:K (73,100):=⟨Tryz.f73,p100,Tryz.func73,by kernel_rfl,by kernel_rfl,by kernel_rfl,by kernel_rfl⟩
theorem c76:K (76,186):=⟨Tryz.f76,p186,Tryz.func76,by kernel_rfl,by kernel_rfl,by kernel_rfl,by kernel_rfl⟩
theorem c149:K (149,123):=⟨Tryz.f149,p123,Tryz.func149,by kernel_rfl,by kernel_rfl,by kernel_rfl,by kernel_rfl⟩
theorem c124:K (124,101):=⟨Tryz.f124,p101,Tryz.func124,by kernel_rfl,by kernel_rfl,by kernel_rfl,by kernel_rfl⟩
theorem c75:K (75,205):=⟨Tryz.f75,p205,Tryz.func75,by kernel_rfl,by kernel_rfl,by kernel_rfl,by kernel_rfl⟩
theorem c11:K (11,461):=⟨Tryz.f11,p461,Tryz.func11,by kernel_rfl,by kernel_rfl,by kernel_rfl,by kernel_rfl⟩
theorem c128:K (128,251):=⟨Tryz.f128,p251,Tryz.func128,by kernel_rfl,by kernel_rfl,by kernel_rfl,by kernel_rfl⟩
theorem c77:K (77,491):=⟨Tryz.f77,p491,Tryz.func77,by kernel_rfl,by kernel_rfl,by kernel_rfl,by kernel_rfl⟩
theorem c12:K (12,462):=⟨Tryz.f12,p462,Tryz.func12,by kernel_rfl,by kernel_rfl,by kernel_rfl,by kernel_rfl⟩
theorem c80:K (80,492):=⟨Tryz.f80,p492,Tryz.func80,by kernel_rfl,by kernel_rfl,by kernel_rfl,by kernel_rfl⟩
theorem c13:K (13,463):=⟨Tryz.f13,p463,Tryz.func13,by kernel_rfl,by kernel_rfl,by kernel_rfl,by kernel_rfl⟩
theorem c3:K (3,502):=⟨Tryz.f3,p502,Tryz.func3,by kernel_rfl,by kernel_rfl,by kernel_rfl,by kernel_rfl⟩
theorem models:Models Tryz.prog (tblOf tab) A:=by
 refine models_of (by kernel_rfl) fun x hx=>?_;simp only[tab,List.mem_cons,List.not_mem_nil,or_false]at hx;rcases hx with rfl|rfl|rfl|rfl|rfl|rfl|rfl|rfl|rfl|rfl|rfl|rfl|rfl|rfl|rfl|rfl|rfl|rfl|rfl|rfl|rfl|rfl|rfl|rfl|rfl|rfl|rfl|rfl|rfl|rfl|rfl|rfl|rfl|rfl|rfl|rfl|rfl|rfl|rfl|rfl|rfl|rfl|rfl|rfl|rfl|rfl|rfl|rfl|rfl|rfl|rfl|rfl|rfl|rfl|rfl|rfl|rfl|rfl|rfl|rfl|rfl|rfl|rfl|rfl|rfl|rfl|rfl|rfl|rfl|rfl|rfl|rfl|rfl|rfl|rfl|rfl|rfl|rfl|rfl|rfl|rfl|rfl|rfl|rfl|rfl|rfl|rfl|rfl|rfl|rfl|rfl|rfl|rfl|rfl|rfl|rfl|rfl|rfl|rfl|rfl|rfl|rfl
 ·exact c6
 ·exact c47
 ·exact c53
 ·exact c140
 ·exact c145
 ·exact c111
 ·exact c109
 ·exact c120
 ·exact c89
 ·exact c68
 ·exact c121
 ·exact c133
 ·exact c113
 ·exact c156
 ·exact c154
 ·exact c155
 ·exact c129
 ·exact c153
 ·exact c127
 ·exact c92
 ·exact c110
 ·exact c144
 ·exact c108
 ·exact c48
 ·exact c95
 ·exact c49
 ·exact c131
 ·exact c132
 ·exact c82
 ·exact c71
 ·exact c26
 ·exact c69
 ·exact c70
 ·exact c52
 ·exact c51
 ·exact c146
 ·exact c147
 ·exact c112
 ·exact c50
 ·exact c7
 ·exact c57
 ·exact c60
 ·exact c118
 ·exact c61
 ·exact c78
 ·exact c59
 ·exact c117
 ·exact c58
 ·exact c64
 ·exact c119
 ·exact c62
 ·exact c148
 ·exact c114
 ·exact c102
 ·exact c141
 ·exact c104
 ·exact c103
 ·exact c105
 ·exact c106
 ·exact c134
 ·exact c93
 ·exact c143
 ·exact c150
 ·exact c142
 ·exact c107
 ·exact c123
 ·exact c74
 ·exact c46
 ·exact c83
 ·exact c55
 ·exact c115
 ·exact c54
 ·exact c63
 ·exact c79
 ·exact c116
 ·exact c56
 ·exact c8
 ·exact c86
 ·exact c66
 ·exact c65
 ·exact c72
 ·exact c90
 ·exact c67
 ·exact c9
 ·exact c10
 ·exact c151
 ·exact c152
 ·exact c125
 ·exact c126
 ·exact c122
 ·exact c73
 ·exact c76
 ·exact c149
 ·exact c124
 ·exact c75
 ·exact c11
 ·exact c128
 ·exact c77
 ·exact c12
 ·exact c80
 ·exact c13
 ·exact c3
end Rv.Hm
