/- The abstract code is what the translated functions are compiled to. -/
import Derived.Test.YtadnnniccgdigaaGreatPfp
import Derived.Test.YtadnnniccgdigaaGreatChecked
import Derived.KernelRfl
namespace Rv.Pf
open Go.Proofs
set_option maxRecDepth 100000
def tab:List (Nat×Nat):=[(82,54),(140,78),(141,79),(108,80),(54,81),(96,39),(110,94),(142,95),(97,55),(42,23),(89,56),(118,67),(136,115),(87,82),(75,73),(104,86),(131,87),(132,88),(64,89),(162,130),(153,129),(152,116),(123,128),(151,117),(121,90),(146,119),(106,91),(154,118),(133,92),(72,42),(76,74),(80,75),(77,85),(122,96),(94,57),(158,120),(159,121),(139,97),(95,58),(41,24),(88,83),(90,84),(38,41),(6,140),(55,156),(10,160),(135,182),(86,159),(37,146),(124,137),(125,138),(126,139),(62,133),(113,102),(115,125),(74,202),(79,211),(114,203),(57,184),(129,186),(127,201),(63,200),(128,183),(70,161),(67,162),(59,185),(60,169),(100,163),(99,164),(101,165),(44,147),(47,166),(68,167),(26,148),(32,150),(109,99),(85,76),(84,77),(81,38),(111,127),(149,136),(147,134),(148,135),(107,131),(117,122),(83,310),(116,311),(58,280),(51,281),(52,279),(65,297),(69,260),(130,251),(71,331),(45,325),(166,132),(163,124),(155,100),(134,168),(73,149),(33,440),(91,405),(93,416),(102,412),(103,411),(137,421),(164,98),(165,424),(157,417),(156,423),(138,415),(160,453),(143,452),(98,450),(46,447),(34,441),(78,449),(35,442),(36,443),(39,444),(92,406),(40,445),(43,446),(5,456)]
abbrev K(x:Nat×Nat):Prop:=FnOK Tryz.prog (tblOf tab) A x
theorem c82:K (82,54):=⟨Tryz.f82,p54,Tryz.func82,by kernel_rfl,by kernel_rfl,by kernel_rfl,by kernel_rfl⟩
theorem c140:K (140,78):=⟨Tryz.f140,p78,Tryz.func140,by kernel_rfl,by kernel_rfl,by kernel_rfl,by kernel_rfl⟩
theorem c141:K (141,79):=⟨Tryz.f141,p79,Tryz.func141,by kernel_rfl,by kernel_rfl,by kernel_rfl,by kernel_rfl⟩
theorem c108:K (108,80):=⟨Tryz.f108,p80,Tryz.func108,by kernel_rfl,by kernel_rfl,by kernel_rfl,by kernel_rfl⟩
theorem c54:K (54,81):=⟨Tryz.f54,p81,Tryz.func54,by kernel_rfl,by kernel_rfl,by kernel_rfl,by kernel_rfl⟩
theorem c96:K (96,39):=⟨Tryz.f96,p39,Tryz.func96,by kernel_rfl,by kernel_rfl,by kernel_rfl,by kernel_rfl⟩
theorem c110:K (110,94):=⟨Tryz.f110,p94,Tryz.func110,by kernel_rfl,by kernel_rfl,by kernel_rfl,by kernel_rfl⟩
theorem c142:K (142,95):=⟨Tryz.f142,p95,Tryz.func142,by kernel_rfl,by kernel_rfl,by kernel_rfl,by kernel_rfl⟩
theorem c97:K (97,55):=⟨Tryz.f97,p55,Tryz.func97,by kernel_rfl,by kernel_rfl,by kernel_rfl,by kernel_rfl⟩
theorem c42:K (42,23):=⟨Tryz.f42,p23,Tryz.func42,by kernel_rfl,by kernel_rfl,by kernel_rfl,by kernel_rfl⟩
theorem c89:K (89,56):=⟨Tryz.f89,p56,Tryz.func89,by kernel_rfl,by kernel_rfl,by kernel_rfl,by kernel_rfl⟩
theorem c118:K (118,67):=⟨Tryz.f118,p67,Tryz.func118,by kernel_rfl,by kernel_rfl,by kernel_rfl,by kernel_rfl⟩
theorem c136:K (136,115):=⟨Tryz.f136,p115,Tryz.func136,by kernel_rfl,by kernel_rfl,by kernel_rfl,by kernel_rfl⟩
theorem c87:K (87,82):=⟨Tryz.f87,p82,Tryz.func87,by kernel_rfl,by kernel_rfl,by kernel_rfl,by kernel_rfl⟩
theorem c75:K (75,73):=⟨Tryz.f75,p73,Tryz.func75,by kernel_rfl,by kernel_rfl,by kernel_rfl,by kernel_rfl⟩
theorem c104:K (104,86):=⟨Tryz.f104,p86,Tryz.func104,by kernel_rfl,by kernel_rfl,by kernel_rfl,by kernel_rfl⟩
theorem c131:K (131,87):=⟨Tryz.f131,p87,Tryz.func131,by kernel_rfl,by kernel_rfl,by kernel_rfl,by kernel_rfl⟩
theorem c132:K (132,88):=⟨Tryz.f132,p88,Tryz.func132,by kernel_rfl,by kernel_rfl,by kernel_rfl,by kernel_rfl⟩
theorem c64:K (64,89):=⟨Tryz.f64,p89,Tryz.func64,by kernel_rfl,by kernel_rfl,by kernel_rfl,by kernel_rfl⟩
theorem c162:K (162,130):=⟨Tryz.f162,p130,Tryz.func162,by kernel_rfl,by kernel_rfl,by kernel_rfl,by kernel_rfl⟩
theorem c153:K (153,129):=⟨Tryz.f153,p129,Tryz.func153,by kernel_rfl,by kernel_rfl,by kernel_rfl,by kernel_rfl⟩
theorem c152:K (152,116):=⟨Tryz.f152,p116,Tryz.func152,by kernel_rfl,by kernel_rfl,by kernel_rfl,by kernel_rfl⟩
theorem c123:K (123,128):=⟨Tryz.f123,p128,Tryz.func123,by kernel_rfl,by kernel_rfl,by kernel_rfl,by kernel_rfl⟩
theorem c151:K (151,117):=⟨Tryz.f151,p117,Tryz.func151,by kernel_rfl,by kernel_rfl,by kernel_rfl,by kernel_rfl⟩
theorem c121:K (121,90):=⟨Tryz.f121,p90,Tryz.func121,by kernel_rfl,by kernel_rfl,by kernel_rfl,by kernel_rfl⟩
theorem c146:K (146,119):=⟨Tryz.f146,p119,Tryz.func146,by kernel_rfl,by kernel_rfl,by kernel_rfl,by kernel_rfl⟩
theorem c106:K (106,91):=⟨Tryz.f106,p91,Tryz.func106,by kernel_rfl,by kernel_rfl,by kernel_rfl,by kernel_rfl⟩
theorem c154:K (154,118):=⟨Tryz.f154,p118,Tryz.func154,by kernel_rfl,by kernel_rfl,by kernel_rfl,by kernel_rfl⟩
theorem c133:K (133,92):=⟨Tryz.f133,p92,Tryz.func133,by kernel_rfl,by kernel_rfl,by kernel_rfl,by kernel_rfl⟩
theorem c72:K (72,42):=⟨Tryz.f72,p42,Tryz.func72,by kernel_rfl,by kernel_rfl,by kernel_rfl,by kernel_rfl⟩
theorem c76:K (76,74):=⟨Tryz.f76,p74,Tryz.func76,by kernel_rfl,by kernel_rfl,by kernel_rfl,by kernel_rfl⟩
theorem c80:K (80,75):=⟨Tryz.f80,p75,Tryz.func80,by kernel_rfl,by kernel_rfl,by kernel_rfl,by kernel_rfl⟩
theorem c77:K (77,85):=⟨Tryz.f77,p85,Tryz.func77,by kernel_rfl,by kernel_rfl,by kernel_rfl,by kernel_rfl⟩
theorem c122:K (122,96):=⟨Tryz.f122,p96,Tryz.func122,by kernel_rfl,by kernel_rfl,by kernel_rfl,by kernel_rfl⟩
theorem c94:K (94,57):=⟨Tryz.f94,p57,Tryz.func94,by kernel_rfl,by kernel_rfl,by kernel_rfl,by kernel_rfl⟩
theorem c158:K (158,120):=⟨Tryz.f158,p120,Tryz.func158,by kernel_rfl,by kernel_rfl,by kernel_rfl,by kernel_rfl⟩
theorem c159:K (159,121):=⟨Tryz.f159,p121,Tryz.func159,by kernel_rfl,by kernel_rfl,by kernel_rfl,by kernel_rfl⟩
theorem c139:K (139,97):=⟨Tryz.f139,p97,Tryz.func139,by kernel_rfl,by kernel_rfl,by kernel_rfl,by kernel_rfl⟩
theorem c95:K (95,58):=⟨Tryz.f95,p58,Tryz.func95,by kernel_rfl,by kernel_rfl,by kernel_rfl,by kernel_rfl⟩
theorem c41:K (41,24):=⟨Tryz.f41,p24,Tryz.func41,by kernel_rfl,by kernel_rfl,by kernel_rfl,by kernel_rfl⟩
theorem c88:K (88,83):=⟨Tryz.f88,p83,Tryz.func88,by kernel_rfl,by kernel_rfl,by kernel_rfl,by kernel_rfl⟩
theorem c90:K (90,84):=⟨Tryz.f90,p84,Tryz.func90,by kernel_rfl,by kernel_rfl,by kernel_rfl,by kernel_rfl⟩
theorem c38:K (38,41):=⟨Tryz.f38,p41,Tryz.func38,by kernel_rfl,by kernel_rfl,by kernel_rfl,by kernel_rfl⟩
theorem c6:K (6,140):=⟨Tryz.f6,p140,Tryz.func6,by kernel_rfl,by kernel_rfl,by kernel_rfl,by kernel_rfl⟩
theorem c55:K (55,156):=⟨Tryz.f55,p156,Tryz.func55,by kernel_rfl,by kernel_rfl,by kernel_rfl,by kernel_rfl⟩
theorem c10:K (10,160):=⟨Tryz.f10,p160,Tryz.func10,by kernel_rfl,by kernel_rfl,by kernel_rfl,by kernel_rfl⟩
theorem c135:K (135,182):=⟨Tryz.f135,p182,Tryz.func135,by kernel_rfl,by kernel_rfl,by kernel_rfl,by kernel_rfl⟩
theorem c86:K (86,159):=⟨Tryz.f86,p159,Tryz.func86,by kernel_rfl,by kernel_rfl,by kernel_rfl,by kernel_rfl⟩
theorem c37:K (37,146):=⟨Tryz.f37,p146,Tryz.func37,by kernel_rfl,by kernel_rfl,by kernel_rfl,by kernel_rfl⟩
theorem c124:K (124,137):=⟨Tryz.f124,p137,Tryz.func124,by kernel_rfl,by kernel_rfl,by kernel_rfl,by kernel_rfl⟩
theorem c125:K (125,138):=⟨Tryz.f125,p138,Tryz.func125,by kernel_rfl,by kernel_rfl,by kernel_rfl,by kernel_rfl⟩
theorem c126:K (126,139):=⟨Tryz.f126,p139,Tryz.func126,by kernel_rfl,by kernel_rfl,by kernel_rfl,by kernel_rfl⟩
theorem c62:K (62,133):=⟨Tryz.f62,p133,Tryz.func62,by kernel_rfl,by kernel_rfl,by kernel_rfl,by kernel_rfl⟩
theorem c113:K (113,102):=⟨Tryz.f113,p102,Tryz.func113,by kernel_rfl,by kernel_rfl,by kernel_rfl,by kernel_rfl⟩
theorem c115:K (115,125):=⟨Tryz.f115,p125,Tryz.func115,by kernel_rfl,by kernel_rfl,by kernel_rfl,by kernel_rfl⟩
theorem c74:K (74,202):=⟨Tryz.f74,p202,Tryz.func74,by kernel_rfl,by kernel_rfl,by kernel_rfl,by kernel_rfl⟩
theorem c79:K (79,211):=⟨Tryz.f79,p211,Tryz.func79,by kernel_rfl,by kernel_rfl,by kernel_rfl,by kernel_rfl⟩
theorem c114:K (114,203):=⟨Tryz.f114,p203,Tryz.func114,by kernel_rfl,by kernel_rfl,by kernel_rfl,by kernel_rfl⟩
theorem c57:K (57,184):=⟨Tryz.f57,p184,Tryz.func57,by kernel_rfl,by kernel_rfl,by kernel_rfl,by kernel_rfl⟩
theorem c129:K (129,186):=⟨Tryz.f129,p186,Tryz.func129,by kernel_rfl,by kernel_rfl,by kernel_rfl,by kernel_rfl⟩
theorem c127:K (127,201):=⟨Tryz.f127,p201,Tryz.func127,by kernel_rfl,by kernel_rfl,by kernel_rfl,by kernel_rfl⟩
theorem c63:K (63,200):=⟨Tryz.f63,p200,Tryz.func63,by kernel_rfl,by kernel_rfl,by kernel_rfl,by kernel_rfl⟩
theorem c128:K (128,183):=⟨Tryz.f128,p183,Tryz.func128,by kernel_rfl,by kernel_rfl,by kernel_rfl,by kernel_rfl⟩
theorem c70:K (70,161):=⟨Tryz.f70,p161,Tryz.func70,by kernel_rfl,by kernel_rfl,by kernel_rfl,by kernel_rfl⟩
theorem c67:K (67,162):=⟨Tryz.f67,p162,Tryz.func67,by kernel_rfl,by kernel_rfl,by kernel_rfl,by kernel_rfl⟩
theorem c59:K (59,185):=⟨Tryz.f59,p185,Tryz.func59,by kernel_rfl,by kernel_rfl,by kernel_rfl,by kernel_rfl⟩
theorem c60:K (60,169):=⟨Tryz.f60,p169,Tryz.func60,by kernel_rfl,by kernel_rfl,by kernel_rfl,by kernel_rfl⟩
theorem c100:K (100,163):=⟨Tryz.f100,p163,Tryz.func100,by kernel_rfl,by kernel_rfl,by kernel_rfl,by kernel_rfl⟩
theorem c99:K (99,164):=⟨Tryz.f99,p164,Tryz.func99,by kernel_rfl,by kernel_rfl,by kernel_rfl,by kernel_rfl⟩
theorem c101:K (101,165):=⟨Tryz.f101,p165,Tryz.func101,by kernel_rfl,by kernel_rfl,by kernel_rfl,by kernel_rfl⟩
theorem c44:K (44,147):=⟨Tryz.f44,p147,Tryz.func44,by kernel_rfl,by kernel_rfl,by kernel_rfl,by kernel_rfl⟩
theorem c47:K (47,166):=⟨Tryz.f47,p166,Tryz.func47,by kernel_rfl,by kernel_rfl,by kernel_rfl,by kernel_rfl⟩
theorem c68:K (68,167):=⟨Tryz.f68,p167,Tryz.func68,by kernel_rfl,by kernel_rfl,by kernel_rfl,by kernel_rfl⟩
theorem c26:K (26,148):=⟨Tryz.f26,p148,Tryz.func26,by kernel_rfl,by kernel_rfl,by kernel_rfl,by kernel_rfl⟩
theorem c32:K (32,150):=⟨Tryz.f32,p150,Tryz.func32,by kernel_rfl,by kernel_rfl,by kernel_rfl,by kernel_rfl⟩
theorem c109:K (109,99):=⟨Tryz.f109,p99,Tryz.func109,by kernel_rfl,by kernel_rfl,by kernel_rfl,by kernel_rfl⟩
theorem c85:K (85,76):=⟨Tryz.f85,p76,Tryz.func85,by kernel_rfl,by kernel_rfl,by kernel_rfl,by kernel_rfl⟩
theorem c84:K (84,77):=⟨Tryz.f84,p77,Tryz.func84,by kernel_rfl,by kernel_rfl,by kernel_rfl,by kernel_rfl⟩
theorem c81:K (81,38):=⟨Tryz.f81,p38,Tryz.func81,by kernel_rfl,by kernel_rfl,by kernel_rfl,by kernel_rfl⟩
theorem c111:K (111,127):=⟨Tryz.f111,p127,Tryz.func111,by kernel_rfl,by kernel_rfl,by kernel_rfl,by kernel_rfl⟩
theorem c149:K (149,136):=⟨Tryz.f149,p136,Tryz.func149,by kernel_rfl,by kernel_rfl,by kernel_rfl,by kernel_rfl⟩
theorem c147:K (147,134):=⟨Tryz.f147,p134,Tryz.func147,by kernel_rfl,by kernel_rfl,by kernel_rfl,by kernel_rfl⟩
theorem c148:K (148,135):=⟨Tryz.f148,p135,Tryz.func148,by kernel_rfl,by kernel_rfl,by kernel_rfl,by kernel_rfl⟩
theorem c107:K (107,131):=⟨Tryz.f107,p131,Tryz.func107,by kernel_rfl,by kernel_rfl,by kernel_rfl,by kernel_rfl⟩
theorem c117:K (117,122):=⟨Tryz.f117,p122,Tryz.func117,by kernel_rfl,by kernel_rfl,by kernel_rfl,by kernel_rfl⟩
theorem c83:K (83,310):=⟨Tryz.f83,p310,Tryz.func83,by kernel_rfl,by kernel_rfl,by kernel_rfl,by kernel_rfl⟩
theorem c116:K (116,311):=⟨Tryz.f116,p311,Tryz.func116,by kernel_rfl,by kernel_rfl,by kernel_rfl,by kernel_rfl⟩
theorem c58:K (58,280):=⟨Tryz.f58,p280,Tryz.func58,by kernel_rfl,by kernel_rfl,by kernel_rfl,by kernel_rfl⟩
theorem c51:K (51,281):=⟨Tryz.f51,p281,Tryz.func51,by kernel_rfl,by kernel_rfl,by kernel_rfl,by kernel_rfl⟩
theorem c52:K (52,279):=⟨Tryz.f52,p279,Tryz.func52,by kernel_rfl,by kernel_rfl,by kernel_rfl,by kernel_rfl⟩
theorem c65:K (65,297):=⟨Tryz.f65,p297,Tryz.func65,by kernel_rfl,by kernel_rfl,by kernel_rfl,by kernel_rfl⟩
theorem c69:K (69,260):=⟨Tryz.f69,p260,Tryz.func69,by kernel_rfl,by kernel_rfl,by kernel_rfl,by kernel_rfl⟩
theorem c130:K (130,251):=⟨Tryz.f130,p251,Tryz.func130,by kernel_rfl,by kernel_rfl,by kernel_rfl,by kernel_rfl⟩
theorem c71:K (71,331):=⟨Tryz.f71,p331,Tryz.func71,by kernel_rfl,by kernel_rfl,by kernel_rfl,by kernel_rfl⟩
theorem c45:K (45,325):=⟨Tryz.f45,p325,Tryz.func45,by kernel_rfl,by kernel_rfl,by kernel_rfl,by kernel_rfl⟩
theorem c166:K (166,132):=⟨Tryz.f166,p132,Tryz.func166,by kernel_rfl,by kernel_rfl,by kernel_rfl,by kernel_rfl⟩
theorem c163:K (163,124):=⟨Tryz.f163,p124,Tryz.func163,by kernel_rfl,by kernel_rfl,by kernel_rfl,by kernel_rfl⟩
theorem c155:K (155,100):=⟨Tryz.f155,p100,Tryz.func155,by kernel_rfl,by kernel_rfl,by kernel_rfl,by kernel_rfl⟩
theorem c134:K (134,168):=⟨Tryz.f134,p168,Tryz.func134,by kernel_rfl,by kernel_rfl,by kernel_rfl,by kernel_rfl⟩
theorem c73:K (73,149):=⟨Tryz.f73,p149,Tryz.func73,by kernel_rfl,by kernel_rfl,by kernel_rfl,by kernel_rfl⟩
theorem c33:K (33,440):=⟨Tryz.f33,p440,Tryz.func33,by kernel_rfl,by kernel_rfl,by kernel_rfl,by kernel_rfl⟩
theorem c91:K (91,405):=⟨Tryz.f91,p405,Tryz.func91,by kernel_rfl,by kernel_rfl,by kernel_rfl,by kernel_rfl⟩
theorem c93:K (93,416):=⟨Tryz.f93,p416,Tryz.func93,by kernel_rfl,by kernel_rfl,by kernel_rfl,by kernel_rfl⟩
theorem c102:K (102,412):=⟨Tryz.f102,p412,Tryz.func102,by kernel_rfl,by kernel_rfl,by kernel_rfl,by kernel_rfl⟩
theorem c103:K (103,411):=⟨Tryz.f103,p411,Tryz.func103,by kernel_rfl,by kernel_rfl,by kernel_rfl,by kernel_rfl⟩
theorem c137:K (137,421):=⟨Tryz.f137,p421,Tryz.func137,by kernel_rfl,by kernel_rfl,by kernel_rfl,by kernel_rfl⟩
theorem c164:K (164,98):=⟨Tryz.f164,p98,Tryz.func164,by kernel_rfl,by kernel_rfl,by kernel_rfl,by kernel_rfl⟩
theorem c165:K (165,424):=⟨Tryz.f165,p424,Tryz.func165,by kernel_rfl,by kernel_rfl,by kernel_rfl,by kernel_rfl⟩
theorem c157:K (157,417):=⟨Tryz.f157,p417,Tryz.func157,by kernel_rfl,by kernel_rfl,by kernel_rfl,by kernel_rfl⟩
theorem c156:K (156,423):=⟨Tryz.f156,p423,Tryz.func156,by kernel_rfl,by kernel_rfl,by kernel_rfl,by kernel_rfl⟩
theorem c138:K (138,415):=⟨Tryz.f138,p415,Tryz.func138,by kernel_rfl,by kernel_rfl,by kernel_rfl,by kernel_rfl⟩
theorem c160:K (160,453):=⟨Tryz.f160,p453,Tryz.func160,by kernel_rfl,by kernel_rfl,by kernel_rfl,by kernel_rfl⟩
theorem c143:K (143,452):=⟨Tryz.f143,p452,Tryz.func143,by kernel_rfl,by kernel_rfl,by kernel_rfl,by kernel_rfl⟩
theorem c98:K (98,450):=⟨Tryz.f98,p450,Tryz.func98,by kernel_rfl,by kernel_rfl,by kernel_rfl,by kernel_rfl⟩
theorem c46:K (46,447):=⟨Tryz.f46,p447,Tryz.func46,by kernel_rfl,by kernel_rfl,by kernel_rfl,by kernel_rfl⟩
theorem c34:K (34,441):=⟨Tryz.f34,p441,Tryz.func34,by kernel_rfl,by kernel_rfl,by kernel_rfl,by kernel_rfl⟩
theorem c78:K (78,449):=⟨Tryz.f78,p449,Tryz.func78,by kernel_rfl,by kernel_rfl,by kernel_rfl,by kernel_rfl⟩
theorem c35:K (35,442):=⟨Tryz.f35,p442,Tryz.func35,by kernel_rfl,by kernel_rfl,by kernel_rfl,by kernel_rfl⟩
theorem c36:K (36,443):=⟨Tryz.f36,p443,Tryz.func36,by kernel_rfl,by kernel_rfl,by kernel_rfl,by kernel_rfl⟩
theorem c39:K (39,444):=⟨Tryz.f39,p444,Tryz.func39,by kernel_rfl,by kernel_rfl,by kernel_rfl,by kernel_rfl⟩
theorem c92:K (92,406):=⟨Tryz.f92,p406,Tryz.func92,by kernel_rfl,by kernel_rfl,by kernel_rfl,by kernel_rfl⟩
theorem c40:K (40,445):=⟨Tryz.f40,p445,Tryz.func40,by kernel_rfl,by kernel_rfl,by kernel_rfl,by kernel_rfl⟩
theorem c43:K (43,446):=⟨Tryz.f43,p446,Tryz.func43,by kernel_rfl,by kernel_rfl,by kernel_rfl,by kernel_rfl⟩
theorem c5:K (5,456):=⟨Tryz.f5,p456,Tryz.func5,by kernel_rfl,by kernel_rfl,by kernel_rfl,by kernel_rfl⟩
theorem models:Models Tryz.prog (tblOf tab) A:=by
 refine models_of (by kernel_rfl) fun x hx=>?_;simp only[tab,List.mem_cons,List.not_mem_nil,or_false]at hx;rcases hx with rfl|rfl|rfl|rfl|rfl|rfl|rfl|rfl|rfl|rfl|rfl|rfl|rfl|rfl|rfl|rfl|rfl|rfl|rfl|rfl|rfl|rfl|rfl|rfl|rfl|rfl|rfl|rfl|rfl|rfl|rfl|rfl|rfl|rfl|rfl|rfl|rfl|rfl|rfl|rfl|rfl|rfl|rfl|rfl|rfl|rfl|rfl|rfl|rfl|rfl|rfl|rfl|rfl|rfl|rfl|rfl|rfl|rfl|rfl|rfl|rfl|rfl|rfl|rfl|rfl|rfl|rfl|rfl|rfl|rfl|rfl|rfl|rfl|rfl|rfl|rfl|rfl|rfl|rfl|rfl|rfl|rfl|rfl|rfl|rfl|rfl|rfl|rfl|rfl|rfl|rfl|rfl|rfl|rfl|rfl|rfl|rfl|rfl|rfl|rfl|rfl|rfl|rfl|rfl|rfl|rfl|rfl|rfl|rfl|rfl|rfl|rfl|rfl|rfl|rfl|rfl|rfl|rfl|rfl|rfl|rfl|rfl|rfl|rfl
 ·exact c82
 ·exact c140
 ·exact c141
 ·exact c108
 ·exact c54
 ·exact c96
 ·exact c110
 ·exact c142
 ·exact c97
 ·exact c42
 ·exact c89
 ·exact c118
 ·exact c136
 ·exact c87
 ·exact c75
 ·exact c104
 ·exact c131
 ·exact c132
 ·exact c64
 ·exact c162
 ·exact c153
 ·exact c152
 ·exact c123
 ·exact c151
 ·exact c121
 ·exact c146
 ·exact c106
 ·exact c154
 ·exact c133
 ·exact c72
 ·exact c76
 ·exact c80
 ·exact c77
 ·exact c122
 ·exact c94
 ·exact c158
 ·exact c159
 ·exact c139
 ·exact c95
 ·exact c41
 ·exact c88
 ·exact c90
 ·exact c38
 ·exact c6
 ·exact c55
 ·exact c10
 ·exact c135
 ·exact c86
 ·exact c37
 ·exact c124
 ·exact c125
 ·exact c126
 ·exact c62
 ·exact c113
 ·exact c115
 ·exact c74
 ·exact c79
 ·exact c114
 ·exact c57
 ·exact c129
 ·exact c127
 ·exact c63
 ·exact c128
 ·exact c70
 ·exact c67
 ·exact c59
 ·exact c60
 ·exact c100
 ·exact c99
 ·exact c101
 ·exact c44
 ·exact c47
 ·exact c68
 ·exact c26
 ·exact c32
 ·exact c109
 ·exact c85
 ·exact c84
 ·exact c81
 ·exact c111
 ·exact c149
 ·exact c147
 ·exact c148
 ·exact c107
 ·exact c117
 ·exact c83
 ·exact c116
 ·exact c58
 ·exact c51
 ·exact c52
 ·exact c65
 ·exact c69
 ·exact c130
 ·exact c71
 ·exact c45
 ·exact c166
 ·exact c163
 ·exact c155
 ·exact c134
 ·exact c73
 ·exact c33
 ·exact c91
 ·exact c93
 ·exact c102
 ·exact c103
 ·exact c137
 ·exact c164
 ·exact c165
 ·exact c157
 ·exact c156
 ·exact c138
 ·exact c160
 ·exact c143
 ·exact c98
 ·exact c46
 ·exact c34
 ·exact c78
 ·exact c35
 ·exact c36
 ·exact c39
 ·exact c92
 ·exact c40
 ·exact c43
 ·exact c5
end Rv.Pf
