/- The abstract code is what the translated functions are compiled to. -/
import Derived.Test.YtgiabfngopkpmaaGreatPpp
import Derived.Test.YtgiabfngopkpmaaGreatChecked
import Derived.KernelRfl
namespace Rv.Pp
open Go.Proofs
set_option maxRecDepth 100000
def tab:List (Nat×Nat):=[(27,30),(28,31),(29,32),(82,253),(157,291),(83,254),(84,255),(25,229),(77,54),(117,106),(118,107),(48,65),(81,81),(108,104),(153,127),(109,105),(43,78),(116,181),(215,210),(181,197),(182,198),(154,199),(115,180),(47,158),(207,79),(205,80),(163,39),(198,99),(164,76),(165,77),(94,38),(75,247),(155,290),(79,252),(152,94),(204,136),(202,134),(203,135),(151,131),(201,122),(199,310),(200,311),(150,280),(156,281),(80,279),(78,330),(76,329),(24,364),(113,72),(61,73),(66,74),(114,75),(46,36),(86,56),(69,86),(63,89),(41,69),(42,70),(39,67),(179,195),(180,196),(110,176),(88,177),(111,178),(112,179),(45,157),(183,115),(120,82),(128,87),(129,88),(217,130),(189,129),(188,116),(134,128),(187,117),(130,90),(148,119),(70,91),(190,118),(131,92),(60,42),(121,83),(123,84),(122,85),(51,41),(58,166),(133,96),(135,137),(136,138),(137,139),(64,133),(71,102),(186,125),(172,202),(216,211),(185,203),(126,184),(91,185),(206,123),(160,101),(159,205),(158,204),(85,187),(90,188),(89,256),(87,257),(26,365),(4,387)]
theorem c27:FnOK Tryz.prog (tblOf tab) A (27,30):=⟨Tryz.f27,p30,Tryz.func27,by kernel_rfl,by kernel_rfl,by kernel_rfl,by kernel_rfl⟩
theorem c28:FnOK Tryz.prog (tblOf tab) A (28,31):=⟨Tryz.f28,p31,Tryz.func28,by kernel_rfl,by kernel_rfl,by kernel_rfl,by kernel_rfl⟩
theorem c29:FnOK Tryz.prog (tblOf tab) A (29,32):=⟨Tryz.f29,p32,Tryz.func29,by kernel_rfl,by kernel_rfl,by kernel_rfl,by kernel_rfl⟩
theorem c82:FnOK Tryz.prog (tblOf tab) A (82,253):=⟨Tryz.f82,p253,Tryz.func82,by kernel_rfl,by kernel_rfl,by kernel_rfl,by kernel_rfl⟩
theorem c157:FnOK Tryz.prog (tblOf tab) A (157,291):=⟨Tryz.f157,p291,Tryz.func157,by kernel_rfl,by kernel_rfl,by kernel_rfl,by kernel_rfl⟩
theorem c83:FnOK Tryz.prog (tblOf tab) A (83,254):=⟨Tryz.f83,p254,Tryz.func83,by kernel_rfl,by kernel_rfl,by kernel_rfl,by kernel_rfl⟩
theorem c84:FnOK Tryz.prog (tblOf tab) A (84,255):=⟨Tryz.f84,p255,Tryz.func84,by kernel_rfl,by kernel_rfl,by kernel_rfl,by kernel_rfl⟩
theorem c25:FnOK Tryz.prog (tblOf tab) A (25,229):=⟨Tryz.f25,p229,Tryz.func25,by kernel_rfl,by kernel_rfl,by kernel_rfl,by kernel_rfl⟩
theorem c77:FnOK Tryz.prog (tblOf tab) A (77,54):=⟨Tryz.f77,p54,Tryz.func77,by kernel_rfl,by kernel_rfl,by kernel_rfl,by kernel_rfl⟩
theorem c117:FnOK Tryz.prog (tblOf tab) A (117,106):=⟨Tryz.f117,p106,Tryz.func117,by kernel_rfl,by kernel_rfl,by kernel_rfl,by kernel_rfl⟩
theorem c118:FnOK Tryz.prog (tblOf tab) A (118,107):=⟨Tryz.f118,p107,Tryz.func118,by kernel_rfl,by kernel_rfl,by kernel_rfl,by kernel_rfl⟩
theorem c48:FnOK Tryz.prog (tblOf tab) A (48,65):=⟨Tryz.f48,p65,Tryz.func48,by kernel_rfl,by kernel_rfl,by kernel_rfl,by kernel_rfl⟩
theorem c81:FnOK Tryz.prog (tblOf tab) A (81,81):=⟨Tryz.f81,p81,Tryz.func81,by kernel_rfl,by kernel_rfl,by kernel_rfl,by kernel_rfl⟩
theorem c108:FnOK Tryz.prog (tblOf tab) A (108,104):=⟨Tryz.f108,p104,Tryz.func108,by kernel_rfl,by kernel_rfl,by kernel_rfl,by kernel_rfl⟩
theorem c153:FnOK Tryz.prog (tblOf tab) A (153,127):=⟨Tryz.f153,p127,Tryz.func153,by kernel_rfl,by kernel_rfl,by kernel_rfl,by kernel_rfl⟩
theorem c109:FnOK Tryz.prog (tblOf tab) A (109,105):=⟨Tryz.f109,p105,Tryz.func109,by kernel_rfl,by kernel_rfl,by kernel_rfl,by kernel_rfl⟩
theorem c43:FnOK Tryz.prog (tblOf tab) A (43,78):=⟨Tryz.f43,p78,Tryz.func43,by kernel_rfl,by kernel_rfl,by kernel_rfl,by kernel_rfl⟩
theorem c116:FnOK Tryz.prog (tblOf tab) A (116,181):=⟨Tryz.f116,p181,Tryz.func116,by kernel_rfl,by kernel_rfl,by kernel_rfl,by kernel_rfl⟩
theorem c215:FnOK Tryz.prog (tblOf tab) A (215,210):=⟨Tryz.f215,p210,Tryz.func215,by kernel_rfl,by kernel_rfl,by kernel_rfl,by kernel_rfl⟩
theorem c181:FnOK Tryz.prog (tblOf tab) A (181,197):=⟨Tryz.f181,p197,Tryz.func181,by kernel_rfl,by kernel_rfl,by kernel_rfl,by kernel_rfl⟩
theorem c182:FnOK Tryz.prog (tblOf tab) A (182,198):=⟨Tryz.f182,p198,Tryz.func182,by kernel_rfl,by kernel_rfl,by kernel_rfl,by kernel_rfl⟩
theorem c154:FnOK Tryz.prog (tblOf tab) A (154,199):=⟨Tryz.f154,p199,Tryz.func154,by kernel_rfl,by kernel_rfl,by kernel_rfl,by kernel_rfl⟩
theorem c115:FnOK Tryz.prog (tblOf tab) A (115,180):=⟨Tryz.f115,p180,Tryz.func115,by kernel_rfl,by kernel_rfl,by kernel_rfl,by kernel_rfl⟩
theorem c47:FnOK Tryz.prog (tblOf tab) A (47,158):=⟨Tryz.f47,p158,Tryz.func47,by kernel_rfl,by kernel_rfl,by kernel_rfl,by kernel_rfl⟩
theorem c207:FnOK Tryz.prog (tblOf tab) A (207,79):=⟨Tryz.f207,p79,Tryz.func207,by kernel_rfl,by kernel_rfl,by kernel_rfl,by kernel_rfl⟩
theorem c205:FnOK Tryz.prog (tblOf tab) A (205,80):=⟨Tryz.f205,p80,Tryz.func205,by kernel_rfl,by kernel_rfl,by kernel_rfl,by kernel_rfl⟩
theorem c163:FnOK Tryz.prog (tblOf tab) A (163,39):=⟨Tryz.f163,p39,Tryz.func163,by kernel_rfl,by kernel_rfl,by kernel_rfl,by kernel_rfl⟩
theorem c198:FnOK Tryz.prog (tblOf tab) A (198,99):=⟨Tryz.f198,p99,Tryz.func198,by kernel_rfl,by kernel_rfl,by kernel_rfl,by kernel_rfl⟩
theorem c164:FnOK Tryz.prog (tblOf tab) A (164,76):=⟨Tryz.f164,p76,Tryz.func164,by kernel_rfl,by kernel_rfl,by kernel_rfl,by kernel_rfl⟩
theorem c165:FnOK Tryz.prog (tblOf tab) A (165,77):=⟨Tryz.f165,p77,Tryz.func165,by kernel_rfl,by kernel_rfl,by kernel_rfl,by kernel_rfl⟩
theorem c94:FnOK Tryz.prog (tblOf tab) A (94,38):=⟨Tryz.f94,p38,Tryz.func94,by kernel_rfl,by kernel_rfl,by kernel_rfl,by kernel_rfl⟩
theorem c75:FnOK Tryz.prog (tblOf tab) A (75,247):=⟨Tryz.f75,p247,Tryz.func75,by kernel_rfl,by kernel_rfl,by kernel_rfl,by kernel_rfl⟩
theorem c155:FnOK Tryz.prog (tblOf tab) A (155,290):=⟨Tryz.f155,p290,Tryz.func155,by kernel_rfl,by kernel_rfl,by kernel_rfl,by kernel_rfl⟩
theorem c79:FnOK Tryz.prog (tblOf tab) A (79,252):=⟨Tryz.f79,p252,Tryz.func79,by kernel_rfl,by kernel_rfl,by kernel_rfl,by kernel_rfl⟩
theorem c152:FnOK Tryz.prog (tblOf tab) A (152,94):=⟨Tryz.f152,p94,Tryz.func152,by kernel_rfl,by kernel_rfl,by kernel_rfl,by kernel_rfl⟩
theorem c204:FnOK Tryz.prog (tblOf tab) A (204,136):=⟨Tryz.f204,p136,Tryz.func204,by kernel_rfl,by kernel_rfl,by kernel_rfl,by kernel_rfl⟩
theorem c202:FnOK Tryz.prog (tblOf tab) A (202,134):=⟨Tryz.f202,p134,Tryz.func202,by kernel_rfl,by kernel_rfl,by kernel_rfl,by kernel_rfl⟩
theorem c203:FnOK Tryz.prog (tblOf tab) A (203,135):=⟨Tryz.f203,p135,Tryz.func203,by kernel_rfl,by kernel_rfl,by kernel_rfl,by kernel_rfl⟩
theorem c151:FnOK Tryz.prog (tblOf tab) A (151,131):=⟨Tryz.f151,p131,Tryz.func151,by kernel_rfl,by kernel_rfl,by kernel_rfl,by kernel_rfl⟩
theorem c201:FnOK Tryz.prog (tblOf tab) A (201,122):=⟨Tryz.f201,p122,Tryz.func201,by kernel_rfl,by kernel_rfl,by kernel_rfl,by kernel_rfl⟩
theorem c199:FnOK Tryz.prog (tblOf tab) A (199,310):=⟨Tryz.f199,p310,Tryz.func199,by kernel_rfl,by kernel_rfl,by kernel_rfl,by kernel_rfl⟩
theorem c200:FnOK Tryz.prog (tblOf tab) A (200,311):=⟨Tryz.f200,p311,Tryz.func200,by kernel_rfl,by kernel_rfl,by kernel_rfl,by kernel_rfl⟩
theorem c150:FnOK Tryz.prog (tblOf tab) A (150,280):=⟨Tryz.f150,p280,Tryz.func150,by kernel_rfl,by kernel_rfl,by kernel_rfl,by kernel_rfl⟩
theorem c156:FnOK Tryz.prog (tblOf tab) A (156,281):=⟨Tryz.f156,p281,Tryz.func156,by kernel_rfl,by kernel_rfl,by kernel_rfl,by kernel_rfl⟩
theorem c80:FnOK Tryz.prog (tblOf tab) A (80,279):=⟨Tryz.f80,p279,Tryz.func80,by kernel_rfl,by kernel_rfl,by kernel_rfl,by kernel_rfl⟩
theorem c78:FnOK Tryz.prog (tblOf tab) A (78,330):=⟨Tryz.f78,p330,Tryz.func78,by kernel_rfl,by kernel_rfl,by kernel_rfl,by kernel_rfl⟩
theorem c76:FnOK Tryz.prog (tblOf tab) A (76,329):=⟨Tryz.f76,p329,Tryz.func76,by kernel_rfl,by kernel_rfl,by kernel_rfl,by kernel_rfl⟩
theorem c24:FnOK Tryz.prog (tblOf tab) A (24,364):=⟨Tryz.f24,p364,Tryz.func24,by kernel_rfl,by kernel_rfl,by kernel_rfl,by kernel_rfl⟩
theorem c113:FnOK Tryz.prog (tblOf tab) A (113,72):=⟨Tryz.f113,p72,Tryz.func113,by kernel_rfl,by kernel_rfl,by kernel_rfl,by kernel_rfl⟩
theorem c61:FnOK Tryz.prog (tblOf tab) A (61,73):=⟨Tryz.f61,p73,Tryz.func61,by kernel_rfl,by kernel_rfl,by kernel_rfl,by kernel_rfl⟩
theorem c66:FnOK Tryz.prog (tblOf tab) A (66,74):=⟨Tryz.f66,p74,Tryz.func66,by kernel_rfl,by kernel_rfl,by kernel_rfl,by kernel_rfl⟩
theorem c114:FnOK Tryz.prog (tblOf tab) A (114,75):=⟨Tryz.f114,p75,Tryz.func114,by kernel_rfl,by kernel_rfl,by kernel_rfl,by kernel_rfl⟩
theorem c46:FnOK Tryz.prog (tblOf tab) A (46,36):=⟨Tryz.f46,p36,Tryz.func46,by kernel_rfl,by kernel_rfl,by kernel_rfl,by kernel_rfl⟩
theorem c86:FnOK Tryz.prog (tblOf tab) A (86,56):=⟨Tryz.f86,p56,Tryz.func86,by kernel_rfl,by kernel_rfl,by kernel_rfl,by kernel_rfl⟩
theorem c69:FnOK Tryz.prog (tblOf tab) A (69,86):=⟨Tryz.f69,p86,Tryz.func69,by kernel_rfl,by kernel_rfl,by kernel_rfl,by kernel_rfl⟩
theorem c63:FnOK Tryz.prog (tblOf tab) A (63,89):=⟨Tryz.f63,p89,Tryz.func63,by kernel_rfl,by kernel_rfl,by kernel_rfl,by kernel_rfl⟩
theorem c41:FnOK Tryz.prog (tblOf tab) A (41,69):=⟨Tryz.f41,p69,Tryz.func41,by kernel_rfl,by kernel_rfl,by kernel_rfl,by kernel_rfl⟩
theorem c42:FnOK Tryz.prog (tblOf tab) A (42,70):=⟨Tryz.f42,p70,Tryz.func42,by kernel_rfl,by kernel_rfl,by kernel_rfl,by kernel_rfl⟩
theorem c39:FnOK Tryz.prog (tblOf tab) A (39,67):=⟨Tryz.f39,p67,Tryz.func39,by kernel_rfl,by kernel_rfl,by kernel_rfl,by kernel_rfl⟩
theorem c179:FnOK Tryz.prog (tblOf tab) A (179,195):=⟨Tryz.f179,p195,Tryz.func179,by kernel_rfl,by kernel_rfl,by kernel_rfl,by kernel_rfl⟩
theorem c180:FnOK Tryz.prog (tblOf tab) A (180,196):=⟨Tryz.f180,p196,Tryz.func180,by kernel_rfl,by kernel_rfl,by kernel_rfl,by kernel_rfl⟩
theorem c110:FnOK Tryz.prog (tblOf tab) A (110,176):=⟨Tryz.f110,p176,Tryz.func110,by kernel_rfl,by kernel_rfl,by kernel_rfl,by kernel_rfl⟩
theorem c88:FnOK Tryz.prog (tblOf tab) A (88,177):=⟨Tryz.f88,p177,Tryz.func88,by kernel_rfl,by kernel_rfl,by kernel_rfl,by kernel_rfl⟩
theorem c111:FnOK Tryz.prog (tblOf tab) A (111,178):=⟨Tryz.f111,p178,Tryz.func111,by kernel_rfl,by kernel_rfl,by kernel_rfl,by kernel_rfl⟩
theorem c112:FnOK Tryz.prog (tblOf tab) A (112,179):=⟨Tryz.f112,p179,Tryz.func112,by kernel_rfl,by kernel_rfl,by kernel_rfl,by kernel_rfl⟩
theorem c45:FnOK Tryz.prog (tblOf tab) A (45,157):=⟨Tryz.f45,p157,Tryz.func45,by kernel_rfl,by kernel_rfl,by kernel_rfl,by kernel_rfl⟩
theorem c183:FnOK Tryz.prog (tblOf tab) A (183,115):=⟨Tryz.f183,p115,Tryz.func183,by kernel_rfl,by kernel_rfl,by kernel_rfl,by kernel_rfl⟩
theorem c120:FnOK Tryz.prog (tblOf tab) A (120,82):=⟨Tryz.f120,p82,Tryz.func120,by kernel_rfl,by kernel_rfl,by kernel_rfl,by kernel_rfl⟩
theorem c128:FnOK Tryz.prog (tblOf tab) A (128,87):=⟨Tryz.f128,p87,Tryz.func128,by kernel_rfl,by kernel_rfl,by kernel_rfl,by kernel_rfl⟩
theorem c129:FnOK Tryz.prog (tblOf tab) A (129,88):=⟨Tryz.f129,p88,Tryz.func129,by kernel_rfl,by kernel_rfl,by kernel_rfl,by kernel_rfl⟩
theorem c217:FnOK Tryz.prog (tblOf tab) A (217,130):=⟨Tryz.f217,p130,Tryz.func217,by kernel_rfl,by kernel_rfl,by kernel_rfl,by kernel_rfl⟩
theorem c189:FnOK Tryz.prog (tblOf tab) A (189,129):=⟨Tryz.f189,p129,Tryz.func189,by kernel_rfl,by kernel_rfl,by kernel_rfl,by kernel_rfl⟩
theorem c188:FnOK Tryz.prog (tblOf tab) A (188,116):=⟨Tryz.f188,p116,Tryz.func188,by kernel_rfl,by kernel_rfl,by kernel_rfl,by kernel_rfl⟩
theorem c134:FnOK Tryz.prog (tblOf tab) A (134,128):=⟨Tryz.f134,p128,Tryz.func134,by kernel_rfl,by kernel_rfl,by kernel_rfl,by kernel_rfl⟩
theorem c187:FnOK Tryz.prog (tblOf tab) A (187,117):=⟨Tryz.f187,p117,Tryz.func187,by kernel_rfl,by kernel_rfl,by kernel_rfl,by kernel_rfl⟩
theorem c130:FnOK Tryz.prog (tblOf tab) A (130,90):=⟨Tryz.f130,p90,Tryz.func130,by kernel_rfl,by kernel_rfl,by kernel_rfl,by kernel_rfl⟩
theorem c148:FnOK Tryz.prog (tblOf tab) A (148,119):=⟨Tryz.f148,p119,Tryz.func148,by kernel_rfl,by kernel_rfl,by kernel_rfl,by kernel_rfl⟩
theorem c70:FnOK Tryz.prog (tblOf tab) A (70,91):=⟨Tryz.f70,p91,Tryz.func70,by kernel_rfl,by kernel_rfl,by kernel_rfl,by kernel_rfl⟩
theorem c190:FnOK Tryz.prog (tblOf tab) A (190,118):=⟨Tryz.f190,p118,Tryz.func190,by kernel_rfl,by kernel_rfl,by kernel_rfl,by kernel_rfl⟩
theorem c131:FnOK Tryz.prog (tblOf tab) A (131,92):=⟨Tryz.f131,p92,Tryz.func131,by kernel_rfl,by kernel_rfl,by kernel_rfl,by kernel_rfl⟩
theorem c60:FnOK Tryz.prog (tblOf tab) A (60,42):=⟨Tryz.f60,p42,Tryz.func60,by kernel_rfl,by kernel_rfl,by kernel_rfl,by kernel_rfl⟩
theorem c121:FnOK Tryz.prog (tblOf tab) A (121,83):=⟨Tryz.f121,p83,Tryz.func121,by kernel_rfl,by kernel_rfl,by kernel_rfl,by kernel_rfl⟩
theorem c123:FnOK Tryz.prog (tblOf tab) A (123,84):=⟨Tryz.f123,p84,Tryz.func123,by kernel_rfl,by kernel_rfl,by kernel_rfl,by kernel_rfl⟩
theorem c122:FnOK Tryz.prog (tblOf tab) A (122,85):=⟨Tryz.f122,p85,Tryz.func122,by kernel_rfl,by kernel_rfl,by kernel_rfl,by kernel_rfl⟩
theorem c51:FnOK Tryz.prog (tblOf tab) A (51,41):=⟨Tryz.f51,p41,Tryz.func51,by kernel_rfl,by kernel_rfl,by kernel_rfl,by kernel_rfl⟩
theorem c58:FnOK Tryz.prog (tblOf tab) A (58,166):=⟨Tryz.f58,p166,Tryz.func58,by kernel_rfl,by kernel_rfl,by kernel_rfl,by kernel_rfl⟩
theorem c133:FnOK Tryz.prog (tblOf tab) A (133,96):=⟨Tryz.f133,p96,Tryz.func133,by kernel_rfl,by kernel_rfl,by kernel_rfl,by kernel_rfl⟩
theorem c135:FnOK Tryz.prog (tblOf tab) A (135,137):=⟨Tryz.f135,p137,Tryz.func135,by kernel_rfl,by kernel_rfl,by kernel_rfl,by kernel_rfl⟩
theorem c136:FnOK Tryz.prog (tblOf tab) A (136,138):=⟨Tryz.f136,p138,Tryz.func136,by kernel_rfl,by kernel_rfl,by kernel_rfl,by kernel_rfl⟩
theorem c137:FnOK Tryz.prog (tblOf tab) A (137,139):=⟨Tryz.f137,p139,Tryz.func137,by kernel_rfl,by kernel_rfl,by kernel_rfl,by kernel_rfl⟩
theorem c64:FnOK Tryz.prog (tblOf tab) A (64,133):=⟨Tryz.f64,p133,Tryz.func64,by kernel_rfl,by kernel_rfl,by kernel_rfl,by kernel_rfl⟩
theorem c71:FnOK Tryz.prog (tblOf tab) A (71,102):=⟨Tryz.f71,p102,Tryz.func71,by kernel_rfl,by kernel_rfl,by kernel_rfl,by kernel_rfl⟩
theorem c186:FnOK Tryz.prog (tblOf tab) A (186,125):=⟨Tryz.f186,p125,Tryz.func186,by kernel_rfl,by kernel_rfl,by kernel_rfl,by kernel_rfl⟩
theorem c172:FnOK Tryz.prog (tblOf tab) A (172,202):=⟨Tryz.f172,p202,Tryz.func172,by kernel_rfl,by kernel_rfl,by kernel_rfl,by kernel_rfl⟩
theorem c216:FnOK Tryz.prog (tblOf tab) A (216,211):=⟨Tryz.f216,p211,Tryz.func216,by kernel_rfl,by kernel_rfl,by kernel_rfl,by kernel_rfl⟩
theorem c185:FnOK Tryz.prog (tblOf tab) A (185,203):=⟨Tryz.f185,p203,Tryz.func185,by kernel_rfl,by kernel_rfl,by kernel_rfl,by kernel_rfl⟩
theorem c126:FnOK Tryz.prog (tblOf tab) A (126,184):=⟨Tryz.f126,p184,Tryz.func126,by kernel_rfl,by kernel_rfl,by kernel_rfl,by kernel_rfl⟩
theorem c91:FnOK Tryz.prog (tblOf tab) A (91,185):=⟨Tryz.f91,p185,Tryz.func91,by kernel_rfl,by kernel_rfl,by kernel_rfl,by kernel_rfl⟩
theorem c206:FnOK Tryz.prog (tblOf tab) A (206,123):=⟨Tryz.f206,p123,Tryz.func206,by kernel_rfl,by kernel_rfl,by kernel_rfl,by kernel_rfl⟩
theorem c160:FnOK Tryz.prog (tblOf tab) A (160,101):=⟨Tryz.f160,p101,Tryz.func160,by kernel_rfl,by kernel_rfl,by kernel_rfl,by kernel_rfl⟩
theorem c159:FnOK Tryz.prog (tblOf tab) A (159,205):=⟨Tryz.f159,p205,Tryz.func159,by kernel_rfl,by kernel_rfl,by kernel_rfl,by kernel_rfl⟩
theorem c158:FnOK Tryz.prog (tblOf tab) A (158,204):=⟨Tryz.f158,p204,Tryz.func158,by kernel_rfl,by kernel_rfl,by kernel_rfl,by kernel_rfl⟩
theorem c85:FnOK Tryz.prog (tblOf tab) A (85,187):=⟨Tryz.f85,p187,Tryz.func85,by kernel_rfl,by kernel_rfl,by kernel_rfl,by kernel_rfl⟩
theorem c90:FnOK Tryz.prog (tblOf tab) A (90,188):=⟨Tryz.f90,p188,Tryz.func90,by kernel_rfl,by kernel_rfl,by kernel_rfl,by kernel_rfl⟩
theorem c89:FnOK Tryz.prog (tblOf tab) A (89,256):=⟨Tryz.f89,p256,Tryz.func89,by kernel_rfl,by kernel_rfl,by kernel_rfl,by kernel_rfl⟩
theorem c87:FnOK Tryz.prog (tblOf tab) A (87,257):=⟨Tryz.f87,p257,Tryz.func87,by kernel_rfl,by kernel_rfl,by kernel_rfl,by kernel_rfl⟩
theorem c26:FnOK Tryz.prog (tblOf tab) A (26,365):=⟨Tryz.f26,p365,Tryz.func26,by kernel_rfl,by kernel_rfl,by kernel_rfl,by kernel_rfl⟩
theorem c4:FnOK Tryz.prog (tblOf tab) A (4,387):=⟨Tryz.f4,p387,Tryz.func4,by kernel_rfl,by kernel_rfl,by kernel_rfl,by kernel_rfl⟩
theorem models:Models Tryz.prog (tblOf tab) A:=by
 refine models_of (by kernel_rfl) fun x hx=>?_;simp only[tab,List.mem_cons,List.not_mem_nil,or_false]at hx;rcases hx with rfl|rfl|rfl|rfl|rfl|rfl|rfl|rfl|rfl|rfl|rfl|rfl|rfl|rfl|rfl|rfl|rfl|rfl|rfl|rfl|rfl|rfl|rfl|rfl|rfl|rfl|rfl|rfl|rfl|rfl|rfl|rfl|rfl|rfl|rfl|rfl|rfl|rfl|rfl|rfl|rfl|rfl|rfl|rfl|rfl|rfl|rfl|rfl|rfl|rfl|rfl|rfl|rfl|rfl|rfl|rfl|rfl|rfl|rfl|rfl|rfl|rfl|rfl|rfl|rfl|rfl|rfl|rfl|rfl|rfl|rfl|rfl|rfl|rfl|rfl|rfl|rfl|rfl|rfl|rfl|rfl|rfl|rfl|rfl|rfl|rfl|rfl|rfl|rfl|rfl|rfl|rfl|rfl|rfl|rfl|rfl|rfl|rfl|rfl|rfl|rfl|rfl|rfl|rfl|rfl|rfl|rfl|rfl
 ·exact c27
 ·exact c28
 ·exact c29
 ·exact c82
 ·exact c157
 ·exact c83
 ·exact c84
 ·exact c25
 ·exact c77
 ·exact c117
 ·exact c118
 ·exact c48
 ·exact c81
 ·exact c108
 ·exact c153
 ·exact c109
 ·exact c43
 ·exact c116
 ·exact c215
 ·exact c181
 ·exact c182
 ·exact c154
 ·exact c115
 ·exact c47
 ·exact c207
 ·exact c205
 ·exact c163
 ·exact c198
 ·exact c164
 ·exact c165
 ·exact c94
 ·exact c75
 ·exact c155
 ·exact c79
 ·exact c152
 ·exact c204
 ·exact c202
 ·exact c203
 ·exact c151
 ·exact c201
 ·exact c199
 ·exact c200
 ·exact c150
 ·exact c156
 ·exact c80
 ·exact c78
 ·exact c76
 ·exact c24
 ·exact c113
 ·exact c61
 ·exact c66
 ·exact c114
 ·exact c46
 ·exact c86
 ·exact c69
 ·exact c63
 ·exact c41
 ·exact c42
 ·exact c39
 ·exact c179
 ·exact c180
 ·exact c110
 ·exact c88
 ·exact c111
 ·exact c112
 ·exact c45
 ·exact c183
 ·exact c120
 ·exact c128
 ·exact c129
 ·exact c217
 ·exact c189
 ·exact c188
 ·exact c134
 ·exact c187
 ·exact c130
 ·exact c148
 ·exact c70
 ·exact c190
 ·exact c131
 ·exact c60
 ·exact c121
 ·exact c123
 ·exact c122
 ·exact c51
 ·exact c58
 ·exact c133
 ·exact c135
 ·exact c136
 ·exact c137
 ·exact c64
 ·exact c71
 ·exact c186
 ·exact c172
 ·exact c216
 ·exact c185
 ·exact c126
 ·exact c91
 ·exact c206
 ·exact c160
 ·exact c159
 ·exact c158
 ·exact c85
 ·exact c90
 ·exact c89
 ·exact c87
 ·exact c26
 ·exact c4
end Rv.Pp
