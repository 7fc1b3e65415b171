/- The abstract code is what the translated functions are compiled to. -/
import Derived.Test.YtgiabfngopkpmaaGreatTpp
import Derived.Test.YtgiabfngopkpmaaGreatChecked
import Derived.KernelRfl
namespace Rv.Tp
open Go.Proofs
set_option maxRecDepth 100000
def tab:List (Nat×Nat):=[(39,67),(41,69),(61,73),(40,68),(42,70),(9,34),(6,140),(7,141),(8,142),(108,104),(153,127),(109,105),(44,64),(43,78),(10,143),(113,72),(66,74),(114,75),(46,36),(86,56),(179,195),(180,196),(110,176),(88,177),(111,178),(112,179),(45,157),(11,144),(117,106),(118,107),(48,65),(77,54),(116,181),(215,210),(181,197),(182,198),(154,199),(115,180),(47,158),(12,145),(23,156),(50,160),(119,182),(49,159),(13,146),(183,115),(120,82),(69,86),(128,87),(129,88),(63,89),(217,130),(189,129),(188,116),(134,128),(187,117),(130,90),(148,119),(70,91),(190,118),(131,92),(60,42),(121,83),(123,84),(122,85),(51,41),(133,96),(135,137),(136,138),(137,139),(64,133),(71,102),(186,125),(172,202),(216,211),(185,203),(126,184),(127,186),(184,201),(125,200),(124,183),(53,161),(52,162),(91,185),(56,169),(55,163),(54,164),(57,165),(14,147),(58,166),(59,167),(15,148),(140,132),(142,124),(132,100),(62,168),(16,149),(17,150),(18,151),(206,123),(160,101),(159,205),(158,204),(85,187),(90,188),(65,170),(19,152),(20,153),(218,126),(191,103),(139,63),(138,189),(141,190),(72,173),(143,191),(67,171),(21,154),(144,49),(194,57),(146,50),(74,175),(149,194),(192,206),(193,207),(145,192),(73,174),(219,212),(195,208),(197,213),(196,209),(147,193),(68,172),(22,155),(3,214)]
abbrev K(x:Nat×Nat):Prop:=FnOK Tryz.prog (tblOf tab) A x
theorem c39:K (39,67):=⟨Tryz.f39,p67,Tryz.func39,by kernel_rfl,by kernel_rfl,by kernel_rfl,by kernel_rfl⟩
theorem c41:K (41,69):=⟨Tryz.f41,p69,Tryz.func41,by kernel_rfl,by kernel_rfl,by kernel_rfl,by kernel_rfl⟩
theorem c61:K (61,73):=⟨Tryz.f61,p73,Tryz.func61,by kernel_rfl,by kernel_rfl,by kernel_rfl,by kernel_rfl⟩
theorem c40:K (40,68):=⟨Tryz.f40,p68,Tryz.func40,by kernel_rfl,by kernel_rfl,by kernel_rfl,by kernel_rfl⟩
theorem c42:K (42,70):=⟨Tryz.f42,p70,Tryz.func42,by kernel_rfl,by kernel_rfl,by kernel_rfl,by kernel_rfl⟩
theorem c9:K (9,34):=⟨Tryz.f9,p34,Tryz.func9,by kernel_rfl,by kernel_rfl,by kernel_rfl,by kernel_rfl⟩
theorem c6:K (6,140):=⟨Tryz.f6,p140,Tryz.func6,by kernel_rfl,by kernel_rfl,by kernel_rfl,by kernel_rfl⟩
theorem c7:K (7,141):=⟨Tryz.f7,p141,Tryz.func7,by kernel_rfl,by kernel_rfl,by kernel_rfl,by kernel_rfl⟩
theorem c8:K (8,142):=⟨Tryz.f8,p142,Tryz.func8,by kernel_rfl,by kernel_rfl,by kernel_rfl,by kernel_rfl⟩
theorem c108:K (108,104):=⟨Tryz.f108,p104,Tryz.func108,by kernel_rfl,by kernel_rfl,by kernel_rfl,by kernel_rfl⟩
theorem c153:K (153,127):=⟨Tryz.f153,p127,Tryz.func153,by kernel_rfl,by kernel_rfl,by kernel_rfl,by kernel_rfl⟩
theorem c109:K (109,105):=⟨Tryz.f109,p105,Tryz.func109,by kernel_rfl,by kernel_rfl,by kernel_rfl,by kernel_rfl⟩
theorem c44:K (44,64):=⟨Tryz.f44,p64,Tryz.func44,by kernel_rfl,by kernel_rfl,by kernel_rfl,by kernel_rfl⟩
theorem c43:K (43,78):=⟨Tryz.f43,p78,Tryz.func43,by kernel_rfl,by kernel_rfl,by kernel_rfl,by kernel_rfl⟩
theorem c10:K (10,143):=⟨Tryz.f10,p143,Tryz.func10,by kernel_rfl,by kernel_rfl,by kernel_rfl,by kernel_rfl⟩
theorem c113:K (113,72):=⟨Tryz.f113,p72,Tryz.func113,by kernel_rfl,by kernel_rfl,by kernel_rfl,by kernel_rfl⟩
theorem c66:K (66,74):=⟨Tryz.f66,p74,Tryz.func66,by kernel_rfl,by kernel_rfl,by kernel_rfl,by kernel_rfl⟩
theorem c114:K (114,75):=⟨Tryz.f114,p75,Tryz.func114,by kernel_rfl,by kernel_rfl,by kernel_rfl,by kernel_rfl⟩
theorem c46:K (46,36):=⟨Tryz.f46,p36,Tryz.func46,by kernel_rfl,by kernel_rfl,by kernel_rfl,by kernel_rfl⟩
theorem c86:K (86,56):=⟨Tryz.f86,p56,Tryz.func86,by kernel_rfl,by kernel_rfl,by kernel_rfl,by kernel_rfl⟩
theorem c179:K (179,195):=⟨Tryz.f179,p195,Tryz.func179,by kernel_rfl,by kernel_rfl,by kernel_rfl,by kernel_rfl⟩
theorem c180:K (180,196):=⟨Tryz.f180,p196,Tryz.func180,by kernel_rfl,by kernel_rfl,by kernel_rfl,by kernel_rfl⟩
theorem c110:K (110,176):=⟨Tryz.f110,p176,Tryz.func110,by kernel_rfl,by kernel_rfl,by kernel_rfl,by kernel_rfl⟩
theorem c88:K (88,177):=⟨Tryz.f88,p177,Tryz.func88,by kernel_rfl,by kernel_rfl,by kernel_rfl,by kernel_rfl⟩
theorem c111:K (111,178):=⟨Tryz.f111,p178,Tryz.func111,by kernel_rfl,by kernel_rfl,by kernel_rfl,by kernel_rfl⟩
theorem c112:K (112,179):=⟨Tryz.f112,p179,Tryz.func112,by kernel_rfl,by kernel_rfl,by kernel_rfl,by kernel_rfl⟩
theorem c45:K (45,157):=⟨Tryz.f45,p157,Tryz.func45,by kernel_rfl,by kernel_rfl,by kernel_rfl,by kernel_rfl⟩
theorem c11:K (11,144):=⟨Tryz.f11,p144,Tryz.func11,by kernel_rfl,by kernel_rfl,by kernel_rfl,by kernel_rfl⟩
theorem c117:K (117,106):=⟨Tryz.f117,p106,Tryz.func117,by kernel_rfl,by kernel_rfl,by kernel_rfl,by kernel_rfl⟩
theorem c118:K (118,107):=⟨Tryz.f118,p107,Tryz.func118,by kernel_rfl,by kernel_rfl,by kernel_rfl,by kernel_rfl⟩
theorem c48:K (48,65):=⟨Tryz.f48,p65,Tryz.func48,by kernel_rfl,by kernel_rfl,by kernel_rfl,by kernel_rfl⟩
theorem c77:K (77,54):=⟨Tryz.f77,p54,Tryz.func77,by kernel_rfl,by kernel_rfl,by kernel_rfl,by kernel_rfl⟩
theorem c116:K (116,181):=⟨Tryz.f116,p181,Tryz.func116,by kernel_rfl,by kernel_rfl,by kernel_rfl,by kernel_rfl⟩
theorem c215:K (215,210):=⟨Tryz.f215,p210,Tryz.func215,by kernel_rfl,by kernel_rfl,by kernel_rfl,by kernel_rfl⟩
theorem c181:K (181,197):=⟨Tryz.f181,p197,Tryz.func181,by kernel_rfl,by kernel_rfl,by kernel_rfl,by kernel_rfl⟩
theorem c182:K (182,198):=⟨Tryz.f182,p198,Tryz.func182,by kernel_rfl,by kernel_rfl,by kernel_rfl,by kernel_rfl⟩
theorem c154:K (154,199):=⟨Tryz.f154,p199,Tryz.func154,by kernel_rfl,by kernel_rfl,by kernel_rfl,by kernel_rfl⟩
theorem c115:K (115,180):=⟨Tryz.f115,p180,Tryz.func115,by kernel_rfl,by kernel_rfl,by kernel_rfl,by kernel_rfl⟩
theorem c47:K (47,158):=⟨Tryz.f47,p158,Tryz.func47,by kernel_rfl,by kernel_rfl,by kernel_rfl,by kernel_rfl⟩
theorem c12:K (12,145):=⟨Tryz.f12,p145,Tryz.func12,by kernel_rfl,by kernel_rfl,by kernel_rfl,by kernel_rfl⟩
theorem c23:K (23,156):=⟨Tryz.f23,p156,Tryz.func23,by kernel_rfl,by kernel_rfl,by kernel_rfl,by kernel_rfl⟩
theorem c50:K (50,160):=⟨Tryz.f50,p160,Tryz.func50,by kernel_rfl,by kernel_rfl,by kernel_rfl,by kernel_rfl⟩
theorem c119:K (119,182):=⟨Tryz.f119,p182,Tryz.func119,by kernel_rfl,by kernel_rfl,by kernel_rfl,by kernel_rfl⟩
theorem c49:K (49,159):=⟨Tryz.f49,p159,Tryz.func49,by kernel_rfl,by kernel_rfl,by kernel_rfl,by kernel_rfl⟩
theorem c13:K (13,146):=⟨Tryz.f13,p146,Tryz.func13,by kernel_rfl,by kernel_rfl,by kernel_rfl,by kernel_rfl⟩
theorem c183:K (183,115):=⟨Tryz.f183,p115,Tryz.func183,by kernel_rfl,by kernel_rfl,by kernel_rfl,by kernel_rfl⟩
theorem c120:K (120,82):=⟨Tryz.f120,p82,Tryz.func120,by kernel_rfl,by kernel_rfl,by kernel_rfl,by kernel_rfl⟩
theorem c69:K (69,86):=⟨Tryz.f69,p86,Tryz.func69,by kernel_rfl,by kernel_rfl,by kernel_rfl,by kernel_rfl⟩
theorem c128:K (128,87):=⟨Tryz.f128,p87,Tryz.func128,by kernel_rfl,by kernel_rfl,by kernel_rfl,by kernel_rfl⟩
theorem c129:K (129,88):=⟨Tryz.f129,p88,Tryz.func129,by kernel_rfl,by kernel_rfl,by kernel_rfl,by kernel_rfl⟩
theorem c63:K (63,89):=⟨Tryz.f63,p89,Tryz.func63,by kernel_rfl,by kernel_rfl,by kernel_rfl,by kernel_rfl⟩
theorem c217:K (217,130):=⟨Tryz.f217,p130,Tryz.func217,by kernel_rfl,by kernel_rfl,by kernel_rfl,by kernel_rfl⟩
theorem c189:K (189,129):=⟨Tryz.f189,p129,Tryz.func189,by kernel_rfl,by kernel_rfl,by kernel_rfl,by kernel_rfl⟩
theorem c188:K (188,116):=⟨Tryz.f188,p116,Tryz.func188,by kernel_rfl,by kernel_rfl,by kernel_rfl,by kernel_rfl⟩
theorem c134:K (134,128):=⟨Tryz.f134,p128,Tryz.func134,by kernel_rfl,by kernel_rfl,by kernel_rfl,by kernel_rfl⟩
theorem c187:K (187,117):=⟨Tryz.f187,p117,Tryz.func187,by kernel_rfl,by kernel_rfl,by kernel_rfl,by kernel_rfl⟩
theorem c130:K (130,90):=⟨Tryz.f130,p90,Tryz.func130,by kernel_rfl,by kernel_rfl,by kernel_rfl,by kernel_rfl⟩
theorem c148:K (148,119):=⟨Tryz.f148,p119,Tryz.func148,by kernel_rfl,by kernel_rfl,by kernel_rfl,by kernel_rfl⟩
theorem c70:K (70,91):=⟨Tryz.f70,p91,Tryz.func70,by kernel_rfl,by kernel_rfl,by kernel_rfl,by kernel_rfl⟩
theorem c190:K (190,118):=⟨Tryz.f190,p118,Tryz.func190,by kernel_rfl,by kernel_rfl,by kernel_rfl,by kernel_rfl⟩
theorem c131:K (131,92):=⟨Tryz.f131,p92,Tryz.func131,by kernel_rfl,by kernel_rfl,by kernel_rfl,by kernel_rfl⟩
theorem c60:K (60,42):=⟨Tryz.f60,p42,Tryz.func60,by kernel_rfl,by kernel_rfl,by kernel_rfl,by kernel_rfl⟩
theorem c121:K (121,83):=⟨Tryz.f121,p83,Tryz.func121,by kernel_rfl,by kernel_rfl,by kernel_rfl,by kernel_rfl⟩
theorem c123:K (123,84):=⟨Tryz.f123,p84,Tryz.func123,by kernel_rfl,by kernel_rfl,by kernel_rfl,by kernel_rfl⟩
theorem c122:K (122,85):=⟨Tryz.f122,p85,Tryz.func122,by kernel_rfl,by kernel_rfl,by kernel_rfl,by kernel_rfl⟩
theorem c51:K (51,41):=⟨Tryz.f51,p41,Tryz.func51,by kernel_rfl,by kernel_rfl,by kernel_rfl,by kernel_rfl⟩
theorem c133:K (133,96):=⟨Tryz.f133,p96,Tryz.func133,by kernel_rfl,by kernel_rfl,by kernel_rfl,by kernel_rfl⟩
theorem c135:K (135,137):=⟨Tryz.f135,p137,Tryz.func135,by kernel_rfl,by kernel_rfl,by kernel_rfl,by kernel_rfl⟩
theorem c136:K (136,138):=⟨Tryz.f136,p138,Tryz.func136,by kernel_rfl,by kernel_rfl,by kernel_rfl,by kernel_rfl⟩
theorem c137:K (137,139):=⟨Tryz.f137,p139,Tryz.func137,by kernel_rfl,by kernel_rfl,by kernel_rfl,by kernel_rfl⟩
theorem c64:K (64,133):=⟨Tryz.f64,p133,Tryz.func64,by kernel_rfl,by kernel_rfl,by kernel_rfl,by kernel_rfl⟩
theorem c71:K (71,102):=⟨Tryz.f71,p102,Tryz.func71,by kernel_rfl,by kernel_rfl,by kernel_rfl,by kernel_rfl⟩
theorem c186:K (186,125):=⟨Tryz.f186,p125,Tryz.func186,by kernel_rfl,by kernel_rfl,by kernel_rfl,by kernel_rfl⟩
theorem c172:K (172,202):=⟨Tryz.f172,p202,Tryz.func172,by kernel_rfl,by kernel_rfl,by kernel_rfl,by kernel_rfl⟩
theorem c216:K (216,211):=⟨Tryz.f216,p211,Tryz.func216,by kernel_rfl,by kernel_rfl,by kernel_rfl,by kernel_rfl⟩
theorem c185:K (185,203):=⟨Tryz.f185,p203,Tryz.func185,by kernel_rfl,by kernel_rfl,by kernel_rfl,by kernel_rfl⟩
theorem c126:K (126,184):=⟨Tryz.f126,p184,Tryz.func126,by kernel_rfl,by kernel_rfl,by kernel_rfl,by kernel_rfl⟩
theorem c127:K (127,186):=⟨Tryz.f127,p186,Tryz.func127,by kernel_rfl,by kernel_rfl,by kernel_rfl,by kernel_rfl⟩
theorem c184:K (184,201):=⟨Tryz.f184,p201,Tryz.func184,by kernel_rfl,by kernel_rfl,by kernel_rfl,by kernel_rfl⟩
theorem c125:K (125,200):=⟨Tryz.f125,p200,Tryz.func125,by kernel_rfl,by kernel_rfl,by kernel_rfl,by kernel_rfl⟩
theorem c124:K (124,183):=⟨Tryz.f124,p183,Tryz.func124,by kernel_rfl,by kernel_rfl,by kernel_rfl,by kernel_rfl⟩
theorem c53:K (53,161):=⟨Tryz.f53,p161,Tryz.func53,by kernel_rfl,by kernel_rfl,by kernel_rfl,by kernel_rfl⟩
theorem c52:K (52,162):=⟨Tryz.f52,p162,Tryz.func52,by kernel_rfl,by kernel_rfl,by kernel_rfl,by kernel_rfl⟩
theorem c91:K (91,185):=⟨Tryz.f91,p185,Tryz.func91,by kernel_rfl,by kernel_rfl,by kernel_rfl,by kernel_rfl⟩
theorem c56:K (56,169):=⟨Tryz.f56,p169,Tryz.func56,by kernel_rfl,by kernel_rfl,by kernel_rfl,by kernel_rfl⟩
theorem c55:K (55,163):=⟨Tryz.f55,p163,Tryz.func55,by kernel_rfl,by kernel_rfl,by kernel_rfl,by kernel_rfl⟩
theorem c54:K (54,164):=⟨Tryz.f54,p164,Tryz.func54,by kernel_rfl,by kernel_rfl,by kernel_rfl,by kernel_rfl⟩
theorem c57:K (57,165):=⟨Tryz.f57,p165,Tryz.func57,by kernel_rfl,by kernel_rfl,by kernel_rfl,by kernel_rfl⟩
theorem c14:K (14,147):=⟨Tryz.f14,p147,Tryz.func14,by kernel_rfl,by kernel_rfl,by kernel_rfl,by kernel_rfl⟩
theorem c58:K (58,166):=⟨Tryz.f58,p166,Tryz.func58,by kernel_rfl,by kernel_rfl,by kernel_rfl,by kernel_rfl⟩
theorem c59:K (59,167):=⟨Tryz.f59,p167,Tryz.func59,by kernel_rfl,by kernel_rfl,by kernel_rfl,by kernel_rfl⟩
theorem c15:K (15,148):=⟨Tryz.f15,p148,Tryz.func15,by kernel_rfl,by kernel_rfl,by kernel_rfl,by kernel_rfl⟩
theorem c140:K (140,132):=⟨Tryz.f140,p132,Tryz.func140,by kernel_rfl,by kernel_rfl,by kernel_rfl,by kernel_rfl⟩
theorem c142:K (142,124):=⟨Tryz.f142,p124,Tryz.func142,by kernel_rfl,by kernel_rfl,by kernel_rfl,by kernel_rfl⟩
theorem c132:K (132,100):=⟨Tryz.f132,p100,Tryz.func132,by kernel_rfl,by kernel_rfl,by kernel_rfl,by kernel_rfl⟩
theorem c62:K (62,168):=⟨Tryz.f62,p168,Tryz.func62,by kernel_rfl,by kernel_rfl,by kernel_rfl,by kernel_rfl⟩
theorem c16:K (16,149):=⟨Tryz.f16,p149,Tryz.func16,by kernel_rfl,by kernel_rfl,by kernel_rfl,by kernel_rfl⟩
theorem c17:K (17,150):=⟨Tryz.f17,p150,Tryz.func17,by kernel_rfl,by kernel_rfl,by kernel_rfl,by kernel_rfl⟩
theorem c18:K (18,151):=⟨Tryz.f18,p151,Tryz.func18,by kernel_rfl,by kernel_rfl,by kernel_rfl,by kernel_rfl⟩
theorem c206:K (206,123):=⟨Tryz.f206,p123,Tryz.func206,by kernel_rfl,by kernel_rfl,by kernel_rfl,by kernel_rfl⟩
theorem c160:K (160,101):=⟨Tryz.f160,p101,Tryz.func160,by kernel_rfl,by kernel_rfl,by kernel_rfl,by kernel_rfl⟩
theorem c159:K (159,205):=⟨Tryz.f159,p205,Tryz.func159,by kernel_rfl,by kernel_rfl,by kernel_rfl,by kernel_rfl⟩
theorem c158:K (158,204):=⟨Tryz.f158,p204,Tryz.func158,by kernel_rfl,by kernel_rfl,by kernel_rfl,by kernel_rfl⟩
theorem c85:K (85,187):=⟨Tryz.f85,p187,Tryz.func85,by kernel_rfl,by kernel_rfl,by kernel_rfl,by kernel_rfl⟩
theorem c90:K (90,188):=⟨Tryz.f90,p188,Tryz.func90,by kernel_rfl,by kernel_rfl,by kernel_rfl,by kernel_rfl⟩
theorem c65:K (65,170):=⟨Tryz.f65,p170,Tryz.func65,by kernel_rfl,by kernel_rfl,by kernel_rfl,by kernel_rfl⟩
theorem c19:K (19,152):=⟨Tryz.f19,p152,Tryz.func19,by kernel_rfl,by kernel_rfl,by kernel_rfl,by kernel_rfl⟩
theorem c20:K (20,153):=⟨Tryz.f20,p153,Tryz.func20,by kernel_rfl,by kernel_rfl,by kernel_rfl,by kernel_rfl⟩
theorem c218:K (218,126):=⟨Tryz.f218,p126,Tryz.func218,by kernel_rfl,by kernel_rfl,by kernel_rfl,by kernel_rfl⟩
theorem c191:K (191,103):=⟨Tryz.f191,p103,Tryz.func191,by kernel_rfl,by kernel_rfl,by kernel_rfl,by kernel_rfl⟩
theorem c139:K (139,63):=⟨Tryz.f139,p63,Tryz.func139,by kernel_rfl,by kernel_rfl,by kernel_rfl,by kernel_rfl⟩
theorem c138:K (138,189):=⟨Tryz.f138,p189,Tryz.func138,by kernel_rfl,by kernel_rfl,by kernel_rfl,by kernel_rfl⟩
theorem c141:K (141,190):=⟨Tryz.f141,p190,Tryz.func141,by kernel_rfl,by kernel_rfl,by kernel_rfl,by kernel_rfl⟩
theorem c72:K (72,173):=⟨Tryz.f72,p173,Tryz.func72,by kernel_rfl,by kernel_rfl,by kernel_rfl,by kernel_rfl⟩
theorem c143:K (143,191):=⟨Tryz.f143,p191,Tryz.func143,by kernel_rfl,by kernel_rfl,by kernel_rfl,by kernel_rfl⟩
theorem c67:K (67,171):=⟨Tryz.f67,p171,Tryz.func67,by kernel_rfl,by kernel_rfl,by kernel_rfl,by kernel_rfl⟩
theorem c21:K (21,154):=⟨Tryz.f21,p154,Tryz.func21,by kernel_rfl,by kernel_rfl,by kernel_rfl,by kernel_rfl⟩
theorem c144:K (144,49):=⟨Tryz.f144,p49,Tryz.func144,by kernel_rfl,by kernel_rfl,by kernel_rfl,by kernel_rfl⟩
theorem c194:K (194,57):=⟨Tryz.f194,p57,Tryz.func194,by kernel_rfl,by kernel_rfl,by kernel_rfl,by kernel_rfl⟩
theorem c146:K (146,50):=⟨Tryz.f146,p50,Tryz.func146,by kernel_rfl,by kernel_rfl,by kernel_rfl,by kernel_rfl⟩
theorem c74:K (74,175):=⟨Tryz.f74,p175,Tryz.func74,by kernel_rfl,by kernel_rfl,by kernel_rfl,by kernel_rfl⟩
theorem c149:K (149,194):=⟨Tryz.f149,p194,Tryz.func149,by kernel_rfl,by kernel_rfl,by kernel_rfl,by kernel_rfl⟩
theorem c192:K (192,206):=⟨Tryz.f192,p206,Tryz.func192,by kernel_rfl,by kernel_rfl,by kernel_rfl,by kernel_rfl⟩
theorem c193:K (193,207):=⟨Tryz.f193,p207,Tryz.func193,by kernel_rfl,by kernel_rfl,by kernel_rfl,by kernel_rfl⟩
theorem c145:K (145,192):=⟨Tryz.f145,p192,Tryz.func145,by kernel_rfl,by kernel_rfl,by kernel_rfl,by kernel_rfl⟩
theorem c73:K (73,174):=⟨Tryz.f73,p174,Tryz.func73,by kernel_rfl,by kernel_rfl,by kernel_rfl,by kernel_rfl⟩
theorem c219:K (219,212):=⟨Tryz.f219,p212,Tryz.func219,by kernel_rfl,by kernel_rfl,by kernel_rfl,by kernel_rfl⟩
theorem c195:K (195,208):=⟨Tryz.f195,p208,Tryz.func195,by kernel_rfl,by kernel_rfl,by kernel_rfl,by kernel_rfl⟩
theorem c197:K (197,213):=⟨Tryz.f197,p213,Tryz.func197,by kernel_rfl,by kernel_rfl,by kernel_rfl,by kernel_rfl⟩
theorem c196:K (196,209):=⟨Tryz.f196,p209,Tryz.func196,by kernel_rfl,by kernel_rfl,by kernel_rfl,by kernel_rfl⟩
theorem c147:K (147,193):=⟨Tryz.f147,p193,Tryz.func147,by kernel_rfl,by kernel_rfl,by kernel_rfl,by kernel_rfl⟩
theorem c68:K (68,172):=⟨Tryz.f68,p172,Tryz.func68,by kernel_rfl,by kernel_rfl,by kernel_rfl,by kernel_rfl⟩
theorem c22:K (22,155):=⟨Tryz.f22,p155,Tryz.func22,by kernel_rfl,by kernel_rfl,by kernel_rfl,by kernel_rfl⟩
theorem c3:K (3,214):=⟨Tryz.f3,p214,Tryz.func3,by kernel_rfl,by kernel_rfl,by kernel_rfl,by kernel_rfl⟩
theorem models:Models Tryz.prog (tblOf tab) A:=by
 refine models_of (by kernel_rfl) fun x hx=>?_;simp only[tab,List.mem_cons,List.not_mem_nil,or_false]at hx;rcases hx with rfl|rfl|rfl|rfl|rfl|rfl|rfl|rfl|rfl|rfl|rfl|rfl|rfl|rfl|rfl|rfl|rfl|rfl|rfl|rfl|rfl|rfl|rfl|rfl|rfl|rfl|rfl|rfl|rfl|rfl|rfl|rfl|rfl|rfl|rfl|rfl|rfl|rfl|rfl|rfl|rfl|rfl|rfl|rfl|rfl|rfl|rfl|rfl|rfl|rfl|rfl|rfl|rfl|rfl|rfl|rfl|rfl|rfl|rfl|rfl|rfl|rfl|rfl|rfl|rfl|rfl|rfl|rfl|rfl|rfl|rfl|rfl|rfl|rfl|rfl|rfl|rfl|rfl|rfl|rfl|rfl|rfl|rfl|rfl|rfl|rfl|rfl|rfl|rfl|rfl|rfl|rfl|rfl|rfl|rfl|rfl|rfl|rfl|rfl|rfl|rfl|rfl|rfl|rfl|rfl|rfl|rfl|rfl|rfl|rfl|rfl|rfl|rfl|rfl|rfl|rfl|rfl|rfl|rfl|rfl|rfl|rfl|rfl|rfl|rfl|rfl|rfl|rfl|rfl|rfl|rfl|rfl|rfl|rfl
 ·exact c39
 ·exact c41
 ·exact c61
 ·exact c40
 ·exact c42
 ·exact c9
 ·exact c6
 ·exact c7
 ·exact c8
 ·exact c108
 ·exact c153
 ·exact c109
 ·exact c44
 ·exact c43
 ·exact c10
 ·exact c113
 ·exact c66
 ·exact c114
 ·exact c46
 ·exact c86
 ·exact c179
 ·exact c180
 ·exact c110
 ·exact c88
 ·exact c111
 ·exact c112
 ·exact c45
 ·exact c11
 ·exact c117
 ·exact c118
 ·exact c48
 ·exact c77
 ·exact c116
 ·exact c215
 ·exact c181
 ·exact c182
 ·exact c154
 ·exact c115
 ·exact c47
 ·exact c12
 ·exact c23
 ·exact c50
 ·exact c119
 ·exact c49
 ·exact c13
 ·exact c183
 ·exact c120
 ·exact c69
 ·exact c128
 ·exact c129
 ·exact c63
 ·exact c217
 ·exact c189
 ·exact c188
 ·exact c134
 ·exact c187
 ·exact c130
 ·exact c148
 ·exact c70
 ·exact c190
 ·exact c131
 ·exact c60
 ·exact c121
 ·exact c123
 ·exact c122
 ·exact c51
 ·exact c133
 ·exact c135
 ·exact c136
 ·exact c137
 ·exact c64
 ·exact c71
 ·exact c186
 ·exact c172
 ·exact c216
 ·exact c185
 ·exact c126
 ·exact c127
 ·exact c184
 ·exact c125
 ·exact c124
 ·exact c53
 ·exact c52
 ·exact c91
 ·exact c56
 ·exact c55
 ·exact c54
 ·exact c57
 ·exact c14
 ·exact c58
 ·exact c59
 ·exact c15
 ·exact c140
 ·exact c142
 ·exact c132
 ·exact c62
 ·exact c16
 ·exact c17
 ·exact c18
 ·exact c206
 ·exact c160
 ·exact c159
 ·exact c158
 ·exact c85
 ·exact c90
 ·exact c65
 ·exact c19
 ·exact c20
 ·exact c218
 ·exact c191
 ·exact c139
 ·exact c138
 ·exact c141
 ·exact c72
 ·exact c143
 ·exact c67
 ·exact c21
 ·exact c144
 ·exact c194
 ·exact c146
 ·exact c74
 ·exact c149
 ·exact c192
 ·exact c193
 ·exact c145
 ·exact c73
 ·exact c219
 ·exact c195
 ·exact c197
 ·exact c196
 ·exact c147
 ·exact c68
 ·exact c22
 ·exact c3
end Rv.Tp
