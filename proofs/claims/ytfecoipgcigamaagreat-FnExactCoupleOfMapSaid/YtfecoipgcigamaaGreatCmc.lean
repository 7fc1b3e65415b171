/- The abstract code is what the translated functions are compiled to. -/
import Derived.Test.YtfecoipgcigamaaGreatCmp
import Derived.Test.YtfecoipgcigamaaGreatChecked
import Derived.KernelRfl
namespace Rv.Cm
open Go.Proofs
set_option maxRecDepth 100000
def tab:List (Nat×Nat):=[(96,43),(97,44),(27,11),(26,10),(101,47),(102,48),(30,13),(29,12),(42,30),(110,51),(34,17),(33,16),(43,31),(111,52),(36,21),(35,20),(115,54),(64,78),(189,79),(141,80),(119,81),(98,39),(249,302),(144,99),(250,303),(190,270),(143,272),(213,76),(253,273),(251,287),(252,304),(191,271),(99,353),(198,94),(145,127),(254,136),(195,134),(192,243),(262,135),(206,131),(194,251),(261,122),(228,98),(140,283),(193,358),(197,359),(196,360),(100,354),(28,345),(82,73),(109,96),(124,56),(90,86),(92,102),(179,132),(181,124),(234,115),(161,82),(241,118),(172,92),(174,128),(175,137),(176,138),(177,139),(85,133),(237,125),(173,100),(168,186),(263,123),(212,101),(211,205),(204,204),(106,189),(258,307),(200,276),(60,67),(169,87),(170,88),(84,89),(276,130),(240,129),(239,116),(238,117),(171,90),(187,119),(91,91),(81,42),(255,305),(257,313),(256,306),(199,274),(78,165),(108,309),(202,308),(201,275),(103,244),(87,74),(155,75),(163,85),(203,277),(104,245),(83,168),(105,355),(128,188),(107,356),(31,346),(32,347),(37,348),(44,32),(112,59),(38,349),(4,362)]
theorem c96:FnOK Tryz.prog (tblOf tab) A (96,43):=⟨Tryz.f96,p43,Tryz.func96,by kernel_rfl,by kernel_rfl,by kernel_rfl,by kernel_rfl⟩
theorem c97:FnOK Tryz.prog (tblOf tab) A (97,44):=⟨Tryz.f97,p44,Tryz.func97,by kernel_rfl,by kernel_rfl,by kernel_rfl,by kernel_rfl⟩
theorem c27:FnOK Tryz.prog (tblOf tab) A (27,11):=⟨Tryz.f27,p11,Tryz.func27,by kernel_rfl,by kernel_rfl,by kernel_rfl,by kernel_rfl⟩
theorem c26:FnOK Tryz.prog (tblOf tab) A (26,10):=⟨Tryz.f26,p10,Tryz.func26,by kernel_rfl,by kernel_rfl,by kernel_rfl,by kernel_rfl⟩
theorem c101:FnOK Tryz.prog (tblOf tab) A (101,47):=⟨Tryz.f101,p47,Tryz.func101,by kernel_rfl,by kernel_rfl,by kernel_rfl,by kernel_rfl⟩
theorem c102:FnOK Tryz.prog (tblOf tab) A (102,48):=⟨Tryz.f102,p48,Tryz.func102,by kernel_rfl,by kernel_rfl,by kernel_rfl,by kernel_rfl⟩
theorem c30:FnOK Tryz.prog (tblOf tab) A (30,13):=⟨Tryz.f30,p13,Tryz.func30,by kernel_rfl,by kernel_rfl,by kernel_rfl,by kernel_rfl⟩
theorem c29:FnOK Tryz.prog (tblOf tab) A (29,12):=⟨Tryz.f29,p12,Tryz.func29,by kernel_rfl,by kernel_rfl,by kernel_rfl,by kernel_rfl⟩
theorem c42:FnOK Tryz.prog (tblOf tab) A (42,30):=⟨Tryz.f42,p30,Tryz.func42,by kernel_rfl,by kernel_rfl,by kernel_rfl,by kernel_rfl⟩
theorem c110:FnOK Tryz.prog (tblOf tab) A (110,51):=⟨Tryz.f110,p51,Tryz.func110,by kernel_rfl,by kernel_rfl,by kernel_rfl,by kernel_rfl⟩
theorem c34:FnOK Tryz.prog (tblOf tab) A (34,17):=⟨Tryz.f34,p17,Tryz.func34,by kernel_rfl,by kernel_rfl,by kernel_rfl,by kernel_rfl⟩
theorem c33:FnOK Tryz.prog (tblOf tab) A (33,16):=⟨Tryz.f33,p16,Tryz.func33,by kernel_rfl,by kernel_rfl,by kernel_rfl,by kernel_rfl⟩
theorem c43:FnOK Tryz.prog (tblOf tab) A (43,31):=⟨Tryz.f43,p31,Tryz.func43,by kernel_rfl,by kernel_rfl,by kernel_rfl,by kernel_rfl⟩
theorem c111:FnOK Tryz.prog (tblOf tab) A (111,52):=⟨Tryz.f111,p52,Tryz.func111,by kernel_rfl,by kernel_rfl,by kernel_rfl,by kernel_rfl⟩
theorem c36:FnOK Tryz.prog (tblOf tab) A (36,21):=⟨Tryz.f36,p21,Tryz.func36,by kernel_rfl,by kernel_rfl,by kernel_rfl,by kernel_rfl⟩
theorem c35:FnOK Tryz.prog (tblOf tab) A (35,20):=⟨Tryz.f35,p20,Tryz.func35,by kernel_rfl,by kernel_rfl,by kernel_rfl,by kernel_rfl⟩
theorem c115:FnOK Tryz.prog (tblOf tab) A (115,54):=⟨Tryz.f115,p54,Tryz.func115,by kernel_rfl,by kernel_rfl,by kernel_rfl,by kernel_rfl⟩
theorem c64:FnOK Tryz.prog (tblOf tab) A (64,78):=⟨Tryz.f64,p78,Tryz.func64,by kernel_rfl,by kernel_rfl,by kernel_rfl,by kernel_rfl⟩
theorem c189:FnOK Tryz.prog (tblOf tab) A (189,79):=⟨Tryz.f189,p79,Tryz.func189,by kernel_rfl,by kernel_rfl,by kernel_rfl,by kernel_rfl⟩
theorem c141:FnOK Tryz.prog (tblOf tab) A (141,80):=⟨Tryz.f141,p80,Tryz.func141,by kernel_rfl,by kernel_rfl,by kernel_rfl,by kernel_rfl⟩
theorem c119:FnOK Tryz.prog (tblOf tab) A (119,81):=⟨Tryz.f119,p81,Tryz.func119,by kernel_rfl,by kernel_rfl,by kernel_rfl,by kernel_rfl⟩
theorem c98:FnOK Tryz.prog (tblOf tab) A (98,39):=⟨Tryz.f98,p39,Tryz.func98,by kernel_rfl,by kernel_rfl,by kernel_rfl,by kernel_rfl⟩
theorem c249:FnOK Tryz.prog (tblOf tab) A (249,302):=⟨Tryz.f249,p302,Tryz.func249,by kernel_rfl,by kernel_rfl,by kernel_rfl,by kernel_rfl⟩
theorem c144:FnOK Tryz.prog (tblOf tab) A (144,99):=⟨Tryz.f144,p99,Tryz.func144,by kernel_rfl,by kernel_rfl,by kernel_rfl,by kernel_rfl⟩
theorem c250:FnOK Tryz.prog (tblOf tab) A (250,303):=⟨Tryz.f250,p303,Tryz.func250,by kernel_rfl,by kernel_rfl,by kernel_rfl,by kernel_rfl⟩
theorem c190:FnOK Tryz.prog (tblOf tab) A (190,270):=⟨Tryz.f190,p270,Tryz.func190,by kernel_rfl,by kernel_rfl,by kernel_rfl,by kernel_rfl⟩
theorem c143:FnOK Tryz.prog (tblOf tab) A (143,272):=⟨Tryz.f143,p272,Tryz.func143,by kernel_rfl,by kernel_rfl,by kernel_rfl,by kernel_rfl⟩
theorem c213:FnOK Tryz.prog (tblOf tab) A (213,76):=⟨Tryz.f213,p76,Tryz.func213,by kernel_rfl,by kernel_rfl,by kernel_rfl,by kernel_rfl⟩
theorem c253:FnOK Tryz.prog (tblOf tab) A (253,273):=⟨Tryz.f253,p273,Tryz.func253,by kernel_rfl,by kernel_rfl,by kernel_rfl,by kernel_rfl⟩
theorem c251:FnOK Tryz.prog (tblOf tab) A (251,287):=⟨Tryz.f251,p287,Tryz.func251,by kernel_rfl,by kernel_rfl,by kernel_rfl,by kernel_rfl⟩
theorem c252:FnOK Tryz.prog (tblOf tab) A (252,304):=⟨Tryz.f252,p304,Tryz.func252,by kernel_rfl,by kernel_rfl,by kernel_rfl,by kernel_rfl⟩
theorem c191:FnOK Tryz.prog (tblOf tab) A (191,271):=⟨Tryz.f191,p271,Tryz.func191,by kernel_rfl,by kernel_rfl,by kernel_rfl,by kernel_rfl⟩
theorem c99:FnOK Tryz.prog (tblOf tab) A (99,353):=⟨Tryz.f99,p353,Tryz.func99,by kernel_rfl,by kernel_rfl,by kernel_rfl,by kernel_rfl⟩
theorem c198:FnOK Tryz.prog (tblOf tab) A (198,94):=⟨Tryz.f198,p94,Tryz.func198,by kernel_rfl,by kernel_rfl,by kernel_rfl,by kernel_rfl⟩
theorem c145:FnOK Tryz.prog (tblOf tab) A (145,127):=⟨Tryz.f145,p127,Tryz.func145,by kernel_rfl,by kernel_rfl,by kernel_rfl,by kernel_rfl⟩
theorem c254:FnOK Tryz.prog (tblOf tab) A (254,136):=⟨Tryz.f254,p136,Tryz.func254,by kernel_rfl,by kernel_rfl,by kernel_rfl,by kernel_rfl⟩
theorem c195:FnOK Tryz.prog (tblOf tab) A (195,134):=⟨Tryz.f195,p134,Tryz.func195,by kernel_rfl,by kernel_rfl,by kernel_rfl,by kernel_rfl⟩
theorem c192:FnOK Tryz.prog (tblOf tab) A (192,243):=⟨Tryz.f192,p243,Tryz.func192,by kernel_rfl,by kernel_rfl,by kernel_rfl,by kernel_rfl⟩
theorem c262:FnOK Tryz.prog (tblOf tab) A (262,135):=⟨Tryz.f262,p135,Tryz.func262,by kernel_rfl,by kernel_rfl,by kernel_rfl,by kernel_rfl⟩
theorem c206:FnOK Tryz.prog (tblOf tab) A (206,131):=⟨Tryz.f206,p131,Tryz.func206,by kernel_rfl,by kernel_rfl,by kernel_rfl,by kernel_rfl⟩
theorem c194:FnOK Tryz.prog (tblOf tab) A (194,251):=⟨Tryz.f194,p251,Tryz.func194,by kernel_rfl,by kernel_rfl,by kernel_rfl,by kernel_rfl⟩
theorem c261:FnOK Tryz.prog (tblOf tab) A (261,122):=⟨Tryz.f261,p122,Tryz.func261,by kernel_rfl,by kernel_rfl,by kernel_rfl,by kernel_rfl⟩
theorem c228:FnOK Tryz.prog (tblOf tab) A (228,98):=⟨Tryz.f228,p98,Tryz.func228,by kernel_rfl,by kernel_rfl,by kernel_rfl,by kernel_rfl⟩
theorem c140:FnOK Tryz.prog (tblOf tab) A (140,283):=⟨Tryz.f140,p283,Tryz.func140,by kernel_rfl,by kernel_rfl,by kernel_rfl,by kernel_rfl⟩
theorem c193:FnOK Tryz.prog (tblOf tab) A (193,358):=⟨Tryz.f193,p358,Tryz.func193,by kernel_rfl,by kernel_rfl,by kernel_rfl,by kernel_rfl⟩
theorem c197:FnOK Tryz.prog (tblOf tab) A (197,359):=⟨Tryz.f197,p359,Tryz.func197,by kernel_rfl,by kernel_rfl,by kernel_rfl,by kernel_rfl⟩
theorem c196:FnOK Tryz.prog (tblOf tab) A (196,360):=⟨Tryz.f196,p360,Tryz.func196,by kernel_rfl,by kernel_rfl,by kernel_rfl,by kernel_rfl⟩
theorem c100:FnOK Tryz.prog (tblOf tab) A (100,354):=⟨Tryz.f100,p354,Tryz.func100,by kernel_rfl,by kernel_rfl,by kernel_rfl,by kernel_rfl⟩
theorem c28:FnOK Tryz.prog (tblOf tab) A (28,345):=⟨Tryz.f28,p345,Tryz.func28,by kernel_rfl,by kernel_rfl,by kernel_rfl,by kernel_rfl⟩
theorem c82:FnOK Tryz.prog (tblOf tab) A (82,73):=⟨Tryz.f82,p73,Tryz.func82,by kernel_rfl,by kernel_rfl,by kernel_rfl,by kernel_rfl⟩
theorem c109:FnOK Tryz.prog (tblOf tab) A (109,96):=⟨Tryz.f109,p96,Tryz.func109,by kernel_rfl,by kernel_rfl,by kernel_rfl,by kernel_rfl⟩
theorem c124:FnOK Tryz.prog (tblOf tab) A (124,56):=⟨Tryz.f124,p56,Tryz.func124,by kernel_rfl,by kernel_rfl,by kernel_rfl,by kernel_rfl⟩
theorem c90:FnOK Tryz.prog (tblOf tab) A (90,86):=⟨Tryz.f90,p86,Tryz.func90,by kernel_rfl,by kernel_rfl,by kernel_rfl,by kernel_rfl⟩
theorem c92:FnOK Tryz.prog (tblOf tab) A (92,102):=⟨Tryz.f92,p102,Tryz.func92,by kernel_rfl,by kernel_rfl,by kernel_rfl,by kernel_rfl⟩
theorem c179:FnOK Tryz.prog (tblOf tab) A (179,132):=⟨Tryz.f179,p132,Tryz.func179,by kernel_rfl,by kernel_rfl,by kernel_rfl,by kernel_rfl⟩
theorem c181:FnOK Tryz.prog (tblOf tab) A (181,124):=⟨Tryz.f181,p124,Tryz.func181,by kernel_rfl,by kernel_rfl,by kernel_rfl,by kernel_rfl⟩
theorem c234:FnOK Tryz.prog (tblOf tab) A (234,115):=⟨Tryz.f234,p115,Tryz.func234,by kernel_rfl,by kernel_rfl,by kernel_rfl,by kernel_rfl⟩
theorem c161:FnOK Tryz.prog (tblOf tab) A (161,82):=⟨Tryz.f161,p82,Tryz.func161,by kernel_rfl,by kernel_rfl,by kernel_rfl,by kernel_rfl⟩
theorem c241:FnOK Tryz.prog (tblOf tab) A (241,118):=⟨Tryz.f241,p118,Tryz.func241,by kernel_rfl,by kernel_rfl,by kernel_rfl,by kernel_rfl⟩
theorem c172:FnOK Tryz.prog (tblOf tab) A (172,92):=⟨Tryz.f172,p92,Tryz.func172,by kernel_rfl,by kernel_rfl,by kernel_rfl,by kernel_rfl⟩
theorem c174:FnOK Tryz.prog (tblOf tab) A (174,128):=⟨Tryz.f174,p128,Tryz.func174,by kernel_rfl,by kernel_rfl,by kernel_rfl,by kernel_rfl⟩
theorem c175:FnOK Tryz.prog (tblOf tab) A (175,137):=⟨Tryz.f175,p137,Tryz.func175,by kernel_rfl,by kernel_rfl,by kernel_rfl,by kernel_rfl⟩
theorem c176:FnOK Tryz.prog (tblOf tab) A (176,138):=⟨Tryz.f176,p138,Tryz.func176,by kernel_rfl,by kernel_rfl,by kernel_rfl,by kernel_rfl⟩
theorem c177:FnOK Tryz.prog (tblOf tab) A (177,139):=⟨Tryz.f177,p139,Tryz.func177,by kernel_rfl,by kernel_rfl,by kernel_rfl,by kernel_rfl⟩
theorem c85:FnOK Tryz.prog (tblOf tab) A (85,133):=⟨Tryz.f85,p133,Tryz.func85,by kernel_rfl,by kernel_rfl,by kernel_rfl,by kernel_rfl⟩
theorem c237:FnOK Tryz.prog (tblOf tab) A (237,125):=⟨Tryz.f237,p125,Tryz.func237,by kernel_rfl,by kernel_rfl,by kernel_rfl,by kernel_rfl⟩
theorem c173:FnOK Tryz.prog (tblOf tab) A (173,100):=⟨Tryz.f173,p100,Tryz.func173,by kernel_rfl,by kernel_rfl,by kernel_rfl,by kernel_rfl⟩
theorem c168:FnOK Tryz.prog (tblOf tab) A (168,186):=⟨Tryz.f168,p186,Tryz.func168,by kernel_rfl,by kernel_rfl,by kernel_rfl,by kernel_rfl⟩
theorem c263:FnOK Tryz.prog (tblOf tab) A (263,123):=⟨Tryz.f263,p123,Tryz.func263,by kernel_rfl,by kernel_rfl,by kernel_rfl,by kernel_rfl⟩
theorem c212:FnOK Tryz.prog (tblOf tab) A (212,101):=⟨Tryz.f212,p101,Tryz.func212,by kernel_rfl,by kernel_rfl,by kernel_rfl,by kernel_rfl⟩
theorem c211:FnOK Tryz.prog (tblOf tab) A (211,205):=⟨Tryz.f211,p205,Tryz.func211,by kernel_rfl,by kernel_rfl,by kernel_rfl,by kernel_rfl⟩
theorem c204:FnOK Tryz.prog (tblOf tab) A (204,204):=⟨Tryz.f204,p204,Tryz.func204,by kernel_rfl,by kernel_rfl,by kernel_rfl,by kernel_rfl⟩
theorem c106:FnOK Tryz.prog (tblOf tab) A (106,189):=⟨Tryz.f106,p189,Tryz.func106,by kernel_rfl,by kernel_rfl,by kernel_rfl,by kernel_rfl⟩
theorem c258:FnOK Tryz.prog (tblOf tab) A (258,307):=⟨Tryz.f258,p307,Tryz.func258,by kernel_rfl,by kernel_rfl,by kernel_rfl,by kernel_rfl⟩
theorem c200:FnOK Tryz.prog (tblOf tab) A (200,276):=⟨Tryz.f200,p276,Tryz.func200,by kernel_rfl,by kernel_rfl,by kernel_rfl,by kernel_rfl⟩
theorem c60:FnOK Tryz.prog (tblOf tab) A (60,67):=⟨Tryz.f60,p67,Tryz.func60,by kernel_rfl,by kernel_rfl,by kernel_rfl,by kernel_rfl⟩
theorem c169:FnOK Tryz.prog (tblOf tab) A (169,87):=⟨Tryz.f169,p87,Tryz.func169,by kernel_rfl,by kernel_rfl,by kernel_rfl,by kernel_rfl⟩
theorem c170:FnOK Tryz.prog (tblOf tab) A (170,88):=⟨Tryz.f170,p88,Tryz.func170,by kernel_rfl,by kernel_rfl,by kernel_rfl,by kernel_rfl⟩
theorem c84:FnOK Tryz.prog (tblOf tab) A (84,89):=⟨Tryz.f84,p89,Tryz.func84,by kernel_rfl,by kernel_rfl,by kernel_rfl,by kernel_rfl⟩
theorem c276:FnOK Tryz.prog (tblOf tab) A (276,130):=⟨Tryz.f276,p130,Tryz.func276,by kernel_rfl,by kernel_rfl,by kernel_rfl,by kernel_rfl⟩
theorem c240:FnOK Tryz.prog (tblOf tab) A (240,129):=⟨Tryz.f240,p129,Tryz.func240,by kernel_rfl,by kernel_rfl,by kernel_rfl,by kernel_rfl⟩
theorem c239:FnOK Tryz.prog (tblOf tab) A (239,116):=⟨Tryz.f239,p116,Tryz.func239,by kernel_rfl,by kernel_rfl,by kernel_rfl,by kernel_rfl⟩
theorem c238:FnOK Tryz.prog (tblOf tab) A (238,117):=⟨Tryz.f238,p117,Tryz.func238,by kernel_rfl,by kernel_rfl,by kernel_rfl,by kernel_rfl⟩
theorem c171:FnOK Tryz.prog (tblOf tab) A (171,90):=⟨Tryz.f171,p90,Tryz.func171,by kernel_rfl,by kernel_rfl,by kernel_rfl,by kernel_rfl⟩
theorem c187:FnOK Tryz.prog (tblOf tab) A (187,119):=⟨Tryz.f187,p119,Tryz.func187,by kernel_rfl,by kernel_rfl,by kernel_rfl,by kernel_rfl⟩
theorem c91:FnOK Tryz.prog (tblOf tab) A (91,91):=⟨Tryz.f91,p91,Tryz.func91,by kernel_rfl,by kernel_rfl,by kernel_rfl,by kernel_rfl⟩
theorem c81:FnOK Tryz.prog (tblOf tab) A (81,42):=⟨Tryz.f81,p42,Tryz.func81,by kernel_rfl,by kernel_rfl,by kernel_rfl,by kernel_rfl⟩
theorem c255:FnOK Tryz.prog (tblOf tab) A (255,305):=⟨Tryz.f255,p305,Tryz.func255,by kernel_rfl,by kernel_rfl,by kernel_rfl,by kernel_rfl⟩
theorem c257:FnOK Tryz.prog (tblOf tab) A (257,313):=⟨Tryz.f257,p313,Tryz.func257,by kernel_rfl,by kernel_rfl,by kernel_rfl,by kernel_rfl⟩
theorem c256:FnOK Tryz.prog (tblOf tab) A (256,306):=⟨Tryz.f256,p306,Tryz.func256,by kernel_rfl,by kernel_rfl,by kernel_rfl,by kernel_rfl⟩
theorem c199:FnOK Tryz.prog (tblOf tab) A (199,274):=⟨Tryz.f199,p274,Tryz.func199,by kernel_rfl,by kernel_rfl,by kernel_rfl,by kernel_rfl⟩
theorem c78:FnOK Tryz.prog (tblOf tab) A (78,165):=⟨Tryz.f78,p165,Tryz.func78,by kernel_rfl,by kernel_rfl,by kernel_rfl,by kernel_rfl⟩
theorem c108:FnOK Tryz.prog (tblOf tab) A (108,309):=⟨Tryz.f108,p309,Tryz.func108,by kernel_rfl,by kernel_rfl,by kernel_rfl,by kernel_rfl⟩
theorem c202:FnOK Tryz.prog (tblOf tab) A (202,308):=⟨Tryz.f202,p308,Tryz.func202,by kernel_rfl,by kernel_rfl,by kernel_rfl,by kernel_rfl⟩
theorem c201:FnOK Tryz.prog (tblOf tab) A (201,275):=⟨Tryz.f201,p275,Tryz.func201,by kernel_rfl,by kernel_rfl,by kernel_rfl,by kernel_rfl⟩
theorem c103:FnOK Tryz.prog (tblOf tab) A (103,244):=⟨Tryz.f103,p244,Tryz.func103,by kernel_rfl,by kernel_rfl,by kernel_rfl,by kernel_rfl⟩
theorem c87:FnOK Tryz.prog (tblOf tab) A (87,74):=⟨Tryz.f87,p74,Tryz.func87,by kernel_rfl,by kernel_rfl,by kernel_rfl,by kernel_rfl⟩
theorem c155:FnOK Tryz.prog (tblOf tab) A (155,75):=⟨Tryz.f155,p75,Tryz.func155,by kernel_rfl,by kernel_rfl,by kernel_rfl,by kernel_rfl⟩
theorem c163:FnOK Tryz.prog (tblOf tab) A (163,85):=⟨Tryz.f163,p85,Tryz.func163,by kernel_rfl,by kernel_rfl,by kernel_rfl,by kernel_rfl⟩
theorem c203:FnOK Tryz.prog (tblOf tab) A (203,277):=⟨Tryz.f203,p277,Tryz.func203,by kernel_rfl,by kernel_rfl,by kernel_rfl,by kernel_rfl⟩
theorem c104:FnOK Tryz.prog (tblOf tab) A (104,245):=⟨Tryz.f104,p245,Tryz.func104,by kernel_rfl,by kernel_rfl,by kernel_rfl,by kernel_rfl⟩
theorem c83:FnOK Tryz.prog (tblOf tab) A (83,168):=⟨Tryz.f83,p168,Tryz.func83,by kernel_rfl,by kernel_rfl,by kernel_rfl,by kernel_rfl⟩
theorem c105:FnOK Tryz.prog (tblOf tab) A (105,355):=⟨Tryz.f105,p355,Tryz.func105,by kernel_rfl,by kernel_rfl,by kernel_rfl,by kernel_rfl⟩
theorem c128:FnOK Tryz.prog (tblOf tab) A (128,188):=⟨Tryz.f128,p188,Tryz.func128,by kernel_rfl,by kernel_rfl,by kernel_rfl,by kernel_rfl⟩
theorem c107:FnOK Tryz.prog (tblOf tab) A (107,356):=⟨Tryz.f107,p356,Tryz.func107,by kernel_rfl,by kernel_rfl,by kernel_rfl,by kernel_rfl⟩
theorem c31:FnOK Tryz.prog (tblOf tab) A (31,346):=⟨Tryz.f31,p346,Tryz.func31,by kernel_rfl,by kernel_rfl,by kernel_rfl,by kernel_rfl⟩
theorem c32:FnOK Tryz.prog (tblOf tab) A (32,347):=⟨Tryz.f32,p347,Tryz.func32,by kernel_rfl,by kernel_rfl,by kernel_rfl,by kernel_rfl⟩
theorem c37:FnOK Tryz.prog (tblOf tab) A (37,348):=⟨Tryz.f37,p348,Tryz.func37,by kernel_rfl,by kernel_rfl,by kernel_rfl,by kernel_rfl⟩
theorem c44:FnOK Tryz.prog (tblOf tab) A (44,32):=⟨Tryz.f44,p32,Tryz.func44,by kernel_rfl,by kernel_rfl,by kernel_rfl,by kernel_rfl⟩
theorem c112:FnOK Tryz.prog (tblOf tab) A (112,59):=⟨Tryz.f112,p59,Tryz.func112,by kernel_rfl,by kernel_rfl,by kernel_rfl,by kernel_rfl⟩
theorem c38:FnOK Tryz.prog (tblOf tab) A (38,349):=⟨Tryz.f38,p349,Tryz.func38,by kernel_rfl,by kernel_rfl,by kernel_rfl,by kernel_rfl⟩
theorem c4:FnOK Tryz.prog (tblOf tab) A (4,362):=⟨Tryz.f4,p362,Tryz.func4,by kernel_rfl,by kernel_rfl,by kernel_rfl,by kernel_rfl⟩
theorem models:Models Tryz.prog (tblOf tab) A:=by
 refine models_of (by kernel_rfl) fun x hx=>?_;simp only[tab,List.mem_cons,List.not_mem_nil,or_false]at hx;rcases hx with rfl|rfl|rfl|rfl|rfl|rfl|rfl|rfl|rfl|rfl|rfl|rfl|rfl|rfl|rfl|rfl|rfl|rfl|rfl|rfl|rfl|rfl|rfl|rfl|rfl|rfl|rfl|rfl|rfl|rfl|rfl|rfl|rfl|rfl|rfl|rfl|rfl|rfl|rfl|rfl|rfl|rfl|rfl|rfl|rfl|rfl|rfl|rfl|rfl|rfl|rfl|rfl|rfl|rfl|rfl|rfl|rfl|rfl|rfl|rfl|rfl|rfl|rfl|rfl|rfl|rfl|rfl|rfl|rfl|rfl|rfl|rfl|rfl|rfl|rfl|rfl|rfl|rfl|rfl|rfl|rfl|rfl|rfl|rfl|rfl|rfl|rfl|rfl|rfl|rfl|rfl|rfl|rfl|rfl|rfl|rfl|rfl|rfl|rfl|rfl|rfl|rfl|rfl|rfl|rfl|rfl|rfl|rfl|rfl|rfl|rfl|rfl
 ·exact c96
 ·exact c97
 ·exact c27
 ·exact c26
 ·exact c101
 ·exact c102
 ·exact c30
 ·exact c29
 ·exact c42
 ·exact c110
 ·exact c34
 ·exact c33
 ·exact c43
 ·exact c111
 ·exact c36
 ·exact c35
 ·exact c115
 ·exact c64
 ·exact c189
 ·exact c141
 ·exact c119
 ·exact c98
 ·exact c249
 ·exact c144
 ·exact c250
 ·exact c190
 ·exact c143
 ·exact c213
 ·exact c253
 ·exact c251
 ·exact c252
 ·exact c191
 ·exact c99
 ·exact c198
 ·exact c145
 ·exact c254
 ·exact c195
 ·exact c192
 ·exact c262
 ·exact c206
 ·exact c194
 ·exact c261
 ·exact c228
 ·exact c140
 ·exact c193
 ·exact c197
 ·exact c196
 ·exact c100
 ·exact c28
 ·exact c82
 ·exact c109
 ·exact c124
 ·exact c90
 ·exact c92
 ·exact c179
 ·exact c181
 ·exact c234
 ·exact c161
 ·exact c241
 ·exact c172
 ·exact c174
 ·exact c175
 ·exact c176
 ·exact c177
 ·exact c85
 ·exact c237
 ·exact c173
 ·exact c168
 ·exact c263
 ·exact c212
 ·exact c211
 ·exact c204
 ·exact c106
 ·exact c258
 ·exact c200
 ·exact c60
 ·exact c169
 ·exact c170
 ·exact c84
 ·exact c276
 ·exact c240
 ·exact c239
 ·exact c238
 ·exact c171
 ·exact c187
 ·exact c91
 ·exact c81
 ·exact c255
 ·exact c257
 ·exact c256
 ·exact c199
 ·exact c78
 ·exact c108
 ·exact c202
 ·exact c201
 ·exact c103
 ·exact c87
 ·exact c155
 ·exact c163
 ·exact c203
 ·exact c104
 ·exact c83
 ·exact c105
 ·exact c128
 ·exact c107
 ·exact c31
 ·exact c32
 ·exact c37
 ·exact c44
 ·exact c112
 ·exact c38
 ·exact c4
end Rv.Cm
