/- The abstract code is what the translated functions are compiled to. -/
import Derived.Test.YtfecoipgcigamaaGreatTcp
import Derived.Test.YtfecoipgcigamaaGreatChecked
import Derived.KernelRfl
namespace Rv.Tc
open Go.Proofs
set_option maxRecDepth 100000
def tab:List (Nat×Nat):=[(96,43),(97,44),(27,11),(26,10),(101,47),(102,48),(30,13),(29,12),(42,30),(110,51),(34,17),(33,16),(43,31),(111,52),(36,21),(35,20),(44,32),(112,59),(148,53),(59,22),(82,73),(87,74),(90,86),(84,89),(187,119),(91,91),(124,56),(92,102),(60,67),(234,115),(161,82),(169,87),(170,88),(276,130),(240,129),(239,116),(174,128),(238,117),(171,90),(241,118),(172,92),(81,42),(183,49),(155,75),(163,85),(109,96),(245,57),(185,50),(179,132),(181,124),(78,165),(93,173),(95,175),(188,194),(175,137),(176,138),(177,139),(85,133),(237,125),(173,100),(168,186),(83,168),(243,206),(244,207),(184,192),(94,174),(278,212),(246,208),(248,213),(247,209),(186,193),(89,172),(24,155),(54,224),(56,225),(57,228),(58,327),(141,80),(115,54),(144,99),(145,127),(143,272),(213,76),(119,81),(198,94),(254,136),(195,134),(262,135),(206,131),(261,122),(228,98),(194,251),(140,283),(142,284),(147,286),(64,78),(189,79),(98,39),(270,93),(224,45),(281,95),(273,55),(226,46),(253,273),(271,282),(227,285),(251,287),(229,288),(280,312),(272,289),(225,249),(138,351),(146,357),(139,352),(55,350),(7,363)]
theorem c96:FnOK Tryz.prog (tblOf tab) A (96,43):=⟨Tryz.f96,p43,Tryz.func96,by kernel_rfl,by kernel_rfl,by kernel_rfl,by kernel_rfl⟩
theorem c97:FnOK Tryz.prog (tblOf tab) A (97,44):=⟨Tryz.f97,p44,Tryz.func97,by kernel_rfl,by kernel_rfl,by kernel_rfl,by kernel_rfl⟩
theorem c27:FnOK Tryz.prog (tblOf tab) A (27,11):=⟨Tryz.f27,p11,Tryz.func27,by kernel_rfl,by kernel_rfl,by kernel_rfl,by kernel_rfl⟩
theorem c26:FnOK Tryz.prog (tblOf tab) A (26,10):=⟨Tryz.f26,p10,Tryz.func26,by kernel_rfl,by kernel_rfl,by kernel_rfl,by kernel_rfl⟩
theorem c101:FnOK Tryz.prog (tblOf tab) A (101,47):=⟨Tryz.f101,p47,Tryz.func101,by kernel_rfl,by kernel_rfl,by kernel_rfl,by kernel_rfl⟩
theorem c102:FnOK Tryz.prog (tblOf tab) A (102,48):=⟨Tryz.f102,p48,Tryz.func102,by kernel_rfl,by kernel_rfl,by kernel_rfl,by kernel_rfl⟩
theorem c30:FnOK Tryz.prog (tblOf tab) A (30,13):=⟨Tryz.f30,p13,Tryz.func30,by kernel_rfl,by kernel_rfl,by kernel_rfl,by kernel_rfl⟩
theorem c29:FnOK Tryz.prog (tblOf tab) A (29,12):=⟨Tryz.f29,p12,Tryz.func29,by kernel_rfl,by kernel_rfl,by kernel_rfl,by kernel_rfl⟩
theorem c42:FnOK Tryz.prog (tblOf tab) A (42,30):=⟨Tryz.f42,p30,Tryz.func42,by kernel_rfl,by kernel_rfl,by kernel_rfl,by kernel_rfl⟩
theorem c110:FnOK Tryz.prog (tblOf tab) A (110,51):=⟨Tryz.f110,p51,Tryz.func110,by kernel_rfl,by kernel_rfl,by kernel_rfl,by kernel_rfl⟩
theorem c34:FnOK Tryz.prog (tblOf tab) A (34,17):=⟨Tryz.f34,p17,Tryz.func34,by kernel_rfl,by kernel_rfl,by kernel_rfl,by kernel_rfl⟩
theorem c33:FnOK Tryz.prog (tblOf tab) A (33,16):=⟨Tryz.f33,p16,Tryz.func33,by kernel_rfl,by kernel_rfl,by kernel_rfl,by kernel_rfl⟩
theorem c43:FnOK Tryz.prog (tblOf tab) A (43,31):=⟨Tryz.f43,p31,Tryz.func43,by kernel_rfl,by kernel_rfl,by kernel_rfl,by kernel_rfl⟩
theorem c111:FnOK Tryz.prog (tblOf tab) A (111,52):=⟨Tryz.f111,p52,Tryz.func111,by kernel_rfl,by kernel_rfl,by kernel_rfl,by kernel_rfl⟩
theorem c36:FnOK Tryz.prog (tblOf tab) A (36,21):=⟨Tryz.f36,p21,Tryz.func36,by kernel_rfl,by kernel_rfl,by kernel_rfl,by kernel_rfl⟩
theorem c35:FnOK Tryz.prog (tblOf tab) A (35,20):=⟨Tryz.f35,p20,Tryz.func35,by kernel_rfl,by kernel_rfl,by kernel_rfl,by kernel_rfl⟩
theorem c44:FnOK Tryz.prog (tblOf tab) A (44,32):=⟨Tryz.f44,p32,Tryz.func44,by kernel_rfl,by kernel_rfl,by kernel_rfl,by kernel_rfl⟩
theorem c112:FnOK Tryz.prog (tblOf tab) A (112,59):=⟨Tryz.f112,p59,Tryz.func112,by kernel_rfl,by kernel_rfl,by kernel_rfl,by kernel_rfl⟩
theorem c148:FnOK Tryz.prog (tblOf tab) A (148,53):=⟨Tryz.f148,p53,Tryz.func148,by kernel_rfl,by kernel_rfl,by kernel_rfl,by kernel_rfl⟩
theorem c59:FnOK Tryz.prog (tblOf tab) A (59,22):=⟨Tryz.f59,p22,Tryz.func59,by kernel_rfl,by kernel_rfl,by kernel_rfl,by kernel_rfl⟩
theorem c82:FnOK Tryz.prog (tblOf tab) A (82,73):=⟨Tryz.f82,p73,Tryz.func82,by kernel_rfl,by kernel_rfl,by kernel_rfl,by kernel_rfl⟩
theorem c87:FnOK Tryz.prog (tblOf tab) A (87,74):=⟨Tryz.f87,p74,Tryz.func87,by kernel_rfl,by kernel_rfl,by kernel_rfl,by kernel_rfl⟩
theorem c90:FnOK Tryz.prog (tblOf tab) A (90,86):=⟨Tryz.f90,p86,Tryz.func90,by kernel_rfl,by kernel_rfl,by kernel_rfl,by kernel_rfl⟩
theorem c84:FnOK Tryz.prog (tblOf tab) A (84,89):=⟨Tryz.f84,p89,Tryz.func84,by kernel_rfl,by kernel_rfl,by kernel_rfl,by kernel_rfl⟩
theorem c187:FnOK Tryz.prog (tblOf tab) A (187,119):=⟨Tryz.f187,p119,Tryz.func187,by kernel_rfl,by kernel_rfl,by kernel_rfl,by kernel_rfl⟩
theorem c91:FnOK Tryz.prog (tblOf tab) A (91,91):=⟨Tryz.f91,p91,Tryz.func91,by kernel_rfl,by kernel_rfl,by kernel_rfl,by kernel_rfl⟩
theorem c124:FnOK Tryz.prog (tblOf tab) A (124,56):=⟨Tryz.f124,p56,Tryz.func124,by kernel_rfl,by kernel_rfl,by kernel_rfl,by kernel_rfl⟩
theorem c92:FnOK Tryz.prog (tblOf tab) A (92,102):=⟨Tryz.f92,p102,Tryz.func92,by kernel_rfl,by kernel_rfl,by kernel_rfl,by kernel_rfl⟩
theorem c60:FnOK Tryz.prog (tblOf tab) A (60,67):=⟨Tryz.f60,p67,Tryz.func60,by kernel_rfl,by kernel_rfl,by kernel_rfl,by kernel_rfl⟩
theorem c234:FnOK Tryz.prog (tblOf tab) A (234,115):=⟨Tryz.f234,p115,Tryz.func234,by kernel_rfl,by kernel_rfl,by kernel_rfl,by kernel_rfl⟩
theorem c161:FnOK Tryz.prog (tblOf tab) A (161,82):=⟨Tryz.f161,p82,Tryz.func161,by kernel_rfl,by kernel_rfl,by kernel_rfl,by kernel_rfl⟩
theorem c169:FnOK Tryz.prog (tblOf tab) A (169,87):=⟨Tryz.f169,p87,Tryz.func169,by kernel_rfl,by kernel_rfl,by kernel_rfl,by kernel_rfl⟩
theorem c170:FnOK Tryz.prog (tblOf tab) A (170,88):=⟨Tryz.f170,p88,Tryz.func170,by kernel_rfl,by kernel_rfl,by kernel_rfl,by kernel_rfl⟩
theorem c276:FnOK Tryz.prog (tblOf tab) A (276,130):=⟨Tryz.f276,p130,Tryz.func276,by kernel_rfl,by kernel_rfl,by kernel_rfl,by kernel_rfl⟩
theorem c240:FnOK Tryz.prog (tblOf tab) A (240,129):=⟨Tryz.f240,p129,Tryz.func240,by kernel_rfl,by kernel_rfl,by kernel_rfl,by kernel_rfl⟩
theorem c239:FnOK Tryz.prog (tblOf tab) A (239,116):=⟨Tryz.f239,p116,Tryz.func239,by kernel_rfl,by kernel_rfl,by kernel_rfl,by kernel_rfl⟩
theorem c174:FnOK Tryz.prog (tblOf tab) A (174,128):=⟨Tryz.f174,p128,Tryz.func174,by kernel_rfl,by kernel_rfl,by kernel_rfl,by kernel_rfl⟩
theorem c238:FnOK Tryz.prog (tblOf tab) A (238,117):=⟨Tryz.f238,p117,Tryz.func238,by kernel_rfl,by kernel_rfl,by kernel_rfl,by kernel_rfl⟩
theorem c171:FnOK Tryz.prog (tblOf tab) A (171,90):=⟨Tryz.f171,p90,Tryz.func171,by kernel_rfl,by kernel_rfl,by kernel_rfl,by kernel_rfl⟩
theorem c241:FnOK Tryz.prog (tblOf tab) A (241,118):=⟨Tryz.f241,p118,Tryz.func241,by kernel_rfl,by kernel_rfl,by kernel_rfl,by kernel_rfl⟩
theorem c172:FnOK Tryz.prog (tblOf tab) A (172,92):=⟨Tryz.f172,p92,Tryz.func172,by kernel_rfl,by kernel_rfl,by kernel_rfl,by kernel_rfl⟩
theorem c81:FnOK Tryz.prog (tblOf tab) A (81,42):=⟨Tryz.f81,p42,Tryz.func81,by kernel_rfl,by kernel_rfl,by kernel_rfl,by kernel_rfl⟩
theorem c183:FnOK Tryz.prog (tblOf tab) A (183,49):=⟨Tryz.f183,p49,Tryz.func183,by kernel_rfl,by kernel_rfl,by kernel_rfl,by kernel_rfl⟩
theorem c155:FnOK Tryz.prog (tblOf tab) A (155,75):=⟨Tryz.f155,p75,Tryz.func155,by kernel_rfl,by kernel_rfl,by kernel_rfl,by kernel_rfl⟩
theorem c163:FnOK Tryz.prog (tblOf tab) A (163,85):=⟨Tryz.f163,p85,Tryz.func163,by kernel_rfl,by kernel_rfl,by kernel_rfl,by kernel_rfl⟩
theorem c109:FnOK Tryz.prog (tblOf tab) A (109,96):=⟨Tryz.f109,p96,Tryz.func109,by kernel_rfl,by kernel_rfl,by kernel_rfl,by kernel_rfl⟩
theorem c245:FnOK Tryz.prog (tblOf tab) A (245,57):=⟨Tryz.f245,p57,Tryz.func245,by kernel_rfl,by kernel_rfl,by kernel_rfl,by kernel_rfl⟩
theorem c185:FnOK Tryz.prog (tblOf tab) A (185,50):=⟨Tryz.f185,p50,Tryz.func185,by kernel_rfl,by kernel_rfl,by kernel_rfl,by kernel_rfl⟩
theorem c179:FnOK Tryz.prog (tblOf tab) A (179,132):=⟨Tryz.f179,p132,Tryz.func179,by kernel_rfl,by kernel_rfl,by kernel_rfl,by kernel_rfl⟩
theorem c181:FnOK Tryz.prog (tblOf tab) A (181,124):=⟨Tryz.f181,p124,Tryz.func181,by kernel_rfl,by kernel_rfl,by kernel_rfl,by kernel_rfl⟩
theorem c78:FnOK Tryz.prog (tblOf tab) A (78,165):=⟨Tryz.f78,p165,Tryz.func78,by kernel_rfl,by kernel_rfl,by kernel_rfl,by kernel_rfl⟩
theorem c93:FnOK Tryz.prog (tblOf tab) A (93,173):=⟨Tryz.f93,p173,Tryz.func93,by kernel_rfl,by kernel_rfl,by kernel_rfl,by kernel_rfl⟩
theorem c95:FnOK Tryz.prog (tblOf tab) A (95,175):=⟨Tryz.f95,p175,Tryz.func95,by kernel_rfl,by kernel_rfl,by kernel_rfl,by kernel_rfl⟩
theorem c188:FnOK Tryz.prog (tblOf tab) A (188,194):=⟨Tryz.f188,p194,Tryz.func188,by kernel_rfl,by kernel_rfl,by kernel_rfl,by kernel_rfl⟩
theorem c175:FnOK Tryz.prog (tblOf tab) A (175,137):=⟨Tryz.f175,p137,Tryz.func175,by kernel_rfl,by kernel_rfl,by kernel_rfl,by kernel_rfl⟩
theorem c176:FnOK Tryz.prog (tblOf tab) A (176,138):=⟨Tryz.f176,p138,Tryz.func176,by kernel_rfl,by kernel_rfl,by kernel_rfl,by kernel_rfl⟩
theorem c177:FnOK Tryz.prog (tblOf tab) A (177,139):=⟨Tryz.f177,p139,Tryz.func177,by kernel_rfl,by kernel_rfl,by kernel_rfl,by kernel_rfl⟩
theorem c85:FnOK Tryz.prog (tblOf tab) A (85,133):=⟨Tryz.f85,p133,Tryz.func85,by kernel_rfl,by kernel_rfl,by kernel_rfl,by kernel_rfl⟩
theorem c237:FnOK Tryz.prog (tblOf tab) A (237,125):=⟨Tryz.f237,p125,Tryz.func237,by kernel_rfl,by kernel_rfl,by kernel_rfl,by kernel_rfl⟩
theorem c173:FnOK Tryz.prog (tblOf tab) A (173,100):=⟨Tryz.f173,p100,Tryz.func173,by kernel_rfl,by kernel_rfl,by kernel_rfl,by kernel_rfl⟩
theorem c168:FnOK Tryz.prog (tblOf tab) A (168,186):=⟨Tryz.f168,p186,Tryz.func168,by kernel_rfl,by kernel_rfl,by kernel_rfl,by kernel_rfl⟩
theorem c83:FnOK Tryz.prog (tblOf tab) A (83,168):=⟨Tryz.f83,p168,Tryz.func83,by kernel_rfl,by kernel_rfl,by kernel_rfl,by kernel_rfl⟩
theorem c243:FnOK Tryz.prog (tblOf tab) A (243,206):=⟨Tryz.f243,p206,Tryz.func243,by kernel_rfl,by kernel_rfl,by kernel_rfl,by kernel_rfl⟩
theorem c244:FnOK Tryz.prog (tblOf tab) A (244,207):=⟨Tryz.f244,p207,Tryz.func244,by kernel_rfl,by kernel_rfl,by kernel_rfl,by kernel_rfl⟩
theorem c184:FnOK Tryz.prog (tblOf tab) A (184,192):=⟨Tryz.f184,p192,Tryz.func184,by kernel_rfl,by kernel_rfl,by kernel_rfl,by kernel_rfl⟩
theorem c94:FnOK Tryz.prog (tblOf tab) A (94,174):=⟨Tryz.f94,p174,Tryz.func94,by kernel_rfl,by kernel_rfl,by kernel_rfl,by kernel_rfl⟩
theorem c278:FnOK Tryz.prog (tblOf tab) A (278,212):=⟨Tryz.f278,p212,Tryz.func278,by kernel_rfl,by kernel_rfl,by kernel_rfl,by kernel_rfl⟩
theorem c246:FnOK Tryz.prog (tblOf tab) A (246,208):=⟨Tryz.f246,p208,Tryz.func246,by kernel_rfl,by kernel_rfl,by kernel_rfl,by kernel_rfl⟩
theorem c248:FnOK Tryz.prog (tblOf tab) A (248,213):=⟨Tryz.f248,p213,Tryz.func248,by kernel_rfl,by kernel_rfl,by kernel_rfl,by kernel_rfl⟩
theorem c247:FnOK Tryz.prog (tblOf tab) A (247,209):=⟨Tryz.f247,p209,Tryz.func247,by kernel_rfl,by kernel_rfl,by kernel_rfl,by kernel_rfl⟩
theorem c186:FnOK Tryz.prog (tblOf tab) A (186,193):=⟨Tryz.f186,p193,Tryz.func186,by kernel_rfl,by kernel_rfl,by kernel_rfl,by kernel_rfl⟩
theorem c89:FnOK Tryz.prog (tblOf tab) A (89,172):=⟨Tryz.f89,p172,Tryz.func89,by kernel_rfl,by kernel_rfl,by kernel_rfl,by kernel_rfl⟩
theorem c24:FnOK Tryz.prog (tblOf tab) A (24,155):=⟨Tryz.f24,p155,Tryz.func24,by kernel_rfl,by kernel_rfl,by kernel_rfl,by kernel_rfl⟩
theorem c54:FnOK Tryz.prog (tblOf tab) A (54,224):=⟨Tryz.f54,p224,Tryz.func54,by kernel_rfl,by kernel_rfl,by kernel_rfl,by kernel_rfl⟩
theorem c56:FnOK Tryz.prog (tblOf tab) A (56,225):=⟨Tryz.f56,p225,Tryz.func56,by kernel_rfl,by kernel_rfl,by kernel_rfl,by kernel_rfl⟩
theorem c57:FnOK Tryz.prog (tblOf tab) A (57,228):=⟨Tryz.f57,p228,Tryz.func57,by kernel_rfl,by kernel_rfl,by kernel_rfl,by kernel_rfl⟩
theorem c58:FnOK Tryz.prog (tblOf tab) A (58,327):=⟨Tryz.f58,p327,Tryz.func58,by kernel_rfl,by kernel_rfl,by kernel_rfl,by kernel_rfl⟩
theorem c141:FnOK Tryz.prog (tblOf tab) A (141,80):=⟨Tryz.f141,p80,Tryz.func141,by kernel_rfl,by kernel_rfl,by kernel_rfl,by kernel_rfl⟩
theorem c115:FnOK Tryz.prog (tblOf tab) A (115,54):=⟨Tryz.f115,p54,Tryz.func115,by kernel_rfl,by kernel_rfl,by kernel_rfl,by kernel_rfl⟩
theorem c144:FnOK Tryz.prog (tblOf tab) A (144,99):=⟨Tryz.f144,p99,Tryz.func144,by kernel_rfl,by kernel_rfl,by kernel_rfl,by kernel_rfl⟩
theorem c145:FnOK Tryz.prog (tblOf tab) A (145,127):=⟨Tryz.f145,p127,Tryz.func145,by kernel_rfl,by kernel_rfl,by kernel_rfl,by kernel_rfl⟩
theorem c143:FnOK Tryz.prog (tblOf tab) A (143,272):=⟨Tryz.f143,p272,Tryz.func143,by kernel_rfl,by kernel_rfl,by kernel_rfl,by kernel_rfl⟩
theorem c213:FnOK Tryz.prog (tblOf tab) A (213,76):=⟨Tryz.f213,p76,Tryz.func213,by kernel_rfl,by kernel_rfl,by kernel_rfl,by kernel_rfl⟩
theorem c119:FnOK Tryz.prog (tblOf tab) A (119,81):=⟨Tryz.f119,p81,Tryz.func119,by kernel_rfl,by kernel_rfl,by kernel_rfl,by kernel_rfl⟩
theorem c198:FnOK Tryz.prog (tblOf tab) A (198,94):=⟨Tryz.f198,p94,Tryz.func198,by kernel_rfl,by kernel_rfl,by kernel_rfl,by kernel_rfl⟩
theorem c254:FnOK Tryz.prog (tblOf tab) A (254,136):=⟨Tryz.f254,p136,Tryz.func254,by kernel_rfl,by kernel_rfl,by kernel_rfl,by kernel_rfl⟩
theorem c195:FnOK Tryz.prog (tblOf tab) A (195,134):=⟨Tryz.f195,p134,Tryz.func195,by kernel_rfl,by kernel_rfl,by kernel_rfl,by kernel_rfl⟩
theorem c262:FnOK Tryz.prog (tblOf tab) A (262,135):=⟨Tryz.f262,p135,Tryz.func262,by kernel_rfl,by kernel_rfl,by kernel_rfl,by kernel_rfl⟩
theorem c206:FnOK Tryz.prog (tblOf tab) A (206,131):=⟨Tryz.f206,p131,Tryz.func206,by kernel_rfl,by kernel_rfl,by kernel_rfl,by kernel_rfl⟩
theorem c261:FnOK Tryz.prog (tblOf tab) A (261,122):=⟨Tryz.f261,p122,Tryz.func261,by kernel_rfl,by kernel_rfl,by kernel_rfl,by kernel_rfl⟩
theorem c228:FnOK Tryz.prog (tblOf tab) A (228,98):=⟨Tryz.f228,p98,Tryz.func228,by kernel_rfl,by kernel_rfl,by kernel_rfl,by kernel_rfl⟩
theorem c194:FnOK Tryz.prog (tblOf tab) A (194,251):=⟨Tryz.f194,p251,Tryz.func194,by kernel_rfl,by kernel_rfl,by kernel_rfl,by kernel_rfl⟩
theorem c140:FnOK Tryz.prog (tblOf tab) A (140,283):=⟨Tryz.f140,p283,Tryz.func140,by kernel_rfl,by kernel_rfl,by kernel_rfl,by kernel_rfl⟩
theorem c142:FnOK Tryz.prog (tblOf tab) A (142,284):=⟨Tryz.f142,p284,Tryz.func142,by kernel_rfl,by kernel_rfl,by kernel_rfl,by kernel_rfl⟩
theorem c147:FnOK Tryz.prog (tblOf tab) A (147,286):=⟨Tryz.f147,p286,Tryz.func147,by kernel_rfl,by kernel_rfl,by kernel_rfl,by kernel_rfl⟩
theorem c64:FnOK Tryz.prog (tblOf tab) A (64,78):=⟨Tryz.f64,p78,Tryz.func64,by kernel_rfl,by kernel_rfl,by kernel_rfl,by kernel_rfl⟩
theorem c189:FnOK Tryz.prog (tblOf tab) A (189,79):=⟨Tryz.f189,p79,Tryz.func189,by kernel_rfl,by kernel_rfl,by kernel_rfl,by kernel_rfl⟩
theorem c98:FnOK Tryz.prog (tblOf tab) A (98,39):=⟨Tryz.f98,p39,Tryz.func98,by kernel_rfl,by kernel_rfl,by kernel_rfl,by kernel_rfl⟩
theorem c270:FnOK Tryz.prog (tblOf tab) A (270,93):=⟨Tryz.f270,p93,Tryz.func270,by kernel_rfl,by kernel_rfl,by kernel_rfl,by kernel_rfl⟩
theorem c224:FnOK Tryz.prog (tblOf tab) A (224,45):=⟨Tryz.f224,p45,Tryz.func224,by kernel_rfl,by kernel_rfl,by kernel_rfl,by kernel_rfl⟩
theorem c281:FnOK Tryz.prog (tblOf tab) A (281,95):=⟨Tryz.f281,p95,Tryz.func281,by kernel_rfl,by kernel_rfl,by kernel_rfl,by kernel_rfl⟩
theorem c273:FnOK Tryz.prog (tblOf tab) A (273,55):=⟨Tryz.f273,p55,Tryz.func273,by kernel_rfl,by kernel_rfl,by kernel_rfl,by kernel_rfl⟩
theorem c226:FnOK Tryz.prog (tblOf tab) A (226,46):=⟨Tryz.f226,p46,Tryz.func226,by kernel_rfl,by kernel_rfl,by kernel_rfl,by kernel_rfl⟩
theorem c253:FnOK Tryz.prog (tblOf tab) A (253,273):=⟨Tryz.f253,p273,Tryz.func253,by kernel_rfl,by kernel_rfl,by kernel_rfl,by kernel_rfl⟩
theorem c271:FnOK Tryz.prog (tblOf tab) A (271,282):=⟨Tryz.f271,p282,Tryz.func271,by kernel_rfl,by kernel_rfl,by kernel_rfl,by kernel_rfl⟩
theorem c227:FnOK Tryz.prog (tblOf tab) A (227,285):=⟨Tryz.f227,p285,Tryz.func227,by kernel_rfl,by kernel_rfl,by kernel_rfl,by kernel_rfl⟩
theorem c251:FnOK Tryz.prog (tblOf tab) A (251,287):=⟨Tryz.f251,p287,Tryz.func251,by kernel_rfl,by kernel_rfl,by kernel_rfl,by kernel_rfl⟩
theorem c229:FnOK Tryz.prog (tblOf tab) A (229,288):=⟨Tryz.f229,p288,Tryz.func229,by kernel_rfl,by kernel_rfl,by kernel_rfl,by kernel_rfl⟩
theorem c280:FnOK Tryz.prog (tblOf tab) A (280,312):=⟨Tryz.f280,p312,Tryz.func280,by kernel_rfl,by kernel_rfl,by kernel_rfl,by kernel_rfl⟩
theorem c272:FnOK Tryz.prog (tblOf tab) A (272,289):=⟨Tryz.f272,p289,Tryz.func272,by kernel_rfl,by kernel_rfl,by kernel_rfl,by kernel_rfl⟩
theorem c225:FnOK Tryz.prog (tblOf tab) A (225,249):=⟨Tryz.f225,p249,Tryz.func225,by kernel_rfl,by kernel_rfl,by kernel_rfl,by kernel_rfl⟩
theorem c138:FnOK Tryz.prog (tblOf tab) A (138,351):=⟨Tryz.f138,p351,Tryz.func138,by kernel_rfl,by kernel_rfl,by kernel_rfl,by kernel_rfl⟩
theorem c146:FnOK Tryz.prog (tblOf tab) A (146,357):=⟨Tryz.f146,p357,Tryz.func146,by kernel_rfl,by kernel_rfl,by kernel_rfl,by kernel_rfl⟩
theorem c139:FnOK Tryz.prog (tblOf tab) A (139,352):=⟨Tryz.f139,p352,Tryz.func139,by kernel_rfl,by kernel_rfl,by kernel_rfl,by kernel_rfl⟩
theorem c55:FnOK Tryz.prog (tblOf tab) A (55,350):=⟨Tryz.f55,p350,Tryz.func55,by kernel_rfl,by kernel_rfl,by kernel_rfl,by kernel_rfl⟩
theorem c7:FnOK Tryz.prog (tblOf tab) A (7,363):=⟨Tryz.f7,p363,Tryz.func7,by kernel_rfl,by kernel_rfl,by kernel_rfl,by kernel_rfl⟩
theorem models:Models Tryz.prog (tblOf tab) A:=by
 refine models_of (by kernel_rfl) fun x hx=>?_;simp only[tab,List.mem_cons,List.not_mem_nil,or_false]at hx;rcases hx with rfl|rfl|rfl|rfl|rfl|rfl|rfl|rfl|rfl|rfl|rfl|rfl|rfl|rfl|rfl|rfl|rfl|rfl|rfl|rfl|rfl|rfl|rfl|rfl|rfl|rfl|rfl|rfl|rfl|rfl|rfl|rfl|rfl|rfl|rfl|rfl|rfl|rfl|rfl|rfl|rfl|rfl|rfl|rfl|rfl|rfl|rfl|rfl|rfl|rfl|rfl|rfl|rfl|rfl|rfl|rfl|rfl|rfl|rfl|rfl|rfl|rfl|rfl|rfl|rfl|rfl|rfl|rfl|rfl|rfl|rfl|rfl|rfl|rfl|rfl|rfl|rfl|rfl|rfl|rfl|rfl|rfl|rfl|rfl|rfl|rfl|rfl|rfl|rfl|rfl|rfl|rfl|rfl|rfl|rfl|rfl|rfl|rfl|rfl|rfl|rfl|rfl|rfl|rfl|rfl|rfl|rfl|rfl|rfl|rfl|rfl|rfl|rfl|rfl|rfl|rfl
 ·exact c96
 ·exact c97
 ·exact c27
 ·exact c26
 ·exact c101
 ·exact c102
 ·exact c30
 ·exact c29
 ·exact c42
 ·exact c110
 ·exact c34
 ·exact c33
 ·exact c43
 ·exact c111
 ·exact c36
 ·exact c35
 ·exact c44
 ·exact c112
 ·exact c148
 ·exact c59
 ·exact c82
 ·exact c87
 ·exact c90
 ·exact c84
 ·exact c187
 ·exact c91
 ·exact c124
 ·exact c92
 ·exact c60
 ·exact c234
 ·exact c161
 ·exact c169
 ·exact c170
 ·exact c276
 ·exact c240
 ·exact c239
 ·exact c174
 ·exact c238
 ·exact c171
 ·exact c241
 ·exact c172
 ·exact c81
 ·exact c183
 ·exact c155
 ·exact c163
 ·exact c109
 ·exact c245
 ·exact c185
 ·exact c179
 ·exact c181
 ·exact c78
 ·exact c93
 ·exact c95
 ·exact c188
 ·exact c175
 ·exact c176
 ·exact c177
 ·exact c85
 ·exact c237
 ·exact c173
 ·exact c168
 ·exact c83
 ·exact c243
 ·exact c244
 ·exact c184
 ·exact c94
 ·exact c278
 ·exact c246
 ·exact c248
 ·exact c247
 ·exact c186
 ·exact c89
 ·exact c24
 ·exact c54
 ·exact c56
 ·exact c57
 ·exact c58
 ·exact c141
 ·exact c115
 ·exact c144
 ·exact c145
 ·exact c143
 ·exact c213
 ·exact c119
 ·exact c198
 ·exact c254
 ·exact c195
 ·exact c262
 ·exact c206
 ·exact c261
 ·exact c228
 ·exact c194
 ·exact c140
 ·exact c142
 ·exact c147
 ·exact c64
 ·exact c189
 ·exact c98
 ·exact c270
 ·exact c224
 ·exact c281
 ·exact c273
 ·exact c226
 ·exact c253
 ·exact c271
 ·exact c227
 ·exact c251
 ·exact c229
 ·exact c280
 ·exact c272
 ·exact c225
 ·exact c138
 ·exact c146
 ·exact c139
 ·exact c55
 ·exact c7
end Rv.Tc
