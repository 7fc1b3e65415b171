/- The abstract code is what the translated functions are compiled to. -/
import Derived.Test.YtgiabfngopkpmaaCsp
import Derived.Test.YtgiabfngopkpmaaChecked
import Derived.KernelRfl
namespace Rv.Cs
open Go.Proofs
set_option maxRecDepth 100000
def tab:List (Nat×Nat):=[(11,140),(44,56),(107,67),(133,115),(109,82),(65,73),(45,86),(108,87),(110,88),(47,89),(146,130),(141,129),(140,116),(135,128),(139,117),(111,90),(143,119),(113,91),(142,118),(112,92),(55,42),(76,102),(145,132),(130,124),(56,96),(136,137),(137,138),(132,139),(105,133),(131,125),(102,100),(52,186),(66,168),(16,149),(21,150),(20,156),(54,405),(73,416),(67,412),(115,80),(33,54),(79,99),(80,76),(38,81),(81,94),(127,127),(92,136),(35,134),(126,135),(91,131),(125,122),(90,98),(119,424),(75,417),(118,423),(72,415),(117,95),(138,55),(106,421),(53,406),(12,389),(58,74),(61,75),(59,85),(57,407),(60,408),(13,390),(74,78),(114,79),(62,39),(63,409),(14,391),(116,422),(64,410),(15,392),(68,411),(17,393),(70,179),(69,413),(18,394),(71,414),(19,395),(22,396),(120,278),(77,246),(78,418),(23,397),(24,398),(25,399),(26,400),(27,401),(82,419),(28,402),(83,62),(29,403),(36,251),(85,283),(84,420),(30,404),(4,425)]
abbrev K(x:Nat×Nat):Prop:=FnOK Try.prog (tblOf tab) A x
theorem c11:K (11,140):=⟨Try.f11,p140,Try.func11,by kernel_rfl,by kernel_rfl,by kernel_rfl,by kernel_rfl⟩
theorem c44:K (44,56):=⟨Try.f44,p56,Try.func44,by kernel_rfl,by kernel_rfl,by kernel_rfl,by kernel_rfl⟩
theorem c107:K (107,67):=⟨Try.f107,p67,Try.func107,by kernel_rfl,by kernel_rfl,by kernel_rfl,by kernel_rfl⟩
theorem c133:K (133,115):=⟨Try.f133,p115,Try.func133,by kernel_rfl,by kernel_rfl,by kernel_rfl,by kernel_rfl⟩
theorem c109:K (109,82):=⟨Try.f109,p82,Try.func109,by kernel_rfl,by kernel_rfl,by kernel_rfl,by kernel_rfl⟩
theorem c65:K (65,73):=⟨Try.f65,p73,Try.func65,by kernel_rfl,by kernel_rfl,by kernel_rfl,by kernel_rfl⟩
theorem c45:K (45,86):=⟨Try.f45,p86,Try.func45,by kernel_rfl,by kernel_rfl,by kernel_rfl,by kernel_rfl⟩
theorem c108:K (108,87):=⟨Try.f108,p87,Try.func108,by kernel_rfl,by kernel_rfl,by kernel_rfl,by kernel_rfl⟩
theorem c110:K (110,88):=⟨Try.f110,p88,Try.func110,by kernel_rfl,by kernel_rfl,by kernel_rfl,by kernel_rfl⟩
theorem c47:K (47,89):=⟨Try.f47,p89,Try.func47,by kernel_rfl,by kernel_rfl,by kernel_rfl,by kernel_rfl⟩
theorem c146:K (146,130):=⟨Try.f146,p130,Try.func146,by kernel_rfl,by kernel_rfl,by kernel_rfl,by kernel_rfl⟩
theorem c141:K (141,129):=⟨Try.f141,p129,Try.func141,by kernel_rfl,by kernel_rfl,by kernel_rfl,by kernel_rfl⟩
theorem c140:K (140,116):=⟨Try.f140,p116,Try.func140,by kernel_rfl,by kernel_rfl,by kernel_rfl,by kernel_rfl⟩
theorem c135:K (135,128):=⟨Try.f135,p128,Try.func135,by kernel_rfl,by kernel_rfl,by kernel_rfl,by kernel_rfl⟩
theorem c139:K (139,117):=⟨Try.f139,p117,Try.func139,by kernel_rfl,by kernel_rfl,by kernel_rfl,by kernel_rfl⟩
theorem c111:K (111,90):=⟨Try.f111,p90,Try.func111,by kernel_rfl,by kernel_rfl,by kernel_rfl,by kernel_rfl⟩
theorem c143:K (143,119):=⟨Try.f143,p119,Try.func143,by kernel_rfl,by kernel_rfl,by kernel_rfl,by kernel_rfl⟩
theorem c113:K (113,91):=⟨Try.f113,p91,Try.func113,by kernel_rfl,by kernel_rfl,by kernel_rfl,by kernel_rfl⟩
theorem c142:K (142,118):=⟨Try.f142,p118,Try.func142,by kernel_rfl,by kernel_rfl,by kernel_rfl,by kernel_rfl⟩
theorem c112:K (112,92):=⟨Try.f112,p92,Try.func112,by kernel_rfl,by kernel_rfl,by kernel_rfl,by kernel_rfl⟩
theorem c55:K (55,42):=⟨Try.f55,p42,Try.func55,by kernel_rfl,by kernel_rfl,by kernel_rfl,by kernel_rfl⟩
theorem c76:K (76,102):=⟨Try.f76,p102,Try.func76,by kernel_rfl,by kernel_rfl,by kernel_rfl,by kernel_rfl⟩
theorem c145:K (145,132):=⟨Try.f145,p132,Try.func145,by kernel_rfl,by kernel_rfl,by kernel_rfl,by kernel_rfl⟩
theorem c130:K (130,124):=⟨Try.f130,p124,Try.func130,by kernel_rfl,by kernel_rfl,by kernel_rfl,by kernel_rfl⟩
theorem c56:K (56,96):=⟨Try.f56,p96,Try.func56,by kernel_rfl,by kernel_rfl,by kernel_rfl,by kernel_rfl⟩
theorem c136:K (136,137):=⟨Try.f136,p137,Try.func136,by kernel_rfl,by kernel_rfl,by kernel_rfl,by kernel_rfl⟩
theorem c137:K (137,138):=⟨Try.f137,p138,Try.func137,by kernel_rfl,by kernel_rfl,by kernel_rfl,by kernel_rfl⟩
theorem c132:K (132,139):=⟨Try.f132,p139,Try.func132,by kernel_rfl,by kernel_rfl,by kernel_rfl,by kernel_rfl⟩
theorem c105:K (105,133):=⟨Try.f105,p133,Try.func105,by kernel_rfl,by kernel_rfl,by kernel_rfl,by kernel_rfl⟩
theorem c131:K (131,125):=⟨Try.f131,p125,Try.func131,by kernel_rfl,by kernel_rfl,by kernel_rfl,by kernel_rfl⟩
theorem c102:K (102,100):=⟨Try.f102,p100,Try.func102,by kernel_rfl,by kernel_rfl,by kernel_rfl,by kernel_rfl⟩
theorem c52:K (52,186):=⟨Try.f52,p186,Try.func52,by kernel_rfl,by kernel_rfl,by kernel_rfl,by kernel_rfl⟩
theorem c66:K (66,168):=⟨Try.f66,p168,Try.func66,by kernel_rfl,by kernel_rfl,by kernel_rfl,by kernel_rfl⟩
theorem c16:K (16,149):=⟨Try.f16,p149,Try.func16,by kernel_rfl,by kernel_rfl,by kernel_rfl,by kernel_rfl⟩
theorem c21:K (21,150):=⟨Try.f21,p150,Try.func21,by kernel_rfl,by kernel_rfl,by kernel_rfl,by kernel_rfl⟩
theorem c20:K (20,156):=⟨Try.f20,p156,Try.func20,by kernel_rfl,by kernel_rfl,by kernel_rfl,by kernel_rfl⟩
theorem c54:K (54,405):=⟨Try.f54,p405,Try.func54,by kernel_rfl,by kernel_rfl,by kernel_rfl,by kernel_rfl⟩
theorem c73:K (73,416):=⟨Try.f73,p416,Try.func73,by kernel_rfl,by kernel_rfl,by kernel_rfl,by kernel_rfl⟩
theorem c67:K (67,412):=⟨Try.f67,p412,Try.func67,by kernel_rfl,by kernel_rfl,by kernel_rfl,by kernel_rfl⟩
theorem c115:K (115,80):=⟨Try.f115,p80,Try.func115,by kernel_rfl,by kernel_rfl,by kernel_rfl,by kernel_rfl⟩
theorem c33:K (33,54):=⟨Try.f33,p54,Try.func33,by kernel_rfl,by kernel_rfl,by kernel_rfl,by kernel_rfl⟩
theorem c79:K (79,99):=⟨Try.f79,p99,Try.func79,by kernel_rfl,by kernel_rfl,by kernel_rfl,by kernel_rfl⟩
theorem c80:K (80,76):=⟨Try.f80,p76,Try.func80,by kernel_rfl,by kernel_rfl,by kernel_rfl,by kernel_rfl⟩
theorem c38:K (38,81):=⟨Try.f38,p81,Try.func38,by kernel_rfl,by kernel_rfl,by kernel_rfl,by kernel_rfl⟩
theorem c81:K (81,94):=⟨Try.f81,p94,Try.func81,by kernel_rfl,by kernel_rfl,by kernel_rfl,by kernel_rfl⟩
theorem c127:K (127,127):=⟨Try.f127,p127,Try.func127,by kernel_rfl,by kernel_rfl,by kernel_rfl,by kernel_rfl⟩
theorem c92:K (92,136):=⟨Try.f92,p136,Try.func92,by kernel_rfl,by kernel_rfl,by kernel_rfl,by kernel_rfl⟩
theorem c35:K (35,134):=⟨Try.f35,p134,Try.func35,by kernel_rfl,by kernel_rfl,by kernel_rfl,by kernel_rfl⟩
theorem c126:K (126,135):=⟨Try.f126,p135,Try.func126,by kernel_rfl,by kernel_rfl,by kernel_rfl,by kernel_rfl⟩
theorem c91:K (91,131):=⟨Try.f91,p131,Try.func91,by kernel_rfl,by kernel_rfl,by kernel_rfl,by kernel_rfl⟩
theorem c125:K (125,122):=⟨Try.f125,p122,Try.func125,by kernel_rfl,by kernel_rfl,by kernel_rfl,by kernel_rfl⟩
theorem c90:K (90,98):=⟨Try.f90,p98,Try.func90,by kernel_rfl,by kernel_rfl,by kernel_rfl,by kernel_rfl⟩
theorem c119:K (119,424):=⟨Try.f119,p424,Try.func119,by kernel_rfl,by kernel_rfl,by kernel_rfl,by kernel_rfl⟩
theorem c75:K (75,417):=⟨Try.f75,p417,Try.func75,by kernel_rfl,by kernel_rfl,by kernel_rfl,by kernel_rfl⟩
theorem c118:K (118,423):=⟨Try.f118,p423,Try.func118,by kernel_rfl,by kernel_rfl,by kernel_rfl,by kernel_rfl⟩
theorem c72:K (72,415):=⟨Try.f72,p415,Try.func72,by kernel_rfl,by kernel_rfl,by kernel_rfl,by kernel_rfl⟩
theorem c117:K (117,95):=⟨Try.f117,p95,Try.func117,by kernel_rfl,by kernel_rfl,by kernel_rfl,by kernel_rfl⟩
theorem c138:K (138,55):=⟨Try.f138,p55,Try.func138,by kernel_rfl,by kernel_rfl,by kernel_rfl,by kernel_rfl⟩
theorem c106:K (106,421):=⟨Try.f106,p421,Try.func106,by kernel_rfl,by kernel_rfl,by kernel_rfl,by kernel_rfl⟩
theorem c53:K (53,406):=⟨Try.f53,p406,Try.func53,by kernel_rfl,by kernel_rfl,by kernel_rfl,by kernel_rfl⟩
theorem c12:K (12,389):=⟨Try.f12,p389,Try.func12,by kernel_rfl,by kernel_rfl,by kernel_rfl,by kernel_rfl⟩
theorem c58:K (58,74):=⟨Try.f58,p74,Try.func58,by kernel_rfl,by kernel_rfl,by kernel_rfl,by kernel_rfl⟩
theorem c61:K (61,75):=⟨Try.f61,p75,Try.func61,by kernel_rfl,by kernel_rfl,by kernel_rfl,by kernel_rfl⟩
theorem c59:K (59,85):=⟨Try.f59,p85,Try.func59,by kernel_rfl,by kernel_rfl,by kernel_rfl,by kernel_rfl⟩
theorem c57:K (57,407):=⟨Try.f57,p407,Try.func57,by kernel_rfl,by kernel_rfl,by kernel_rfl,by kernel_rfl⟩
theorem c60:K (60,408):=⟨Try.f60,p408,Try.func60,by kernel_rfl,by kernel_rfl,by kernel_rfl,by kernel_rfl⟩
theorem c13:K (13,390):=⟨Try.f13,p390,Try.func13,by kernel_rfl,by kernel_rfl,by kernel_rfl,by kernel_rfl⟩
theorem c74:K (74,78):=⟨Try.f74,p78,Try.func74,by kernel_rfl,by kernel_rfl,by kernel_rfl,by kernel_rfl⟩
theorem c114:K (114,79):=⟨Try.f114,p79,Try.func114,by kernel_rfl,by kernel_rfl,by kernel_rfl,by kernel_rfl⟩
theorem c62:K (62,39):=⟨Try.f62,p39,Try.func62,by kernel_rfl,by kernel_rfl,by kernel_rfl,by kernel_rfl⟩
theorem c63:K (63,409):=⟨Try.f63,p409,Try.func63,by kernel_rfl,by kernel_rfl,by kernel_rfl,by kernel_rfl⟩
theorem c14:K (14,391):=⟨Try.f14,p391,Try.func14,by kernel_rfl,by kernel_rfl,by kernel_rfl,by kernel_rfl⟩
theorem c116:K (116,422):=⟨Try.f116,p422,Try.func116,by kernel_rfl,by kernel_rfl,by kernel_rfl,by kernel_rfl⟩
theorem c64:K (64,410):=⟨Try.f64,p410,Try.func64,by kernel_rfl,by kernel_rfl,by kernel_rfl,by kernel_rfl⟩
theorem c15:K (15,392):=⟨Try.f15,p392,Try.func15,by kernel_rfl,by kernel_rfl,by kernel_rfl,by kernel_rfl⟩
theorem c68:K (68,411):=⟨Try.f68,p411,Try.func68,by kernel_rfl,by kernel_rfl,by kernel_rfl,by kernel_rfl⟩
theorem c17:K (17,393):=⟨Try.f17,p393,Try.func17,by kernel_rfl,by kernel_rfl,by kernel_rfl,by kernel_rfl⟩
theorem c70:K (70,179):=⟨Try.f70,p179,Try.func70,by kernel_rfl,by kernel_rfl,by kernel_rfl,by kernel_rfl⟩
theorem c69:K (69,413):=⟨Try.f69,p413,Try.func69,by kernel_rfl,by kernel_rfl,by kernel_rfl,by kernel_rfl⟩
theorem c18:K (18,394):=⟨Try.f18,p394,Try.func18,by kernel_rfl,by kernel_rfl,by kernel_rfl,by kernel_rfl⟩
theorem c71:K (71,414):=⟨Try.f71,p414,Try.func71,by kernel_rfl,by kernel_rfl,by kernel_rfl,by kernel_rfl⟩
theorem c19:K (19,395):=⟨Try.f19,p395,Try.func19,by kernel_rfl,by kernel_rfl,by kernel_rfl,by kernel_rfl⟩
theorem c22:K (22,396):=⟨Try.f22,p396,Try.func22,by kernel_rfl,by kernel_rfl,by kernel_rfl,by kernel_rfl⟩
theorem c120:K (120,278):=⟨Try.f120,p278,Try.func120,by kernel_rfl,by kernel_rfl,by kernel_rfl,by kernel_rfl⟩
theorem c77:K (77,246):=⟨Try.f77,p246,Try.func77,by kernel_rfl,by kernel_rfl,by kernel_rfl,by kernel_rfl⟩
theorem c78:K (78,418):=⟨Try.f78,p418,Try.func78,by kernel_rfl,by kernel_rfl,by kernel_rfl,by kernel_rfl⟩
theorem c23:K (23,397):=⟨Try.f23,p397,Try.func23,by kernel_rfl,by kernel_rfl,by kernel_rfl,by kernel_rfl⟩
theorem c24:K (24,398):=⟨Try.f24,p398,Try.func24,by kernel_rfl,by kernel_rfl,by kernel_rfl,by kernel_rfl⟩
theorem c25:K (25,399):=⟨Try.f25,p399,Try.func25,by kernel_rfl,by kernel_rfl,by kernel_rfl,by kernel_rfl⟩
theorem c26:K (26,400):=⟨Try.f26,p400,Try.func26,by kernel_rfl,by kernel_rfl,by kernel_rfl,by kernel_rfl⟩
theorem c27:K (27,401):=⟨Try.f27,p401,Try.func27,by kernel_rfl,by kernel_rfl,by kernel_rfl,by kernel_rfl⟩
theorem c82:K (82,419):=⟨Try.f82,p419,Try.func82,by kernel_rfl,by kernel_rfl,by kernel_rfl,by kernel_rfl⟩
theorem c28:K (28,402):=⟨Try.f28,p402,Try.func28,by kernel_rfl,by kernel_rfl,by kernel_rfl,by kernel_rfl⟩
theorem c83:K (83,62):=⟨Try.f83,p62,Try.func83,by kernel_rfl,by kernel_rfl,by kernel_rfl,by kernel_rfl⟩
theorem c29:K (29,403):=⟨Try.f29,p403,Try.func29,by kernel_rfl,by kernel_rfl,by kernel_rfl,by kernel_rfl⟩
theorem c36:K (36,251):=⟨Try.f36,p251,Try.func36,by kernel_rfl,by kernel_rfl,by kernel_rfl,by kernel_rfl⟩
theorem c85:K (85,283):=⟨Try.f85,p283,Try.func85,by kernel_rfl,by kernel_rfl,by kernel_rfl,by kernel_rfl⟩
theorem c84:K (84,420):=⟨Try.f84,p420,Try.func84,by kernel_rfl,by kernel_rfl,by kernel_rfl,by kernel_rfl⟩
theorem c30:K (30,404):=⟨Try.f30,p404,Try.func30,by kernel_rfl,by kernel_rfl,by kernel_rfl,by kernel_rfl⟩
theorem c4:K (4,425):=⟨Try.f4,p425,Try.func4,by kernel_rfl,by kernel_rfl,by kernel_rfl,by kernel_rfl⟩
theorem models:Models Try.prog (tblOf tab) A:=by
 refine models_of (by kernel_rfl) fun x hx=>?_;simp only[tab,List.mem_cons,List.not_mem_nil,or_false]at hx;rcases hx with rfl|rfl|rfl|rfl|rfl|rfl|rfl|rfl|rfl|rfl|rfl|rfl|rfl|rfl|rfl|rfl|rfl|rfl|rfl|rfl|rfl|rfl|rfl|rfl|rfl|rfl|rfl|rfl|rfl|rfl|rfl|rfl|rfl|rfl|rfl|rfl|rfl|rfl|rfl|rfl|rfl|rfl|rfl|rfl|rfl|rfl|rfl|rfl|rfl|rfl|rfl|rfl|rfl|rfl|rfl|rfl|rfl|rfl|rfl|rfl|rfl|rfl|rfl|rfl|rfl|rfl|rfl|rfl|rfl|rfl|rfl|rfl|rfl|rfl|rfl|rfl|rfl|rfl|rfl|rfl|rfl|rfl|rfl|rfl|rfl|rfl|rfl|rfl|rfl|rfl|rfl|rfl|rfl|rfl|rfl|rfl|rfl|rfl|rfl|rfl
 ·exact c11
 ·exact c44
 ·exact c107
 ·exact c133
 ·exact c109
 ·exact c65
 ·exact c45
 ·exact c108
 ·exact c110
 ·exact c47
 ·exact c146
 ·exact c141
 ·exact c140
 ·exact c135
 ·exact c139
 ·exact c111
 ·exact c143
 ·exact c113
 ·exact c142
 ·exact c112
 ·exact c55
 ·exact c76
 ·exact c145
 ·exact c130
 ·exact c56
 ·exact c136
 ·exact c137
 ·exact c132
 ·exact c105
 ·exact c131
 ·exact c102
 ·exact c52
 ·exact c66
 ·exact c16
 ·exact c21
 ·exact c20
 ·exact c54
 ·exact c73
 ·exact c67
 ·exact c115
 ·exact c33
 ·exact c79
 ·exact c80
 ·exact c38
 ·exact c81
 ·exact c127
 ·exact c92
 ·exact c35
 ·exact c126
 ·exact c91
 ·exact c125
 ·exact c90
 ·exact c119
 ·exact c75
 ·exact c118
 ·exact c72
 ·exact c117
 ·exact c138
 ·exact c106
 ·exact c53
 ·exact c12
 ·exact c58
 ·exact c61
 ·exact c59
 ·exact c57
 ·exact c60
 ·exact c13
 ·exact c74
 ·exact c114
 ·exact c62
 ·exact c63
 ·exact c14
 ·exact c116
 ·exact c64
 ·exact c15
 ·exact c68
 ·exact c17
 ·exact c70
 ·exact c69
 ·exact c18
 ·exact c71
 ·exact c19
 ·exact c22
 ·exact c120
 ·exact c77
 ·exact c78
 ·exact c23
 ·exact c24
 ·exact c25
 ·exact c26
 ·exact c27
 ·exact c82
 ·exact c28
 ·exact c83
 ·exact c29
 ·exact c36
 ·exact c85
 ·exact c84
 ·exact c30
 ·exact c4
end Rv.Cs
