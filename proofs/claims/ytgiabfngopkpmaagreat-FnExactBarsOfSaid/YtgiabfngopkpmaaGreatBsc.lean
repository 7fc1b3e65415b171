/- The abstract code is what the translated functions are compiled to. -/
import Derived.Test.YtgiabfngopkpmaaGreatBsp
import Derived.Test.YtgiabfngopkpmaaGreatChecked
import Derived.KernelRfl
namespace Rv.Bs
open Go.Proofs
set_option maxRecDepth 100000
def tab:List (Nat×Nat):=[(27,30),(105,51),(177,17),(104,16),(35,25),(28,31),(107,52),(178,21),(106,20),(36,26),(161,43),(93,44),(162,11),(92,10),(30,37),(170,47),(97,48),(171,13),(96,12),(32,40),(77,54),(43,78),(207,79),(205,80),(81,81),(163,39),(198,99),(164,76),(165,77),(94,38),(152,94),(153,127),(204,136),(202,134),(203,135),(151,131),(201,122),(209,98),(210,292),(208,293),(166,294),(211,295),(169,258),(167,376),(168,377),(95,371),(31,366),(86,56),(39,67),(183,115),(120,82),(61,73),(69,86),(128,87),(129,88),(63,89),(217,130),(189,129),(188,116),(134,128),(187,117),(130,90),(148,119),(70,91),(190,118),(131,92),(60,42),(121,83),(123,84),(122,85),(51,41),(133,96),(135,137),(136,138),(137,139),(64,133),(71,102),(186,125),(172,202),(216,211),(185,203),(126,184),(184,201),(125,200),(99,296),(100,259),(98,372),(212,382),(221,386),(220,385),(213,383),(173,378),(101,373),(174,379),(214,384),(176,380),(175,381),(102,374),(33,367),(103,375),(34,368),(37,369),(38,370),(5,388)]
abbrev K(x:Nat×Nat):Prop:=FnOK Tryz.prog (tblOf tab) A x
theorem c27:K (27,30):=⟨Tryz.f27,p30,Tryz.func27,by kernel_rfl,by kernel_rfl,by kernel_rfl,by kernel_rfl⟩
theorem c105:K (105,51):=⟨Tryz.f105,p51,Tryz.func105,by kernel_rfl,by kernel_rfl,by kernel_rfl,by kernel_rfl⟩
theorem c177:K (177,17):=⟨Tryz.f177,p17,Tryz.func177,by kernel_rfl,by kernel_rfl,by kernel_rfl,by kernel_rfl⟩
theorem c104:K (104,16):=⟨Tryz.f104,p16,Tryz.func104,by kernel_rfl,by kernel_rfl,by kernel_rfl,by kernel_rfl⟩
theorem c35:K (35,25):=⟨Tryz.f35,p25,Tryz.func35,by kernel_rfl,by kernel_rfl,by kernel_rfl,by kernel_rfl⟩
theorem c28:K (28,31):=⟨Tryz.f28,p31,Tryz.func28,by kernel_rfl,by kernel_rfl,by kernel_rfl,by kernel_rfl⟩
theorem c107:K (107,52):=⟨Tryz.f107,p52,Tryz.func107,by kernel_rfl,by kernel_rfl,by kernel_rfl,by kernel_rfl⟩
theorem c178:K (178,21):=⟨Tryz.f178,p21,Tryz.func178,by kernel_rfl,by kernel_rfl,by kernel_rfl,by kernel_rfl⟩
theorem c106:K (106,20):=⟨Tryz.f106,p20,Tryz.func106,by kernel_rfl,by kernel_rfl,by kernel_rfl,by kernel_rfl⟩
theorem c36:K (36,26):=⟨Tryz.f36,p26,Tryz.func36,by kernel_rfl,by kernel_rfl,by kernel_rfl,by kernel_rfl⟩
theorem c161:K (161,43):=⟨Tryz.f161,p43,Tryz.func161,by kernel_rfl,by kernel_rfl,by kernel_rfl,by kernel_rfl⟩
theorem c93:K (93,44):=⟨Tryz.f93,p44,Tryz.func93,by kernel_rfl,by kernel_rfl,by kernel_rfl,by kernel_rfl⟩
theorem c162:K (162,11):=⟨Tryz.f162,p11,Tryz.func162,by kernel_rfl,by kernel_rfl,by kernel_rfl,by kernel_rfl⟩
theorem c92:K (92,10):=⟨Tryz.f92,p10,Tryz.func92,by kernel_rfl,by kernel_rfl,by kernel_rfl,by kernel_rfl⟩
theorem c30:K (30,37):=⟨Tryz.f30,p37,Tryz.func30,by kernel_rfl,by kernel_rfl,by kernel_rfl,by kernel_rfl⟩
theorem c170:K (170,47):=⟨Tryz.f170,p47,Tryz.func170,by kernel_rfl,by kernel_rfl,by kernel_rfl,by kernel_rfl⟩
theorem c97:K (97,48):=⟨Tryz.f97,p48,Tryz.func97,by kernel_rfl,by kernel_rfl,by kernel_rfl,by kernel_rfl⟩
theorem c171:K (171,13):=⟨Tryz.f171,p13,Tryz.func171,by kernel_rfl,by kernel_rfl,by kernel_rfl,by kernel_rfl⟩
theorem c96:K (96,12):=⟨Tryz.f96,p12,Tryz.func96,by kernel_rfl,by kernel_rfl,by kernel_rfl,by kernel_rfl⟩
theorem c32:K (32,40):=⟨Tryz.f32,p40,Tryz.func32,by kernel_rfl,by kernel_rfl,by kernel_rfl,by kernel_rfl⟩
theorem c77:K (77,54):=⟨Tryz.f77,p54,Tryz.func77,by kernel_rfl,by kernel_rfl,by kernel_rfl,by kernel_rfl⟩
theorem c43:K (43,78):=⟨Tryz.f43,p78,Tryz.func43,by kernel_rfl,by kernel_rfl,by kernel_rfl,by kernel_rfl⟩
theorem c207:K (207,79):=⟨Tryz.f207,p79,Tryz.func207,by kernel_rfl,by kernel_rfl,by kernel_rfl,by kernel_rfl⟩
theorem c205:K (205,80):=⟨Tryz.f205,p80,Tryz.func205,by kernel_rfl,by kernel_rfl,by kernel_rfl,by kernel_rfl⟩
theorem c81:K (81,81):=⟨Tryz.f81,p81,Tryz.func81,by kernel_rfl,by kernel_rfl,by kernel_rfl,by kernel_rfl⟩
theorem c163:K (163,39):=⟨Tryz.f163,p39,Tryz.func163,by kernel_rfl,by kernel_rfl,by kernel_rfl,by kernel_rfl⟩
theorem c198:K (198,99):=⟨Tryz.f198,p99,Tryz.func198,by kernel_rfl,by kernel_rfl,by kernel_rfl,by kernel_rfl⟩
theorem c164:K (164,76):=⟨Tryz.f164,p76,Tryz.func164,by kernel_rfl,by kernel_rfl,by kernel_rfl,by kernel_rfl⟩
theorem c165:K (165,77):=⟨Tryz.f165,p77,Tryz.func165,by kernel_rfl,by kernel_rfl,by kernel_rfl,by kernel_rfl⟩
theorem c94:K (94,38):=⟨Tryz.f94,p38,Tryz.func94,by kernel_rfl,by kernel_rfl,by kernel_rfl,by kernel_rfl⟩
theorem c152:K (152,94):=⟨Tryz.f152,p94,Tryz.func152,by kernel_rfl,by kernel_rfl,by kernel_rfl,by kernel_rfl⟩
theorem c153:K (153,127):=⟨Tryz.f153,p127,Tryz.func153,by kernel_rfl,by kernel_rfl,by kernel_rfl,by kernel_rfl⟩
theorem c204:K (204,136):=⟨Tryz.f204,p136,Tryz.func204,by kernel_rfl,by kernel_rfl,by kernel_rfl,by kernel_rfl⟩
theorem c202:K (202,134):=⟨Tryz.f202,p134,Tryz.func202,by kernel_rfl,by kernel_rfl,by kernel_rfl,by kernel_rfl⟩
theorem c203:K (203,135):=⟨Tryz.f203,p135,Tryz.func203,by kernel_rfl,by kernel_rfl,by kernel_rfl,by kernel_rfl⟩
theorem c151:K (151,131):=⟨Tryz.f151,p131,Tryz.func151,by kernel_rfl,by kernel_rfl,by kernel_rfl,by kernel_rfl⟩
theorem c201:K (201,122):=⟨Tryz.f201,p122,Tryz.func201,by kernel_rfl,by kernel_rfl,by kernel_rfl,by kernel_rfl⟩
theorem c209:K (209,98):=⟨Tryz.f209,p98,Tryz.func209,by kernel_rfl,by kernel_rfl,by kernel_rfl,by kernel_rfl⟩
theorem c210:K (210,292):=⟨Tryz.f210,p292,Tryz.func210,by kernel_rfl,by kernel_rfl,by kernel_rfl,by kernel_rfl⟩
theorem c208:K (208,293):=⟨Tryz.f208,p293,Tryz.func208,by kernel_rfl,by kernel_rfl,by kernel_rfl,by kernel_rfl⟩
theorem c166:K (166,294):=⟨Tryz.f166,p294,Tryz.func166,by kernel_rfl,by kernel_rfl,by kernel_rfl,by kernel_rfl⟩
theorem c211:K (211,295):=⟨Tryz.f211,p295,Tryz.func211,by kernel_rfl,by kernel_rfl,by kernel_rfl,by kernel_rfl⟩
theorem c169:K (169,258):=⟨Tryz.f169,p258,Tryz.func169,by kernel_rfl,by kernel_rfl,by kernel_rfl,by kernel_rfl⟩
theorem c167:K (167,376):=⟨Tryz.f167,p376,Tryz.func167,by kernel_rfl,by kernel_rfl,by kernel_rfl,by kernel_rfl⟩
theorem c168:K (168,377):=⟨Tryz.f168,p377,Tryz.func168,by kernel_rfl,by kernel_rfl,by kernel_rfl,by kernel_rfl⟩
theorem c95:K (95,371):=⟨Tryz.f95,p371,Tryz.func95,by kernel_rfl,by kernel_rfl,by kernel_rfl,by kernel_rfl⟩
theorem c31:K (31,366):=⟨Tryz.f31,p366,Tryz.func31,by kernel_rfl,by kernel_rfl,by kernel_rfl,by kernel_rfl⟩
theorem c86:K (86,56):=⟨Tryz.f86,p56,Tryz.func86,by kernel_rfl,by kernel_rfl,by kernel_rfl,by kernel_rfl⟩
theorem c39:K (39,67):=⟨Tryz.f39,p67,Tryz.func39,by kernel_rfl,by kernel_rfl,by kernel_rfl,by kernel_rfl⟩
theorem c183:K (183,115):=⟨Tryz.f183,p115,Tryz.func183,by kernel_rfl,by kernel_rfl,by kernel_rfl,by kernel_rfl⟩
theorem c120:K (120,82):=⟨Tryz.f120,p82,Tryz.func120,by kernel_rfl,by kernel_rfl,by kernel_rfl,by kernel_rfl⟩
theorem c61:K (61,73):=⟨Tryz.f61,p73,Tryz.func61,by kernel_rfl,by kernel_rfl,by kernel_rfl,by kernel_rfl⟩
theorem c69:K (69,86):=⟨Tryz.f69,p86,Tryz.func69,by kernel_rfl,by kernel_rfl,by kernel_rfl,by kernel_rfl⟩
theorem c128:K (128,87):=⟨Tryz.f128,p87,Tryz.func128,by kernel_rfl,by kernel_rfl,by kernel_rfl,by kernel_rfl⟩
theorem c129:K (129,88):=⟨Tryz.f129,p88,Tryz.func129,by kernel_rfl,by kernel_rfl,by kernel_rfl,by kernel_rfl⟩
theorem c63:K (63,89):=⟨Tryz.f63,p89,Tryz.func63,by kernel_rfl,by kernel_rfl,by kernel_rfl,by kernel_rfl⟩
theorem c217:K (217,130):=⟨Tryz.f217,p130,Tryz.func217,by kernel_rfl,by kernel_rfl,by kernel_rfl,by kernel_rfl⟩
theorem c189:K (189,129):=⟨Tryz.f189,p129,Tryz.func189,by kernel_rfl,by kernel_rfl,by kernel_rfl,by kernel_rfl⟩
theorem c188:K (188,116):=⟨Tryz.f188,p116,Tryz.func188,by kernel_rfl,by kernel_rfl,by kernel_rfl,by kernel_rfl⟩
theorem c134:K (134,128):=⟨Tryz.f134,p128,Tryz.func134,by kernel_rfl,by kernel_rfl,by kernel_rfl,by kernel_rfl⟩
theorem c187:K (187,117):=⟨Tryz.f187,p117,Tryz.func187,by kernel_rfl,by kernel_rfl,by kernel_rfl,by kernel_rfl⟩
theorem c130:K (130,90):=⟨Tryz.f130,p90,Tryz.func130,by kernel_rfl,by kernel_rfl,by kernel_rfl,by kernel_rfl⟩
theorem c148:K (148,119):=⟨Tryz.f148,p119,Tryz.func148,by kernel_rfl,by kernel_rfl,by kernel_rfl,by kernel_rfl⟩
theorem c70:K (70,91):=⟨Tryz.f70,p91,Tryz.func70,by kernel_rfl,by kernel_rfl,by kernel_rfl,by kernel_rfl⟩
theorem c190:K (190,118):=⟨Tryz.f190,p118,Tryz.func190,by kernel_rfl,by kernel_rfl,by kernel_rfl,by kernel_rfl⟩
theorem c131:K (131,92):=⟨Tryz.f131,p92,Tryz.func131,by kernel_rfl,by kernel_rfl,by kernel_rfl,by kernel_rfl⟩
theorem c60:K (60,42):=⟨Tryz.f60,p42,Tryz.func60,by kernel_rfl,by kernel_rfl,by kernel_rfl,by kernel_rfl⟩
theorem c121:K (121,83):=⟨Tryz.f121,p83,Tryz.func121,by kernel_rfl,by kernel_rfl,by kernel_rfl,by kernel_rfl⟩
theorem c123:K (123,84):=⟨Tryz.f123,p84,Tryz.func123,by kernel_rfl,by kernel_rfl,by kernel_rfl,by kernel_rfl⟩
theorem c122:K (122,85):=⟨Tryz.f122,p85,Tryz.func122,by kernel_rfl,by kernel_rfl,by kernel_rfl,by kernel_rfl⟩
theorem c51:K (51,41):=⟨Tryz.f51,p41,Tryz.func51,by kernel_rfl,by kernel_rfl,by kernel_rfl,by kernel_rfl⟩
theorem c133:K (133,96):=⟨Tryz.f133,p96,Tryz.func133,by kernel_rfl,by kernel_rfl,by kernel_rfl,by kernel_rfl⟩
theorem c135:K (135,137):=⟨Tryz.f135,p137,Tryz.func135,by kernel_rfl,by kernel_rfl,by kernel_rfl,by kernel_rfl⟩
theorem c136:K (136,138):=⟨Tryz.f136,p138,Tryz.func136,by kernel_rfl,by kernel_rfl,by kernel_rfl,by kernel_rfl⟩
theorem c137:K (137,139):=⟨Tryz.f137,p139,Tryz.func137,by kernel_rfl,by kernel_rfl,by kernel_rfl,by kernel_rfl⟩
theorem c64:K (64,133):=⟨Tryz.f64,p133,Tryz.func64,by kernel_rfl,by kernel_rfl,by kernel_rfl,by kernel_rfl⟩
theorem c71:K (71,102):=⟨Tryz.f71,p102,Tryz.func71,by kernel_rfl,by kernel_rfl,by kernel_rfl,by kernel_rfl⟩
theorem c186:K (186,125):=⟨Tryz.f186,p125,Tryz.func186,by kernel_rfl,by kernel_rfl,by kernel_rfl,by kernel_rfl⟩
theorem c172:K (172,202):=⟨Tryz.f172,p202,Tryz.func172,by kernel_rfl,by kernel_rfl,by kernel_rfl,by kernel_rfl⟩
theorem c216:K (216,211):=⟨Tryz.f216,p211,Tryz.func216,by kernel_rfl,by kernel_rfl,by kernel_rfl,by kernel_rfl⟩
theorem c185:K (185,203):=⟨Tryz.f185,p203,Tryz.func185,by kernel_rfl,by kernel_rfl,by kernel_rfl,by kernel_rfl⟩
theorem c126:K (126,184):=⟨Tryz.f126,p184,Tryz.func126,by kernel_rfl,by kernel_rfl,by kernel_rfl,by kernel_rfl⟩
theorem c184:K (184,201):=⟨Tryz.f184,p201,Tryz.func184,by kernel_rfl,by kernel_rfl,by kernel_rfl,by kernel_rfl⟩
theorem c125:K (125,200):=⟨Tryz.f125,p200,Tryz.func125,by kernel_rfl,by kernel_rfl,by kernel_rfl,by kernel_rfl⟩
theorem c99:K (99,296):=⟨Tryz.f99,p296,Tryz.func99,by kernel_rfl,by kernel_rfl,by kernel_rfl,by kernel_rfl⟩
theorem c100:K (100,259):=⟨Tryz.f100,p259,Tryz.func100,by kernel_rfl,by kernel_rfl,by kernel_rfl,by kernel_rfl⟩
theorem c98:K (98,372):=⟨Tryz.f98,p372,Tryz.func98,by kernel_rfl,by kernel_rfl,by kernel_rfl,by kernel_rfl⟩
theorem c212:K (212,382):=⟨Tryz.f212,p382,Tryz.func212,by kernel_rfl,by kernel_rfl,by kernel_rfl,by kernel_rfl⟩
theorem c221:K (221,386):=⟨Tryz.f221,p386,Tryz.func221,by kernel_rfl,by kernel_rfl,by kernel_rfl,by kernel_rfl⟩
theorem c220:K (220,385):=⟨Tryz.f220,p385,Tryz.func220,by kernel_rfl,by kernel_rfl,by kernel_rfl,by kernel_rfl⟩
theorem c213:K (213,383):=⟨Tryz.f213,p383,Tryz.func213,by kernel_rfl,by kernel_rfl,by kernel_rfl,by kernel_rfl⟩
theorem c173:K (173,378):=⟨Tryz.f173,p378,Tryz.func173,by kernel_rfl,by kernel_rfl,by kernel_rfl,by kernel_rfl⟩
theorem c101:K (101,373):=⟨Tryz.f101,p373,Tryz.func101,by kernel_rfl,by kernel_rfl,by kernel_rfl,by kernel_rfl⟩
theorem c174:K (174,379):=⟨Tryz.f174,p379,Tryz.func174,by kernel_rfl,by kernel_rfl,by kernel_rfl,by kernel_rfl⟩
theorem c214:K (214,384):=⟨Tryz.f214,p384,Tryz.func214,by kernel_rfl,by kernel_rfl,by kernel_rfl,by kernel_rfl⟩
theorem c176:K (176,380):=⟨Tryz.f176,p380,Tryz.func176,by kernel_rfl,by kernel_rfl,by kernel_rfl,by kernel_rfl⟩
theorem c175:K (175,381):=⟨Tryz.f175,p381,Tryz.func175,by kernel_rfl,by kernel_rfl,by kernel_rfl,by kernel_rfl⟩
theorem c102:K (102,374):=⟨Tryz.f102,p374,Tryz.func102,by kernel_rfl,by kernel_rfl,by kernel_rfl,by kernel_rfl⟩
theorem c33:K (33,367):=⟨Tryz.f33,p367,Tryz.func33,by kernel_rfl,by kernel_rfl,by kernel_rfl,by kernel_rfl⟩
theorem c103:K (103,375):=⟨Tryz.f103,p375,Tryz.func103,by kernel_rfl,by kernel_rfl,by kernel_rfl,by kernel_rfl⟩
theorem c34:K (34,368):=⟨Tryz.f34,p368,Tryz.func34,by kernel_rfl,by kernel_rfl,by kernel_rfl,by kernel_rfl⟩
theorem c37:K (37,369):=⟨Tryz.f37,p369,Tryz.func37,by kernel_rfl,by kernel_rfl,by kernel_rfl,by kernel_rfl⟩
theorem c38:K (38,370):=⟨Tryz.f38,p370,Tryz.func38,by kernel_rfl,by kernel_rfl,by kernel_rfl,by kernel_rfl⟩
theorem c5:K (5,388):=⟨Tryz.f5,p388,Tryz.func5,by kernel_rfl,by kernel_rfl,by kernel_rfl,by kernel_rfl⟩
theorem models:Models Tryz.prog (tblOf tab) A:=by
 refine models_of (by kernel_rfl) fun x hx=>?_;simp only[tab,List.mem_cons,List.not_mem_nil,or_false]at hx;rcases hx with rfl|rfl|rfl|rfl|rfl|rfl|rfl|rfl|rfl|rfl|rfl|rfl|rfl|rfl|rfl|rfl|rfl|rfl|rfl|rfl|rfl|rfl|rfl|rfl|rfl|rfl|rfl|rfl|rfl|rfl|rfl|rfl|rfl|rfl|rfl|rfl|rfl|rfl|rfl|rfl|rfl|rfl|rfl|rfl|rfl|rfl|rfl|rfl|rfl|rfl|rfl|rfl|rfl|rfl|rfl|rfl|rfl|rfl|rfl|rfl|rfl|rfl|rfl|rfl|rfl|rfl|rfl|rfl|rfl|rfl|rfl|rfl|rfl|rfl|rfl|rfl|rfl|rfl|rfl|rfl|rfl|rfl|rfl|rfl|rfl|rfl|rfl|rfl|rfl|rfl|rfl|rfl|rfl|rfl|rfl|rfl|rfl|rfl|rfl|rfl|rfl|rfl|rfl|rfl
 ·exact c27
 ·exact c105
 ·exact c177
 ·exact c104
 ·exact c35
 ·exact c28
 ·exact c107
 ·exact c178
 ·exact c106
 ·exact c36
 ·exact c161
 ·exact c93
 ·exact c162
 ·exact c92
 ·exact c30
 ·exact c170
 ·exact c97
 ·exact c171
 ·exact c96
 ·exact c32
 ·exact c77
 ·exact c43
 ·exact c207
 ·exact c205
 ·exact c81
 ·exact c163
 ·exact c198
 ·exact c164
 ·exact c165
 ·exact c94
 ·exact c152
 ·exact c153
 ·exact c204
 ·exact c202
 ·exact c203
 ·exact c151
 ·exact c201
 ·exact c209
 ·exact c210
 ·exact c208
 ·exact c166
 ·exact c211
 ·exact c169
 ·exact c167
 ·exact c168
 ·exact c95
 ·exact c31
 ·exact c86
 ·exact c39
 ·exact c183
 ·exact c120
 ·exact c61
 ·exact c69
 ·exact c128
 ·exact c129
 ·exact c63
 ·exact c217
 ·exact c189
 ·exact c188
 ·exact c134
 ·exact c187
 ·exact c130
 ·exact c148
 ·exact c70
 ·exact c190
 ·exact c131
 ·exact c60
 ·exact c121
 ·exact c123
 ·exact c122
 ·exact c51
 ·exact c133
 ·exact c135
 ·exact c136
 ·exact c137
 ·exact c64
 ·exact c71
 ·exact c186
 ·exact c172
 ·exact c216
 ·exact c185
 ·exact c126
 ·exact c184
 ·exact c125
 ·exact c99
 ·exact c100
 ·exact c98
 ·exact c212
 ·exact c221
 ·exact c220
 ·exact c213
 ·exact c173
 ·exact c101
 ·exact c174
 ·exact c214
 ·exact c176
 ·exact c175
 ·exact c102
 ·exact c33
 ·exact c103
 ·exact c34
 ·exact c37
 ·exact c38
 ·exact c5
end Rv.Bs
