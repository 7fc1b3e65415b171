/- The abstract code is what the translated functions are compiled to. -/
import Derived.Test.YtnioomfbbmjpaaaGreatRdp
import Derived.Test.YtnioomfbbmjpaaaGreatChecked
import Derived.KernelRfl
namespace Rv.Rd
open Go.Proofs
set_option maxRecDepth 100000
def tab : List (Nat × Nat) := [(28, 43), (29, 44), (8, 11), (6, 10), (32, 47), (33, 48), (12, 13), (10, 12), (35, 30), (36, 51), (16, 17), (14, 16), (7, 224), (11, 225), (15, 228), (79, 54), (78, 78), (80, 79), (53, 80), (81, 81), (37, 39), (108, 93), (69, 45), (90, 94), (145, 95), (113, 55), (71, 46), (55, 272), (56, 99), (133, 76), (110, 273), (57, 127), (134, 136), (87, 134), (153, 135), (132, 131), (143, 122), (105, 98), (86, 251), (52, 283), (109, 282), (54, 284), (72, 285), (59, 286), (111, 287), (106, 288), (144, 312), (112, 289), (70, 249), (30, 351), (58, 357), (31, 352), (9, 343), (103, 56), (120, 67), (150, 115), (122, 82), (43, 73), (62, 86), (121, 87), (123, 88), (60, 89), (158, 130), (147, 129), (146, 116), (152, 128), (127, 117), (114, 90), (104, 119), (63, 91), (149, 118), (118, 92), (75, 42), (73, 49), (61, 74), (96, 75), (95, 85), (47, 96), (124, 57), (76, 50), (48, 102), (148, 132), (116, 124), (119, 165), (64, 173), (66, 175), (107, 194), (155, 137), (156, 138), (154, 139), (140, 133), (141, 125), (100, 100), (101, 186), (98, 168), (115, 206), (117, 207), (74, 192), (65, 174), (151, 212), (125, 208), (128, 213), (126, 209), (77, 193), (34, 172), (13, 344), (3, 361)]
theorem c28 : FnOK Tryz.prog (tblOf tab) A (28, 43) := ⟨Tryz.f28, p43, Tryz.func28, by kernel_rfl, by kernel_rfl, by kernel_rfl, by kernel_rfl⟩
theorem c29 : FnOK Tryz.prog (tblOf tab) A (29, 44) := ⟨Tryz.f29, p44, Tryz.func29, by kernel_rfl, by kernel_rfl, by kernel_rfl, by kernel_rfl⟩
theorem c8 : FnOK Tryz.prog (tblOf tab) A (8, 11) := ⟨Tryz.f8, p11, Tryz.func8, by kernel_rfl, by kernel_rfl, by kernel_rfl, by kernel_rfl⟩
theorem c6 : FnOK Tryz.prog (tblOf tab) A (6, 10) := ⟨Tryz.f6, p10, Tryz.func6, by kernel_rfl, by kernel_rfl, by kernel_rfl, by kernel_rfl⟩
theorem c32 : FnOK Tryz.prog (tblOf tab) A (32, 47) := ⟨Tryz.f32, p47, Tryz.func32, by kernel_rfl, by kernel_rfl, by kernel_rfl, by kernel_rfl⟩
theorem c33 : FnOK Tryz.prog (tblOf tab) A (33, 48) := ⟨Tryz.f33, p48, Tryz.func33, by kernel_rfl, by kernel_rfl, by kernel_rfl, by kernel_rfl⟩
theorem c12 : FnOK Tryz.prog (tblOf tab) A (12, 13) := ⟨Tryz.f12, p13, Tryz.func12, by kernel_rfl, by kernel_rfl, by kernel_rfl, by kernel_rfl⟩
theorem c10 : FnOK Tryz.prog (tblOf tab) A (10, 12) := ⟨Tryz.f10, p12, Tryz.func10, by kernel_rfl, by kernel_rfl, by kernel_rfl, by kernel_rfl⟩
theorem c35 : FnOK Tryz.prog (tblOf tab) A (35, 30) := ⟨Tryz.f35, p30, Tryz.func35, by kernel_rfl, by kernel_rfl, by kernel_rfl, by kernel_rfl⟩
theorem c36 : FnOK Tryz.prog (tblOf tab) A (36, 51) := ⟨Tryz.f36, p51, Tryz.func36, by kernel_rfl, by kernel_rfl, by kernel_rfl, by kernel_rfl⟩
theorem c16 : FnOK Tryz.prog (tblOf tab) A (16, 17) := ⟨Tryz.f16, p17, Tryz.func16, by kernel_rfl, by kernel_rfl, by kernel_rfl, by kernel_rfl⟩
theorem c14 : FnOK Tryz.prog (tblOf tab) A (14, 16) := ⟨Tryz.f14, p16, Tryz.func14, by kernel_rfl, by kernel_rfl, by kernel_rfl, by kernel_rfl⟩
theorem c7 : FnOK Tryz.prog (tblOf tab) A (7, 224) := ⟨Tryz.f7, p224, Tryz.func7, by kernel_rfl, by kernel_rfl, by kernel_rfl, by kernel_rfl⟩
theorem c11 : FnOK Tryz.prog (tblOf tab) A (11, 225) := ⟨Tryz.f11, p225, Tryz.func11, by kernel_rfl, by kernel_rfl, by kernel_rfl, by kernel_rfl⟩
theorem c15 : FnOK Tryz.prog (tblOf tab) A (15, 228) := ⟨Tryz.f15, p228, Tryz.func15, by kernel_rfl, by kernel_rfl, by kernel_rfl, by kernel_rfl⟩
theorem c79 : FnOK Tryz.prog (tblOf tab) A (79, 54) := ⟨Tryz.f79, p54, Tryz.func79, by kernel_rfl, by kernel_rfl, by kernel_rfl, by kernel_rfl⟩
theorem c78 : FnOK Tryz.prog (tblOf tab) A (78, 78) := ⟨Tryz.f78, p78, Tryz.func78, by kernel_rfl, by kernel_rfl, by kernel_rfl, by kernel_rfl⟩
theorem c80 : FnOK Tryz.prog (tblOf tab) A (80, 79) := ⟨Tryz.f80, p79, Tryz.func80, by kernel_rfl, by kernel_rfl, by kernel_rfl, by kernel_rfl⟩
theorem c53 : FnOK Tryz.prog (tblOf tab) A (53, 80) := ⟨Tryz.f53, p80, Tryz.func53, by kernel_rfl, by kernel_rfl, by kernel_rfl, by kernel_rfl⟩
theorem c81 : FnOK Tryz.prog (tblOf tab) A (81, 81) := ⟨Tryz.f81, p81, Tryz.func81, by kernel_rfl, by kernel_rfl, by kernel_rfl, by kernel_rfl⟩
theorem c37 : FnOK Tryz.prog (tblOf tab) A (37, 39) := ⟨Tryz.f37, p39, Tryz.func37, by kernel_rfl, by kernel_rfl, by kernel_rfl, by kernel_rfl⟩
theorem c108 : FnOK Tryz.prog (tblOf tab) A (108, 93) := ⟨Tryz.f108, p93, Tryz.func108, by kernel_rfl, by kernel_rfl, by kernel_rfl, by kernel_rfl⟩
theorem c69 : FnOK Tryz.prog (tblOf tab) A (69, 45) := ⟨Tryz.f69, p45, Tryz.func69, by kernel_rfl, by kernel_rfl, by kernel_rfl, by kernel_rfl⟩
theorem c90 : FnOK Tryz.prog (tblOf tab) A (90, 94) := ⟨Tryz.f90, p94, Tryz.func90, by kernel_rfl, by kernel_rfl, by kernel_rfl, by kernel_rfl⟩
theorem c145 : FnOK Tryz.prog (tblOf tab) A (145, 95) := ⟨Tryz.f145, p95, Tryz.func145, by kernel_rfl, by kernel_rfl, by kernel_rfl, by kernel_rfl⟩
theorem c113 : FnOK Tryz.prog (tblOf tab) A (113, 55) := ⟨Tryz.f113, p55, Tryz.func113, by kernel_rfl, by kernel_rfl, by kernel_rfl, by kernel_rfl⟩
theorem c71 : FnOK Tryz.prog (tblOf tab) A (71, 46) := ⟨Tryz.f71, p46, Tryz.func71, by kernel_rfl, by kernel_rfl, by kernel_rfl, by kernel_rfl⟩
theorem c55 : FnOK Tryz.prog (tblOf tab) A (55, 272) := ⟨Tryz.f55, p272, Tryz.func55, by kernel_rfl, by kernel_rfl, by kernel_rfl, by kernel_rfl⟩
theorem c56 : FnOK Tryz.prog (tblOf tab) A (56, 99) := ⟨Tryz.f56, p99, Tryz.func56, by kernel_rfl, by kernel_rfl, by kernel_rfl, by kernel_rfl⟩
theorem c133 : FnOK Tryz.prog (tblOf tab) A (133, 76) := ⟨Tryz.f133, p76, Tryz.func133, by kernel_rfl, by kernel_rfl, by kernel_rfl, by kernel_rfl⟩
theorem c110 : FnOK Tryz.prog (tblOf tab) A (110, 273) := ⟨Tryz.f110, p273, Tryz.func110, by kernel_rfl, by kernel_rfl, by kernel_rfl, by kernel_rfl⟩
theorem c57 : FnOK Tryz.prog (tblOf tab) A (57, 127) := ⟨Tryz.f57, p127, Tryz.func57, by kernel_rfl, by kernel_rfl, by kernel_rfl, by kernel_rfl⟩
theorem c134 : FnOK Tryz.prog (tblOf tab) A (134, 136) := ⟨Tryz.f134, p136, Tryz.func134, by kernel_rfl, by kernel_rfl, by kernel_rfl, by kernel_rfl⟩
theorem c87 : FnOK Tryz.prog (tblOf tab) A (87, 134) := ⟨Tryz.f87, p134, Tryz.func87, by kernel_rfl, by kernel_rfl, by kernel_rfl, by kernel_rfl⟩
theorem c153 : FnOK Tryz.prog (tblOf tab) A (153, 135) := ⟨Tryz.f153, p135, Tryz.func153, by kernel_rfl, by kernel_rfl, by kernel_rfl, by kernel_rfl⟩
theorem c132 : FnOK Tryz.prog (tblOf tab) A (132, 131) := ⟨Tryz.f132, p131, Tryz.func132, by kernel_rfl, by kernel_rfl, by kernel_rfl, by kernel_rfl⟩
theorem c143 : FnOK Tryz.prog (tblOf tab) A (143, 122) := ⟨Tryz.f143, p122, Tryz.func143, by kernel_rfl, by kernel_rfl, by kernel_rfl, by kernel_rfl⟩
theorem c105 : FnOK Tryz.prog (tblOf tab) A (105, 98) := ⟨Tryz.f105, p98, Tryz.func105, by kernel_rfl, by kernel_rfl, by kernel_rfl, by kernel_rfl⟩
theorem c86 : FnOK Tryz.prog (tblOf tab) A (86, 251) := ⟨Tryz.f86, p251, Tryz.func86, by kernel_rfl, by kernel_rfl, by kernel_rfl, by kernel_rfl⟩
theorem c52 : FnOK Tryz.prog (tblOf tab) A (52, 283) := ⟨Tryz.f52, p283, Tryz.func52, by kernel_rfl, by kernel_rfl, by kernel_rfl, by kernel_rfl⟩
theorem c109 : FnOK Tryz.prog (tblOf tab) A (109, 282) := ⟨Tryz.f109, p282, Tryz.func109, by kernel_rfl, by kernel_rfl, by kernel_rfl, by kernel_rfl⟩
theorem c54 : FnOK Tryz.prog (tblOf tab) A (54, 284) := ⟨Tryz.f54, p284, Tryz.func54, by kernel_rfl, by kernel_rfl, by kernel_rfl, by kernel_rfl⟩
theorem c72 : FnOK Tryz.prog (tblOf tab) A (72, 285) := ⟨Tryz.f72, p285, Tryz.func72, by kernel_rfl, by kernel_rfl, by kernel_rfl, by kernel_rfl⟩
theorem c59 : FnOK Tryz.prog (tblOf tab) A (59, 286) := ⟨Tryz.f59, p286, Tryz.func59, by kernel_rfl, by kernel_rfl, by kernel_rfl, by kernel_rfl⟩
theorem c111 : FnOK Tryz.prog (tblOf tab) A (111, 287) := ⟨Tryz.f111, p287, Tryz.func111, by kernel_rfl, by kernel_rfl, by kernel_rfl, by kernel_rfl⟩
theorem c106 : FnOK Tryz.prog (tblOf tab) A (106, 288) := ⟨Tryz.f106, p288, Tryz.func106, by kernel_rfl, by kernel_rfl, by kernel_rfl, by kernel_rfl⟩
theorem c144 : FnOK Tryz.prog (tblOf tab) A (144, 312) := ⟨Tryz.f144, p312, Tryz.func144, by kernel_rfl, by kernel_rfl, by kernel_rfl, by kernel_rfl⟩
theorem c112 : FnOK Tryz.prog (tblOf tab) A (112, 289) := ⟨Tryz.f112, p289, Tryz.func112, by kernel_rfl, by kernel_rfl, by kernel_rfl, by kernel_rfl⟩
theorem c70 : FnOK Tryz.prog (tblOf tab) A (70, 249) := ⟨Tryz.f70, p249, Tryz.func70, by kernel_rfl, by kernel_rfl, by kernel_rfl, by kernel_rfl⟩
theorem c30 : FnOK Tryz.prog (tblOf tab) A (30, 351) := ⟨Tryz.f30, p351, Tryz.func30, by kernel_rfl, by kernel_rfl, by kernel_rfl, by kernel_rfl⟩
theorem c58 : FnOK Tryz.prog (tblOf tab) A (58, 357) := ⟨Tryz.f58, p357, Tryz.func58, by kernel_rfl, by kernel_rfl, by kernel_rfl, by kernel_rfl⟩
theorem c31 : FnOK Tryz.prog (tblOf tab) A (31, 352) := ⟨Tryz.f31, p352, Tryz.func31, by kernel_rfl, by kernel_rfl, by kernel_rfl, by kernel_rfl⟩
theorem c9 : FnOK Tryz.prog (tblOf tab) A (9, 343) := ⟨Tryz.f9, p343, Tryz.func9, by kernel_rfl, by kernel_rfl, by kernel_rfl, by kernel_rfl⟩
theorem c103 : FnOK Tryz.prog (tblOf tab) A (103, 56) := ⟨Tryz.f103, p56, Tryz.func103, by kernel_rfl, by kernel_rfl, by kernel_rfl, by kernel_rfl⟩
theorem c120 : FnOK Tryz.prog (tblOf tab) A (120, 67) := ⟨Tryz.f120, p67, Tryz.func120, by kernel_rfl, by kernel_rfl, by kernel_rfl, by kernel_rfl⟩
theorem c150 : FnOK Tryz.prog (tblOf tab) A (150, 115) := ⟨Tryz.f150, p115, Tryz.func150, by kernel_rfl, by kernel_rfl, by kernel_rfl, by kernel_rfl⟩
theorem c122 : FnOK Tryz.prog (tblOf tab) A (122, 82) := ⟨Tryz.f122, p82, Tryz.func122, by kernel_rfl, by kernel_rfl, by kernel_rfl, by kernel_rfl⟩
theorem c43 : FnOK Tryz.prog (tblOf tab) A (43, 73) := ⟨Tryz.f43, p73, Tryz.func43, by kernel_rfl, by kernel_rfl, by kernel_rfl, by kernel_rfl⟩
theorem c62 : FnOK Tryz.prog (tblOf tab) A (62, 86) := ⟨Tryz.f62, p86, Tryz.func62, by kernel_rfl, by kernel_rfl, by kernel_rfl, by kernel_rfl⟩
theorem c121 : FnOK Tryz.prog (tblOf tab) A (121, 87) := ⟨Tryz.f121, p87, Tryz.func121, by kernel_rfl, by kernel_rfl, by kernel_rfl, by kernel_rfl⟩
theorem c123 : FnOK Tryz.prog (tblOf tab) A (123, 88) := ⟨Tryz.f123, p88, Tryz.func123, by kernel_rfl, by kernel_rfl, by kernel_rfl, by kernel_rfl⟩
theorem c60 : FnOK Tryz.prog (tblOf tab) A (60, 89) := ⟨Tryz.f60, p89, Tryz.func60, by kernel_rfl, by kernel_rfl, by kernel_rfl, by kernel_rfl⟩
theorem c158 : FnOK Tryz.prog (tblOf tab) A (158, 130) := ⟨Tryz.f158, p130, Tryz.func158, by kernel_rfl, by kernel_rfl, by kernel_rfl, by kernel_rfl⟩
theorem c147 : FnOK Tryz.prog (tblOf tab) A (147, 129) := ⟨Tryz.f147, p129, Tryz.func147, by kernel_rfl, by kernel_rfl, by kernel_rfl, by kernel_rfl⟩
theorem c146 : FnOK Tryz.prog (tblOf tab) A (146, 116) := ⟨Tryz.f146, p116, Tryz.func146, by kernel_rfl, by kernel_rfl, by kernel_rfl, by kernel_rfl⟩
theorem c152 : FnOK Tryz.prog (tblOf tab) A (152, 128) := ⟨Tryz.f152, p128, Tryz.func152, by kernel_rfl, by kernel_rfl, by kernel_rfl, by kernel_rfl⟩
theorem c127 : FnOK Tryz.prog (tblOf tab) A (127, 117) := ⟨Tryz.f127, p117, Tryz.func127, by kernel_rfl, by kernel_rfl, by kernel_rfl, by kernel_rfl⟩
theorem c114 : FnOK Tryz.prog (tblOf tab) A (114, 90) := ⟨Tryz.f114, p90, Tryz.func114, by kernel_rfl, by kernel_rfl, by kernel_rfl, by kernel_rfl⟩
theorem c104 : FnOK Tryz.prog (tblOf tab) A (104, 119) := ⟨Tryz.f104, p119, Tryz.func104, by kernel_rfl, by kernel_rfl, by kernel_rfl, by kernel_rfl⟩
theorem c63 : FnOK Tryz.prog (tblOf tab) A (63, 91) := ⟨Tryz.f63, p91, Tryz.func63, by kernel_rfl, by kernel_rfl, by kernel_rfl, by kernel_rfl⟩
theorem c149 : FnOK Tryz.prog (tblOf tab) A (149, 118) := ⟨Tryz.f149, p118, Tryz.func149, by kernel_rfl, by kernel_rfl, by kernel_rfl, by kernel_rfl⟩
theorem c118 : FnOK Tryz.prog (tblOf tab) A (118, 92) := ⟨Tryz.f118, p92, Tryz.func118, by kernel_rfl, by kernel_rfl, by kernel_rfl, by kernel_rfl⟩
theorem c75 : FnOK Tryz.prog (tblOf tab) A (75, 42) := ⟨Tryz.f75, p42, Tryz.func75, by kernel_rfl, by kernel_rfl, by kernel_rfl, by kernel_rfl⟩
theorem c73 : FnOK Tryz.prog (tblOf tab) A (73, 49) := ⟨Tryz.f73, p49, Tryz.func73, by kernel_rfl, by kernel_rfl, by kernel_rfl, by kernel_rfl⟩
theorem c61 : FnOK Tryz.prog (tblOf tab) A (61, 74) := ⟨Tryz.f61, p74, Tryz.func61, by kernel_rfl, by kernel_rfl, by kernel_rfl, by kernel_rfl⟩
theorem c96 : FnOK Tryz.prog (tblOf tab) A (96, 75) := ⟨Tryz.f96, p75, Tryz.func96, by kernel_rfl, by kernel_rfl, by kernel_rfl, by kernel_rfl⟩
theorem c95 : FnOK Tryz.prog (tblOf tab) A (95, 85) := ⟨Tryz.f95, p85, Tryz.func95, by kernel_rfl, by kernel_rfl, by kernel_rfl, by kernel_rfl⟩
theorem c47 : FnOK Tryz.prog (tblOf tab) A (47, 96) := ⟨Tryz.f47, p96, Tryz.func47, by kernel_rfl, by kernel_rfl, by kernel_rfl, by kernel_rfl⟩
theorem c124 : FnOK Tryz.prog (tblOf tab) A (124, 57) := ⟨Tryz.f124, p57, Tryz.func124, by kernel_rfl, by kernel_rfl, by kernel_rfl, by kernel_rfl⟩
theorem c76 : FnOK Tryz.prog (tblOf tab) A (76, 50) := ⟨Tryz.f76, p50, Tryz.func76, by kernel_rfl, by kernel_rfl, by kernel_rfl, by kernel_rfl⟩
theorem c48 : FnOK Tryz.prog (tblOf tab) A (48, 102) := ⟨Tryz.f48, p102, Tryz.func48, by kernel_rfl, by kernel_rfl, by kernel_rfl, by kernel_rfl⟩
theorem c148 : FnOK Tryz.prog (tblOf tab) A (148, 132) := ⟨Tryz.f148, p132, Tryz.func148, by kernel_rfl, by kernel_rfl, by kernel_rfl, by kernel_rfl⟩
theorem c116 : FnOK Tryz.prog (tblOf tab) A (116, 124) := ⟨Tryz.f116, p124, Tryz.func116, by kernel_rfl, by kernel_rfl, by kernel_rfl, by kernel_rfl⟩
theorem c119 : FnOK Tryz.prog (tblOf tab) A (119, 165) := ⟨Tryz.f119, p165, Tryz.func119, by kernel_rfl, by kernel_rfl, by kernel_rfl, by kernel_rfl⟩
theorem c64 : FnOK Tryz.prog (tblOf tab) A (64, 173) := ⟨Tryz.f64, p173, Tryz.func64, by kernel_rfl, by kernel_rfl, by kernel_rfl, by kernel_rfl⟩
theorem c66 : FnOK Tryz.prog (tblOf tab) A (66, 175) := ⟨Tryz.f66, p175, Tryz.func66, by kernel_rfl, by kernel_rfl, by kernel_rfl, by kernel_rfl⟩
theorem c107 : FnOK Tryz.prog (tblOf tab) A (107, 194) := ⟨Tryz.f107, p194, Tryz.func107, by kernel_rfl, by kernel_rfl, by kernel_rfl, by kernel_rfl⟩
theorem c155 : FnOK Tryz.prog (tblOf tab) A (155, 137) := ⟨Tryz.f155, p137, Tryz.func155, by kernel_rfl, by kernel_rfl, by kernel_rfl, by kernel_rfl⟩
theorem c156 : FnOK Tryz.prog (tblOf tab) A (156, 138) := ⟨Tryz.f156, p138, Tryz.func156, by kernel_rfl, by kernel_rfl, by kernel_rfl, by kernel_rfl⟩
theorem c154 : FnOK Tryz.prog (tblOf tab) A (154, 139) := ⟨Tryz.f154, p139, Tryz.func154, by kernel_rfl, by kernel_rfl, by kernel_rfl, by kernel_rfl⟩
theorem c140 : FnOK Tryz.prog (tblOf tab) A (140, 133) := ⟨Tryz.f140, p133, Tryz.func140, by kernel_rfl, by kernel_rfl, by kernel_rfl, by kernel_rfl⟩
theorem c141 : FnOK Tryz.prog (tblOf tab) A (141, 125) := ⟨Tryz.f141, p125, Tryz.func141, by kernel_rfl, by kernel_rfl, by kernel_rfl, by kernel_rfl⟩
theorem c100 : FnOK Tryz.prog (tblOf tab) A (100, 100) := ⟨Tryz.f100, p100, Tryz.func100, by kernel_rfl, by kernel_rfl, by kernel_rfl, by kernel_rfl⟩
theorem c101 : FnOK Tryz.prog (tblOf tab) A (101, 186) := ⟨Tryz.f101, p186, Tryz.func101, by kernel_rfl, by kernel_rfl, by kernel_rfl, by kernel_rfl⟩
theorem c98 : FnOK Tryz.prog (tblOf tab) A (98, 168) := ⟨Tryz.f98, p168, Tryz.func98, by kernel_rfl, by kernel_rfl, by kernel_rfl, by kernel_rfl⟩
theorem c115 : FnOK Tryz.prog (tblOf tab) A (115, 206) := ⟨Tryz.f115, p206, Tryz.func115, by kernel_rfl, by kernel_rfl, by kernel_rfl, by kernel_rfl⟩
theorem c117 : FnOK Tryz.prog (tblOf tab) A (117, 207) := ⟨Tryz.f117, p207, Tryz.func117, by kernel_rfl, by kernel_rfl, by kernel_rfl, by kernel_rfl⟩
theorem c74 : FnOK Tryz.prog (tblOf tab) A (74, 192) := ⟨Tryz.f74, p192, Tryz.func74, by kernel_rfl, by kernel_rfl, by kernel_rfl, by kernel_rfl⟩
theorem c65 : FnOK Tryz.prog (tblOf tab) A (65, 174) := ⟨Tryz.f65, p174, Tryz.func65, by kernel_rfl, by kernel_rfl, by kernel_rfl, by kernel_rfl⟩
theorem c151 : FnOK Tryz.prog (tblOf tab) A (151, 212) := ⟨Tryz.f151, p212, Tryz.func151, by kernel_rfl, by kernel_rfl, by kernel_rfl, by kernel_rfl⟩
theorem c125 : FnOK Tryz.prog (tblOf tab) A (125, 208) := ⟨Tryz.f125, p208, Tryz.func125, by kernel_rfl, by kernel_rfl, by kernel_rfl, by kernel_rfl⟩
theorem c128 : FnOK Tryz.prog (tblOf tab) A (128, 213) := ⟨Tryz.f128, p213, Tryz.func128, by kernel_rfl, by kernel_rfl, by kernel_rfl, by kernel_rfl⟩
theorem c126 : FnOK Tryz.prog (tblOf tab) A (126, 209) := ⟨Tryz.f126, p209, Tryz.func126, by kernel_rfl, by kernel_rfl, by kernel_rfl, by kernel_rfl⟩
theorem c77 : FnOK Tryz.prog (tblOf tab) A (77, 193) := ⟨Tryz.f77, p193, Tryz.func77, by kernel_rfl, by kernel_rfl, by kernel_rfl, by kernel_rfl⟩
theorem c34 : FnOK Tryz.prog (tblOf tab) A (34, 172) := ⟨Tryz.f34, p172, Tryz.func34, by kernel_rfl, by kernel_rfl, by kernel_rfl, by kernel_rfl⟩
theorem c13 : FnOK Tryz.prog (tblOf tab) A (13, 344) := ⟨Tryz.f13, p344, Tryz.func13, by kernel_rfl, by kernel_rfl, by kernel_rfl, by kernel_rfl⟩
theorem c3 : FnOK Tryz.prog (tblOf tab) A (3, 361) := ⟨Tryz.f3, p361, Tryz.func3, by kernel_rfl, by kernel_rfl, by kernel_rfl, by kernel_rfl⟩
theorem models : Models Tryz.prog (tblOf tab) A := by
 refine models_of (by kernel_rfl) fun x hx => ?_
 simp only [tab, List.mem_cons, List.not_mem_nil, or_false] at hx
 rcases hx with rfl | rfl | rfl | rfl | rfl | rfl | rfl | rfl | rfl | rfl | rfl | rfl | rfl | rfl | rfl | rfl | rfl | rfl | rfl | rfl | rfl | rfl | rfl | rfl | rfl | rfl | rfl | rfl | rfl | rfl | rfl | rfl | rfl | rfl | rfl | rfl | rfl | rfl | rfl | rfl | rfl | rfl | rfl | rfl | rfl | rfl | rfl | rfl | rfl | rfl | rfl | rfl | rfl | rfl | rfl | rfl | rfl | rfl | rfl | rfl | rfl | rfl | rfl | rfl | rfl | rfl | rfl | rfl | rfl | rfl | rfl | rfl | rfl | rfl | rfl | rfl | rfl | rfl | rfl | rfl | rfl | rfl | rfl | rfl | rfl | rfl | rfl | rfl | rfl | rfl | rfl | rfl | rfl | rfl | rfl | rfl | rfl | rfl | rfl | rfl | rfl | rfl | rfl | rfl | rfl | rfl | rfl
 ·exact c28
 ·exact c29
 ·exact c8
 ·exact c6
 ·exact c32
 ·exact c33
 ·exact c12
 ·exact c10
 ·exact c35
 ·exact c36
 ·exact c16
 ·exact c14
 ·exact c7
 ·exact c11
 ·exact c15
 ·exact c79
 ·exact c78
 ·exact c80
 ·exact c53
 ·exact c81
 ·exact c37
 ·exact c108
 ·exact c69
 ·exact c90
 ·exact c145
 ·exact c113
 ·exact c71
 ·exact c55
 ·exact c56
 ·exact c133
 ·exact c110
 ·exact c57
 ·exact c134
 ·exact c87
 ·exact c153
 ·exact c132
 ·exact c143
 ·exact c105
 ·exact c86
 ·exact c52
 ·exact c109
 ·exact c54
 ·exact c72
 ·exact c59
 ·exact c111
 ·exact c106
 ·exact c144
 ·exact c112
 ·exact c70
 ·exact c30
 ·exact c58
 ·exact c31
 ·exact c9
 ·exact c103
 ·exact c120
 ·exact c150
 ·exact c122
 ·exact c43
 ·exact c62
 ·exact c121
 ·exact c123
 ·exact c60
 ·exact c158
 ·exact c147
 ·exact c146
 ·exact c152
 ·exact c127
 ·exact c114
 ·exact c104
 ·exact c63
 ·exact c149
 ·exact c118
 ·exact c75
 ·exact c73
 ·exact c61
 ·exact c96
 ·exact c95
 ·exact c47
 ·exact c124
 ·exact c76
 ·exact c48
 ·exact c148
 ·exact c116
 ·exact c119
 ·exact c64
 ·exact c66
 ·exact c107
 ·exact c155
 ·exact c156
 ·exact c154
 ·exact c140
 ·exact c141
 ·exact c100
 ·exact c101
 ·exact c98
 ·exact c115
 ·exact c117
 ·exact c74
 ·exact c65
 ·exact c151
 ·exact c125
 ·exact c128
 ·exact c126
 ·exact c77
 ·exact c34
 ·exact c13
 ·exact c3
end Rv.Rd
