/- The abstract code is what the translated functions are compiled to. -/
import Derived.Test.YtfmilkanaigjcaaPdp
import Derived.Test.YtfmilkanaigjcaaChecked
import Derived.KernelRfl
namespace Rv.Pd
open Go.Proofs
set_option maxRecDepth 100000
def tab : List (Nat × Nat) := [(35, 30), (11, 51), (61, 17), (25, 16), (12, 25), (36, 31), (14, 52), (62, 21), (26, 20), (13, 26), (53, 43), (29, 44), (54, 11), (20, 10), (7, 37), (57, 47), (32, 48), (58, 13), (22, 12), (9, 40), (37, 32), (15, 59), (41, 81), (64, 54), (92, 78), (93, 79), (72, 80), (55, 39), (74, 99), (73, 76), (79, 77), (43, 38), (30, 247), (75, 94), (76, 127), (115, 136), (113, 134), (114, 135), (66, 131), (112, 122), (110, 310), (111, 311), (65, 280), (38, 281), (39, 279), (40, 330), (31, 329), (16, 323), (67, 56), (98, 67), (122, 115), (83, 82), (82, 73), (68, 86), (99, 87), (100, 88), (87, 89), (141, 130), (134, 129), (133, 116), (124, 128), (132, 117), (101, 90), (121, 119), (78, 91), (135, 118), (102, 92), (59, 42), (84, 83), (86, 84), (85, 85), (46, 41), (33, 166), (123, 96), (125, 137), (126, 138), (127, 139), (89, 133), (106, 102), (119, 125), (117, 202), (139, 211), (118, 203), (70, 184), (71, 185), (140, 123), (120, 101), (116, 205), (69, 204), (34, 187), (77, 188), (42, 170), (17, 324), (4, 337)]
theorem c35 : FnOK Try.prog (tblOf tab) A (35, 30) := ⟨Try.f35, p30, Try.func35, by kernel_rfl, by kernel_rfl, by kernel_rfl, by kernel_rfl⟩
theorem c11 : FnOK Try.prog (tblOf tab) A (11, 51) := ⟨Try.f11, p51, Try.func11, by kernel_rfl, by kernel_rfl, by kernel_rfl, by kernel_rfl⟩
theorem c61 : FnOK Try.prog (tblOf tab) A (61, 17) := ⟨Try.f61, p17, Try.func61, by kernel_rfl, by kernel_rfl, by kernel_rfl, by kernel_rfl⟩
theorem c25 : FnOK Try.prog (tblOf tab) A (25, 16) := ⟨Try.f25, p16, Try.func25, by kernel_rfl, by kernel_rfl, by kernel_rfl, by kernel_rfl⟩
theorem c12 : FnOK Try.prog (tblOf tab) A (12, 25) := ⟨Try.f12, p25, Try.func12, by kernel_rfl, by kernel_rfl, by kernel_rfl, by kernel_rfl⟩
theorem c36 : FnOK Try.prog (tblOf tab) A (36, 31) := ⟨Try.f36, p31, Try.func36, by kernel_rfl, by kernel_rfl, by kernel_rfl, by kernel_rfl⟩
theorem c14 : FnOK Try.prog (tblOf tab) A (14, 52) := ⟨Try.f14, p52, Try.func14, by kernel_rfl, by kernel_rfl, by kernel_rfl, by kernel_rfl⟩
theorem c62 : FnOK Try.prog (tblOf tab) A (62, 21) := ⟨Try.f62, p21, Try.func62, by kernel_rfl, by kernel_rfl, by kernel_rfl, by kernel_rfl⟩
theorem c26 : FnOK Try.prog (tblOf tab) A (26, 20) := ⟨Try.f26, p20, Try.func26, by kernel_rfl, by kernel_rfl, by kernel_rfl, by kernel_rfl⟩
theorem c13 : FnOK Try.prog (tblOf tab) A (13, 26) := ⟨Try.f13, p26, Try.func13, by kernel_rfl, by kernel_rfl, by kernel_rfl, by kernel_rfl⟩
theorem c53 : FnOK Try.prog (tblOf tab) A (53, 43) := ⟨Try.f53, p43, Try.func53, by kernel_rfl, by kernel_rfl, by kernel_rfl, by kernel_rfl⟩
theorem c29 : FnOK Try.prog (tblOf tab) A (29, 44) := ⟨Try.f29, p44, Try.func29, by kernel_rfl, by kernel_rfl, by kernel_rfl, by kernel_rfl⟩
theorem c54 : FnOK Try.prog (tblOf tab) A (54, 11) := ⟨Try.f54, p11, Try.func54, by kernel_rfl, by kernel_rfl, by kernel_rfl, by kernel_rfl⟩
theorem c20 : FnOK Try.prog (tblOf tab) A (20, 10) := ⟨Try.f20, p10, Try.func20, by kernel_rfl, by kernel_rfl, by kernel_rfl, by kernel_rfl⟩
theorem c7 : FnOK Try.prog (tblOf tab) A (7, 37) := ⟨Try.f7, p37, Try.func7, by kernel_rfl, by kernel_rfl, by kernel_rfl, by kernel_rfl⟩
theorem c57 : FnOK Try.prog (tblOf tab) A (57, 47) := ⟨Try.f57, p47, Try.func57, by kernel_rfl, by kernel_rfl, by kernel_rfl, by kernel_rfl⟩
theorem c32 : FnOK Try.prog (tblOf tab) A (32, 48) := ⟨Try.f32, p48, Try.func32, by kernel_rfl, by kernel_rfl, by kernel_rfl, by kernel_rfl⟩
theorem c58 : FnOK Try.prog (tblOf tab) A (58, 13) := ⟨Try.f58, p13, Try.func58, by kernel_rfl, by kernel_rfl, by kernel_rfl, by kernel_rfl⟩
theorem c22 : FnOK Try.prog (tblOf tab) A (22, 12) := ⟨Try.f22, p12, Try.func22, by kernel_rfl, by kernel_rfl, by kernel_rfl, by kernel_rfl⟩
theorem c9 : FnOK Try.prog (tblOf tab) A (9, 40) := ⟨Try.f9, p40, Try.func9, by kernel_rfl, by kernel_rfl, by kernel_rfl, by kernel_rfl⟩
theorem c37 : FnOK Try.prog (tblOf tab) A (37, 32) := ⟨Try.f37, p32, Try.func37, by kernel_rfl, by kernel_rfl, by kernel_rfl, by kernel_rfl⟩
theorem c15 : FnOK Try.prog (tblOf tab) A (15, 59) := ⟨Try.f15, p59, Try.func15, by kernel_rfl, by kernel_rfl, by kernel_rfl, by kernel_rfl⟩
theorem c41 : FnOK Try.prog (tblOf tab) A (41, 81) := ⟨Try.f41, p81, Try.func41, by kernel_rfl, by kernel_rfl, by kernel_rfl, by kernel_rfl⟩
theorem c64 : FnOK Try.prog (tblOf tab) A (64, 54) := ⟨Try.f64, p54, Try.func64, by kernel_rfl, by kernel_rfl, by kernel_rfl, by kernel_rfl⟩
theorem c92 : FnOK Try.prog (tblOf tab) A (92, 78) := ⟨Try.f92, p78, Try.func92, by kernel_rfl, by kernel_rfl, by kernel_rfl, by kernel_rfl⟩
theorem c93 : FnOK Try.prog (tblOf tab) A (93, 79) := ⟨Try.f93, p79, Try.func93, by kernel_rfl, by kernel_rfl, by kernel_rfl, by kernel_rfl⟩
theorem c72 : FnOK Try.prog (tblOf tab) A (72, 80) := ⟨Try.f72, p80, Try.func72, by kernel_rfl, by kernel_rfl, by kernel_rfl, by kernel_rfl⟩
theorem c55 : FnOK Try.prog (tblOf tab) A (55, 39) := ⟨Try.f55, p39, Try.func55, by kernel_rfl, by kernel_rfl, by kernel_rfl, by kernel_rfl⟩
theorem c74 : FnOK Try.prog (tblOf tab) A (74, 99) := ⟨Try.f74, p99, Try.func74, by kernel_rfl, by kernel_rfl, by kernel_rfl, by kernel_rfl⟩
theorem c73 : FnOK Try.prog (tblOf tab) A (73, 76) := ⟨Try.f73, p76, Try.func73, by kernel_rfl, by kernel_rfl, by kernel_rfl, by kernel_rfl⟩
theorem c79 : FnOK Try.prog (tblOf tab) A (79, 77) := ⟨Try.f79, p77, Try.func79, by kernel_rfl, by kernel_rfl, by kernel_rfl, by kernel_rfl⟩
theorem c43 : FnOK Try.prog (tblOf tab) A (43, 38) := ⟨Try.f43, p38, Try.func43, by kernel_rfl, by kernel_rfl, by kernel_rfl, by kernel_rfl⟩
theorem c30 : FnOK Try.prog (tblOf tab) A (30, 247) := ⟨Try.f30, p247, Try.func30, by kernel_rfl, by kernel_rfl, by kernel_rfl, by kernel_rfl⟩
theorem c75 : FnOK Try.prog (tblOf tab) A (75, 94) := ⟨Try.f75, p94, Try.func75, by kernel_rfl, by kernel_rfl, by kernel_rfl, by kernel_rfl⟩
theorem c76 : FnOK Try.prog (tblOf tab) A (76, 127) := ⟨Try.f76, p127, Try.func76, by kernel_rfl, by kernel_rfl, by kernel_rfl, by kernel_rfl⟩
theorem c115 : FnOK Try.prog (tblOf tab) A (115, 136) := ⟨Try.f115, p136, Try.func115, by kernel_rfl, by kernel_rfl, by kernel_rfl, by kernel_rfl⟩
theorem c113 : FnOK Try.prog (tblOf tab) A (113, 134) := ⟨Try.f113, p134, Try.func113, by kernel_rfl, by kernel_rfl, by kernel_rfl, by kernel_rfl⟩
theorem c114 : FnOK Try.prog (tblOf tab) A (114, 135) := ⟨Try.f114, p135, Try.func114, by kernel_rfl, by kernel_rfl, by kernel_rfl, by kernel_rfl⟩
theorem c66 : FnOK Try.prog (tblOf tab) A (66, 131) := ⟨Try.f66, p131, Try.func66, by kernel_rfl, by kernel_rfl, by kernel_rfl, by kernel_rfl⟩
theorem c112 : FnOK Try.prog (tblOf tab) A (112, 122) := ⟨Try.f112, p122, Try.func112, by kernel_rfl, by kernel_rfl, by kernel_rfl, by kernel_rfl⟩
theorem c110 : FnOK Try.prog (tblOf tab) A (110, 310) := ⟨Try.f110, p310, Try.func110, by kernel_rfl, by kernel_rfl, by kernel_rfl, by kernel_rfl⟩
theorem c111 : FnOK Try.prog (tblOf tab) A (111, 311) := ⟨Try.f111, p311, Try.func111, by kernel_rfl, by kernel_rfl, by kernel_rfl, by kernel_rfl⟩
theorem c65 : FnOK Try.prog (tblOf tab) A (65, 280) := ⟨Try.f65, p280, Try.func65, by kernel_rfl, by kernel_rfl, by kernel_rfl, by kernel_rfl⟩
theorem c38 : FnOK Try.prog (tblOf tab) A (38, 281) := ⟨Try.f38, p281, Try.func38, by kernel_rfl, by kernel_rfl, by kernel_rfl, by kernel_rfl⟩
theorem c39 : FnOK Try.prog (tblOf tab) A (39, 279) := ⟨Try.f39, p279, Try.func39, by kernel_rfl, by kernel_rfl, by kernel_rfl, by kernel_rfl⟩
theorem c40 : FnOK Try.prog (tblOf tab) A (40, 330) := ⟨Try.f40, p330, Try.func40, by kernel_rfl, by kernel_rfl, by kernel_rfl, by kernel_rfl⟩
theorem c31 : FnOK Try.prog (tblOf tab) A (31, 329) := ⟨Try.f31, p329, Try.func31, by kernel_rfl, by kernel_rfl, by kernel_rfl, by kernel_rfl⟩
theorem c16 : FnOK Try.prog (tblOf tab) A (16, 323) := ⟨Try.f16, p323, Try.func16, by kernel_rfl, by kernel_rfl, by kernel_rfl, by kernel_rfl⟩
theorem c67 : FnOK Try.prog (tblOf tab) A (67, 56) := ⟨Try.f67, p56, Try.func67, by kernel_rfl, by kernel_rfl, by kernel_rfl, by kernel_rfl⟩
theorem c98 : FnOK Try.prog (tblOf tab) A (98, 67) := ⟨Try.f98, p67, Try.func98, by kernel_rfl, by kernel_rfl, by kernel_rfl, by kernel_rfl⟩
theorem c122 : FnOK Try.prog (tblOf tab) A (122, 115) := ⟨Try.f122, p115, Try.func122, by kernel_rfl, by kernel_rfl, by kernel_rfl, by kernel_rfl⟩
theorem c83 : FnOK Try.prog (tblOf tab) A (83, 82) := ⟨Try.f83, p82, Try.func83, by kernel_rfl, by kernel_rfl, by kernel_rfl, by kernel_rfl⟩
theorem c82 : FnOK Try.prog (tblOf tab) A (82, 73) := ⟨Try.f82, p73, Try.func82, by kernel_rfl, by kernel_rfl, by kernel_rfl, by kernel_rfl⟩
theorem c68 : FnOK Try.prog (tblOf tab) A (68, 86) := ⟨Try.f68, p86, Try.func68, by kernel_rfl, by kernel_rfl, by kernel_rfl, by kernel_rfl⟩
theorem c99 : FnOK Try.prog (tblOf tab) A (99, 87) := ⟨Try.f99, p87, Try.func99, by kernel_rfl, by kernel_rfl, by kernel_rfl, by kernel_rfl⟩
theorem c100 : FnOK Try.prog (tblOf tab) A (100, 88) := ⟨Try.f100, p88, Try.func100, by kernel_rfl, by kernel_rfl, by kernel_rfl, by kernel_rfl⟩
theorem c87 : FnOK Try.prog (tblOf tab) A (87, 89) := ⟨Try.f87, p89, Try.func87, by kernel_rfl, by kernel_rfl, by kernel_rfl, by kernel_rfl⟩
theorem c141 : FnOK Try.prog (tblOf tab) A (141, 130) := ⟨Try.f141, p130, Try.func141, by kernel_rfl, by kernel_rfl, by kernel_rfl, by kernel_rfl⟩
theorem c134 : FnOK Try.prog (tblOf tab) A (134, 129) := ⟨Try.f134, p129, Try.func134, by kernel_rfl, by kernel_rfl, by kernel_rfl, by kernel_rfl⟩
theorem c133 : FnOK Try.prog (tblOf tab) A (133, 116) := ⟨Try.f133, p116, Try.func133, by kernel_rfl, by kernel_rfl, by kernel_rfl, by kernel_rfl⟩
theorem c124 : FnOK Try.prog (tblOf tab) A (124, 128) := ⟨Try.f124, p128, Try.func124, by kernel_rfl, by kernel_rfl, by kernel_rfl, by kernel_rfl⟩
theorem c132 : FnOK Try.prog (tblOf tab) A (132, 117) := ⟨Try.f132, p117, Try.func132, by kernel_rfl, by kernel_rfl, by kernel_rfl, by kernel_rfl⟩
theorem c101 : FnOK Try.prog (tblOf tab) A (101, 90) := ⟨Try.f101, p90, Try.func101, by kernel_rfl, by kernel_rfl, by kernel_rfl, by kernel_rfl⟩
theorem c121 : FnOK Try.prog (tblOf tab) A (121, 119) := ⟨Try.f121, p119, Try.func121, by kernel_rfl, by kernel_rfl, by kernel_rfl, by kernel_rfl⟩
theorem c78 : FnOK Try.prog (tblOf tab) A (78, 91) := ⟨Try.f78, p91, Try.func78, by kernel_rfl, by kernel_rfl, by kernel_rfl, by kernel_rfl⟩
theorem c135 : FnOK Try.prog (tblOf tab) A (135, 118) := ⟨Try.f135, p118, Try.func135, by kernel_rfl, by kernel_rfl, by kernel_rfl, by kernel_rfl⟩
theorem c102 : FnOK Try.prog (tblOf tab) A (102, 92) := ⟨Try.f102, p92, Try.func102, by kernel_rfl, by kernel_rfl, by kernel_rfl, by kernel_rfl⟩
theorem c59 : FnOK Try.prog (tblOf tab) A (59, 42) := ⟨Try.f59, p42, Try.func59, by kernel_rfl, by kernel_rfl, by kernel_rfl, by kernel_rfl⟩
theorem c84 : FnOK Try.prog (tblOf tab) A (84, 83) := ⟨Try.f84, p83, Try.func84, by kernel_rfl, by kernel_rfl, by kernel_rfl, by kernel_rfl⟩
theorem c86 : FnOK Try.prog (tblOf tab) A (86, 84) := ⟨Try.f86, p84, Try.func86, by kernel_rfl, by kernel_rfl, by kernel_rfl, by kernel_rfl⟩
theorem c85 : FnOK Try.prog (tblOf tab) A (85, 85) := ⟨Try.f85, p85, Try.func85, by kernel_rfl, by kernel_rfl, by kernel_rfl, by kernel_rfl⟩
theorem c46 : FnOK Try.prog (tblOf tab) A (46, 41) := ⟨Try.f46, p41, Try.func46, by kernel_rfl, by kernel_rfl, by kernel_rfl, by kernel_rfl⟩
theorem c33 : FnOK Try.prog (tblOf tab) A (33, 166) := ⟨Try.f33, p166, Try.func33, by kernel_rfl, by kernel_rfl, by kernel_rfl, by kernel_rfl⟩
theorem c123 : FnOK Try.prog (tblOf tab) A (123, 96) := ⟨Try.f123, p96, Try.func123, by kernel_rfl, by kernel_rfl, by kernel_rfl, by kernel_rfl⟩
theorem c125 : FnOK Try.prog (tblOf tab) A (125, 137) := ⟨Try.f125, p137, Try.func125, by kernel_rfl, by kernel_rfl, by kernel_rfl, by kernel_rfl⟩
theorem c126 : FnOK Try.prog (tblOf tab) A (126, 138) := ⟨Try.f126, p138, Try.func126, by kernel_rfl, by kernel_rfl, by kernel_rfl, by kernel_rfl⟩
theorem c127 : FnOK Try.prog (tblOf tab) A (127, 139) := ⟨Try.f127, p139, Try.func127, by kernel_rfl, by kernel_rfl, by kernel_rfl, by kernel_rfl⟩
theorem c89 : FnOK Try.prog (tblOf tab) A (89, 133) := ⟨Try.f89, p133, Try.func89, by kernel_rfl, by kernel_rfl, by kernel_rfl, by kernel_rfl⟩
theorem c106 : FnOK Try.prog (tblOf tab) A (106, 102) := ⟨Try.f106, p102, Try.func106, by kernel_rfl, by kernel_rfl, by kernel_rfl, by kernel_rfl⟩
theorem c119 : FnOK Try.prog (tblOf tab) A (119, 125) := ⟨Try.f119, p125, Try.func119, by kernel_rfl, by kernel_rfl, by kernel_rfl, by kernel_rfl⟩
theorem c117 : FnOK Try.prog (tblOf tab) A (117, 202) := ⟨Try.f117, p202, Try.func117, by kernel_rfl, by kernel_rfl, by kernel_rfl, by kernel_rfl⟩
theorem c139 : FnOK Try.prog (tblOf tab) A (139, 211) := ⟨Try.f139, p211, Try.func139, by kernel_rfl, by kernel_rfl, by kernel_rfl, by kernel_rfl⟩
theorem c118 : FnOK Try.prog (tblOf tab) A (118, 203) := ⟨Try.f118, p203, Try.func118, by kernel_rfl, by kernel_rfl, by kernel_rfl, by kernel_rfl⟩
theorem c70 : FnOK Try.prog (tblOf tab) A (70, 184) := ⟨Try.f70, p184, Try.func70, by kernel_rfl, by kernel_rfl, by kernel_rfl, by kernel_rfl⟩
theorem c71 : FnOK Try.prog (tblOf tab) A (71, 185) := ⟨Try.f71, p185, Try.func71, by kernel_rfl, by kernel_rfl, by kernel_rfl, by kernel_rfl⟩
theorem c140 : FnOK Try.prog (tblOf tab) A (140, 123) := ⟨Try.f140, p123, Try.func140, by kernel_rfl, by kernel_rfl, by kernel_rfl, by kernel_rfl⟩
theorem c120 : FnOK Try.prog (tblOf tab) A (120, 101) := ⟨Try.f120, p101, Try.func120, by kernel_rfl, by kernel_rfl, by kernel_rfl, by kernel_rfl⟩
theorem c116 : FnOK Try.prog (tblOf tab) A (116, 205) := ⟨Try.f116, p205, Try.func116, by kernel_rfl, by kernel_rfl, by kernel_rfl, by kernel_rfl⟩
theorem c69 : FnOK Try.prog (tblOf tab) A (69, 204) := ⟨Try.f69, p204, Try.func69, by kernel_rfl, by kernel_rfl, by kernel_rfl, by kernel_rfl⟩
theorem c34 : FnOK Try.prog (tblOf tab) A (34, 187) := ⟨Try.f34, p187, Try.func34, by kernel_rfl, by kernel_rfl, by kernel_rfl, by kernel_rfl⟩
theorem c77 : FnOK Try.prog (tblOf tab) A (77, 188) := ⟨Try.f77, p188, Try.func77, by kernel_rfl, by kernel_rfl, by kernel_rfl, by kernel_rfl⟩
theorem c42 : FnOK Try.prog (tblOf tab) A (42, 170) := ⟨Try.f42, p170, Try.func42, by kernel_rfl, by kernel_rfl, by kernel_rfl, by kernel_rfl⟩
theorem c17 : FnOK Try.prog (tblOf tab) A (17, 324) := ⟨Try.f17, p324, Try.func17, by kernel_rfl, by kernel_rfl, by kernel_rfl, by kernel_rfl⟩
theorem c4 : FnOK Try.prog (tblOf tab) A (4, 337) := ⟨Try.f4, p337, Try.func4, by kernel_rfl, by kernel_rfl, by kernel_rfl, by kernel_rfl⟩
theorem models : Models Try.prog (tblOf tab) A := by
  refine models_of (by kernel_rfl) fun x hx => ?_
  simp only [tab, List.mem_cons, List.not_mem_nil, or_false] at hx
  rcases hx with rfl | rfl | rfl | rfl | rfl | rfl | rfl | rfl | rfl | rfl | rfl | rfl | rfl | rfl | rfl | rfl | rfl | rfl | rfl | rfl | rfl | rfl | rfl | rfl | rfl | rfl | rfl | rfl | rfl | rfl | rfl | rfl | rfl | rfl | rfl | rfl | rfl | rfl | rfl | rfl | rfl | rfl | rfl | rfl | rfl | rfl | rfl | rfl | rfl | rfl | rfl | rfl | rfl | rfl | rfl | rfl | rfl | rfl | rfl | rfl | rfl | rfl | rfl | rfl | rfl | rfl | rfl | rfl | rfl | rfl | rfl | rfl | rfl | rfl | rfl | rfl | rfl | rfl | rfl | rfl | rfl | rfl | rfl | rfl | rfl | rfl | rfl | rfl | rfl | rfl | rfl | rfl | rfl | rfl
  · exact c35
  · exact c11
  · exact c61
  · exact c25
  · exact c12
  · exact c36
  · exact c14
  · exact c62
  · exact c26
  · exact c13
  · exact c53
  · exact c29
  · exact c54
  · exact c20
  · exact c7
  · exact c57
  · exact c32
  · exact c58
  · exact c22
  · exact c9
  · exact c37
  · exact c15
  · exact c41
  · exact c64
  · exact c92
  · exact c93
  · exact c72
  · exact c55
  · exact c74
  · exact c73
  · exact c79
  · exact c43
  · exact c30
  · exact c75
  · exact c76
  · exact c115
  · exact c113
  · exact c114
  · exact c66
  · exact c112
  · exact c110
  · exact c111
  · exact c65
  · exact c38
  · exact c39
  · exact c40
  · exact c31
  · exact c16
  · exact c67
  · exact c98
  · exact c122
  · exact c83
  · exact c82
  · exact c68
  · exact c99
  · exact c100
  · exact c87
  · exact c141
  · exact c134
  · exact c133
  · exact c124
  · exact c132
  · exact c101
  · exact c121
  · exact c78
  · exact c135
  · exact c102
  · exact c59
  · exact c84
  · exact c86
  · exact c85
  · exact c46
  · exact c33
  · exact c123
  · exact c125
  · exact c126
  · exact c127
  · exact c89
  · exact c106
  · exact c119
  · exact c117
  · exact c139
  · exact c118
  · exact c70
  · exact c71
  · exact c140
  · exact c120
  · exact c116
  · exact c69
  · exact c34
  · exact c77
  · exact c42
  · exact c17
  · exact c4
end Rv.Pd
