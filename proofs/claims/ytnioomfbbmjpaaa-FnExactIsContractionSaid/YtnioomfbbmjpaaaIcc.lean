/- The abstract code is what the translated functions are compiled to. -/
import Derived.Test.YtnioomfbbmjpaaaIcp
import Derived.Test.YtnioomfbbmjpaaaChecked
import Derived.KernelRfl
namespace Rv.Ic
open Go.Proofs
set_option maxRecDepth 100000
def tab : List (Nat × Nat) := [(66, 43), (49, 44), (20, 11), (19, 10), (69, 47), (55, 48), (23, 13), (22, 12), (36, 30), (61, 51), (25, 17), (14, 16), (27, 224), (29, 225), (52, 54), (96, 78), (97, 79), (134, 80), (133, 81), (74, 39), (124, 272), (122, 99), (151, 76), (123, 273), (194, 93), (53, 94), (125, 127), (182, 136), (208, 134), (218, 135), (173, 131), (199, 122), (154, 98), (174, 251), (94, 283), (135, 282), (136, 284), (137, 285), (139, 286), (138, 287), (140, 288), (195, 312), (141, 289), (75, 249), (28, 226), (58, 56), (100, 67), (183, 115), (103, 82), (102, 73), (72, 86), (142, 87), (143, 88), (81, 89), (219, 130), (198, 129), (197, 116), (201, 128), (196, 117), (144, 90), (184, 119), (145, 91), (185, 118), (114, 92), (76, 42), (130, 102), (167, 132), (111, 124), (93, 165), (116, 96), (148, 173), (150, 175), (147, 194), (202, 137), (203, 138), (204, 139), (159, 133), (207, 125), (180, 100), (178, 186), (95, 168), (146, 206), (149, 207), (77, 192), (30, 227), (31, 228), (5, 317)]
theorem c66 : FnOK Try.prog (tblOf tab) A (66, 43) := ⟨Try.f66, p43, Try.func66, by kernel_rfl, by kernel_rfl, by kernel_rfl, by kernel_rfl⟩
theorem c49 : FnOK Try.prog (tblOf tab) A (49, 44) := ⟨Try.f49, p44, Try.func49, by kernel_rfl, by kernel_rfl, by kernel_rfl, by kernel_rfl⟩
theorem c20 : FnOK Try.prog (tblOf tab) A (20, 11) := ⟨Try.f20, p11, Try.func20, by kernel_rfl, by kernel_rfl, by kernel_rfl, by kernel_rfl⟩
theorem c19 : FnOK Try.prog (tblOf tab) A (19, 10) := ⟨Try.f19, p10, Try.func19, by kernel_rfl, by kernel_rfl, by kernel_rfl, by kernel_rfl⟩
theorem c69 : FnOK Try.prog (tblOf tab) A (69, 47) := ⟨Try.f69, p47, Try.func69, by kernel_rfl, by kernel_rfl, by kernel_rfl, by kernel_rfl⟩
theorem c55 : FnOK Try.prog (tblOf tab) A (55, 48) := ⟨Try.f55, p48, Try.func55, by kernel_rfl, by kernel_rfl, by kernel_rfl, by kernel_rfl⟩
theorem c23 : FnOK Try.prog (tblOf tab) A (23, 13) := ⟨Try.f23, p13, Try.func23, by kernel_rfl, by kernel_rfl, by kernel_rfl, by kernel_rfl⟩
theorem c22 : FnOK Try.prog (tblOf tab) A (22, 12) := ⟨Try.f22, p12, Try.func22, by kernel_rfl, by kernel_rfl, by kernel_rfl, by kernel_rfl⟩
theorem c36 : FnOK Try.prog (tblOf tab) A (36, 30) := ⟨Try.f36, p30, Try.func36, by kernel_rfl, by kernel_rfl, by kernel_rfl, by kernel_rfl⟩
theorem c61 : FnOK Try.prog (tblOf tab) A (61, 51) := ⟨Try.f61, p51, Try.func61, by kernel_rfl, by kernel_rfl, by kernel_rfl, by kernel_rfl⟩
theorem c25 : FnOK Try.prog (tblOf tab) A (25, 17) := ⟨Try.f25, p17, Try.func25, by kernel_rfl, by kernel_rfl, by kernel_rfl, by kernel_rfl⟩
theorem c14 : FnOK Try.prog (tblOf tab) A (14, 16) := ⟨Try.f14, p16, Try.func14, by kernel_rfl, by kernel_rfl, by kernel_rfl, by kernel_rfl⟩
theorem c27 : FnOK Try.prog (tblOf tab) A (27, 224) := ⟨Try.f27, p224, Try.func27, by kernel_rfl, by kernel_rfl, by kernel_rfl, by kernel_rfl⟩
theorem c29 : FnOK Try.prog (tblOf tab) A (29, 225) := ⟨Try.f29, p225, Try.func29, by kernel_rfl, by kernel_rfl, by kernel_rfl, by kernel_rfl⟩
theorem c52 : FnOK Try.prog (tblOf tab) A (52, 54) := ⟨Try.f52, p54, Try.func52, by kernel_rfl, by kernel_rfl, by kernel_rfl, by kernel_rfl⟩
theorem c96 : FnOK Try.prog (tblOf tab) A (96, 78) := ⟨Try.f96, p78, Try.func96, by kernel_rfl, by kernel_rfl, by kernel_rfl, by kernel_rfl⟩
theorem c97 : FnOK Try.prog (tblOf tab) A (97, 79) := ⟨Try.f97, p79, Try.func97, by kernel_rfl, by kernel_rfl, by kernel_rfl, by kernel_rfl⟩
theorem c134 : FnOK Try.prog (tblOf tab) A (134, 80) := ⟨Try.f134, p80, Try.func134, by kernel_rfl, by kernel_rfl, by kernel_rfl, by kernel_rfl⟩
theorem c133 : FnOK Try.prog (tblOf tab) A (133, 81) := ⟨Try.f133, p81, Try.func133, by kernel_rfl, by kernel_rfl, by kernel_rfl, by kernel_rfl⟩
theorem c74 : FnOK Try.prog (tblOf tab) A (74, 39) := ⟨Try.f74, p39, Try.func74, by kernel_rfl, by kernel_rfl, by kernel_rfl, by kernel_rfl⟩
theorem c124 : FnOK Try.prog (tblOf tab) A (124, 272) := ⟨Try.f124, p272, Try.func124, by kernel_rfl, by kernel_rfl, by kernel_rfl, by kernel_rfl⟩
theorem c122 : FnOK Try.prog (tblOf tab) A (122, 99) := ⟨Try.f122, p99, Try.func122, by kernel_rfl, by kernel_rfl, by kernel_rfl, by kernel_rfl⟩
theorem c151 : FnOK Try.prog (tblOf tab) A (151, 76) := ⟨Try.f151, p76, Try.func151, by kernel_rfl, by kernel_rfl, by kernel_rfl, by kernel_rfl⟩
theorem c123 : FnOK Try.prog (tblOf tab) A (123, 273) := ⟨Try.f123, p273, Try.func123, by kernel_rfl, by kernel_rfl, by kernel_rfl, by kernel_rfl⟩
theorem c194 : FnOK Try.prog (tblOf tab) A (194, 93) := ⟨Try.f194, p93, Try.func194, by kernel_rfl, by kernel_rfl, by kernel_rfl, by kernel_rfl⟩
theorem c53 : FnOK Try.prog (tblOf tab) A (53, 94) := ⟨Try.f53, p94, Try.func53, by kernel_rfl, by kernel_rfl, by kernel_rfl, by kernel_rfl⟩
theorem c125 : FnOK Try.prog (tblOf tab) A (125, 127) := ⟨Try.f125, p127, Try.func125, by kernel_rfl, by kernel_rfl, by kernel_rfl, by kernel_rfl⟩
theorem c182 : FnOK Try.prog (tblOf tab) A (182, 136) := ⟨Try.f182, p136, Try.func182, by kernel_rfl, by kernel_rfl, by kernel_rfl, by kernel_rfl⟩
theorem c208 : FnOK Try.prog (tblOf tab) A (208, 134) := ⟨Try.f208, p134, Try.func208, by kernel_rfl, by kernel_rfl, by kernel_rfl, by kernel_rfl⟩
theorem c218 : FnOK Try.prog (tblOf tab) A (218, 135) := ⟨Try.f218, p135, Try.func218, by kernel_rfl, by kernel_rfl, by kernel_rfl, by kernel_rfl⟩
theorem c173 : FnOK Try.prog (tblOf tab) A (173, 131) := ⟨Try.f173, p131, Try.func173, by kernel_rfl, by kernel_rfl, by kernel_rfl, by kernel_rfl⟩
theorem c199 : FnOK Try.prog (tblOf tab) A (199, 122) := ⟨Try.f199, p122, Try.func199, by kernel_rfl, by kernel_rfl, by kernel_rfl, by kernel_rfl⟩
theorem c154 : FnOK Try.prog (tblOf tab) A (154, 98) := ⟨Try.f154, p98, Try.func154, by kernel_rfl, by kernel_rfl, by kernel_rfl, by kernel_rfl⟩
theorem c174 : FnOK Try.prog (tblOf tab) A (174, 251) := ⟨Try.f174, p251, Try.func174, by kernel_rfl, by kernel_rfl, by kernel_rfl, by kernel_rfl⟩
theorem c94 : FnOK Try.prog (tblOf tab) A (94, 283) := ⟨Try.f94, p283, Try.func94, by kernel_rfl, by kernel_rfl, by kernel_rfl, by kernel_rfl⟩
theorem c135 : FnOK Try.prog (tblOf tab) A (135, 282) := ⟨Try.f135, p282, Try.func135, by kernel_rfl, by kernel_rfl, by kernel_rfl, by kernel_rfl⟩
theorem c136 : FnOK Try.prog (tblOf tab) A (136, 284) := ⟨Try.f136, p284, Try.func136, by kernel_rfl, by kernel_rfl, by kernel_rfl, by kernel_rfl⟩
theorem c137 : FnOK Try.prog (tblOf tab) A (137, 285) := ⟨Try.f137, p285, Try.func137, by kernel_rfl, by kernel_rfl, by kernel_rfl, by kernel_rfl⟩
theorem c139 : FnOK Try.prog (tblOf tab) A (139, 286) := ⟨Try.f139, p286, Try.func139, by kernel_rfl, by kernel_rfl, by kernel_rfl, by kernel_rfl⟩
theorem c138 : FnOK Try.prog (tblOf tab) A (138, 287) := ⟨Try.f138, p287, Try.func138, by kernel_rfl, by kernel_rfl, by kernel_rfl, by kernel_rfl⟩
theorem c140 : FnOK Try.prog (tblOf tab) A (140, 288) := ⟨Try.f140, p288, Try.func140, by kernel_rfl, by kernel_rfl, by kernel_rfl, by kernel_rfl⟩
theorem c195 : FnOK Try.prog (tblOf tab) A (195, 312) := ⟨Try.f195, p312, Try.func195, by kernel_rfl, by kernel_rfl, by kernel_rfl, by kernel_rfl⟩
theorem c141 : FnOK Try.prog (tblOf tab) A (141, 289) := ⟨Try.f141, p289, Try.func141, by kernel_rfl, by kernel_rfl, by kernel_rfl, by kernel_rfl⟩
theorem c75 : FnOK Try.prog (tblOf tab) A (75, 249) := ⟨Try.f75, p249, Try.func75, by kernel_rfl, by kernel_rfl, by kernel_rfl, by kernel_rfl⟩
theorem c28 : FnOK Try.prog (tblOf tab) A (28, 226) := ⟨Try.f28, p226, Try.func28, by kernel_rfl, by kernel_rfl, by kernel_rfl, by kernel_rfl⟩
theorem c58 : FnOK Try.prog (tblOf tab) A (58, 56) := ⟨Try.f58, p56, Try.func58, by kernel_rfl, by kernel_rfl, by kernel_rfl, by kernel_rfl⟩
theorem c100 : FnOK Try.prog (tblOf tab) A (100, 67) := ⟨Try.f100, p67, Try.func100, by kernel_rfl, by kernel_rfl, by kernel_rfl, by kernel_rfl⟩
theorem c183 : FnOK Try.prog (tblOf tab) A (183, 115) := ⟨Try.f183, p115, Try.func183, by kernel_rfl, by kernel_rfl, by kernel_rfl, by kernel_rfl⟩
theorem c103 : FnOK Try.prog (tblOf tab) A (103, 82) := ⟨Try.f103, p82, Try.func103, by kernel_rfl, by kernel_rfl, by kernel_rfl, by kernel_rfl⟩
theorem c102 : FnOK Try.prog (tblOf tab) A (102, 73) := ⟨Try.f102, p73, Try.func102, by kernel_rfl, by kernel_rfl, by kernel_rfl, by kernel_rfl⟩
theorem c72 : FnOK Try.prog (tblOf tab) A (72, 86) := ⟨Try.f72, p86, Try.func72, by kernel_rfl, by kernel_rfl, by kernel_rfl, by kernel_rfl⟩
theorem c142 : FnOK Try.prog (tblOf tab) A (142, 87) := ⟨Try.f142, p87, Try.func142, by kernel_rfl, by kernel_rfl, by kernel_rfl, by kernel_rfl⟩
theorem c143 : FnOK Try.prog (tblOf tab) A (143, 88) := ⟨Try.f143, p88, Try.func143, by kernel_rfl, by kernel_rfl, by kernel_rfl, by kernel_rfl⟩
theorem c81 : FnOK Try.prog (tblOf tab) A (81, 89) := ⟨Try.f81, p89, Try.func81, by kernel_rfl, by kernel_rfl, by kernel_rfl, by kernel_rfl⟩
theorem c219 : FnOK Try.prog (tblOf tab) A (219, 130) := ⟨Try.f219, p130, Try.func219, by kernel_rfl, by kernel_rfl, by kernel_rfl, by kernel_rfl⟩
theorem c198 : FnOK Try.prog (tblOf tab) A (198, 129) := ⟨Try.f198, p129, Try.func198, by kernel_rfl, by kernel_rfl, by kernel_rfl, by kernel_rfl⟩
theorem c197 : FnOK Try.prog (tblOf tab) A (197, 116) := ⟨Try.f197, p116, Try.func197, by kernel_rfl, by kernel_rfl, by kernel_rfl, by kernel_rfl⟩
theorem c201 : FnOK Try.prog (tblOf tab) A (201, 128) := ⟨Try.f201, p128, Try.func201, by kernel_rfl, by kernel_rfl, by kernel_rfl, by kernel_rfl⟩
theorem c196 : FnOK Try.prog (tblOf tab) A (196, 117) := ⟨Try.f196, p117, Try.func196, by kernel_rfl, by kernel_rfl, by kernel_rfl, by kernel_rfl⟩
theorem c144 : FnOK Try.prog (tblOf tab) A (144, 90) := ⟨Try.f144, p90, Try.func144, by kernel_rfl, by kernel_rfl, by kernel_rfl, by kernel_rfl⟩
theorem c184 : FnOK Try.prog (tblOf tab) A (184, 119) := ⟨Try.f184, p119, Try.func184, by kernel_rfl, by kernel_rfl, by kernel_rfl, by kernel_rfl⟩
theorem c145 : FnOK Try.prog (tblOf tab) A (145, 91) := ⟨Try.f145, p91, Try.func145, by kernel_rfl, by kernel_rfl, by kernel_rfl, by kernel_rfl⟩
theorem c185 : FnOK Try.prog (tblOf tab) A (185, 118) := ⟨Try.f185, p118, Try.func185, by kernel_rfl, by kernel_rfl, by kernel_rfl, by kernel_rfl⟩
theorem c114 : FnOK Try.prog (tblOf tab) A (114, 92) := ⟨Try.f114, p92, Try.func114, by kernel_rfl, by kernel_rfl, by kernel_rfl, by kernel_rfl⟩
theorem c76 : FnOK Try.prog (tblOf tab) A (76, 42) := ⟨Try.f76, p42, Try.func76, by kernel_rfl, by kernel_rfl, by kernel_rfl, by kernel_rfl⟩
theorem c130 : FnOK Try.prog (tblOf tab) A (130, 102) := ⟨Try.f130, p102, Try.func130, by kernel_rfl, by kernel_rfl, by kernel_rfl, by kernel_rfl⟩
theorem c167 : FnOK Try.prog (tblOf tab) A (167, 132) := ⟨Try.f167, p132, Try.func167, by kernel_rfl, by kernel_rfl, by kernel_rfl, by kernel_rfl⟩
theorem c111 : FnOK Try.prog (tblOf tab) A (111, 124) := ⟨Try.f111, p124, Try.func111, by kernel_rfl, by kernel_rfl, by kernel_rfl, by kernel_rfl⟩
theorem c93 : FnOK Try.prog (tblOf tab) A (93, 165) := ⟨Try.f93, p165, Try.func93, by kernel_rfl, by kernel_rfl, by kernel_rfl, by kernel_rfl⟩
theorem c116 : FnOK Try.prog (tblOf tab) A (116, 96) := ⟨Try.f116, p96, Try.func116, by kernel_rfl, by kernel_rfl, by kernel_rfl, by kernel_rfl⟩
theorem c148 : FnOK Try.prog (tblOf tab) A (148, 173) := ⟨Try.f148, p173, Try.func148, by kernel_rfl, by kernel_rfl, by kernel_rfl, by kernel_rfl⟩
theorem c150 : FnOK Try.prog (tblOf tab) A (150, 175) := ⟨Try.f150, p175, Try.func150, by kernel_rfl, by kernel_rfl, by kernel_rfl, by kernel_rfl⟩
theorem c147 : FnOK Try.prog (tblOf tab) A (147, 194) := ⟨Try.f147, p194, Try.func147, by kernel_rfl, by kernel_rfl, by kernel_rfl, by kernel_rfl⟩
theorem c202 : FnOK Try.prog (tblOf tab) A (202, 137) := ⟨Try.f202, p137, Try.func202, by kernel_rfl, by kernel_rfl, by kernel_rfl, by kernel_rfl⟩
theorem c203 : FnOK Try.prog (tblOf tab) A (203, 138) := ⟨Try.f203, p138, Try.func203, by kernel_rfl, by kernel_rfl, by kernel_rfl, by kernel_rfl⟩
theorem c204 : FnOK Try.prog (tblOf tab) A (204, 139) := ⟨Try.f204, p139, Try.func204, by kernel_rfl, by kernel_rfl, by kernel_rfl, by kernel_rfl⟩
theorem c159 : FnOK Try.prog (tblOf tab) A (159, 133) := ⟨Try.f159, p133, Try.func159, by kernel_rfl, by kernel_rfl, by kernel_rfl, by kernel_rfl⟩
theorem c207 : FnOK Try.prog (tblOf tab) A (207, 125) := ⟨Try.f207, p125, Try.func207, by kernel_rfl, by kernel_rfl, by kernel_rfl, by kernel_rfl⟩
theorem c180 : FnOK Try.prog (tblOf tab) A (180, 100) := ⟨Try.f180, p100, Try.func180, by kernel_rfl, by kernel_rfl, by kernel_rfl, by kernel_rfl⟩
theorem c178 : FnOK Try.prog (tblOf tab) A (178, 186) := ⟨Try.f178, p186, Try.func178, by kernel_rfl, by kernel_rfl, by kernel_rfl, by kernel_rfl⟩
theorem c95 : FnOK Try.prog (tblOf tab) A (95, 168) := ⟨Try.f95, p168, Try.func95, by kernel_rfl, by kernel_rfl, by kernel_rfl, by kernel_rfl⟩
theorem c146 : FnOK Try.prog (tblOf tab) A (146, 206) := ⟨Try.f146, p206, Try.func146, by kernel_rfl, by kernel_rfl, by kernel_rfl, by kernel_rfl⟩
theorem c149 : FnOK Try.prog (tblOf tab) A (149, 207) := ⟨Try.f149, p207, Try.func149, by kernel_rfl, by kernel_rfl, by kernel_rfl, by kernel_rfl⟩
theorem c77 : FnOK Try.prog (tblOf tab) A (77, 192) := ⟨Try.f77, p192, Try.func77, by kernel_rfl, by kernel_rfl, by kernel_rfl, by kernel_rfl⟩
theorem c30 : FnOK Try.prog (tblOf tab) A (30, 227) := ⟨Try.f30, p227, Try.func30, by kernel_rfl, by kernel_rfl, by kernel_rfl, by kernel_rfl⟩
theorem c31 : FnOK Try.prog (tblOf tab) A (31, 228) := ⟨Try.f31, p228, Try.func31, by kernel_rfl, by kernel_rfl, by kernel_rfl, by kernel_rfl⟩
theorem c5 : FnOK Try.prog (tblOf tab) A (5, 317) := ⟨Try.f5, p317, Try.func5, by kernel_rfl, by kernel_rfl, by kernel_rfl, by kernel_rfl⟩
theorem models : Models Try.prog (tblOf tab) A := by
  refine models_of (by kernel_rfl) fun x hx => ?_
  simp only [tab, List.mem_cons, List.not_mem_nil, or_false] at hx
  rcases hx with rfl | rfl | rfl | rfl | rfl | rfl | rfl | rfl | rfl | rfl | rfl | rfl | rfl | rfl | rfl | rfl | rfl | rfl | rfl | rfl | rfl | rfl | rfl | rfl | rfl | rfl | rfl | rfl | rfl | rfl | rfl | rfl | rfl | rfl | rfl | rfl | rfl | rfl | rfl | rfl | rfl | rfl | rfl | rfl | rfl | rfl | rfl | rfl | rfl | rfl | rfl | rfl | rfl | rfl | rfl | rfl | rfl | rfl | rfl | rfl | rfl | rfl | rfl | rfl | rfl | rfl | rfl | rfl | rfl | rfl | rfl | rfl | rfl | rfl | rfl | rfl | rfl | rfl | rfl | rfl | rfl | rfl | rfl | rfl | rfl | rfl | rfl
  · exact c66
  · exact c49
  · exact c20
  · exact c19
  · exact c69
  · exact c55
  · exact c23
  · exact c22
  · exact c36
  · exact c61
  · exact c25
  · exact c14
  · exact c27
  · exact c29
  · exact c52
  · exact c96
  · exact c97
  · exact c134
  · exact c133
  · exact c74
  · exact c124
  · exact c122
  · exact c151
  · exact c123
  · exact c194
  · exact c53
  · exact c125
  · exact c182
  · exact c208
  · exact c218
  · exact c173
  · exact c199
  · exact c154
  · exact c174
  · exact c94
  · exact c135
  · exact c136
  · exact c137
  · exact c139
  · exact c138
  · exact c140
  · exact c195
  · exact c141
  · exact c75
  · exact c28
  · exact c58
  · exact c100
  · exact c183
  · exact c103
  · exact c102
  · exact c72
  · exact c142
  · exact c143
  · exact c81
  · exact c219
  · exact c198
  · exact c197
  · exact c201
  · exact c196
  · exact c144
  · exact c184
  · exact c145
  · exact c185
  · exact c114
  · exact c76
  · exact c130
  · exact c167
  · exact c111
  · exact c93
  · exact c116
  · exact c148
  · exact c150
  · exact c147
  · exact c202
  · exact c203
  · exact c204
  · exact c159
  · exact c207
  · exact c180
  · exact c178
  · exact c95
  · exact c146
  · exact c149
  · exact c77
  · exact c30
  · exact c31
  · exact c5
end Rv.Ic
