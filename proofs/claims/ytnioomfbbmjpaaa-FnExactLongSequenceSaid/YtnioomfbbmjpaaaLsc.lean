/- The abstract code is what the translated functions are compiled to. -/
import Derived.Test.YtnioomfbbmjpaaaLsp
import Derived.Test.YtnioomfbbmjpaaaChecked
import Derived.KernelRfl
namespace Rv.Ls
open Go.Proofs
set_option maxRecDepth 100000
def tab : List (Nat × Nat) := [(66, 43), (49, 44), (20, 11), (19, 10), (69, 47), (55, 48), (23, 13), (22, 12), (36, 30), (61, 51), (25, 17), (14, 16), (39, 31), (63, 52), (26, 21), (17, 20), (40, 32), (52, 54), (96, 78), (97, 79), (134, 80), (133, 81), (74, 39), (186, 302), (122, 99), (187, 303), (120, 270), (124, 272), (151, 76), (123, 273), (138, 287), (188, 304), (121, 271), (67, 242), (53, 94), (125, 127), (68, 243), (182, 136), (208, 134), (218, 135), (173, 131), (199, 122), (154, 98), (174, 251), (94, 283), (47, 340), (102, 73), (72, 86), (81, 89), (58, 56), (130, 102), (167, 132), (111, 124), (183, 115), (103, 82), (185, 118), (114, 92), (116, 96), (201, 128), (202, 137), (203, 138), (204, 139), (159, 133), (207, 125), (180, 100), (178, 186), (95, 168), (192, 307), (127, 276), (100, 67), (142, 87), (143, 88), (219, 130), (198, 129), (197, 116), (196, 117), (144, 90), (184, 119), (145, 91), (76, 42), (189, 305), (191, 313), (190, 306), (126, 274), (93, 165), (193, 309), (129, 308), (128, 275), (70, 244), (115, 74), (118, 75), (117, 85), (131, 277), (71, 245), (48, 341), (9, 342)]
theorem c66 : FnOK Try.prog (tblOf tab) A (66, 43) := ⟨Try.f66, p43, Try.func66, by kernel_rfl, by kernel_rfl, by kernel_rfl, by kernel_rfl⟩
theorem c49 : FnOK Try.prog (tblOf tab) A (49, 44) := ⟨Try.f49, p44, Try.func49, by kernel_rfl, by kernel_rfl, by kernel_rfl, by kernel_rfl⟩
theorem c20 : FnOK Try.prog (tblOf tab) A (20, 11) := ⟨Try.f20, p11, Try.func20, by kernel_rfl, by kernel_rfl, by kernel_rfl, by kernel_rfl⟩
theorem c19 : FnOK Try.prog (tblOf tab) A (19, 10) := ⟨Try.f19, p10, Try.func19, by kernel_rfl, by kernel_rfl, by kernel_rfl, by kernel_rfl⟩
theorem c69 : FnOK Try.prog (tblOf tab) A (69, 47) := ⟨Try.f69, p47, Try.func69, by kernel_rfl, by kernel_rfl, by kernel_rfl, by kernel_rfl⟩
theorem c55 : FnOK Try.prog (tblOf tab) A (55, 48) := ⟨Try.f55, p48, Try.func55, by kernel_rfl, by kernel_rfl, by kernel_rfl, by kernel_rfl⟩
theorem c23 : FnOK Try.prog (tblOf tab) A (23, 13) := ⟨Try.f23, p13, Try.func23, by kernel_rfl, by kernel_rfl, by kernel_rfl, by kernel_rfl⟩
theorem c22 : FnOK Try.prog (tblOf tab) A (22, 12) := ⟨Try.f22, p12, Try.func22, by kernel_rfl, by kernel_rfl, by kernel_rfl, by kernel_rfl⟩
theorem c36 : FnOK Try.prog (tblOf tab) A (36, 30) := ⟨Try.f36, p30, Try.func36, by kernel_rfl, by kernel_rfl, by kernel_rfl, by kernel_rfl⟩
theorem c61 : FnOK Try.prog (tblOf tab) A (61, 51) := ⟨Try.f61, p51, Try.func61, by kernel_rfl, by kernel_rfl, by kernel_rfl, by kernel_rfl⟩
theorem c25 : FnOK Try.prog (tblOf tab) A (25, 17) := ⟨Try.f25, p17, Try.func25, by kernel_rfl, by kernel_rfl, by kernel_rfl, by kernel_rfl⟩
theorem c14 : FnOK Try.prog (tblOf tab) A (14, 16) := ⟨Try.f14, p16, Try.func14, by kernel_rfl, by kernel_rfl, by kernel_rfl, by kernel_rfl⟩
theorem c39 : FnOK Try.prog (tblOf tab) A (39, 31) := ⟨Try.f39, p31, Try.func39, by kernel_rfl, by kernel_rfl, by kernel_rfl, by kernel_rfl⟩
theorem c63 : FnOK Try.prog (tblOf tab) A (63, 52) := ⟨Try.f63, p52, Try.func63, by kernel_rfl, by kernel_rfl, by kernel_rfl, by kernel_rfl⟩
theorem c26 : FnOK Try.prog (tblOf tab) A (26, 21) := ⟨Try.f26, p21, Try.func26, by kernel_rfl, by kernel_rfl, by kernel_rfl, by kernel_rfl⟩
theorem c17 : FnOK Try.prog (tblOf tab) A (17, 20) := ⟨Try.f17, p20, Try.func17, by kernel_rfl, by kernel_rfl, by kernel_rfl, by kernel_rfl⟩
theorem c40 : FnOK Try.prog (tblOf tab) A (40, 32) := ⟨Try.f40, p32, Try.func40, by kernel_rfl, by kernel_rfl, by kernel_rfl, by kernel_rfl⟩
theorem c52 : FnOK Try.prog (tblOf tab) A (52, 54) := ⟨Try.f52, p54, Try.func52, by kernel_rfl, by kernel_rfl, by kernel_rfl, by kernel_rfl⟩
theorem c96 : FnOK Try.prog (tblOf tab) A (96, 78) := ⟨Try.f96, p78, Try.func96, by kernel_rfl, by kernel_rfl, by kernel_rfl, by kernel_rfl⟩
theorem c97 : FnOK Try.prog (tblOf tab) A (97, 79) := ⟨Try.f97, p79, Try.func97, by kernel_rfl, by kernel_rfl, by kernel_rfl, by kernel_rfl⟩
theorem c134 : FnOK Try.prog (tblOf tab) A (134, 80) := ⟨Try.f134, p80, Try.func134, by kernel_rfl, by kernel_rfl, by kernel_rfl, by kernel_rfl⟩
theorem c133 : FnOK Try.prog (tblOf tab) A (133, 81) := ⟨Try.f133, p81, Try.func133, by kernel_rfl, by kernel_rfl, by kernel_rfl, by kernel_rfl⟩
theorem c74 : FnOK Try.prog (tblOf tab) A (74, 39) := ⟨Try.f74, p39, Try.func74, by kernel_rfl, by kernel_rfl, by kernel_rfl, by kernel_rfl⟩
theorem c186 : FnOK Try.prog (tblOf tab) A (186, 302) := ⟨Try.f186, p302, Try.func186, by kernel_rfl, by kernel_rfl, by kernel_rfl, by kernel_rfl⟩
theorem c122 : FnOK Try.prog (tblOf tab) A (122, 99) := ⟨Try.f122, p99, Try.func122, by kernel_rfl, by kernel_rfl, by kernel_rfl, by kernel_rfl⟩
theorem c187 : FnOK Try.prog (tblOf tab) A (187, 303) := ⟨Try.f187, p303, Try.func187, by kernel_rfl, by kernel_rfl, by kernel_rfl, by kernel_rfl⟩
theorem c120 : FnOK Try.prog (tblOf tab) A (120, 270) := ⟨Try.f120, p270, Try.func120, by kernel_rfl, by kernel_rfl, by kernel_rfl, by kernel_rfl⟩
theorem c124 : FnOK Try.prog (tblOf tab) A (124, 272) := ⟨Try.f124, p272, Try.func124, by kernel_rfl, by kernel_rfl, by kernel_rfl, by kernel_rfl⟩
theorem c151 : FnOK Try.prog (tblOf tab) A (151, 76) := ⟨Try.f151, p76, Try.func151, by kernel_rfl, by kernel_rfl, by kernel_rfl, by kernel_rfl⟩
theorem c123 : FnOK Try.prog (tblOf tab) A (123, 273) := ⟨Try.f123, p273, Try.func123, by kernel_rfl, by kernel_rfl, by kernel_rfl, by kernel_rfl⟩
theorem c138 : FnOK Try.prog (tblOf tab) A (138, 287) := ⟨Try.f138, p287, Try.func138, by kernel_rfl, by kernel_rfl, by kernel_rfl, by kernel_rfl⟩
theorem c188 : FnOK Try.prog (tblOf tab) A (188, 304) := ⟨Try.f188, p304, Try.func188, by kernel_rfl, by kernel_rfl, by kernel_rfl, by kernel_rfl⟩
theorem c121 : FnOK Try.prog (tblOf tab) A (121, 271) := ⟨Try.f121, p271, Try.func121, by kernel_rfl, by kernel_rfl, by kernel_rfl, by kernel_rfl⟩
theorem c67 : FnOK Try.prog (tblOf tab) A (67, 242) := ⟨Try.f67, p242, Try.func67, by kernel_rfl, by kernel_rfl, by kernel_rfl, by kernel_rfl⟩
theorem c53 : FnOK Try.prog (tblOf tab) A (53, 94) := ⟨Try.f53, p94, Try.func53, by kernel_rfl, by kernel_rfl, by kernel_rfl, by kernel_rfl⟩
theorem c125 : FnOK Try.prog (tblOf tab) A (125, 127) := ⟨Try.f125, p127, Try.func125, by kernel_rfl, by kernel_rfl, by kernel_rfl, by kernel_rfl⟩
theorem c68 : FnOK Try.prog (tblOf tab) A (68, 243) := ⟨Try.f68, p243, Try.func68, by kernel_rfl, by kernel_rfl, by kernel_rfl, by kernel_rfl⟩
theorem c182 : FnOK Try.prog (tblOf tab) A (182, 136) := ⟨Try.f182, p136, Try.func182, by kernel_rfl, by kernel_rfl, by kernel_rfl, by kernel_rfl⟩
theorem c208 : FnOK Try.prog (tblOf tab) A (208, 134) := ⟨Try.f208, p134, Try.func208, by kernel_rfl, by kernel_rfl, by kernel_rfl, by kernel_rfl⟩
theorem c218 : FnOK Try.prog (tblOf tab) A (218, 135) := ⟨Try.f218, p135, Try.func218, by kernel_rfl, by kernel_rfl, by kernel_rfl, by kernel_rfl⟩
theorem c173 : FnOK Try.prog (tblOf tab) A (173, 131) := ⟨Try.f173, p131, Try.func173, by kernel_rfl, by kernel_rfl, by kernel_rfl, by kernel_rfl⟩
theorem c199 : FnOK Try.prog (tblOf tab) A (199, 122) := ⟨Try.f199, p122, Try.func199, by kernel_rfl, by kernel_rfl, by kernel_rfl, by kernel_rfl⟩
theorem c154 : FnOK Try.prog (tblOf tab) A (154, 98) := ⟨Try.f154, p98, Try.func154, by kernel_rfl, by kernel_rfl, by kernel_rfl, by kernel_rfl⟩
theorem c174 : FnOK Try.prog (tblOf tab) A (174, 251) := ⟨Try.f174, p251, Try.func174, by kernel_rfl, by kernel_rfl, by kernel_rfl, by kernel_rfl⟩
theorem c94 : FnOK Try.prog (tblOf tab) A (94, 283) := ⟨Try.f94, p283, Try.func94, by kernel_rfl, by kernel_rfl, by kernel_rfl, by kernel_rfl⟩
theorem c47 : FnOK Try.prog (tblOf tab) A (47, 340) := ⟨Try.f47, p340, Try.func47, by kernel_rfl, by kernel_rfl, by kernel_rfl, by kernel_rfl⟩
theorem c102 : FnOK Try.prog (tblOf tab) A (102, 73) := ⟨Try.f102, p73, Try.func102, by kernel_rfl, by kernel_rfl, by kernel_rfl, by kernel_rfl⟩
theorem c72 : FnOK Try.prog (tblOf tab) A (72, 86) := ⟨Try.f72, p86, Try.func72, by kernel_rfl, by kernel_rfl, by kernel_rfl, by kernel_rfl⟩
theorem c81 : FnOK Try.prog (tblOf tab) A (81, 89) := ⟨Try.f81, p89, Try.func81, by kernel_rfl, by kernel_rfl, by kernel_rfl, by kernel_rfl⟩
theorem c58 : FnOK Try.prog (tblOf tab) A (58, 56) := ⟨Try.f58, p56, Try.func58, by kernel_rfl, by kernel_rfl, by kernel_rfl, by kernel_rfl⟩
theorem c130 : FnOK Try.prog (tblOf tab) A (130, 102) := ⟨Try.f130, p102, Try.func130, by kernel_rfl, by kernel_rfl, by kernel_rfl, by kernel_rfl⟩
theorem c167 : FnOK Try.prog (tblOf tab) A (167, 132) := ⟨Try.f167, p132, Try.func167, by kernel_rfl, by kernel_rfl, by kernel_rfl, by kernel_rfl⟩
theorem c111 : FnOK Try.prog (tblOf tab) A (111, 124) := ⟨Try.f111, p124, Try.func111, by kernel_rfl, by kernel_rfl, by kernel_rfl, by kernel_rfl⟩
theorem c183 : FnOK Try.prog (tblOf tab) A (183, 115) := ⟨Try.f183, p115, Try.func183, by kernel_rfl, by kernel_rfl, by kernel_rfl, by kernel_rfl⟩
theorem c103 : FnOK Try.prog (tblOf tab) A (103, 82) := ⟨Try.f103, p82, Try.func103, by kernel_rfl, by kernel_rfl, by kernel_rfl, by kernel_rfl⟩
theorem c185 : FnOK Try.prog (tblOf tab) A (185, 118) := ⟨Try.f185, p118, Try.func185, by kernel_rfl, by kernel_rfl, by kernel_rfl, by kernel_rfl⟩
theorem c114 : FnOK Try.prog (tblOf tab) A (114, 92) := ⟨Try.f114, p92, Try.func114, by kernel_rfl, by kernel_rfl, by kernel_rfl, by kernel_rfl⟩
theorem c116 : FnOK Try.prog (tblOf tab) A (116, 96) := ⟨Try.f116, p96, Try.func116, by kernel_rfl, by kernel_rfl, by kernel_rfl, by kernel_rfl⟩
theorem c201 : FnOK Try.prog (tblOf tab) A (201, 128) := ⟨Try.f201, p128, Try.func201, by kernel_rfl, by kernel_rfl, by kernel_rfl, by kernel_rfl⟩
theorem c202 : FnOK Try.prog (tblOf tab) A (202, 137) := ⟨Try.f202, p137, Try.func202, by kernel_rfl, by kernel_rfl, by kernel_rfl, by kernel_rfl⟩
theorem c203 : FnOK Try.prog (tblOf tab) A (203, 138) := ⟨Try.f203, p138, Try.func203, by kernel_rfl, by kernel_rfl, by kernel_rfl, by kernel_rfl⟩
theorem c204 : FnOK Try.prog (tblOf tab) A (204, 139) := ⟨Try.f204, p139, Try.func204, by kernel_rfl, by kernel_rfl, by kernel_rfl, by kernel_rfl⟩
theorem c159 : FnOK Try.prog (tblOf tab) A (159, 133) := ⟨Try.f159, p133, Try.func159, by kernel_rfl, by kernel_rfl, by kernel_rfl, by kernel_rfl⟩
theorem c207 : FnOK Try.prog (tblOf tab) A (207, 125) := ⟨Try.f207, p125, Try.func207, by kernel_rfl, by kernel_rfl, by kernel_rfl, by kernel_rfl⟩
theorem c180 : FnOK Try.prog (tblOf tab) A (180, 100) := ⟨Try.f180, p100, Try.func180, by kernel_rfl, by kernel_rfl, by kernel_rfl, by kernel_rfl⟩
theorem c178 : FnOK Try.prog (tblOf tab) A (178, 186) := ⟨Try.f178, p186, Try.func178, by kernel_rfl, by kernel_rfl, by kernel_rfl, by kernel_rfl⟩
theorem c95 : FnOK Try.prog (tblOf tab) A (95, 168) := ⟨Try.f95, p168, Try.func95, by kernel_rfl, by kernel_rfl, by kernel_rfl, by kernel_rfl⟩
theorem c192 : FnOK Try.prog (tblOf tab) A (192, 307) := ⟨Try.f192, p307, Try.func192, by kernel_rfl, by kernel_rfl, by kernel_rfl, by kernel_rfl⟩
theorem c127 : FnOK Try.prog (tblOf tab) A (127, 276) := ⟨Try.f127, p276, Try.func127, by kernel_rfl, by kernel_rfl, by kernel_rfl, by kernel_rfl⟩
theorem c100 : FnOK Try.prog (tblOf tab) A (100, 67) := ⟨Try.f100, p67, Try.func100, by kernel_rfl, by kernel_rfl, by kernel_rfl, by kernel_rfl⟩
theorem c142 : FnOK Try.prog (tblOf tab) A (142, 87) := ⟨Try.f142, p87, Try.func142, by kernel_rfl, by kernel_rfl, by kernel_rfl, by kernel_rfl⟩
theorem c143 : FnOK Try.prog (tblOf tab) A (143, 88) := ⟨Try.f143, p88, Try.func143, by kernel_rfl, by kernel_rfl, by kernel_rfl, by kernel_rfl⟩
theorem c219 : FnOK Try.prog (tblOf tab) A (219, 130) := ⟨Try.f219, p130, Try.func219, by kernel_rfl, by kernel_rfl, by kernel_rfl, by kernel_rfl⟩
theorem c198 : FnOK Try.prog (tblOf tab) A (198, 129) := ⟨Try.f198, p129, Try.func198, by kernel_rfl, by kernel_rfl, by kernel_rfl, by kernel_rfl⟩
theorem c197 : FnOK Try.prog (tblOf tab) A (197, 116) := ⟨Try.f197, p116, Try.func197, by kernel_rfl, by kernel_rfl, by kernel_rfl, by kernel_rfl⟩
theorem c196 : FnOK Try.prog (tblOf tab) A (196, 117) := ⟨Try.f196, p117, Try.func196, by kernel_rfl, by kernel_rfl, by kernel_rfl, by kernel_rfl⟩
theorem c144 : FnOK Try.prog (tblOf tab) A (144, 90) := ⟨Try.f144, p90, Try.func144, by kernel_rfl, by kernel_rfl, by kernel_rfl, by kernel_rfl⟩
theorem c184 : FnOK Try.prog (tblOf tab) A (184, 119) := ⟨Try.f184, p119, Try.func184, by kernel_rfl, by kernel_rfl, by kernel_rfl, by kernel_rfl⟩
theorem c145 : FnOK Try.prog (tblOf tab) A (145, 91) := ⟨Try.f145, p91, Try.func145, by kernel_rfl, by kernel_rfl, by kernel_rfl, by kernel_rfl⟩
theorem c76 : FnOK Try.prog (tblOf tab) A (76, 42) := ⟨Try.f76, p42, Try.func76, by kernel_rfl, by kernel_rfl, by kernel_rfl, by kernel_rfl⟩
theorem c189 : FnOK Try.prog (tblOf tab) A (189, 305) := ⟨Try.f189, p305, Try.func189, by kernel_rfl, by kernel_rfl, by kernel_rfl, by kernel_rfl⟩
theorem c191 : FnOK Try.prog (tblOf tab) A (191, 313) := ⟨Try.f191, p313, Try.func191, by kernel_rfl, by kernel_rfl, by kernel_rfl, by kernel_rfl⟩
theorem c190 : FnOK Try.prog (tblOf tab) A (190, 306) := ⟨Try.f190, p306, Try.func190, by kernel_rfl, by kernel_rfl, by kernel_rfl, by kernel_rfl⟩
theorem c126 : FnOK Try.prog (tblOf tab) A (126, 274) := ⟨Try.f126, p274, Try.func126, by kernel_rfl, by kernel_rfl, by kernel_rfl, by kernel_rfl⟩
theorem c93 : FnOK Try.prog (tblOf tab) A (93, 165) := ⟨Try.f93, p165, Try.func93, by kernel_rfl, by kernel_rfl, by kernel_rfl, by kernel_rfl⟩
theorem c193 : FnOK Try.prog (tblOf tab) A (193, 309) := ⟨Try.f193, p309, Try.func193, by kernel_rfl, by kernel_rfl, by kernel_rfl, by kernel_rfl⟩
theorem c129 : FnOK Try.prog (tblOf tab) A (129, 308) := ⟨Try.f129, p308, Try.func129, by kernel_rfl, by kernel_rfl, by kernel_rfl, by kernel_rfl⟩
theorem c128 : FnOK Try.prog (tblOf tab) A (128, 275) := ⟨Try.f128, p275, Try.func128, by kernel_rfl, by kernel_rfl, by kernel_rfl, by kernel_rfl⟩
theorem c70 : FnOK Try.prog (tblOf tab) A (70, 244) := ⟨Try.f70, p244, Try.func70, by kernel_rfl, by kernel_rfl, by kernel_rfl, by kernel_rfl⟩
theorem c115 : FnOK Try.prog (tblOf tab) A (115, 74) := ⟨Try.f115, p74, Try.func115, by kernel_rfl, by kernel_rfl, by kernel_rfl, by kernel_rfl⟩
theorem c118 : FnOK Try.prog (tblOf tab) A (118, 75) := ⟨Try.f118, p75, Try.func118, by kernel_rfl, by kernel_rfl, by kernel_rfl, by kernel_rfl⟩
theorem c117 : FnOK Try.prog (tblOf tab) A (117, 85) := ⟨Try.f117, p85, Try.func117, by kernel_rfl, by kernel_rfl, by kernel_rfl, by kernel_rfl⟩
theorem c131 : FnOK Try.prog (tblOf tab) A (131, 277) := ⟨Try.f131, p277, Try.func131, by kernel_rfl, by kernel_rfl, by kernel_rfl, by kernel_rfl⟩
theorem c71 : FnOK Try.prog (tblOf tab) A (71, 245) := ⟨Try.f71, p245, Try.func71, by kernel_rfl, by kernel_rfl, by kernel_rfl, by kernel_rfl⟩
theorem c48 : FnOK Try.prog (tblOf tab) A (48, 341) := ⟨Try.f48, p341, Try.func48, by kernel_rfl, by kernel_rfl, by kernel_rfl, by kernel_rfl⟩
theorem c9 : FnOK Try.prog (tblOf tab) A (9, 342) := ⟨Try.f9, p342, Try.func9, by kernel_rfl, by kernel_rfl, by kernel_rfl, by kernel_rfl⟩
theorem models : Models Try.prog (tblOf tab) A := by
  refine models_of (by kernel_rfl) fun x hx => ?_
  simp only [tab, List.mem_cons, List.not_mem_nil, or_false] at hx
  rcases hx with rfl | rfl | rfl | rfl | rfl | rfl | rfl | rfl | rfl | rfl | rfl | rfl | rfl | rfl | rfl | rfl | rfl | rfl | rfl | rfl | rfl | rfl | rfl | rfl | rfl | rfl | rfl | rfl | rfl | rfl | rfl | rfl | rfl | rfl | rfl | rfl | rfl | rfl | rfl | rfl | rfl | rfl | rfl | rfl | rfl | rfl | rfl | rfl | rfl | rfl | rfl | rfl | rfl | rfl | rfl | rfl | rfl | rfl | rfl | rfl | rfl | rfl | rfl | rfl | rfl | rfl | rfl | rfl | rfl | rfl | rfl | rfl | rfl | rfl | rfl | rfl | rfl | rfl | rfl | rfl | rfl | rfl | rfl | rfl | rfl | rfl | rfl | rfl | rfl | rfl | rfl | rfl | rfl | rfl | rfl | rfl
  · exact c66
  · exact c49
  · exact c20
  · exact c19
  · exact c69
  · exact c55
  · exact c23
  · exact c22
  · exact c36
  · exact c61
  · exact c25
  · exact c14
  · exact c39
  · exact c63
  · exact c26
  · exact c17
  · exact c40
  · exact c52
  · exact c96
  · exact c97
  · exact c134
  · exact c133
  · exact c74
  · exact c186
  · exact c122
  · exact c187
  · exact c120
  · exact c124
  · exact c151
  · exact c123
  · exact c138
  · exact c188
  · exact c121
  · exact c67
  · exact c53
  · exact c125
  · exact c68
  · exact c182
  · exact c208
  · exact c218
  · exact c173
  · exact c199
  · exact c154
  · exact c174
  · exact c94
  · exact c47
  · exact c102
  · exact c72
  · exact c81
  · exact c58
  · exact c130
  · exact c167
  · exact c111
  · exact c183
  · exact c103
  · exact c185
  · exact c114
  · exact c116
  · exact c201
  · exact c202
  · exact c203
  · exact c204
  · exact c159
  · exact c207
  · exact c180
  · exact c178
  · exact c95
  · exact c192
  · exact c127
  · exact c100
  · exact c142
  · exact c143
  · exact c219
  · exact c198
  · exact c197
  · exact c196
  · exact c144
  · exact c184
  · exact c145
  · exact c76
  · exact c189
  · exact c191
  · exact c190
  · exact c126
  · exact c93
  · exact c193
  · exact c129
  · exact c128
  · exact c70
  · exact c115
  · exact c118
  · exact c117
  · exact c131
  · exact c71
  · exact c48
  · exact c9
end Rv.Ls
