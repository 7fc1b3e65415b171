/- The abstract code is what the translated functions are compiled to. -/
import Derived.Test.YtnioomfbbmjpaaaLnp
import Derived.Test.YtnioomfbbmjpaaaChecked
import Derived.KernelRfl
namespace Rv.Ln
open Go.Proofs
set_option maxRecDepth 100000
def tab : List (Nat × Nat) := [(36, 30), (61, 51), (25, 17), (14, 16), (37, 25), (39, 31), (63, 52), (26, 21), (17, 20), (38, 26), (40, 32), (66, 43), (49, 44), (20, 11), (19, 10), (32, 37), (69, 47), (55, 48), (23, 13), (22, 12), (34, 40), (52, 54), (96, 78), (97, 79), (134, 80), (133, 81), (74, 39), (122, 99), (151, 76), (152, 77), (78, 38), (53, 94), (125, 127), (182, 136), (208, 134), (218, 135), (173, 131), (199, 122), (154, 98), (155, 292), (153, 293), (156, 294), (157, 295), (79, 258), (33, 232), (81, 89), (58, 56), (100, 67), (183, 115), (103, 82), (102, 73), (72, 86), (142, 87), (143, 88), (219, 130), (198, 129), (197, 116), (201, 128), (196, 117), (144, 90), (184, 119), (145, 91), (185, 118), (114, 92), (76, 42), (175, 83), (176, 84), (117, 85), (87, 41), (80, 166), (116, 96), (202, 137), (203, 138), (204, 139), (159, 133), (130, 102), (207, 125), (200, 202), (220, 211), (206, 203), (161, 184), (205, 201), (160, 200), (158, 296), (82, 259), (35, 233), (6, 319)]
theorem c36 : FnOK Try.prog (tblOf tab) A (36, 30) := ⟨Try.f36, p30, Try.func36, by kernel_rfl, by kernel_rfl, by kernel_rfl, by kernel_rfl⟩
theorem c61 : FnOK Try.prog (tblOf tab) A (61, 51) := ⟨Try.f61, p51, Try.func61, by kernel_rfl, by kernel_rfl, by kernel_rfl, by kernel_rfl⟩
theorem c25 : FnOK Try.prog (tblOf tab) A (25, 17) := ⟨Try.f25, p17, Try.func25, by kernel_rfl, by kernel_rfl, by kernel_rfl, by kernel_rfl⟩
theorem c14 : FnOK Try.prog (tblOf tab) A (14, 16) := ⟨Try.f14, p16, Try.func14, by kernel_rfl, by kernel_rfl, by kernel_rfl, by kernel_rfl⟩
theorem c37 : FnOK Try.prog (tblOf tab) A (37, 25) := ⟨Try.f37, p25, Try.func37, by kernel_rfl, by kernel_rfl, by kernel_rfl, by kernel_rfl⟩
theorem c39 : FnOK Try.prog (tblOf tab) A (39, 31) := ⟨Try.f39, p31, Try.func39, by kernel_rfl, by kernel_rfl, by kernel_rfl, by kernel_rfl⟩
theorem c63 : FnOK Try.prog (tblOf tab) A (63, 52) := ⟨Try.f63, p52, Try.func63, by kernel_rfl, by kernel_rfl, by kernel_rfl, by kernel_rfl⟩
theorem c26 : FnOK Try.prog (tblOf tab) A (26, 21) := ⟨Try.f26, p21, Try.func26, by kernel_rfl, by kernel_rfl, by kernel_rfl, by kernel_rfl⟩
theorem c17 : FnOK Try.prog (tblOf tab) A (17, 20) := ⟨Try.f17, p20, Try.func17, by kernel_rfl, by kernel_rfl, by kernel_rfl, by kernel_rfl⟩
theorem c38 : FnOK Try.prog (tblOf tab) A (38, 26) := ⟨Try.f38, p26, Try.func38, by kernel_rfl, by kernel_rfl, by kernel_rfl, by kernel_rfl⟩
theorem c40 : FnOK Try.prog (tblOf tab) A (40, 32) := ⟨Try.f40, p32, Try.func40, by kernel_rfl, by kernel_rfl, by kernel_rfl, by kernel_rfl⟩
theorem c66 : FnOK Try.prog (tblOf tab) A (66, 43) := ⟨Try.f66, p43, Try.func66, by kernel_rfl, by kernel_rfl, by kernel_rfl, by kernel_rfl⟩
theorem c49 : FnOK Try.prog (tblOf tab) A (49, 44) := ⟨Try.f49, p44, Try.func49, by kernel_rfl, by kernel_rfl, by kernel_rfl, by kernel_rfl⟩
theorem c20 : FnOK Try.prog (tblOf tab) A (20, 11) := ⟨Try.f20, p11, Try.func20, by kernel_rfl, by kernel_rfl, by kernel_rfl, by kernel_rfl⟩
theorem c19 : FnOK Try.prog (tblOf tab) A (19, 10) := ⟨Try.f19, p10, Try.func19, by kernel_rfl, by kernel_rfl, by kernel_rfl, by kernel_rfl⟩
theorem c32 : FnOK Try.prog (tblOf tab) A (32, 37) := ⟨Try.f32, p37, Try.func32, by kernel_rfl, by kernel_rfl, by kernel_rfl, by kernel_rfl⟩
theorem c69 : FnOK Try.prog (tblOf tab) A (69, 47) := ⟨Try.f69, p47, Try.func69, by kernel_rfl, by kernel_rfl, by kernel_rfl, by kernel_rfl⟩
theorem c55 : FnOK Try.prog (tblOf tab) A (55, 48) := ⟨Try.f55, p48, Try.func55, by kernel_rfl, by kernel_rfl, by kernel_rfl, by kernel_rfl⟩
theorem c23 : FnOK Try.prog (tblOf tab) A (23, 13) := ⟨Try.f23, p13, Try.func23, by kernel_rfl, by kernel_rfl, by kernel_rfl, by kernel_rfl⟩
theorem c22 : FnOK Try.prog (tblOf tab) A (22, 12) := ⟨Try.f22, p12, Try.func22, by kernel_rfl, by kernel_rfl, by kernel_rfl, by kernel_rfl⟩
theorem c34 : FnOK Try.prog (tblOf tab) A (34, 40) := ⟨Try.f34, p40, Try.func34, by kernel_rfl, by kernel_rfl, by kernel_rfl, by kernel_rfl⟩
theorem c52 : FnOK Try.prog (tblOf tab) A (52, 54) := ⟨Try.f52, p54, Try.func52, by kernel_rfl, by kernel_rfl, by kernel_rfl, by kernel_rfl⟩
theorem c96 : FnOK Try.prog (tblOf tab) A (96, 78) := ⟨Try.f96, p78, Try.func96, by kernel_rfl, by kernel_rfl, by kernel_rfl, by kernel_rfl⟩
theorem c97 : FnOK Try.prog (tblOf tab) A (97, 79) := ⟨Try.f97, p79, Try.func97, by kernel_rfl, by kernel_rfl, by kernel_rfl, by kernel_rfl⟩
theorem c134 : FnOK Try.prog (tblOf tab) A (134, 80) := ⟨Try.f134, p80, Try.func134, by kernel_rfl, by kernel_rfl, by kernel_rfl, by kernel_rfl⟩
theorem c133 : FnOK Try.prog (tblOf tab) A (133, 81) := ⟨Try.f133, p81, Try.func133, by kernel_rfl, by kernel_rfl, by kernel_rfl, by kernel_rfl⟩
theorem c74 : FnOK Try.prog (tblOf tab) A (74, 39) := ⟨Try.f74, p39, Try.func74, by kernel_rfl, by kernel_rfl, by kernel_rfl, by kernel_rfl⟩
theorem c122 : FnOK Try.prog (tblOf tab) A (122, 99) := ⟨Try.f122, p99, Try.func122, by kernel_rfl, by kernel_rfl, by kernel_rfl, by kernel_rfl⟩
theorem c151 : FnOK Try.prog (tblOf tab) A (151, 76) := ⟨Try.f151, p76, Try.func151, by kernel_rfl, by kernel_rfl, by kernel_rfl, by kernel_rfl⟩
theorem c152 : FnOK Try.prog (tblOf tab) A (152, 77) := ⟨Try.f152, p77, Try.func152, by kernel_rfl, by kernel_rfl, by kernel_rfl, by kernel_rfl⟩
theorem c78 : FnOK Try.prog (tblOf tab) A (78, 38) := ⟨Try.f78, p38, Try.func78, by kernel_rfl, by kernel_rfl, by kernel_rfl, by kernel_rfl⟩
theorem c53 : FnOK Try.prog (tblOf tab) A (53, 94) := ⟨Try.f53, p94, Try.func53, by kernel_rfl, by kernel_rfl, by kernel_rfl, by kernel_rfl⟩
theorem c125 : FnOK Try.prog (tblOf tab) A (125, 127) := ⟨Try.f125, p127, Try.func125, by kernel_rfl, by kernel_rfl, by kernel_rfl, by kernel_rfl⟩
theorem c182 : FnOK Try.prog (tblOf tab) A (182, 136) := ⟨Try.f182, p136, Try.func182, by kernel_rfl, by kernel_rfl, by kernel_rfl, by kernel_rfl⟩
theorem c208 : FnOK Try.prog (tblOf tab) A (208, 134) := ⟨Try.f208, p134, Try.func208, by kernel_rfl, by kernel_rfl, by kernel_rfl, by kernel_rfl⟩
theorem c218 : FnOK Try.prog (tblOf tab) A (218, 135) := ⟨Try.f218, p135, Try.func218, by kernel_rfl, by kernel_rfl, by kernel_rfl, by kernel_rfl⟩
theorem c173 : FnOK Try.prog (tblOf tab) A (173, 131) := ⟨Try.f173, p131, Try.func173, by kernel_rfl, by kernel_rfl, by kernel_rfl, by kernel_rfl⟩
theorem c199 : FnOK Try.prog (tblOf tab) A (199, 122) := ⟨Try.f199, p122, Try.func199, by kernel_rfl, by kernel_rfl, by kernel_rfl, by kernel_rfl⟩
theorem c154 : FnOK Try.prog (tblOf tab) A (154, 98) := ⟨Try.f154, p98, Try.func154, by kernel_rfl, by kernel_rfl, by kernel_rfl, by kernel_rfl⟩
theorem c155 : FnOK Try.prog (tblOf tab) A (155, 292) := ⟨Try.f155, p292, Try.func155, by kernel_rfl, by kernel_rfl, by kernel_rfl, by kernel_rfl⟩
theorem c153 : FnOK Try.prog (tblOf tab) A (153, 293) := ⟨Try.f153, p293, Try.func153, by kernel_rfl, by kernel_rfl, by kernel_rfl, by kernel_rfl⟩
theorem c156 : FnOK Try.prog (tblOf tab) A (156, 294) := ⟨Try.f156, p294, Try.func156, by kernel_rfl, by kernel_rfl, by kernel_rfl, by kernel_rfl⟩
theorem c157 : FnOK Try.prog (tblOf tab) A (157, 295) := ⟨Try.f157, p295, Try.func157, by kernel_rfl, by kernel_rfl, by kernel_rfl, by kernel_rfl⟩
theorem c79 : FnOK Try.prog (tblOf tab) A (79, 258) := ⟨Try.f79, p258, Try.func79, by kernel_rfl, by kernel_rfl, by kernel_rfl, by kernel_rfl⟩
theorem c33 : FnOK Try.prog (tblOf tab) A (33, 232) := ⟨Try.f33, p232, Try.func33, by kernel_rfl, by kernel_rfl, by kernel_rfl, by kernel_rfl⟩
theorem c81 : FnOK Try.prog (tblOf tab) A (81, 89) := ⟨Try.f81, p89, Try.func81, by kernel_rfl, by kernel_rfl, by kernel_rfl, by kernel_rfl⟩
theorem c58 : FnOK Try.prog (tblOf tab) A (58, 56) := ⟨Try.f58, p56, Try.func58, by kernel_rfl, by kernel_rfl, by kernel_rfl, by kernel_rfl⟩
theorem c100 : FnOK Try.prog (tblOf tab) A (100, 67) := ⟨Try.f100, p67, Try.func100, by kernel_rfl, by kernel_rfl, by kernel_rfl, by kernel_rfl⟩
theorem c183 : FnOK Try.prog (tblOf tab) A (183, 115) := ⟨Try.f183, p115, Try.func183, by kernel_rfl, by kernel_rfl, by kernel_rfl, by kernel_rfl⟩
theorem c103 : FnOK Try.prog (tblOf tab) A (103, 82) := ⟨Try.f103, p82, Try.func103, by kernel_rfl, by kernel_rfl, by kernel_rfl, by kernel_rfl⟩
theorem c102 : FnOK Try.prog (tblOf tab) A (102, 73) := ⟨Try.f102, p73, Try.func102, by kernel_rfl, by kernel_rfl, by kernel_rfl, by kernel_rfl⟩
theorem c72 : FnOK Try.prog (tblOf tab) A (72, 86) := ⟨Try.f72, p86, Try.func72, by kernel_rfl, by kernel_rfl, by kernel_rfl, by kernel_rfl⟩
theorem c142 : FnOK Try.prog (tblOf tab) A (142, 87) := ⟨Try.f142, p87, Try.func142, by kernel_rfl, by kernel_rfl, by kernel_rfl, by kernel_rfl⟩
theorem c143 : FnOK Try.prog (tblOf tab) A (143, 88) := ⟨Try.f143, p88, Try.func143, by kernel_rfl, by kernel_rfl, by kernel_rfl, by kernel_rfl⟩
theorem c219 : FnOK Try.prog (tblOf tab) A (219, 130) := ⟨Try.f219, p130, Try.func219, by kernel_rfl, by kernel_rfl, by kernel_rfl, by kernel_rfl⟩
theorem c198 : FnOK Try.prog (tblOf tab) A (198, 129) := ⟨Try.f198, p129, Try.func198, by kernel_rfl, by kernel_rfl, by kernel_rfl, by kernel_rfl⟩
theorem c197 : FnOK Try.prog (tblOf tab) A (197, 116) := ⟨Try.f197, p116, Try.func197, by kernel_rfl, by kernel_rfl, by kernel_rfl, by kernel_rfl⟩
theorem c201 : FnOK Try.prog (tblOf tab) A (201, 128) := ⟨Try.f201, p128, Try.func201, by kernel_rfl, by kernel_rfl, by kernel_rfl, by kernel_rfl⟩
theorem c196 : FnOK Try.prog (tblOf tab) A (196, 117) := ⟨Try.f196, p117, Try.func196, by kernel_rfl, by kernel_rfl, by kernel_rfl, by kernel_rfl⟩
theorem c144 : FnOK Try.prog (tblOf tab) A (144, 90) := ⟨Try.f144, p90, Try.func144, by kernel_rfl, by kernel_rfl, by kernel_rfl, by kernel_rfl⟩
theorem c184 : FnOK Try.prog (tblOf tab) A (184, 119) := ⟨Try.f184, p119, Try.func184, by kernel_rfl, by kernel_rfl, by kernel_rfl, by kernel_rfl⟩
theorem c145 : FnOK Try.prog (tblOf tab) A (145, 91) := ⟨Try.f145, p91, Try.func145, by kernel_rfl, by kernel_rfl, by kernel_rfl, by kernel_rfl⟩
theorem c185 : FnOK Try.prog (tblOf tab) A (185, 118) := ⟨Try.f185, p118, Try.func185, by kernel_rfl, by kernel_rfl, by kernel_rfl, by kernel_rfl⟩
theorem c114 : FnOK Try.prog (tblOf tab) A (114, 92) := ⟨Try.f114, p92, Try.func114, by kernel_rfl, by kernel_rfl, by kernel_rfl, by kernel_rfl⟩
theorem c76 : FnOK Try.prog (tblOf tab) A (76, 42) := ⟨Try.f76, p42, Try.func76, by kernel_rfl, by kernel_rfl, by kernel_rfl, by kernel_rfl⟩
theorem c175 : FnOK Try.prog (tblOf tab) A (175, 83) := ⟨Try.f175, p83, Try.func175, by kernel_rfl, by kernel_rfl, by kernel_rfl, by kernel_rfl⟩
theorem c176 : FnOK Try.prog (tblOf tab) A (176, 84) := ⟨Try.f176, p84, Try.func176, by kernel_rfl, by kernel_rfl, by kernel_rfl, by kernel_rfl⟩
theorem c117 : FnOK Try.prog (tblOf tab) A (117, 85) := ⟨Try.f117, p85, Try.func117, by kernel_rfl, by kernel_rfl, by kernel_rfl, by kernel_rfl⟩
theorem c87 : FnOK Try.prog (tblOf tab) A (87, 41) := ⟨Try.f87, p41, Try.func87, by kernel_rfl, by kernel_rfl, by kernel_rfl, by kernel_rfl⟩
theorem c80 : FnOK Try.prog (tblOf tab) A (80, 166) := ⟨Try.f80, p166, Try.func80, by kernel_rfl, by kernel_rfl, by kernel_rfl, by kernel_rfl⟩
theorem c116 : FnOK Try.prog (tblOf tab) A (116, 96) := ⟨Try.f116, p96, Try.func116, by kernel_rfl, by kernel_rfl, by kernel_rfl, by kernel_rfl⟩
theorem c202 : FnOK Try.prog (tblOf tab) A (202, 137) := ⟨Try.f202, p137, Try.func202, by kernel_rfl, by kernel_rfl, by kernel_rfl, by kernel_rfl⟩
theorem c203 : FnOK Try.prog (tblOf tab) A (203, 138) := ⟨Try.f203, p138, Try.func203, by kernel_rfl, by kernel_rfl, by kernel_rfl, by kernel_rfl⟩
theorem c204 : FnOK Try.prog (tblOf tab) A (204, 139) := ⟨Try.f204, p139, Try.func204, by kernel_rfl, by kernel_rfl, by kernel_rfl, by kernel_rfl⟩
theorem c159 : FnOK Try.prog (tblOf tab) A (159, 133) := ⟨Try.f159, p133, Try.func159, by kernel_rfl, by kernel_rfl, by kernel_rfl, by kernel_rfl⟩
theorem c130 : FnOK Try.prog (tblOf tab) A (130, 102) := ⟨Try.f130, p102, Try.func130, by kernel_rfl, by kernel_rfl, by kernel_rfl, by kernel_rfl⟩
theorem c207 : FnOK Try.prog (tblOf tab) A (207, 125) := ⟨Try.f207, p125, Try.func207, by kernel_rfl, by kernel_rfl, by kernel_rfl, by kernel_rfl⟩
theorem c200 : FnOK Try.prog (tblOf tab) A (200, 202) := ⟨Try.f200, p202, Try.func200, by kernel_rfl, by kernel_rfl, by kernel_rfl, by kernel_rfl⟩
theorem c220 : FnOK Try.prog (tblOf tab) A (220, 211) := ⟨Try.f220, p211, Try.func220, by kernel_rfl, by kernel_rfl, by kernel_rfl, by kernel_rfl⟩
theorem c206 : FnOK Try.prog (tblOf tab) A (206, 203) := ⟨Try.f206, p203, Try.func206, by kernel_rfl, by kernel_rfl, by kernel_rfl, by kernel_rfl⟩
theorem c161 : FnOK Try.prog (tblOf tab) A (161, 184) := ⟨Try.f161, p184, Try.func161, by kernel_rfl, by kernel_rfl, by kernel_rfl, by kernel_rfl⟩
theorem c205 : FnOK Try.prog (tblOf tab) A (205, 201) := ⟨Try.f205, p201, Try.func205, by kernel_rfl, by kernel_rfl, by kernel_rfl, by kernel_rfl⟩
theorem c160 : FnOK Try.prog (tblOf tab) A (160, 200) := ⟨Try.f160, p200, Try.func160, by kernel_rfl, by kernel_rfl, by kernel_rfl, by kernel_rfl⟩
theorem c158 : FnOK Try.prog (tblOf tab) A (158, 296) := ⟨Try.f158, p296, Try.func158, by kernel_rfl, by kernel_rfl, by kernel_rfl, by kernel_rfl⟩
theorem c82 : FnOK Try.prog (tblOf tab) A (82, 259) := ⟨Try.f82, p259, Try.func82, by kernel_rfl, by kernel_rfl, by kernel_rfl, by kernel_rfl⟩
theorem c35 : FnOK Try.prog (tblOf tab) A (35, 233) := ⟨Try.f35, p233, Try.func35, by kernel_rfl, by kernel_rfl, by kernel_rfl, by kernel_rfl⟩
theorem c6 : FnOK Try.prog (tblOf tab) A (6, 319) := ⟨Try.f6, p319, Try.func6, by kernel_rfl, by kernel_rfl, by kernel_rfl, by kernel_rfl⟩
theorem models : Models Try.prog (tblOf tab) A := by
  refine models_of (by kernel_rfl) fun x hx => ?_
  simp only [tab, List.mem_cons, List.not_mem_nil, or_false] at hx
  rcases hx with rfl | rfl | rfl | rfl | rfl | rfl | rfl | rfl | rfl | rfl | rfl | rfl | rfl | rfl | rfl | rfl | rfl | rfl | rfl | rfl | rfl | rfl | rfl | rfl | rfl | rfl | rfl | rfl | rfl | rfl | rfl | rfl | rfl | rfl | rfl | rfl | rfl | rfl | rfl | rfl | rfl | rfl | rfl | rfl | rfl | rfl | rfl | rfl | rfl | rfl | rfl | rfl | rfl | rfl | rfl | rfl | rfl | rfl | rfl | rfl | rfl | rfl | rfl | rfl | rfl | rfl | rfl | rfl | rfl | rfl | rfl | rfl | rfl | rfl | rfl | rfl | rfl | rfl | rfl | rfl | rfl | rfl | rfl | rfl | rfl | rfl | rfl
  · exact c36
  · exact c61
  · exact c25
  · exact c14
  · exact c37
  · exact c39
  · exact c63
  · exact c26
  · exact c17
  · exact c38
  · exact c40
  · exact c66
  · exact c49
  · exact c20
  · exact c19
  · exact c32
  · exact c69
  · exact c55
  · exact c23
  · exact c22
  · exact c34
  · exact c52
  · exact c96
  · exact c97
  · exact c134
  · exact c133
  · exact c74
  · exact c122
  · exact c151
  · exact c152
  · exact c78
  · exact c53
  · exact c125
  · exact c182
  · exact c208
  · exact c218
  · exact c173
  · exact c199
  · exact c154
  · exact c155
  · exact c153
  · exact c156
  · exact c157
  · exact c79
  · exact c33
  · exact c81
  · exact c58
  · exact c100
  · exact c183
  · exact c103
  · exact c102
  · exact c72
  · exact c142
  · exact c143
  · exact c219
  · exact c198
  · exact c197
  · exact c201
  · exact c196
  · exact c144
  · exact c184
  · exact c145
  · exact c185
  · exact c114
  · exact c76
  · exact c175
  · exact c176
  · exact c117
  · exact c87
  · exact c80
  · exact c116
  · exact c202
  · exact c203
  · exact c204
  · exact c159
  · exact c130
  · exact c207
  · exact c200
  · exact c220
  · exact c206
  · exact c161
  · exact c205
  · exact c160
  · exact c158
  · exact c82
  · exact c35
  · exact c6
end Rv.Ln
