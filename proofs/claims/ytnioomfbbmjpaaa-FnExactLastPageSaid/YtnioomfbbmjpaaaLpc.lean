/- The abstract code is what the translated functions are compiled to. -/
import Derived.Test.YtnioomfbbmjpaaaLpp
import Derived.Test.YtnioomfbbmjpaaaChecked
import Derived.KernelRfl
namespace Rv.Lp
open Go.Proofs
set_option maxRecDepth 100000
def tab : List (Nat × Nat) := [(36, 30), (61, 51), (25, 17), (14, 16), (37, 25), (66, 43), (49, 44), (20, 11), (19, 10), (32, 37), (69, 47), (55, 48), (23, 13), (22, 12), (34, 40), (58, 56), (100, 67), (183, 115), (103, 82), (102, 73), (72, 86), (142, 87), (143, 88), (81, 89), (219, 130), (198, 129), (197, 116), (201, 128), (196, 117), (144, 90), (184, 119), (145, 91), (185, 118), (114, 92), (76, 42), (175, 83), (176, 84), (117, 85), (87, 41), (116, 96), (202, 137), (203, 138), (204, 139), (159, 133), (130, 102), (207, 125), (200, 202), (220, 211), (206, 203), (161, 184), (178, 186), (205, 201), (160, 200), (177, 183), (89, 161), (88, 162), (179, 185), (92, 169), (91, 163), (90, 164), (93, 165), (46, 147), (52, 54), (96, 78), (97, 79), (134, 80), (133, 81), (74, 39), (122, 99), (151, 76), (152, 77), (78, 38), (53, 94), (125, 127), (182, 136), (208, 134), (218, 135), (173, 131), (199, 122), (216, 310), (217, 311), (172, 280), (223, 281), (215, 279), (171, 297), (85, 260), (174, 251), (86, 331), (45, 325), (8, 338)]
theorem c36 : FnOK Try.prog (tblOf tab) A (36, 30) := ⟨Try.f36, p30, Try.func36, by kernel_rfl, by kernel_rfl, by kernel_rfl, by kernel_rfl⟩
theorem c61 : FnOK Try.prog (tblOf tab) A (61, 51) := ⟨Try.f61, p51, Try.func61, by kernel_rfl, by kernel_rfl, by kernel_rfl, by kernel_rfl⟩
theorem c25 : FnOK Try.prog (tblOf tab) A (25, 17) := ⟨Try.f25, p17, Try.func25, by kernel_rfl, by kernel_rfl, by kernel_rfl, by kernel_rfl⟩
theorem c14 : FnOK Try.prog (tblOf tab) A (14, 16) := ⟨Try.f14, p16, Try.func14, by kernel_rfl, by kernel_rfl, by kernel_rfl, by kernel_rfl⟩
theorem c37 : FnOK Try.prog (tblOf tab) A (37, 25) := ⟨Try.f37, p25, Try.func37, by kernel_rfl, by kernel_rfl, by kernel_rfl, by kernel_rfl⟩
theorem c66 : FnOK Try.prog (tblOf tab) A (66, 43) := ⟨Try.f66, p43, Try.func66, by kernel_rfl, by kernel_rfl, by kernel_rfl, by kernel_rfl⟩
theorem c49 : FnOK Try.prog (tblOf tab) A (49, 44) := ⟨Try.f49, p44, Try.func49, by kernel_rfl, by kernel_rfl, by kernel_rfl, by kernel_rfl⟩
theorem c20 : FnOK Try.prog (tblOf tab) A (20, 11) := ⟨Try.f20, p11, Try.func20, by kernel_rfl, by kernel_rfl, by kernel_rfl, by kernel_rfl⟩
theorem c19 : FnOK Try.prog (tblOf tab) A (19, 10) := ⟨Try.f19, p10, Try.func19, by kernel_rfl, by kernel_rfl, by kernel_rfl, by kernel_rfl⟩
theorem c32 : FnOK Try.prog (tblOf tab) A (32, 37) := ⟨Try.f32, p37, Try.func32, by kernel_rfl, by kernel_rfl, by kernel_rfl, by kernel_rfl⟩
theorem c69 : FnOK Try.prog (tblOf tab) A (69, 47) := ⟨Try.f69, p47, Try.func69, by kernel_rfl, by kernel_rfl, by kernel_rfl, by kernel_rfl⟩
theorem c55 : FnOK Try.prog (tblOf tab) A (55, 48) := ⟨Try.f55, p48, Try.func55, by kernel_rfl, by kernel_rfl, by kernel_rfl, by kernel_rfl⟩
theorem c23 : FnOK Try.prog (tblOf tab) A (23, 13) := ⟨Try.f23, p13, Try.func23, by kernel_rfl, by kernel_rfl, by kernel_rfl, by kernel_rfl⟩
theorem c22 : FnOK Try.prog (tblOf tab) A (22, 12) := ⟨Try.f22, p12, Try.func22, by kernel_rfl, by kernel_rfl, by kernel_rfl, by kernel_rfl⟩
theorem c34 : FnOK Try.prog (tblOf tab) A (34, 40) := ⟨Try.f34, p40, Try.func34, by kernel_rfl, by kernel_rfl, by kernel_rfl, by kernel_rfl⟩
theorem c58 : FnOK Try.prog (tblOf tab) A (58, 56) := ⟨Try.f58, p56, Try.func58, by kernel_rfl, by kernel_rfl, by kernel_rfl, by kernel_rfl⟩
theorem c100 : FnOK Try.prog (tblOf tab) A (100, 67) := ⟨Try.f100, p67, Try.func100, by kernel_rfl, by kernel_rfl, by kernel_rfl, by kernel_rfl⟩
theorem c183 : FnOK Try.prog (tblOf tab) A (183, 115) := ⟨Try.f183, p115, Try.func183, by kernel_rfl, by kernel_rfl, by kernel_rfl, by kernel_rfl⟩
theorem c103 : FnOK Try.prog (tblOf tab) A (103, 82) := ⟨Try.f103, p82, Try.func103, by kernel_rfl, by kernel_rfl, by kernel_rfl, by kernel_rfl⟩
theorem c102 : FnOK Try.prog (tblOf tab) A (102, 73) := ⟨Try.f102, p73, Try.func102, by kernel_rfl, by kernel_rfl, by kernel_rfl, by kernel_rfl⟩
theorem c72 : FnOK Try.prog (tblOf tab) A (72, 86) := ⟨Try.f72, p86, Try.func72, by kernel_rfl, by kernel_rfl, by kernel_rfl, by kernel_rfl⟩
theorem c142 : FnOK Try.prog (tblOf tab) A (142, 87) := ⟨Try.f142, p87, Try.func142, by kernel_rfl, by kernel_rfl, by kernel_rfl, by kernel_rfl⟩
theorem c143 : FnOK Try.prog (tblOf tab) A (143, 88) := ⟨Try.f143, p88, Try.func143, by kernel_rfl, by kernel_rfl, by kernel_rfl, by kernel_rfl⟩
theorem c81 : FnOK Try.prog (tblOf tab) A (81, 89) := ⟨Try.f81, p89, Try.func81, by kernel_rfl, by kernel_rfl, by kernel_rfl, by kernel_rfl⟩
theorem c219 : FnOK Try.prog (tblOf tab) A (219, 130) := ⟨Try.f219, p130, Try.func219, by kernel_rfl, by kernel_rfl, by kernel_rfl, by kernel_rfl⟩
theorem c198 : FnOK Try.prog (tblOf tab) A (198, 129) := ⟨Try.f198, p129, Try.func198, by kernel_rfl, by kernel_rfl, by kernel_rfl, by kernel_rfl⟩
theorem c197 : FnOK Try.prog (tblOf tab) A (197, 116) := ⟨Try.f197, p116, Try.func197, by kernel_rfl, by kernel_rfl, by kernel_rfl, by kernel_rfl⟩
theorem c201 : FnOK Try.prog (tblOf tab) A (201, 128) := ⟨Try.f201, p128, Try.func201, by kernel_rfl, by kernel_rfl, by kernel_rfl, by kernel_rfl⟩
theorem c196 : FnOK Try.prog (tblOf tab) A (196, 117) := ⟨Try.f196, p117, Try.func196, by kernel_rfl, by kernel_rfl, by kernel_rfl, by kernel_rfl⟩
theorem c144 : FnOK Try.prog (tblOf tab) A (144, 90) := ⟨Try.f144, p90, Try.func144, by kernel_rfl, by kernel_rfl, by kernel_rfl, by kernel_rfl⟩
theorem c184 : FnOK Try.prog (tblOf tab) A (184, 119) := ⟨Try.f184, p119, Try.func184, by kernel_rfl, by kernel_rfl, by kernel_rfl, by kernel_rfl⟩
theorem c145 : FnOK Try.prog (tblOf tab) A (145, 91) := ⟨Try.f145, p91, Try.func145, by kernel_rfl, by kernel_rfl, by kernel_rfl, by kernel_rfl⟩
theorem c185 : FnOK Try.prog (tblOf tab) A (185, 118) := ⟨Try.f185, p118, Try.func185, by kernel_rfl, by kernel_rfl, by kernel_rfl, by kernel_rfl⟩
theorem c114 : FnOK Try.prog (tblOf tab) A (114, 92) := ⟨Try.f114, p92, Try.func114, by kernel_rfl, by kernel_rfl, by kernel_rfl, by kernel_rfl⟩
theorem c76 : FnOK Try.prog (tblOf tab) A (76, 42) := ⟨Try.f76, p42, Try.func76, by kernel_rfl, by kernel_rfl, by kernel_rfl, by kernel_rfl⟩
theorem c175 : FnOK Try.prog (tblOf tab) A (175, 83) := ⟨Try.f175, p83, Try.func175, by kernel_rfl, by kernel_rfl, by kernel_rfl, by kernel_rfl⟩
theorem c176 : FnOK Try.prog (tblOf tab) A (176, 84) := ⟨Try.f176, p84, Try.func176, by kernel_rfl, by kernel_rfl, by kernel_rfl, by kernel_rfl⟩
theorem c117 : FnOK Try.prog (tblOf tab) A (117, 85) := ⟨Try.f117, p85, Try.func117, by kernel_rfl, by kernel_rfl, by kernel_rfl, by kernel_rfl⟩
theorem c87 : FnOK Try.prog (tblOf tab) A (87, 41) := ⟨Try.f87, p41, Try.func87, by kernel_rfl, by kernel_rfl, by kernel_rfl, by kernel_rfl⟩
theorem c116 : FnOK Try.prog (tblOf tab) A (116, 96) := ⟨Try.f116, p96, Try.func116, by kernel_rfl, by kernel_rfl, by kernel_rfl, by kernel_rfl⟩
theorem c202 : FnOK Try.prog (tblOf tab) A (202, 137) := ⟨Try.f202, p137, Try.func202, by kernel_rfl, by kernel_rfl, by kernel_rfl, by kernel_rfl⟩
theorem c203 : FnOK Try.prog (tblOf tab) A (203, 138) := ⟨Try.f203, p138, Try.func203, by kernel_rfl, by kernel_rfl, by kernel_rfl, by kernel_rfl⟩
theorem c204 : FnOK Try.prog (tblOf tab) A (204, 139) := ⟨Try.f204, p139, Try.func204, by kernel_rfl, by kernel_rfl, by kernel_rfl, by kernel_rfl⟩
theorem c159 : FnOK Try.prog (tblOf tab) A (159, 133) := ⟨Try.f159, p133, Try.func159, by kernel_rfl, by kernel_rfl, by kernel_rfl, by kernel_rfl⟩
theorem c130 : FnOK Try.prog (tblOf tab) A (130, 102) := ⟨Try.f130, p102, Try.func130, by kernel_rfl, by kernel_rfl, by kernel_rfl, by kernel_rfl⟩
theorem c207 : FnOK Try.prog (tblOf tab) A (207, 125) := ⟨Try.f207, p125, Try.func207, by kernel_rfl, by kernel_rfl, by kernel_rfl, by kernel_rfl⟩
theorem c200 : FnOK Try.prog (tblOf tab) A (200, 202) := ⟨Try.f200, p202, Try.func200, by kernel_rfl, by kernel_rfl, by kernel_rfl, by kernel_rfl⟩
theorem c220 : FnOK Try.prog (tblOf tab) A (220, 211) := ⟨Try.f220, p211, Try.func220, by kernel_rfl, by kernel_rfl, by kernel_rfl, by kernel_rfl⟩
theorem c206 : FnOK Try.prog (tblOf tab) A (206, 203) := ⟨Try.f206, p203, Try.func206, by kernel_rfl, by kernel_rfl, by kernel_rfl, by kernel_rfl⟩
theorem c161 : FnOK Try.prog (tblOf tab) A (161, 184) := ⟨Try.f161, p184, Try.func161, by kernel_rfl, by kernel_rfl, by kernel_rfl, by kernel_rfl⟩
theorem c178 : FnOK Try.prog (tblOf tab) A (178, 186) := ⟨Try.f178, p186, Try.func178, by kernel_rfl, by kernel_rfl, by kernel_rfl, by kernel_rfl⟩
theorem c205 : FnOK Try.prog (tblOf tab) A (205, 201) := ⟨Try.f205, p201, Try.func205, by kernel_rfl, by kernel_rfl, by kernel_rfl, by kernel_rfl⟩
theorem c160 : FnOK Try.prog (tblOf tab) A (160, 200) := ⟨Try.f160, p200, Try.func160, by kernel_rfl, by kernel_rfl, by kernel_rfl, by kernel_rfl⟩
theorem c177 : FnOK Try.prog (tblOf tab) A (177, 183) := ⟨Try.f177, p183, Try.func177, by kernel_rfl, by kernel_rfl, by kernel_rfl, by kernel_rfl⟩
theorem c89 : FnOK Try.prog (tblOf tab) A (89, 161) := ⟨Try.f89, p161, Try.func89, by kernel_rfl, by kernel_rfl, by kernel_rfl, by kernel_rfl⟩
theorem c88 : FnOK Try.prog (tblOf tab) A (88, 162) := ⟨Try.f88, p162, Try.func88, by kernel_rfl, by kernel_rfl, by kernel_rfl, by kernel_rfl⟩
theorem c179 : FnOK Try.prog (tblOf tab) A (179, 185) := ⟨Try.f179, p185, Try.func179, by kernel_rfl, by kernel_rfl, by kernel_rfl, by kernel_rfl⟩
theorem c92 : FnOK Try.prog (tblOf tab) A (92, 169) := ⟨Try.f92, p169, Try.func92, by kernel_rfl, by kernel_rfl, by kernel_rfl, by kernel_rfl⟩
theorem c91 : FnOK Try.prog (tblOf tab) A (91, 163) := ⟨Try.f91, p163, Try.func91, by kernel_rfl, by kernel_rfl, by kernel_rfl, by kernel_rfl⟩
theorem c90 : FnOK Try.prog (tblOf tab) A (90, 164) := ⟨Try.f90, p164, Try.func90, by kernel_rfl, by kernel_rfl, by kernel_rfl, by kernel_rfl⟩
theorem c93 : FnOK Try.prog (tblOf tab) A (93, 165) := ⟨Try.f93, p165, Try.func93, by kernel_rfl, by kernel_rfl, by kernel_rfl, by kernel_rfl⟩
theorem c46 : FnOK Try.prog (tblOf tab) A (46, 147) := ⟨Try.f46, p147, Try.func46, by kernel_rfl, by kernel_rfl, by kernel_rfl, by kernel_rfl⟩
theorem c52 : FnOK Try.prog (tblOf tab) A (52, 54) := ⟨Try.f52, p54, Try.func52, by kernel_rfl, by kernel_rfl, by kernel_rfl, by kernel_rfl⟩
theorem c96 : FnOK Try.prog (tblOf tab) A (96, 78) := ⟨Try.f96, p78, Try.func96, by kernel_rfl, by kernel_rfl, by kernel_rfl, by kernel_rfl⟩
theorem c97 : FnOK Try.prog (tblOf tab) A (97, 79) := ⟨Try.f97, p79, Try.func97, by kernel_rfl, by kernel_rfl, by kernel_rfl, by kernel_rfl⟩
theorem c134 : FnOK Try.prog (tblOf tab) A (134, 80) := ⟨Try.f134, p80, Try.func134, by kernel_rfl, by kernel_rfl, by kernel_rfl, by kernel_rfl⟩
theorem c133 : FnOK Try.prog (tblOf tab) A (133, 81) := ⟨Try.f133, p81, Try.func133, by kernel_rfl, by kernel_rfl, by kernel_rfl, by kernel_rfl⟩
theorem c74 : FnOK Try.prog (tblOf tab) A (74, 39) := ⟨Try.f74, p39, Try.func74, by kernel_rfl, by kernel_rfl, by kernel_rfl, by kernel_rfl⟩
theorem c122 : FnOK Try.prog (tblOf tab) A (122, 99) := ⟨Try.f122, p99, Try.func122, by kernel_rfl, by kernel_rfl, by kernel_rfl, by kernel_rfl⟩
theorem c151 : FnOK Try.prog (tblOf tab) A (151, 76) := ⟨Try.f151, p76, Try.func151, by kernel_rfl, by kernel_rfl, by kernel_rfl, by kernel_rfl⟩
theorem c152 : FnOK Try.prog (tblOf tab) A (152, 77) := ⟨Try.f152, p77, Try.func152, by kernel_rfl, by kernel_rfl, by kernel_rfl, by kernel_rfl⟩
theorem c78 : FnOK Try.prog (tblOf tab) A (78, 38) := ⟨Try.f78, p38, Try.func78, by kernel_rfl, by kernel_rfl, by kernel_rfl, by kernel_rfl⟩
theorem c53 : FnOK Try.prog (tblOf tab) A (53, 94) := ⟨Try.f53, p94, Try.func53, by kernel_rfl, by kernel_rfl, by kernel_rfl, by kernel_rfl⟩
theorem c125 : FnOK Try.prog (tblOf tab) A (125, 127) := ⟨Try.f125, p127, Try.func125, by kernel_rfl, by kernel_rfl, by kernel_rfl, by kernel_rfl⟩
theorem c182 : FnOK Try.prog (tblOf tab) A (182, 136) := ⟨Try.f182, p136, Try.func182, by kernel_rfl, by kernel_rfl, by kernel_rfl, by kernel_rfl⟩
theorem c208 : FnOK Try.prog (tblOf tab) A (208, 134) := ⟨Try.f208, p134, Try.func208, by kernel_rfl, by kernel_rfl, by kernel_rfl, by kernel_rfl⟩
theorem c218 : FnOK Try.prog (tblOf tab) A (218, 135) := ⟨Try.f218, p135, Try.func218, by kernel_rfl, by kernel_rfl, by kernel_rfl, by kernel_rfl⟩
theorem c173 : FnOK Try.prog (tblOf tab) A (173, 131) := ⟨Try.f173, p131, Try.func173, by kernel_rfl, by kernel_rfl, by kernel_rfl, by kernel_rfl⟩
theorem c199 : FnOK Try.prog (tblOf tab) A (199, 122) := ⟨Try.f199, p122, Try.func199, by kernel_rfl, by kernel_rfl, by kernel_rfl, by kernel_rfl⟩
theorem c216 : FnOK Try.prog (tblOf tab) A (216, 310) := ⟨Try.f216, p310, Try.func216, by kernel_rfl, by kernel_rfl, by kernel_rfl, by kernel_rfl⟩
theorem c217 : FnOK Try.prog (tblOf tab) A (217, 311) := ⟨Try.f217, p311, Try.func217, by kernel_rfl, by kernel_rfl, by kernel_rfl, by kernel_rfl⟩
theorem c172 : FnOK Try.prog (tblOf tab) A (172, 280) := ⟨Try.f172, p280, Try.func172, by kernel_rfl, by kernel_rfl, by kernel_rfl, by kernel_rfl⟩
theorem c223 : FnOK Try.prog (tblOf tab) A (223, 281) := ⟨Try.f223, p281, Try.func223, by kernel_rfl, by kernel_rfl, by kernel_rfl, by kernel_rfl⟩
theorem c215 : FnOK Try.prog (tblOf tab) A (215, 279) := ⟨Try.f215, p279, Try.func215, by kernel_rfl, by kernel_rfl, by kernel_rfl, by kernel_rfl⟩
theorem c171 : FnOK Try.prog (tblOf tab) A (171, 297) := ⟨Try.f171, p297, Try.func171, by kernel_rfl, by kernel_rfl, by kernel_rfl, by kernel_rfl⟩
theorem c85 : FnOK Try.prog (tblOf tab) A (85, 260) := ⟨Try.f85, p260, Try.func85, by kernel_rfl, by kernel_rfl, by kernel_rfl, by kernel_rfl⟩
theorem c174 : FnOK Try.prog (tblOf tab) A (174, 251) := ⟨Try.f174, p251, Try.func174, by kernel_rfl, by kernel_rfl, by kernel_rfl, by kernel_rfl⟩
theorem c86 : FnOK Try.prog (tblOf tab) A (86, 331) := ⟨Try.f86, p331, Try.func86, by kernel_rfl, by kernel_rfl, by kernel_rfl, by kernel_rfl⟩
theorem c45 : FnOK Try.prog (tblOf tab) A (45, 325) := ⟨Try.f45, p325, Try.func45, by kernel_rfl, by kernel_rfl, by kernel_rfl, by kernel_rfl⟩
theorem c8 : FnOK Try.prog (tblOf tab) A (8, 338) := ⟨Try.f8, p338, Try.func8, by kernel_rfl, by kernel_rfl, by kernel_rfl, by kernel_rfl⟩
theorem models : Models Try.prog (tblOf tab) A := by
  refine models_of (by kernel_rfl) fun x hx => ?_
  simp only [tab, List.mem_cons, List.not_mem_nil, or_false] at hx
  rcases hx with rfl | rfl | rfl | rfl | rfl | rfl | rfl | rfl | rfl | rfl | rfl | rfl | rfl | rfl | rfl | rfl | rfl | rfl | rfl | rfl | rfl | rfl | rfl | rfl | rfl | rfl | rfl | rfl | rfl | rfl | rfl | rfl | rfl | rfl | rfl | rfl | rfl | rfl | rfl | rfl | rfl | rfl | rfl | rfl | rfl | rfl | rfl | rfl | rfl | rfl | rfl | rfl | rfl | rfl | rfl | rfl | rfl | rfl | rfl | rfl | rfl | rfl | rfl | rfl | rfl | rfl | rfl | rfl | rfl | rfl | rfl | rfl | rfl | rfl | rfl | rfl | rfl | rfl | rfl | rfl | rfl | rfl | rfl | rfl | rfl | rfl | rfl | rfl | rfl | rfl
  · exact c36
  · exact c61
  · exact c25
  · exact c14
  · exact c37
  · exact c66
  · exact c49
  · exact c20
  · exact c19
  · exact c32
  · exact c69
  · exact c55
  · exact c23
  · exact c22
  · exact c34
  · exact c58
  · exact c100
  · exact c183
  · exact c103
  · exact c102
  · exact c72
  · exact c142
  · exact c143
  · exact c81
  · exact c219
  · exact c198
  · exact c197
  · exact c201
  · exact c196
  · exact c144
  · exact c184
  · exact c145
  · exact c185
  · exact c114
  · exact c76
  · exact c175
  · exact c176
  · exact c117
  · exact c87
  · exact c116
  · exact c202
  · exact c203
  · exact c204
  · exact c159
  · exact c130
  · exact c207
  · exact c200
  · exact c220
  · exact c206
  · exact c161
  · exact c178
  · exact c205
  · exact c160
  · exact c177
  · exact c89
  · exact c88
  · exact c179
  · exact c92
  · exact c91
  · exact c90
  · exact c93
  · exact c46
  · exact c52
  · exact c96
  · exact c97
  · exact c134
  · exact c133
  · exact c74
  · exact c122
  · exact c151
  · exact c152
  · exact c78
  · exact c53
  · exact c125
  · exact c182
  · exact c208
  · exact c218
  · exact c173
  · exact c199
  · exact c216
  · exact c217
  · exact c172
  · exact c223
  · exact c215
  · exact c171
  · exact c85
  · exact c174
  · exact c86
  · exact c45
  · exact c8
end Rv.Lp
