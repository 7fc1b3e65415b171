/- The abstract code is what the translated functions are compiled to. -/
import Derived.Test.YthdaojcekpelgaaDrp
import Derived.Test.YthdaojcekpelgaaChecked
import Derived.KernelRfl
namespace Rv.Dr
open Go.Proofs
set_option maxRecDepth 100000
def tab : List (Nat × Nat) := [(40, 30), (67, 51), (27, 17), (26, 16), (35, 25), (74, 43), (75, 44), (21, 11), (20, 10), (51, 37), (78, 47), (79, 48), (24, 13), (23, 12), (53, 40), (110, 89), (158, 96), (194, 128), (195, 137), (196, 138), (197, 139), (111, 133), (85, 56), (149, 67), (238, 115), (145, 82), (144, 73), (105, 86), (150, 87), (151, 88), (274, 130), (241, 129), (240, 116), (239, 117), (152, 90), (243, 119), (154, 91), (242, 118), (153, 92), (73, 42), (146, 83), (148, 84), (147, 85), (72, 41), (109, 166), (164, 102), (248, 125), (271, 202), (276, 211), (273, 203), (236, 184), (199, 185), (247, 123), (162, 101), (229, 205), (228, 204), (198, 187), (131, 188), (112, 170), (54, 152), (83, 54), (141, 78), (142, 79), (143, 80), (121, 81), (71, 39), (161, 99), (139, 76), (140, 77), (70, 38), (107, 247), (94, 94), (183, 127), (218, 136), (118, 134), (262, 135), (193, 131), (246, 122), (260, 310), (261, 311), (192, 280), (191, 281), (190, 279), (108, 248), (52, 223), (10, 316)]
theorem c40 : FnOK Try.prog (tblOf tab) A (40, 30) := ⟨Try.f40, p30, Try.func40, by kernel_rfl, by kernel_rfl, by kernel_rfl, by kernel_rfl⟩
theorem c67 : FnOK Try.prog (tblOf tab) A (67, 51) := ⟨Try.f67, p51, Try.func67, by kernel_rfl, by kernel_rfl, by kernel_rfl, by kernel_rfl⟩
theorem c27 : FnOK Try.prog (tblOf tab) A (27, 17) := ⟨Try.f27, p17, Try.func27, by kernel_rfl, by kernel_rfl, by kernel_rfl, by kernel_rfl⟩
theorem c26 : FnOK Try.prog (tblOf tab) A (26, 16) := ⟨Try.f26, p16, Try.func26, by kernel_rfl, by kernel_rfl, by kernel_rfl, by kernel_rfl⟩
theorem c35 : FnOK Try.prog (tblOf tab) A (35, 25) := ⟨Try.f35, p25, Try.func35, by kernel_rfl, by kernel_rfl, by kernel_rfl, by kernel_rfl⟩
theorem c74 : FnOK Try.prog (tblOf tab) A (74, 43) := ⟨Try.f74, p43, Try.func74, by kernel_rfl, by kernel_rfl, by kernel_rfl, by kernel_rfl⟩
theorem c75 : FnOK Try.prog (tblOf tab) A (75, 44) := ⟨Try.f75, p44, Try.func75, by kernel_rfl, by kernel_rfl, by kernel_rfl, by kernel_rfl⟩
theorem c21 : FnOK Try.prog (tblOf tab) A (21, 11) := ⟨Try.f21, p11, Try.func21, by kernel_rfl, by kernel_rfl, by kernel_rfl, by kernel_rfl⟩
theorem c20 : FnOK Try.prog (tblOf tab) A (20, 10) := ⟨Try.f20, p10, Try.func20, by kernel_rfl, by kernel_rfl, by kernel_rfl, by kernel_rfl⟩
theorem c51 : FnOK Try.prog (tblOf tab) A (51, 37) := ⟨Try.f51, p37, Try.func51, by kernel_rfl, by kernel_rfl, by kernel_rfl, by kernel_rfl⟩
theorem c78 : FnOK Try.prog (tblOf tab) A (78, 47) := ⟨Try.f78, p47, Try.func78, by kernel_rfl, by kernel_rfl, by kernel_rfl, by kernel_rfl⟩
theorem c79 : FnOK Try.prog (tblOf tab) A (79, 48) := ⟨Try.f79, p48, Try.func79, by kernel_rfl, by kernel_rfl, by kernel_rfl, by kernel_rfl⟩
theorem c24 : FnOK Try.prog (tblOf tab) A (24, 13) := ⟨Try.f24, p13, Try.func24, by kernel_rfl, by kernel_rfl, by kernel_rfl, by kernel_rfl⟩
theorem c23 : FnOK Try.prog (tblOf tab) A (23, 12) := ⟨Try.f23, p12, Try.func23, by kernel_rfl, by kernel_rfl, by kernel_rfl, by kernel_rfl⟩
theorem c53 : FnOK Try.prog (tblOf tab) A (53, 40) := ⟨Try.f53, p40, Try.func53, by kernel_rfl, by kernel_rfl, by kernel_rfl, by kernel_rfl⟩
theorem c110 : FnOK Try.prog (tblOf tab) A (110, 89) := ⟨Try.f110, p89, Try.func110, by kernel_rfl, by kernel_rfl, by kernel_rfl, by kernel_rfl⟩
theorem c158 : FnOK Try.prog (tblOf tab) A (158, 96) := ⟨Try.f158, p96, Try.func158, by kernel_rfl, by kernel_rfl, by kernel_rfl, by kernel_rfl⟩
theorem c194 : FnOK Try.prog (tblOf tab) A (194, 128) := ⟨Try.f194, p128, Try.func194, by kernel_rfl, by kernel_rfl, by kernel_rfl, by kernel_rfl⟩
theorem c195 : FnOK Try.prog (tblOf tab) A (195, 137) := ⟨Try.f195, p137, Try.func195, by kernel_rfl, by kernel_rfl, by kernel_rfl, by kernel_rfl⟩
theorem c196 : FnOK Try.prog (tblOf tab) A (196, 138) := ⟨Try.f196, p138, Try.func196, by kernel_rfl, by kernel_rfl, by kernel_rfl, by kernel_rfl⟩
theorem c197 : FnOK Try.prog (tblOf tab) A (197, 139) := ⟨Try.f197, p139, Try.func197, by kernel_rfl, by kernel_rfl, by kernel_rfl, by kernel_rfl⟩
theorem c111 : FnOK Try.prog (tblOf tab) A (111, 133) := ⟨Try.f111, p133, Try.func111, by kernel_rfl, by kernel_rfl, by kernel_rfl, by kernel_rfl⟩
theorem c85 : FnOK Try.prog (tblOf tab) A (85, 56) := ⟨Try.f85, p56, Try.func85, by kernel_rfl, by kernel_rfl, by kernel_rfl, by kernel_rfl⟩
theorem c149 : FnOK Try.prog (tblOf tab) A (149, 67) := ⟨Try.f149, p67, Try.func149, by kernel_rfl, by kernel_rfl, by kernel_rfl, by kernel_rfl⟩
theorem c238 : FnOK Try.prog (tblOf tab) A (238, 115) := ⟨Try.f238, p115, Try.func238, by kernel_rfl, by kernel_rfl, by kernel_rfl, by kernel_rfl⟩
theorem c145 : FnOK Try.prog (tblOf tab) A (145, 82) := ⟨Try.f145, p82, Try.func145, by kernel_rfl, by kernel_rfl, by kernel_rfl, by kernel_rfl⟩
theorem c144 : FnOK Try.prog (tblOf tab) A (144, 73) := ⟨Try.f144, p73, Try.func144, by kernel_rfl, by kernel_rfl, by kernel_rfl, by kernel_rfl⟩
theorem c105 : FnOK Try.prog (tblOf tab) A (105, 86) := ⟨Try.f105, p86, Try.func105, by kernel_rfl, by kernel_rfl, by kernel_rfl, by kernel_rfl⟩
theorem c150 : FnOK Try.prog (tblOf tab) A (150, 87) := ⟨Try.f150, p87, Try.func150, by kernel_rfl, by kernel_rfl, by kernel_rfl, by kernel_rfl⟩
theorem c151 : FnOK Try.prog (tblOf tab) A (151, 88) := ⟨Try.f151, p88, Try.func151, by kernel_rfl, by kernel_rfl, by kernel_rfl, by kernel_rfl⟩
theorem c274 : FnOK Try.prog (tblOf tab) A (274, 130) := ⟨Try.f274, p130, Try.func274, by kernel_rfl, by kernel_rfl, by kernel_rfl, by kernel_rfl⟩
theorem c241 : FnOK Try.prog (tblOf tab) A (241, 129) := ⟨Try.f241, p129, Try.func241, by kernel_rfl, by kernel_rfl, by kernel_rfl, by kernel_rfl⟩
theorem c240 : FnOK Try.prog (tblOf tab) A (240, 116) := ⟨Try.f240, p116, Try.func240, by kernel_rfl, by kernel_rfl, by kernel_rfl, by kernel_rfl⟩
theorem c239 : FnOK Try.prog (tblOf tab) A (239, 117) := ⟨Try.f239, p117, Try.func239, by kernel_rfl, by kernel_rfl, by kernel_rfl, by kernel_rfl⟩
theorem c152 : FnOK Try.prog (tblOf tab) A (152, 90) := ⟨Try.f152, p90, Try.func152, by kernel_rfl, by kernel_rfl, by kernel_rfl, by kernel_rfl⟩
theorem c243 : FnOK Try.prog (tblOf tab) A (243, 119) := ⟨Try.f243, p119, Try.func243, by kernel_rfl, by kernel_rfl, by kernel_rfl, by kernel_rfl⟩
theorem c154 : FnOK Try.prog (tblOf tab) A (154, 91) := ⟨Try.f154, p91, Try.func154, by kernel_rfl, by kernel_rfl, by kernel_rfl, by kernel_rfl⟩
theorem c242 : FnOK Try.prog (tblOf tab) A (242, 118) := ⟨Try.f242, p118, Try.func242, by kernel_rfl, by kernel_rfl, by kernel_rfl, by kernel_rfl⟩
theorem c153 : FnOK Try.prog (tblOf tab) A (153, 92) := ⟨Try.f153, p92, Try.func153, by kernel_rfl, by kernel_rfl, by kernel_rfl, by kernel_rfl⟩
theorem c73 : FnOK Try.prog (tblOf tab) A (73, 42) := ⟨Try.f73, p42, Try.func73, by kernel_rfl, by kernel_rfl, by kernel_rfl, by kernel_rfl⟩
theorem c146 : FnOK Try.prog (tblOf tab) A (146, 83) := ⟨Try.f146, p83, Try.func146, by kernel_rfl, by kernel_rfl, by kernel_rfl, by kernel_rfl⟩
theorem c148 : FnOK Try.prog (tblOf tab) A (148, 84) := ⟨Try.f148, p84, Try.func148, by kernel_rfl, by kernel_rfl, by kernel_rfl, by kernel_rfl⟩
theorem c147 : FnOK Try.prog (tblOf tab) A (147, 85) := ⟨Try.f147, p85, Try.func147, by kernel_rfl, by kernel_rfl, by kernel_rfl, by kernel_rfl⟩
theorem c72 : FnOK Try.prog (tblOf tab) A (72, 41) := ⟨Try.f72, p41, Try.func72, by kernel_rfl, by kernel_rfl, by kernel_rfl, by kernel_rfl⟩
theorem c109 : FnOK Try.prog (tblOf tab) A (109, 166) := ⟨Try.f109, p166, Try.func109, by kernel_rfl, by kernel_rfl, by kernel_rfl, by kernel_rfl⟩
theorem c164 : FnOK Try.prog (tblOf tab) A (164, 102) := ⟨Try.f164, p102, Try.func164, by kernel_rfl, by kernel_rfl, by kernel_rfl, by kernel_rfl⟩
theorem c248 : FnOK Try.prog (tblOf tab) A (248, 125) := ⟨Try.f248, p125, Try.func248, by kernel_rfl, by kernel_rfl, by kernel_rfl, by kernel_rfl⟩
theorem c271 : FnOK Try.prog (tblOf tab) A (271, 202) := ⟨Try.f271, p202, Try.func271, by kernel_rfl, by kernel_rfl, by kernel_rfl, by kernel_rfl⟩
theorem c276 : FnOK Try.prog (tblOf tab) A (276, 211) := ⟨Try.f276, p211, Try.func276, by kernel_rfl, by kernel_rfl, by kernel_rfl, by kernel_rfl⟩
theorem c273 : FnOK Try.prog (tblOf tab) A (273, 203) := ⟨Try.f273, p203, Try.func273, by kernel_rfl, by kernel_rfl, by kernel_rfl, by kernel_rfl⟩
theorem c236 : FnOK Try.prog (tblOf tab) A (236, 184) := ⟨Try.f236, p184, Try.func236, by kernel_rfl, by kernel_rfl, by kernel_rfl, by kernel_rfl⟩
theorem c199 : FnOK Try.prog (tblOf tab) A (199, 185) := ⟨Try.f199, p185, Try.func199, by kernel_rfl, by kernel_rfl, by kernel_rfl, by kernel_rfl⟩
theorem c247 : FnOK Try.prog (tblOf tab) A (247, 123) := ⟨Try.f247, p123, Try.func247, by kernel_rfl, by kernel_rfl, by kernel_rfl, by kernel_rfl⟩
theorem c162 : FnOK Try.prog (tblOf tab) A (162, 101) := ⟨Try.f162, p101, Try.func162, by kernel_rfl, by kernel_rfl, by kernel_rfl, by kernel_rfl⟩
theorem c229 : FnOK Try.prog (tblOf tab) A (229, 205) := ⟨Try.f229, p205, Try.func229, by kernel_rfl, by kernel_rfl, by kernel_rfl, by kernel_rfl⟩
theorem c228 : FnOK Try.prog (tblOf tab) A (228, 204) := ⟨Try.f228, p204, Try.func228, by kernel_rfl, by kernel_rfl, by kernel_rfl, by kernel_rfl⟩
theorem c198 : FnOK Try.prog (tblOf tab) A (198, 187) := ⟨Try.f198, p187, Try.func198, by kernel_rfl, by kernel_rfl, by kernel_rfl, by kernel_rfl⟩
theorem c131 : FnOK Try.prog (tblOf tab) A (131, 188) := ⟨Try.f131, p188, Try.func131, by kernel_rfl, by kernel_rfl, by kernel_rfl, by kernel_rfl⟩
theorem c112 : FnOK Try.prog (tblOf tab) A (112, 170) := ⟨Try.f112, p170, Try.func112, by kernel_rfl, by kernel_rfl, by kernel_rfl, by kernel_rfl⟩
theorem c54 : FnOK Try.prog (tblOf tab) A (54, 152) := ⟨Try.f54, p152, Try.func54, by kernel_rfl, by kernel_rfl, by kernel_rfl, by kernel_rfl⟩
theorem c83 : FnOK Try.prog (tblOf tab) A (83, 54) := ⟨Try.f83, p54, Try.func83, by kernel_rfl, by kernel_rfl, by kernel_rfl, by kernel_rfl⟩
theorem c141 : FnOK Try.prog (tblOf tab) A (141, 78) := ⟨Try.f141, p78, Try.func141, by kernel_rfl, by kernel_rfl, by kernel_rfl, by kernel_rfl⟩
theorem c142 : FnOK Try.prog (tblOf tab) A (142, 79) := ⟨Try.f142, p79, Try.func142, by kernel_rfl, by kernel_rfl, by kernel_rfl, by kernel_rfl⟩
theorem c143 : FnOK Try.prog (tblOf tab) A (143, 80) := ⟨Try.f143, p80, Try.func143, by kernel_rfl, by kernel_rfl, by kernel_rfl, by kernel_rfl⟩
theorem c121 : FnOK Try.prog (tblOf tab) A (121, 81) := ⟨Try.f121, p81, Try.func121, by kernel_rfl, by kernel_rfl, by kernel_rfl, by kernel_rfl⟩
theorem c71 : FnOK Try.prog (tblOf tab) A (71, 39) := ⟨Try.f71, p39, Try.func71, by kernel_rfl, by kernel_rfl, by kernel_rfl, by kernel_rfl⟩
theorem c161 : FnOK Try.prog (tblOf tab) A (161, 99) := ⟨Try.f161, p99, Try.func161, by kernel_rfl, by kernel_rfl, by kernel_rfl, by kernel_rfl⟩
theorem c139 : FnOK Try.prog (tblOf tab) A (139, 76) := ⟨Try.f139, p76, Try.func139, by kernel_rfl, by kernel_rfl, by kernel_rfl, by kernel_rfl⟩
theorem c140 : FnOK Try.prog (tblOf tab) A (140, 77) := ⟨Try.f140, p77, Try.func140, by kernel_rfl, by kernel_rfl, by kernel_rfl, by kernel_rfl⟩
theorem c70 : FnOK Try.prog (tblOf tab) A (70, 38) := ⟨Try.f70, p38, Try.func70, by kernel_rfl, by kernel_rfl, by kernel_rfl, by kernel_rfl⟩
theorem c107 : FnOK Try.prog (tblOf tab) A (107, 247) := ⟨Try.f107, p247, Try.func107, by kernel_rfl, by kernel_rfl, by kernel_rfl, by kernel_rfl⟩
theorem c94 : FnOK Try.prog (tblOf tab) A (94, 94) := ⟨Try.f94, p94, Try.func94, by kernel_rfl, by kernel_rfl, by kernel_rfl, by kernel_rfl⟩
theorem c183 : FnOK Try.prog (tblOf tab) A (183, 127) := ⟨Try.f183, p127, Try.func183, by kernel_rfl, by kernel_rfl, by kernel_rfl, by kernel_rfl⟩
theorem c218 : FnOK Try.prog (tblOf tab) A (218, 136) := ⟨Try.f218, p136, Try.func218, by kernel_rfl, by kernel_rfl, by kernel_rfl, by kernel_rfl⟩
theorem c118 : FnOK Try.prog (tblOf tab) A (118, 134) := ⟨Try.f118, p134, Try.func118, by kernel_rfl, by kernel_rfl, by kernel_rfl, by kernel_rfl⟩
theorem c262 : FnOK Try.prog (tblOf tab) A (262, 135) := ⟨Try.f262, p135, Try.func262, by kernel_rfl, by kernel_rfl, by kernel_rfl, by kernel_rfl⟩
theorem c193 : FnOK Try.prog (tblOf tab) A (193, 131) := ⟨Try.f193, p131, Try.func193, by kernel_rfl, by kernel_rfl, by kernel_rfl, by kernel_rfl⟩
theorem c246 : FnOK Try.prog (tblOf tab) A (246, 122) := ⟨Try.f246, p122, Try.func246, by kernel_rfl, by kernel_rfl, by kernel_rfl, by kernel_rfl⟩
theorem c260 : FnOK Try.prog (tblOf tab) A (260, 310) := ⟨Try.f260, p310, Try.func260, by kernel_rfl, by kernel_rfl, by kernel_rfl, by kernel_rfl⟩
theorem c261 : FnOK Try.prog (tblOf tab) A (261, 311) := ⟨Try.f261, p311, Try.func261, by kernel_rfl, by kernel_rfl, by kernel_rfl, by kernel_rfl⟩
theorem c192 : FnOK Try.prog (tblOf tab) A (192, 280) := ⟨Try.f192, p280, Try.func192, by kernel_rfl, by kernel_rfl, by kernel_rfl, by kernel_rfl⟩
theorem c191 : FnOK Try.prog (tblOf tab) A (191, 281) := ⟨Try.f191, p281, Try.func191, by kernel_rfl, by kernel_rfl, by kernel_rfl, by kernel_rfl⟩
theorem c190 : FnOK Try.prog (tblOf tab) A (190, 279) := ⟨Try.f190, p279, Try.func190, by kernel_rfl, by kernel_rfl, by kernel_rfl, by kernel_rfl⟩
theorem c108 : FnOK Try.prog (tblOf tab) A (108, 248) := ⟨Try.f108, p248, Try.func108, by kernel_rfl, by kernel_rfl, by kernel_rfl, by kernel_rfl⟩
theorem c52 : FnOK Try.prog (tblOf tab) A (52, 223) := ⟨Try.f52, p223, Try.func52, by kernel_rfl, by kernel_rfl, by kernel_rfl, by kernel_rfl⟩
theorem c10 : FnOK Try.prog (tblOf tab) A (10, 316) := ⟨Try.f10, p316, Try.func10, by kernel_rfl, by kernel_rfl, by kernel_rfl, by kernel_rfl⟩
theorem models : Models Try.prog (tblOf tab) A := by
  refine models_of (by kernel_rfl) fun x hx => ?_
  simp only [tab, List.mem_cons, List.not_mem_nil, or_false] at hx
  rcases hx with rfl | rfl | rfl | rfl | rfl | rfl | rfl | rfl | rfl | rfl | rfl | rfl | rfl | rfl | rfl | rfl | rfl | rfl | rfl | rfl | rfl | rfl | rfl | rfl | rfl | rfl | rfl | rfl | rfl | rfl | rfl | rfl | rfl | rfl | rfl | rfl | rfl | rfl | rfl | rfl | rfl | rfl | rfl | rfl | rfl | rfl | rfl | rfl | rfl | rfl | rfl | rfl | rfl | rfl | rfl | rfl | rfl | rfl | rfl | rfl | rfl | rfl | rfl | rfl | rfl | rfl | rfl | rfl | rfl | rfl | rfl | rfl | rfl | rfl | rfl | rfl | rfl | rfl | rfl | rfl | rfl | rfl | rfl | rfl | rfl | rfl
  · exact c40
  · exact c67
  · exact c27
  · exact c26
  · exact c35
  · exact c74
  · exact c75
  · exact c21
  · exact c20
  · exact c51
  · exact c78
  · exact c79
  · exact c24
  · exact c23
  · exact c53
  · exact c110
  · exact c158
  · exact c194
  · exact c195
  · exact c196
  · exact c197
  · exact c111
  · exact c85
  · exact c149
  · exact c238
  · exact c145
  · exact c144
  · exact c105
  · exact c150
  · exact c151
  · exact c274
  · exact c241
  · exact c240
  · exact c239
  · exact c152
  · exact c243
  · exact c154
  · exact c242
  · exact c153
  · exact c73
  · exact c146
  · exact c148
  · exact c147
  · exact c72
  · exact c109
  · exact c164
  · exact c248
  · exact c271
  · exact c276
  · exact c273
  · exact c236
  · exact c199
  · exact c247
  · exact c162
  · exact c229
  · exact c228
  · exact c198
  · exact c131
  · exact c112
  · exact c54
  · exact c83
  · exact c141
  · exact c142
  · exact c143
  · exact c121
  · exact c71
  · exact c161
  · exact c139
  · exact c140
  · exact c70
  · exact c107
  · exact c94
  · exact c183
  · exact c218
  · exact c118
  · exact c262
  · exact c193
  · exact c246
  · exact c260
  · exact c261
  · exact c192
  · exact c191
  · exact c190
  · exact c108
  · exact c52
  · exact c10
end Rv.Dr
