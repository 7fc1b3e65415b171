/- The abstract code is what the translated functions are compiled to. -/
import Derived.Test.YthdaojcekpelgaaFrp
import Derived.Test.YthdaojcekpelgaaChecked
import Derived.KernelRfl
namespace Rv.Fr
open Go.Proofs
set_option maxRecDepth 100000
def tab : List (Nat × Nat) := [(74, 43), (75, 44), (21, 11), (20, 10), (78, 47), (79, 48), (24, 13), (23, 12), (40, 30), (67, 51), (27, 17), (26, 16), (41, 31), (68, 52), (31, 21), (30, 20), (83, 54), (141, 78), (142, 79), (143, 80), (121, 81), (71, 39), (88, 60), (161, 99), (139, 76), (94, 94), (183, 127), (218, 136), (118, 134), (262, 135), (193, 131), (246, 122), (160, 98), (89, 61), (38, 28), (85, 56), (149, 67), (238, 115), (145, 82), (144, 73), (105, 86), (150, 87), (151, 88), (110, 89), (274, 130), (241, 129), (240, 116), (194, 128), (239, 117), (152, 90), (243, 119), (154, 91), (242, 118), (153, 92), (73, 42), (90, 62), (164, 102), (251, 132), (176, 124), (158, 96), (195, 137), (196, 138), (197, 139), (111, 133), (248, 125), (163, 100), (247, 123), (162, 101), (249, 126), (165, 103), (91, 63), (39, 29), (42, 32), (7, 114)]
theorem c74 : FnOK Try.prog (tblOf tab) A (74, 43) := ⟨Try.f74, p43, Try.func74, by kernel_rfl, by kernel_rfl, by kernel_rfl, by kernel_rfl⟩
theorem c75 : FnOK Try.prog (tblOf tab) A (75, 44) := ⟨Try.f75, p44, Try.func75, by kernel_rfl, by kernel_rfl, by kernel_rfl, by kernel_rfl⟩
theorem c21 : FnOK Try.prog (tblOf tab) A (21, 11) := ⟨Try.f21, p11, Try.func21, by kernel_rfl, by kernel_rfl, by kernel_rfl, by kernel_rfl⟩
theorem c20 : FnOK Try.prog (tblOf tab) A (20, 10) := ⟨Try.f20, p10, Try.func20, by kernel_rfl, by kernel_rfl, by kernel_rfl, by kernel_rfl⟩
theorem c78 : FnOK Try.prog (tblOf tab) A (78, 47) := ⟨Try.f78, p47, Try.func78, by kernel_rfl, by kernel_rfl, by kernel_rfl, by kernel_rfl⟩
theorem c79 : FnOK Try.prog (tblOf tab) A (79, 48) := ⟨Try.f79, p48, Try.func79, by kernel_rfl, by kernel_rfl, by kernel_rfl, by kernel_rfl⟩
theorem c24 : FnOK Try.prog (tblOf tab) A (24, 13) := ⟨Try.f24, p13, Try.func24, by kernel_rfl, by kernel_rfl, by kernel_rfl, by kernel_rfl⟩
theorem c23 : FnOK Try.prog (tblOf tab) A (23, 12) := ⟨Try.f23, p12, Try.func23, by kernel_rfl, by kernel_rfl, by kernel_rfl, by kernel_rfl⟩
theorem c40 : FnOK Try.prog (tblOf tab) A (40, 30) := ⟨Try.f40, p30, Try.func40, by kernel_rfl, by kernel_rfl, by kernel_rfl, by kernel_rfl⟩
theorem c67 : FnOK Try.prog (tblOf tab) A (67, 51) := ⟨Try.f67, p51, Try.func67, by kernel_rfl, by kernel_rfl, by kernel_rfl, by kernel_rfl⟩
theorem c27 : FnOK Try.prog (tblOf tab) A (27, 17) := ⟨Try.f27, p17, Try.func27, by kernel_rfl, by kernel_rfl, by kernel_rfl, by kernel_rfl⟩
theorem c26 : FnOK Try.prog (tblOf tab) A (26, 16) := ⟨Try.f26, p16, Try.func26, by kernel_rfl, by kernel_rfl, by kernel_rfl, by kernel_rfl⟩
theorem c41 : FnOK Try.prog (tblOf tab) A (41, 31) := ⟨Try.f41, p31, Try.func41, by kernel_rfl, by kernel_rfl, by kernel_rfl, by kernel_rfl⟩
theorem c68 : FnOK Try.prog (tblOf tab) A (68, 52) := ⟨Try.f68, p52, Try.func68, by kernel_rfl, by kernel_rfl, by kernel_rfl, by kernel_rfl⟩
theorem c31 : FnOK Try.prog (tblOf tab) A (31, 21) := ⟨Try.f31, p21, Try.func31, by kernel_rfl, by kernel_rfl, by kernel_rfl, by kernel_rfl⟩
theorem c30 : FnOK Try.prog (tblOf tab) A (30, 20) := ⟨Try.f30, p20, Try.func30, by kernel_rfl, by kernel_rfl, by kernel_rfl, by kernel_rfl⟩
theorem c83 : FnOK Try.prog (tblOf tab) A (83, 54) := ⟨Try.f83, p54, Try.func83, by kernel_rfl, by kernel_rfl, by kernel_rfl, by kernel_rfl⟩
theorem c141 : FnOK Try.prog (tblOf tab) A (141, 78) := ⟨Try.f141, p78, Try.func141, by kernel_rfl, by kernel_rfl, by kernel_rfl, by kernel_rfl⟩
theorem c142 : FnOK Try.prog (tblOf tab) A (142, 79) := ⟨Try.f142, p79, Try.func142, by kernel_rfl, by kernel_rfl, by kernel_rfl, by kernel_rfl⟩
theorem c143 : FnOK Try.prog (tblOf tab) A (143, 80) := ⟨Try.f143, p80, Try.func143, by kernel_rfl, by kernel_rfl, by kernel_rfl, by kernel_rfl⟩
theorem c121 : FnOK Try.prog (tblOf tab) A (121, 81) := ⟨Try.f121, p81, Try.func121, by kernel_rfl, by kernel_rfl, by kernel_rfl, by kernel_rfl⟩
theorem c71 : FnOK Try.prog (tblOf tab) A (71, 39) := ⟨Try.f71, p39, Try.func71, by kernel_rfl, by kernel_rfl, by kernel_rfl, by kernel_rfl⟩
theorem c88 : FnOK Try.prog (tblOf tab) A (88, 60) := ⟨Try.f88, p60, Try.func88, by kernel_rfl, by kernel_rfl, by kernel_rfl, by kernel_rfl⟩
theorem c161 : FnOK Try.prog (tblOf tab) A (161, 99) := ⟨Try.f161, p99, Try.func161, by kernel_rfl, by kernel_rfl, by kernel_rfl, by kernel_rfl⟩
theorem c139 : FnOK Try.prog (tblOf tab) A (139, 76) := ⟨Try.f139, p76, Try.func139, by kernel_rfl, by kernel_rfl, by kernel_rfl, by kernel_rfl⟩
theorem c94 : FnOK Try.prog (tblOf tab) A (94, 94) := ⟨Try.f94, p94, Try.func94, by kernel_rfl, by kernel_rfl, by kernel_rfl, by kernel_rfl⟩
theorem c183 : FnOK Try.prog (tblOf tab) A (183, 127) := ⟨Try.f183, p127, Try.func183, by kernel_rfl, by kernel_rfl, by kernel_rfl, by kernel_rfl⟩
theorem c218 : FnOK Try.prog (tblOf tab) A (218, 136) := ⟨Try.f218, p136, Try.func218, by kernel_rfl, by kernel_rfl, by kernel_rfl, by kernel_rfl⟩
theorem c118 : FnOK Try.prog (tblOf tab) A (118, 134) := ⟨Try.f118, p134, Try.func118, by kernel_rfl, by kernel_rfl, by kernel_rfl, by kernel_rfl⟩
theorem c262 : FnOK Try.prog (tblOf tab) A (262, 135) := ⟨Try.f262, p135, Try.func262, by kernel_rfl, by kernel_rfl, by kernel_rfl, by kernel_rfl⟩
theorem c193 : FnOK Try.prog (tblOf tab) A (193, 131) := ⟨Try.f193, p131, Try.func193, by kernel_rfl, by kernel_rfl, by kernel_rfl, by kernel_rfl⟩
theorem c246 : FnOK Try.prog (tblOf tab) A (246, 122) := ⟨Try.f246, p122, Try.func246, by kernel_rfl, by kernel_rfl, by kernel_rfl, by kernel_rfl⟩
theorem c160 : FnOK Try.prog (tblOf tab) A (160, 98) := ⟨Try.f160, p98, Try.func160, by kernel_rfl, by kernel_rfl, by kernel_rfl, by kernel_rfl⟩
theorem c89 : FnOK Try.prog (tblOf tab) A (89, 61) := ⟨Try.f89, p61, Try.func89, by kernel_rfl, by kernel_rfl, by kernel_rfl, by kernel_rfl⟩
theorem c38 : FnOK Try.prog (tblOf tab) A (38, 28) := ⟨Try.f38, p28, Try.func38, by kernel_rfl, by kernel_rfl, by kernel_rfl, by kernel_rfl⟩
theorem c85 : FnOK Try.prog (tblOf tab) A (85, 56) := ⟨Try.f85, p56, Try.func85, by kernel_rfl, by kernel_rfl, by kernel_rfl, by kernel_rfl⟩
theorem c149 : FnOK Try.prog (tblOf tab) A (149, 67) := ⟨Try.f149, p67, Try.func149, by kernel_rfl, by kernel_rfl, by kernel_rfl, by kernel_rfl⟩
theorem c238 : FnOK Try.prog (tblOf tab) A (238, 115) := ⟨Try.f238, p115, Try.func238, by kernel_rfl, by kernel_rfl, by kernel_rfl, by kernel_rfl⟩
theorem c145 : FnOK Try.prog (tblOf tab) A (145, 82) := ⟨Try.f145, p82, Try.func145, by kernel_rfl, by kernel_rfl, by kernel_rfl, by kernel_rfl⟩
theorem c144 : FnOK Try.prog (tblOf tab) A (144, 73) := ⟨Try.f144, p73, Try.func144, by kernel_rfl, by kernel_rfl, by kernel_rfl, by kernel_rfl⟩
theorem c105 : FnOK Try.prog (tblOf tab) A (105, 86) := ⟨Try.f105, p86, Try.func105, by kernel_rfl, by kernel_rfl, by kernel_rfl, by kernel_rfl⟩
theorem c150 : FnOK Try.prog (tblOf tab) A (150, 87) := ⟨Try.f150, p87, Try.func150, by kernel_rfl, by kernel_rfl, by kernel_rfl, by kernel_rfl⟩
theorem c151 : FnOK Try.prog (tblOf tab) A (151, 88) := ⟨Try.f151, p88, Try.func151, by kernel_rfl, by kernel_rfl, by kernel_rfl, by kernel_rfl⟩
theorem c110 : FnOK Try.prog (tblOf tab) A (110, 89) := ⟨Try.f110, p89, Try.func110, by kernel_rfl, by kernel_rfl, by kernel_rfl, by kernel_rfl⟩
theorem c274 : FnOK Try.prog (tblOf tab) A (274, 130) := ⟨Try.f274, p130, Try.func274, by kernel_rfl, by kernel_rfl, by kernel_rfl, by kernel_rfl⟩
theorem c241 : FnOK Try.prog (tblOf tab) A (241, 129) := ⟨Try.f241, p129, Try.func241, by kernel_rfl, by kernel_rfl, by kernel_rfl, by kernel_rfl⟩
theorem c240 : FnOK Try.prog (tblOf tab) A (240, 116) := ⟨Try.f240, p116, Try.func240, by kernel_rfl, by kernel_rfl, by kernel_rfl, by kernel_rfl⟩
theorem c194 : FnOK Try.prog (tblOf tab) A (194, 128) := ⟨Try.f194, p128, Try.func194, by kernel_rfl, by kernel_rfl, by kernel_rfl, by kernel_rfl⟩
theorem c239 : FnOK Try.prog (tblOf tab) A (239, 117) := ⟨Try.f239, p117, Try.func239, by kernel_rfl, by kernel_rfl, by kernel_rfl, by kernel_rfl⟩
theorem c152 : FnOK Try.prog (tblOf tab) A (152, 90) := ⟨Try.f152, p90, Try.func152, by kernel_rfl, by kernel_rfl, by kernel_rfl, by kernel_rfl⟩
theorem c243 : FnOK Try.prog (tblOf tab) A (243, 119) := ⟨Try.f243, p119, Try.func243, by kernel_rfl, by kernel_rfl, by kernel_rfl, by kernel_rfl⟩
theorem c154 : FnOK Try.prog (tblOf tab) A (154, 91) := ⟨Try.f154, p91, Try.func154, by kernel_rfl, by kernel_rfl, by kernel_rfl, by kernel_rfl⟩
theorem c242 : FnOK Try.prog (tblOf tab) A (242, 118) := ⟨Try.f242, p118, Try.func242, by kernel_rfl, by kernel_rfl, by kernel_rfl, by kernel_rfl⟩
theorem c153 : FnOK Try.prog (tblOf tab) A (153, 92) := ⟨Try.f153, p92, Try.func153, by kernel_rfl, by kernel_rfl, by kernel_rfl, by kernel_rfl⟩
theorem c73 : FnOK Try.prog (tblOf tab) A (73, 42) := ⟨Try.f73, p42, Try.func73, by kernel_rfl, by kernel_rfl, by kernel_rfl, by kernel_rfl⟩
theorem c90 : FnOK Try.prog (tblOf tab) A (90, 62) := ⟨Try.f90, p62, Try.func90, by kernel_rfl, by kernel_rfl, by kernel_rfl, by kernel_rfl⟩
theorem c164 : FnOK Try.prog (tblOf tab) A (164, 102) := ⟨Try.f164, p102, Try.func164, by kernel_rfl, by kernel_rfl, by kernel_rfl, by kernel_rfl⟩
theorem c251 : FnOK Try.prog (tblOf tab) A (251, 132) := ⟨Try.f251, p132, Try.func251, by kernel_rfl, by kernel_rfl, by kernel_rfl, by kernel_rfl⟩
theorem c176 : FnOK Try.prog (tblOf tab) A (176, 124) := ⟨Try.f176, p124, Try.func176, by kernel_rfl, by kernel_rfl, by kernel_rfl, by kernel_rfl⟩
theorem c158 : FnOK Try.prog (tblOf tab) A (158, 96) := ⟨Try.f158, p96, Try.func158, by kernel_rfl, by kernel_rfl, by kernel_rfl, by kernel_rfl⟩
theorem c195 : FnOK Try.prog (tblOf tab) A (195, 137) := ⟨Try.f195, p137, Try.func195, by kernel_rfl, by kernel_rfl, by kernel_rfl, by kernel_rfl⟩
theorem c196 : FnOK Try.prog (tblOf tab) A (196, 138) := ⟨Try.f196, p138, Try.func196, by kernel_rfl, by kernel_rfl, by kernel_rfl, by kernel_rfl⟩
theorem c197 : FnOK Try.prog (tblOf tab) A (197, 139) := ⟨Try.f197, p139, Try.func197, by kernel_rfl, by kernel_rfl, by kernel_rfl, by kernel_rfl⟩
theorem c111 : FnOK Try.prog (tblOf tab) A (111, 133) := ⟨Try.f111, p133, Try.func111, by kernel_rfl, by kernel_rfl, by kernel_rfl, by kernel_rfl⟩
theorem c248 : FnOK Try.prog (tblOf tab) A (248, 125) := ⟨Try.f248, p125, Try.func248, by kernel_rfl, by kernel_rfl, by kernel_rfl, by kernel_rfl⟩
theorem c163 : FnOK Try.prog (tblOf tab) A (163, 100) := ⟨Try.f163, p100, Try.func163, by kernel_rfl, by kernel_rfl, by kernel_rfl, by kernel_rfl⟩
theorem c247 : FnOK Try.prog (tblOf tab) A (247, 123) := ⟨Try.f247, p123, Try.func247, by kernel_rfl, by kernel_rfl, by kernel_rfl, by kernel_rfl⟩
theorem c162 : FnOK Try.prog (tblOf tab) A (162, 101) := ⟨Try.f162, p101, Try.func162, by kernel_rfl, by kernel_rfl, by kernel_rfl, by kernel_rfl⟩
theorem c249 : FnOK Try.prog (tblOf tab) A (249, 126) := ⟨Try.f249, p126, Try.func249, by kernel_rfl, by kernel_rfl, by kernel_rfl, by kernel_rfl⟩
theorem c165 : FnOK Try.prog (tblOf tab) A (165, 103) := ⟨Try.f165, p103, Try.func165, by kernel_rfl, by kernel_rfl, by kernel_rfl, by kernel_rfl⟩
theorem c91 : FnOK Try.prog (tblOf tab) A (91, 63) := ⟨Try.f91, p63, Try.func91, by kernel_rfl, by kernel_rfl, by kernel_rfl, by kernel_rfl⟩
theorem c39 : FnOK Try.prog (tblOf tab) A (39, 29) := ⟨Try.f39, p29, Try.func39, by kernel_rfl, by kernel_rfl, by kernel_rfl, by kernel_rfl⟩
theorem c42 : FnOK Try.prog (tblOf tab) A (42, 32) := ⟨Try.f42, p32, Try.func42, by kernel_rfl, by kernel_rfl, by kernel_rfl, by kernel_rfl⟩
theorem c7 : FnOK Try.prog (tblOf tab) A (7, 114) := ⟨Try.f7, p114, Try.func7, by kernel_rfl, by kernel_rfl, by kernel_rfl, by kernel_rfl⟩
theorem models : Models Try.prog (tblOf tab) A := by
  refine models_of (by kernel_rfl) fun x hx => ?_
  simp only [tab, List.mem_cons, List.not_mem_nil, or_false] at hx
  rcases hx with rfl | rfl | rfl | rfl | rfl | rfl | rfl | rfl | rfl | rfl | rfl | rfl | rfl | rfl | rfl | rfl | rfl | rfl | rfl | rfl | rfl | rfl | rfl | rfl | rfl | rfl | rfl | rfl | rfl | rfl | rfl | rfl | rfl | rfl | rfl | rfl | rfl | rfl | rfl | rfl | rfl | rfl | rfl | rfl | rfl | rfl | rfl | rfl | rfl | rfl | rfl | rfl | rfl | rfl | rfl | rfl | rfl | rfl | rfl | rfl | rfl | rfl | rfl | rfl | rfl | rfl | rfl | rfl | rfl | rfl | rfl | rfl | rfl | rfl
  · exact c74
  · exact c75
  · exact c21
  · exact c20
  · exact c78
  · exact c79
  · exact c24
  · exact c23
  · exact c40
  · exact c67
  · exact c27
  · exact c26
  · exact c41
  · exact c68
  · exact c31
  · exact c30
  · exact c83
  · exact c141
  · exact c142
  · exact c143
  · exact c121
  · exact c71
  · exact c88
  · exact c161
  · exact c139
  · exact c94
  · exact c183
  · exact c218
  · exact c118
  · exact c262
  · exact c193
  · exact c246
  · exact c160
  · exact c89
  · exact c38
  · exact c85
  · exact c149
  · exact c238
  · exact c145
  · exact c144
  · exact c105
  · exact c150
  · exact c151
  · exact c110
  · exact c274
  · exact c241
  · exact c240
  · exact c194
  · exact c239
  · exact c152
  · exact c243
  · exact c154
  · exact c242
  · exact c153
  · exact c73
  · exact c90
  · exact c164
  · exact c251
  · exact c176
  · exact c158
  · exact c195
  · exact c196
  · exact c197
  · exact c111
  · exact c248
  · exact c163
  · exact c247
  · exact c162
  · exact c249
  · exact c165
  · exact c91
  · exact c39
  · exact c42
  · exact c7
end Rv.Fr
