/- The abstract code is what the translated functions are compiled to. -/
import Derived.Test.YthdaojcekpelgaaFfp
import Derived.Test.YthdaojcekpelgaaChecked
import Derived.KernelRfl
namespace Rv.Ff
open Go.Proofs
set_option maxRecDepth 100000
def tab : List (Nat × Nat) := [(74, 43), (75, 44), (21, 11), (20, 10), (78, 47), (79, 48), (24, 13), (23, 12), (40, 30), (67, 51), (27, 17), (26, 16), (41, 31), (68, 52), (31, 21), (30, 20), (83, 54), (141, 78), (142, 79), (143, 80), (121, 81), (71, 39), (94, 94), (95, 95), (84, 55), (33, 23), (85, 56), (149, 67), (238, 115), (145, 82), (144, 73), (105, 86), (150, 87), (151, 88), (110, 89), (274, 130), (241, 129), (240, 116), (194, 128), (239, 117), (152, 90), (243, 119), (154, 91), (242, 118), (153, 92), (73, 42), (157, 74), (156, 75), (147, 85), (158, 96), (86, 57), (244, 120), (245, 121), (159, 97), (87, 58), (34, 24), (35, 25), (36, 26), (42, 32), (69, 59), (82, 53), (32, 22), (37, 27), (6, 113)]
theorem c74 : FnOK Try.prog (tblOf tab) A (74, 43) := ⟨Try.f74, p43, Try.func74, by kernel_rfl, by kernel_rfl, by kernel_rfl, by kernel_rfl⟩
theorem c75 : FnOK Try.prog (tblOf tab) A (75, 44) := ⟨Try.f75, p44, Try.func75, by kernel_rfl, by kernel_rfl, by kernel_rfl, by kernel_rfl⟩
theorem c21 : FnOK Try.prog (tblOf tab) A (21, 11) := ⟨Try.f21, p11, Try.func21, by kernel_rfl, by kernel_rfl, by kernel_rfl, by kernel_rfl⟩
theorem c20 : FnOK Try.prog (tblOf tab) A (20, 10) := ⟨Try.f20, p10, Try.func20, by kernel_rfl, by kernel_rfl, by kernel_rfl, by kernel_rfl⟩
theorem c78 : FnOK Try.prog (tblOf tab) A (78, 47) := ⟨Try.f78, p47, Try.func78, by kernel_rfl, by kernel_rfl, by kernel_rfl, by kernel_rfl⟩
theorem c79 : FnOK Try.prog (tblOf tab) A (79, 48) := ⟨Try.f79, p48, Try.func79, by kernel_rfl, by kernel_rfl, by kernel_rfl, by kernel_rfl⟩
theorem c24 : FnOK Try.prog (tblOf tab) A (24, 13) := ⟨Try.f24, p13, Try.func24, by kernel_rfl, by kernel_rfl, by kernel_rfl, by kernel_rfl⟩
theorem c23 : FnOK Try.prog (tblOf tab) A (23, 12) := ⟨Try.f23, p12, Try.func23, by kernel_rfl, by kernel_rfl, by kernel_rfl, by kernel_rfl⟩
theorem c40 : FnOK Try.prog (tblOf tab) A (40, 30) := ⟨Try.f40, p30, Try.func40, by kernel_rfl, by kernel_rfl, by kernel_rfl, by kernel_rfl⟩
theorem c67 : FnOK Try.prog (tblOf tab) A (67, 51) := ⟨Try.f67, p51, Try.func67, by kernel_rfl, by kernel_rfl, by kernel_rfl, by kernel_rfl⟩
theorem c27 : FnOK Try.prog (tblOf tab) A (27, 17) := ⟨Try.f27, p17, Try.func27, by kernel_rfl, by kernel_rfl, by kernel_rfl, by kernel_rfl⟩
theorem c26 : FnOK Try.prog (tblOf tab) A (26, 16) := ⟨Try.f26, p16, Try.func26, by kernel_rfl, by kernel_rfl, by kernel_rfl, by kernel_rfl⟩
theorem c41 : FnOK Try.prog (tblOf tab) A (41, 31) := ⟨Try.f41, p31, Try.func41, by kernel_rfl, by kernel_rfl, by kernel_rfl, by kernel_rfl⟩
theorem c68 : FnOK Try.prog (tblOf tab) A (68, 52) := ⟨Try.f68, p52, Try.func68, by kernel_rfl, by kernel_rfl, by kernel_rfl, by kernel_rfl⟩
theorem c31 : FnOK Try.prog (tblOf tab) A (31, 21) := ⟨Try.f31, p21, Try.func31, by kernel_rfl, by kernel_rfl, by kernel_rfl, by kernel_rfl⟩
theorem c30 : FnOK Try.prog (tblOf tab) A (30, 20) := ⟨Try.f30, p20, Try.func30, by kernel_rfl, by kernel_rfl, by kernel_rfl, by kernel_rfl⟩
theorem c83 : FnOK Try.prog (tblOf tab) A (83, 54) := ⟨Try.f83, p54, Try.func83, by kernel_rfl, by kernel_rfl, by kernel_rfl, by kernel_rfl⟩
theorem c141 : FnOK Try.prog (tblOf tab) A (141, 78) := ⟨Try.f141, p78, Try.func141, by kernel_rfl, by kernel_rfl, by kernel_rfl, by kernel_rfl⟩
theorem c142 : FnOK Try.prog (tblOf tab) A (142, 79) := ⟨Try.f142, p79, Try.func142, by kernel_rfl, by kernel_rfl, by kernel_rfl, by kernel_rfl⟩
theorem c143 : FnOK Try.prog (tblOf tab) A (143, 80) := ⟨Try.f143, p80, Try.func143, by kernel_rfl, by kernel_rfl, by kernel_rfl, by kernel_rfl⟩
theorem c121 : FnOK Try.prog (tblOf tab) A (121, 81) := ⟨Try.f121, p81, Try.func121, by kernel_rfl, by kernel_rfl, by kernel_rfl, by kernel_rfl⟩
theorem c71 : FnOK Try.prog (tblOf tab) A (71, 39) := ⟨Try.f71, p39, Try.func71, by kernel_rfl, by kernel_rfl, by kernel_rfl, by kernel_rfl⟩
theorem c94 : FnOK Try.prog (tblOf tab) A (94, 94) := ⟨Try.f94, p94, Try.func94, by kernel_rfl, by kernel_rfl, by kernel_rfl, by kernel_rfl⟩
theorem c95 : FnOK Try.prog (tblOf tab) A (95, 95) := ⟨Try.f95, p95, Try.func95, by kernel_rfl, by kernel_rfl, by kernel_rfl, by kernel_rfl⟩
theorem c84 : FnOK Try.prog (tblOf tab) A (84, 55) := ⟨Try.f84, p55, Try.func84, by kernel_rfl, by kernel_rfl, by kernel_rfl, by kernel_rfl⟩
theorem c33 : FnOK Try.prog (tblOf tab) A (33, 23) := ⟨Try.f33, p23, Try.func33, by kernel_rfl, by kernel_rfl, by kernel_rfl, by kernel_rfl⟩
theorem c85 : FnOK Try.prog (tblOf tab) A (85, 56) := ⟨Try.f85, p56, Try.func85, by kernel_rfl, by kernel_rfl, by kernel_rfl, by kernel_rfl⟩
theorem c149 : FnOK Try.prog (tblOf tab) A (149, 67) := ⟨Try.f149, p67, Try.func149, by kernel_rfl, by kernel_rfl, by kernel_rfl, by kernel_rfl⟩
theorem c238 : FnOK Try.prog (tblOf tab) A (238, 115) := ⟨Try.f238, p115, Try.func238, by kernel_rfl, by kernel_rfl, by kernel_rfl, by kernel_rfl⟩
theorem c145 : FnOK Try.prog (tblOf tab) A (145, 82) := ⟨Try.f145, p82, Try.func145, by kernel_rfl, by kernel_rfl, by kernel_rfl, by kernel_rfl⟩
theorem c144 : FnOK Try.prog (tblOf tab) A (144, 73) := ⟨Try.f144, p73, Try.func144, by kernel_rfl, by kernel_rfl, by kernel_rfl, by kernel_rfl⟩
theorem c105 : FnOK Try.prog (tblOf tab) A (105, 86) := ⟨Try.f105, p86, Try.func105, by kernel_rfl, by kernel_rfl, by kernel_rfl, by kernel_rfl⟩
theorem c150 : FnOK Try.prog (tblOf tab) A (150, 87) := ⟨Try.f150, p87, Try.func150, by kernel_rfl, by kernel_rfl, by kernel_rfl, by kernel_rfl⟩
theorem c151 : FnOK Try.prog (tblOf tab) A (151, 88) := ⟨Try.f151, p88, Try.func151, by kernel_rfl, by kernel_rfl, by kernel_rfl, by kernel_rfl⟩
theorem c110 : FnOK Try.prog (tblOf tab) A (110, 89) := ⟨Try.f110, p89, Try.func110, by kernel_rfl, by kernel_rfl, by kernel_rfl, by kernel_rfl⟩
theorem c274 : FnOK Try.prog (tblOf tab) A (274, 130) := ⟨Try.f274, p130, Try.func274, by kernel_rfl, by kernel_rfl, by kernel_rfl, by kernel_rfl⟩
theorem c241 : FnOK Try.prog (tblOf tab) A (241, 129) := ⟨Try.f241, p129, Try.func241, by kernel_rfl, by kernel_rfl, by kernel_rfl, by kernel_rfl⟩
theorem c240 : FnOK Try.prog (tblOf tab) A (240, 116) := ⟨Try.f240, p116, Try.func240, by kernel_rfl, by kernel_rfl, by kernel_rfl, by kernel_rfl⟩
theorem c194 : FnOK Try.prog (tblOf tab) A (194, 128) := ⟨Try.f194, p128, Try.func194, by kernel_rfl, by kernel_rfl, by kernel_rfl, by kernel_rfl⟩
theorem c239 : FnOK Try.prog (tblOf tab) A (239, 117) := ⟨Try.f239, p117, Try.func239, by kernel_rfl, by kernel_rfl, by kernel_rfl, by kernel_rfl⟩
theorem c152 : FnOK Try.prog (tblOf tab) A (152, 90) := ⟨Try.f152, p90, Try.func152, by kernel_rfl, by kernel_rfl, by kernel_rfl, by kernel_rfl⟩
theorem c243 : FnOK Try.prog (tblOf tab) A (243, 119) := ⟨Try.f243, p119, Try.func243, by kernel_rfl, by kernel_rfl, by kernel_rfl, by kernel_rfl⟩
theorem c154 : FnOK Try.prog (tblOf tab) A (154, 91) := ⟨Try.f154, p91, Try.func154, by kernel_rfl, by kernel_rfl, by kernel_rfl, by kernel_rfl⟩
theorem c242 : FnOK Try.prog (tblOf tab) A (242, 118) := ⟨Try.f242, p118, Try.func242, by kernel_rfl, by kernel_rfl, by kernel_rfl, by kernel_rfl⟩
theorem c153 : FnOK Try.prog (tblOf tab) A (153, 92) := ⟨Try.f153, p92, Try.func153, by kernel_rfl, by kernel_rfl, by kernel_rfl, by kernel_rfl⟩
theorem c73 : FnOK Try.prog (tblOf tab) A (73, 42) := ⟨Try.f73, p42, Try.func73, by kernel_rfl, by kernel_rfl, by kernel_rfl, by kernel_rfl⟩
theorem c157 : FnOK Try.prog (tblOf tab) A (157, 74) := ⟨Try.f157, p74, Try.func157, by kernel_rfl, by kernel_rfl, by kernel_rfl, by kernel_rfl⟩
theorem c156 : FnOK Try.prog (tblOf tab) A (156, 75) := ⟨Try.f156, p75, Try.func156, by kernel_rfl, by kernel_rfl, by kernel_rfl, by kernel_rfl⟩
theorem c147 : FnOK Try.prog (tblOf tab) A (147, 85) := ⟨Try.f147, p85, Try.func147, by kernel_rfl, by kernel_rfl, by kernel_rfl, by kernel_rfl⟩
theorem c158 : FnOK Try.prog (tblOf tab) A (158, 96) := ⟨Try.f158, p96, Try.func158, by kernel_rfl, by kernel_rfl, by kernel_rfl, by kernel_rfl⟩
theorem c86 : FnOK Try.prog (tblOf tab) A (86, 57) := ⟨Try.f86, p57, Try.func86, by kernel_rfl, by kernel_rfl, by kernel_rfl, by kernel_rfl⟩
theorem c244 : FnOK Try.prog (tblOf tab) A (244, 120) := ⟨Try.f244, p120, Try.func244, by kernel_rfl, by kernel_rfl, by kernel_rfl, by kernel_rfl⟩
theorem c245 : FnOK Try.prog (tblOf tab) A (245, 121) := ⟨Try.f245, p121, Try.func245, by kernel_rfl, by kernel_rfl, by kernel_rfl, by kernel_rfl⟩
theorem c159 : FnOK Try.prog (tblOf tab) A (159, 97) := ⟨Try.f159, p97, Try.func159, by kernel_rfl, by kernel_rfl, by kernel_rfl, by kernel_rfl⟩
theorem c87 : FnOK Try.prog (tblOf tab) A (87, 58) := ⟨Try.f87, p58, Try.func87, by kernel_rfl, by kernel_rfl, by kernel_rfl, by kernel_rfl⟩
theorem c34 : FnOK Try.prog (tblOf tab) A (34, 24) := ⟨Try.f34, p24, Try.func34, by kernel_rfl, by kernel_rfl, by kernel_rfl, by kernel_rfl⟩
theorem c35 : FnOK Try.prog (tblOf tab) A (35, 25) := ⟨Try.f35, p25, Try.func35, by kernel_rfl, by kernel_rfl, by kernel_rfl, by kernel_rfl⟩
theorem c36 : FnOK Try.prog (tblOf tab) A (36, 26) := ⟨Try.f36, p26, Try.func36, by kernel_rfl, by kernel_rfl, by kernel_rfl, by kernel_rfl⟩
theorem c42 : FnOK Try.prog (tblOf tab) A (42, 32) := ⟨Try.f42, p32, Try.func42, by kernel_rfl, by kernel_rfl, by kernel_rfl, by kernel_rfl⟩
theorem c69 : FnOK Try.prog (tblOf tab) A (69, 59) := ⟨Try.f69, p59, Try.func69, by kernel_rfl, by kernel_rfl, by kernel_rfl, by kernel_rfl⟩
theorem c82 : FnOK Try.prog (tblOf tab) A (82, 53) := ⟨Try.f82, p53, Try.func82, by kernel_rfl, by kernel_rfl, by kernel_rfl, by kernel_rfl⟩
theorem c32 : FnOK Try.prog (tblOf tab) A (32, 22) := ⟨Try.f32, p22, Try.func32, by kernel_rfl, by kernel_rfl, by kernel_rfl, by kernel_rfl⟩
theorem c37 : FnOK Try.prog (tblOf tab) A (37, 27) := ⟨Try.f37, p27, Try.func37, by kernel_rfl, by kernel_rfl, by kernel_rfl, by kernel_rfl⟩
theorem c6 : FnOK Try.prog (tblOf tab) A (6, 113) := ⟨Try.f6, p113, Try.func6, by kernel_rfl, by kernel_rfl, by kernel_rfl, by kernel_rfl⟩
theorem models : Models Try.prog (tblOf tab) A := by
  refine models_of (by kernel_rfl) fun x hx => ?_
  simp only [tab, List.mem_cons, List.not_mem_nil, or_false] at hx
  rcases hx with rfl | rfl | rfl | rfl | rfl | rfl | rfl | rfl | rfl | rfl | rfl | rfl | rfl | rfl | rfl | rfl | rfl | rfl | rfl | rfl | rfl | rfl | rfl | rfl | rfl | rfl | rfl | rfl | rfl | rfl | rfl | rfl | rfl | rfl | rfl | rfl | rfl | rfl | rfl | rfl | rfl | rfl | rfl | rfl | rfl | rfl | rfl | rfl | rfl | rfl | rfl | rfl | rfl | rfl | rfl | rfl | rfl | rfl | rfl | rfl | rfl | rfl | rfl | rfl
  · exact c74
  · exact c75
  · exact c21
  · exact c20
  · exact c78
  · exact c79
  · exact c24
  · exact c23
  · exact c40
  · exact c67
  · exact c27
  · exact c26
  · exact c41
  · exact c68
  · exact c31
  · exact c30
  · exact c83
  · exact c141
  · exact c142
  · exact c143
  · exact c121
  · exact c71
  · exact c94
  · exact c95
  · exact c84
  · exact c33
  · exact c85
  · exact c149
  · exact c238
  · exact c145
  · exact c144
  · exact c105
  · exact c150
  · exact c151
  · exact c110
  · exact c274
  · exact c241
  · exact c240
  · exact c194
  · exact c239
  · exact c152
  · exact c243
  · exact c154
  · exact c242
  · exact c153
  · exact c73
  · exact c157
  · exact c156
  · exact c147
  · exact c158
  · exact c86
  · exact c244
  · exact c245
  · exact c159
  · exact c87
  · exact c34
  · exact c35
  · exact c36
  · exact c42
  · exact c69
  · exact c82
  · exact c32
  · exact c37
  · exact c6
end Rv.Ff
