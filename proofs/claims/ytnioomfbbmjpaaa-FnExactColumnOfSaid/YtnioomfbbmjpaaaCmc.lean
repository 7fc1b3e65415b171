/- The abstract code is what the translated functions are compiled to. -/
import Derived.Test.YtnioomfbbmjpaaaCmp
import Derived.Test.YtnioomfbbmjpaaaChecked
import Derived.KernelRfl
namespace Rv.Cm
open Go.Proofs
set_option maxRecDepth 100000
def tab : List (Nat × Nat) := [(36, 30), (61, 51), (25, 17), (14, 16), (39, 31), (63, 52), (26, 21), (17, 20), (40, 32), (119, 59), (65, 53), (18, 22), (66, 43), (49, 44), (20, 11), (50, 235), (10, 215), (69, 47), (55, 48), (23, 13), (56, 237), (12, 216), (52, 54), (53, 94), (54, 95), (96, 78), (97, 79), (98, 261), (133, 81), (125, 127), (182, 136), (134, 80), (181, 298), (99, 262), (51, 236), (11, 217), (58, 56), (102, 73), (115, 74), (118, 75), (117, 85), (116, 96), (60, 57), (100, 67), (183, 115), (103, 82), (81, 89), (59, 239), (101, 263), (104, 264), (106, 299), (105, 265), (107, 266), (219, 130), (198, 129), (197, 116), (201, 128), (196, 117), (144, 90), (108, 267), (185, 118), (114, 92), (167, 132), (111, 124), (184, 119), (112, 300), (113, 301), (110, 268), (109, 269), (57, 238), (13, 218), (62, 240), (15, 219), (64, 241), (16, 220), (3, 314)]
theorem c36 : FnOK Try.prog (tblOf tab) A (36, 30) := ⟨Try.f36, p30, Try.func36, by kernel_rfl, by kernel_rfl, by kernel_rfl, by kernel_rfl⟩
theorem c61 : FnOK Try.prog (tblOf tab) A (61, 51) := ⟨Try.f61, p51, Try.func61, by kernel_rfl, by kernel_rfl, by kernel_rfl, by kernel_rfl⟩
theorem c25 : FnOK Try.prog (tblOf tab) A (25, 17) := ⟨Try.f25, p17, Try.func25, by kernel_rfl, by kernel_rfl, by kernel_rfl, by kernel_rfl⟩
theorem c14 : FnOK Try.prog (tblOf tab) A (14, 16) := ⟨Try.f14, p16, Try.func14, by kernel_rfl, by kernel_rfl, by kernel_rfl, by kernel_rfl⟩
theorem c39 : FnOK Try.prog (tblOf tab) A (39, 31) := ⟨Try.f39, p31, Try.func39, by kernel_rfl, by kernel_rfl, by kernel_rfl, by kernel_rfl⟩
theorem c63 : FnOK Try.prog (tblOf tab) A (63, 52) := ⟨Try.f63, p52, Try.func63, by kernel_rfl, by kernel_rfl, by kernel_rfl, by kernel_rfl⟩
theorem c26 : FnOK Try.prog (tblOf tab) A (26, 21) := ⟨Try.f26, p21, Try.func26, by kernel_rfl, by kernel_rfl, by kernel_rfl, by kernel_rfl⟩
theorem c17 : FnOK Try.prog (tblOf tab) A (17, 20) := ⟨Try.f17, p20, Try.func17, by kernel_rfl, by kernel_rfl, by kernel_rfl, by kernel_rfl⟩
theorem c40 : FnOK Try.prog (tblOf tab) A (40, 32) := ⟨Try.f40, p32, Try.func40, by kernel_rfl, by kernel_rfl, by kernel_rfl, by kernel_rfl⟩
theorem c119 : FnOK Try.prog (tblOf tab) A (119, 59) := ⟨Try.f119, p59, Try.func119, by kernel_rfl, by kernel_rfl, by kernel_rfl, by kernel_rfl⟩
theorem c65 : FnOK Try.prog (tblOf tab) A (65, 53) := ⟨Try.f65, p53, Try.func65, by kernel_rfl, by kernel_rfl, by kernel_rfl, by kernel_rfl⟩
theorem c18 : FnOK Try.prog (tblOf tab) A (18, 22) := ⟨Try.f18, p22, Try.func18, by kernel_rfl, by kernel_rfl, by kernel_rfl, by kernel_rfl⟩
theorem c66 : FnOK Try.prog (tblOf tab) A (66, 43) := ⟨Try.f66, p43, Try.func66, by kernel_rfl, by kernel_rfl, by kernel_rfl, by kernel_rfl⟩
theorem c49 : FnOK Try.prog (tblOf tab) A (49, 44) := ⟨Try.f49, p44, Try.func49, by kernel_rfl, by kernel_rfl, by kernel_rfl, by kernel_rfl⟩
theorem c20 : FnOK Try.prog (tblOf tab) A (20, 11) := ⟨Try.f20, p11, Try.func20, by kernel_rfl, by kernel_rfl, by kernel_rfl, by kernel_rfl⟩
theorem c50 : FnOK Try.prog (tblOf tab) A (50, 235) := ⟨Try.f50, p235, Try.func50, by kernel_rfl, by kernel_rfl, by kernel_rfl, by kernel_rfl⟩
theorem c10 : FnOK Try.prog (tblOf tab) A (10, 215) := ⟨Try.f10, p215, Try.func10, by kernel_rfl, by kernel_rfl, by kernel_rfl, by kernel_rfl⟩
theorem c69 : FnOK Try.prog (tblOf tab) A (69, 47) := ⟨Try.f69, p47, Try.func69, by kernel_rfl, by kernel_rfl, by kernel_rfl, by kernel_rfl⟩
theorem c55 : FnOK Try.prog (tblOf tab) A (55, 48) := ⟨Try.f55, p48, Try.func55, by kernel_rfl, by kernel_rfl, by kernel_rfl, by kernel_rfl⟩
theorem c23 : FnOK Try.prog (tblOf tab) A (23, 13) := ⟨Try.f23, p13, Try.func23, by kernel_rfl, by kernel_rfl, by kernel_rfl, by kernel_rfl⟩
theorem c56 : FnOK Try.prog (tblOf tab) A (56, 237) := ⟨Try.f56, p237, Try.func56, by kernel_rfl, by kernel_rfl, by kernel_rfl, by kernel_rfl⟩
theorem c12 : FnOK Try.prog (tblOf tab) A (12, 216) := ⟨Try.f12, p216, Try.func12, by kernel_rfl, by kernel_rfl, by kernel_rfl, by kernel_rfl⟩
theorem c52 : FnOK Try.prog (tblOf tab) A (52, 54) := ⟨Try.f52, p54, Try.func52, by kernel_rfl, by kernel_rfl, by kernel_rfl, by kernel_rfl⟩
theorem c53 : FnOK Try.prog (tblOf tab) A (53, 94) := ⟨Try.f53, p94, Try.func53, by kernel_rfl, by kernel_rfl, by kernel_rfl, by kernel_rfl⟩
theorem c54 : FnOK Try.prog (tblOf tab) A (54, 95) := ⟨Try.f54, p95, Try.func54, by kernel_rfl, by kernel_rfl, by kernel_rfl, by kernel_rfl⟩
theorem c96 : FnOK Try.prog (tblOf tab) A (96, 78) := ⟨Try.f96, p78, Try.func96, by kernel_rfl, by kernel_rfl, by kernel_rfl, by kernel_rfl⟩
theorem c97 : FnOK Try.prog (tblOf tab) A (97, 79) := ⟨Try.f97, p79, Try.func97, by kernel_rfl, by kernel_rfl, by kernel_rfl, by kernel_rfl⟩
theorem c98 : FnOK Try.prog (tblOf tab) A (98, 261) := ⟨Try.f98, p261, Try.func98, by kernel_rfl, by kernel_rfl, by kernel_rfl, by kernel_rfl⟩
theorem c133 : FnOK Try.prog (tblOf tab) A (133, 81) := ⟨Try.f133, p81, Try.func133, by kernel_rfl, by kernel_rfl, by kernel_rfl, by kernel_rfl⟩
theorem c125 : FnOK Try.prog (tblOf tab) A (125, 127) := ⟨Try.f125, p127, Try.func125, by kernel_rfl, by kernel_rfl, by kernel_rfl, by kernel_rfl⟩
theorem c182 : FnOK Try.prog (tblOf tab) A (182, 136) := ⟨Try.f182, p136, Try.func182, by kernel_rfl, by kernel_rfl, by kernel_rfl, by kernel_rfl⟩
theorem c134 : FnOK Try.prog (tblOf tab) A (134, 80) := ⟨Try.f134, p80, Try.func134, by kernel_rfl, by kernel_rfl, by kernel_rfl, by kernel_rfl⟩
theorem c181 : FnOK Try.prog (tblOf tab) A (181, 298) := ⟨Try.f181, p298, Try.func181, by kernel_rfl, by kernel_rfl, by kernel_rfl, by kernel_rfl⟩
theorem c99 : FnOK Try.prog (tblOf tab) A (99, 262) := ⟨Try.f99, p262, Try.func99, by kernel_rfl, by kernel_rfl, by kernel_rfl, by kernel_rfl⟩
theorem c51 : FnOK Try.prog (tblOf tab) A (51, 236) := ⟨Try.f51, p236, Try.func51, by kernel_rfl, by kernel_rfl, by kernel_rfl, by kernel_rfl⟩
theorem c11 : FnOK Try.prog (tblOf tab) A (11, 217) := ⟨Try.f11, p217, Try.func11, by kernel_rfl, by kernel_rfl, by kernel_rfl, by kernel_rfl⟩
theorem c58 : FnOK Try.prog (tblOf tab) A (58, 56) := ⟨Try.f58, p56, Try.func58, by kernel_rfl, by kernel_rfl, by kernel_rfl, by kernel_rfl⟩
theorem c102 : FnOK Try.prog (tblOf tab) A (102, 73) := ⟨Try.f102, p73, Try.func102, by kernel_rfl, by kernel_rfl, by kernel_rfl, by kernel_rfl⟩
theorem c115 : FnOK Try.prog (tblOf tab) A (115, 74) := ⟨Try.f115, p74, Try.func115, by kernel_rfl, by kernel_rfl, by kernel_rfl, by kernel_rfl⟩
theorem c118 : FnOK Try.prog (tblOf tab) A (118, 75) := ⟨Try.f118, p75, Try.func118, by kernel_rfl, by kernel_rfl, by kernel_rfl, by kernel_rfl⟩
theorem c117 : FnOK Try.prog (tblOf tab) A (117, 85) := ⟨Try.f117, p85, Try.func117, by kernel_rfl, by kernel_rfl, by kernel_rfl, by kernel_rfl⟩
theorem c116 : FnOK Try.prog (tblOf tab) A (116, 96) := ⟨Try.f116, p96, Try.func116, by kernel_rfl, by kernel_rfl, by kernel_rfl, by kernel_rfl⟩
theorem c60 : FnOK Try.prog (tblOf tab) A (60, 57) := ⟨Try.f60, p57, Try.func60, by kernel_rfl, by kernel_rfl, by kernel_rfl, by kernel_rfl⟩
theorem c100 : FnOK Try.prog (tblOf tab) A (100, 67) := ⟨Try.f100, p67, Try.func100, by kernel_rfl, by kernel_rfl, by kernel_rfl, by kernel_rfl⟩
theorem c183 : FnOK Try.prog (tblOf tab) A (183, 115) := ⟨Try.f183, p115, Try.func183, by kernel_rfl, by kernel_rfl, by kernel_rfl, by kernel_rfl⟩
theorem c103 : FnOK Try.prog (tblOf tab) A (103, 82) := ⟨Try.f103, p82, Try.func103, by kernel_rfl, by kernel_rfl, by kernel_rfl, by kernel_rfl⟩
theorem c81 : FnOK Try.prog (tblOf tab) A (81, 89) := ⟨Try.f81, p89, Try.func81, by kernel_rfl, by kernel_rfl, by kernel_rfl, by kernel_rfl⟩
theorem c59 : FnOK Try.prog (tblOf tab) A (59, 239) := ⟨Try.f59, p239, Try.func59, by kernel_rfl, by kernel_rfl, by kernel_rfl, by kernel_rfl⟩
theorem c101 : FnOK Try.prog (tblOf tab) A (101, 263) := ⟨Try.f101, p263, Try.func101, by kernel_rfl, by kernel_rfl, by kernel_rfl, by kernel_rfl⟩
theorem c104 : FnOK Try.prog (tblOf tab) A (104, 264) := ⟨Try.f104, p264, Try.func104, by kernel_rfl, by kernel_rfl, by kernel_rfl, by kernel_rfl⟩
theorem c106 : FnOK Try.prog (tblOf tab) A (106, 299) := ⟨Try.f106, p299, Try.func106, by kernel_rfl, by kernel_rfl, by kernel_rfl, by kernel_rfl⟩
theorem c105 : FnOK Try.prog (tblOf tab) A (105, 265) := ⟨Try.f105, p265, Try.func105, by kernel_rfl, by kernel_rfl, by kernel_rfl, by kernel_rfl⟩
theorem c107 : FnOK Try.prog (tblOf tab) A (107, 266) := ⟨Try.f107, p266, Try.func107, by kernel_rfl, by kernel_rfl, by kernel_rfl, by kernel_rfl⟩
theorem c219 : FnOK Try.prog (tblOf tab) A (219, 130) := ⟨Try.f219, p130, Try.func219, by kernel_rfl, by kernel_rfl, by kernel_rfl, by kernel_rfl⟩
theorem c198 : FnOK Try.prog (tblOf tab) A (198, 129) := ⟨Try.f198, p129, Try.func198, by kernel_rfl, by kernel_rfl, by kernel_rfl, by kernel_rfl⟩
theorem c197 : FnOK Try.prog (tblOf tab) A (197, 116) := ⟨Try.f197, p116, Try.func197, by kernel_rfl, by kernel_rfl, by kernel_rfl, by kernel_rfl⟩
theorem c201 : FnOK Try.prog (tblOf tab) A (201, 128) := ⟨Try.f201, p128, Try.func201, by kernel_rfl, by kernel_rfl, by kernel_rfl, by kernel_rfl⟩
theorem c196 : FnOK Try.prog (tblOf tab) A (196, 117) := ⟨Try.f196, p117, Try.func196, by kernel_rfl, by kernel_rfl, by kernel_rfl, by kernel_rfl⟩
theorem c144 : FnOK Try.prog (tblOf tab) A (144, 90) := ⟨Try.f144, p90, Try.func144, by kernel_rfl, by kernel_rfl, by kernel_rfl, by kernel_rfl⟩
theorem c108 : FnOK Try.prog (tblOf tab) A (108, 267) := ⟨Try.f108, p267, Try.func108, by kernel_rfl, by kernel_rfl, by kernel_rfl, by kernel_rfl⟩
theorem c185 : FnOK Try.prog (tblOf tab) A (185, 118) := ⟨Try.f185, p118, Try.func185, by kernel_rfl, by kernel_rfl, by kernel_rfl, by kernel_rfl⟩
theorem c114 : FnOK Try.prog (tblOf tab) A (114, 92) := ⟨Try.f114, p92, Try.func114, by kernel_rfl, by kernel_rfl, by kernel_rfl, by kernel_rfl⟩
theorem c167 : FnOK Try.prog (tblOf tab) A (167, 132) := ⟨Try.f167, p132, Try.func167, by kernel_rfl, by kernel_rfl, by kernel_rfl, by kernel_rfl⟩
theorem c111 : FnOK Try.prog (tblOf tab) A (111, 124) := ⟨Try.f111, p124, Try.func111, by kernel_rfl, by kernel_rfl, by kernel_rfl, by kernel_rfl⟩
theorem c184 : FnOK Try.prog (tblOf tab) A (184, 119) := ⟨Try.f184, p119, Try.func184, by kernel_rfl, by kernel_rfl, by kernel_rfl, by kernel_rfl⟩
theorem c112 : FnOK Try.prog (tblOf tab) A (112, 300) := ⟨Try.f112, p300, Try.func112, by kernel_rfl, by kernel_rfl, by kernel_rfl, by kernel_rfl⟩
theorem c113 : FnOK Try.prog (tblOf tab) A (113, 301) := ⟨Try.f113, p301, Try.func113, by kernel_rfl, by kernel_rfl, by kernel_rfl, by kernel_rfl⟩
theorem c110 : FnOK Try.prog (tblOf tab) A (110, 268) := ⟨Try.f110, p268, Try.func110, by kernel_rfl, by kernel_rfl, by kernel_rfl, by kernel_rfl⟩
theorem c109 : FnOK Try.prog (tblOf tab) A (109, 269) := ⟨Try.f109, p269, Try.func109, by kernel_rfl, by kernel_rfl, by kernel_rfl, by kernel_rfl⟩
theorem c57 : FnOK Try.prog (tblOf tab) A (57, 238) := ⟨Try.f57, p238, Try.func57, by kernel_rfl, by kernel_rfl, by kernel_rfl, by kernel_rfl⟩
theorem c13 : FnOK Try.prog (tblOf tab) A (13, 218) := ⟨Try.f13, p218, Try.func13, by kernel_rfl, by kernel_rfl, by kernel_rfl, by kernel_rfl⟩
theorem c62 : FnOK Try.prog (tblOf tab) A (62, 240) := ⟨Try.f62, p240, Try.func62, by kernel_rfl, by kernel_rfl, by kernel_rfl, by kernel_rfl⟩
theorem c15 : FnOK Try.prog (tblOf tab) A (15, 219) := ⟨Try.f15, p219, Try.func15, by kernel_rfl, by kernel_rfl, by kernel_rfl, by kernel_rfl⟩
theorem c64 : FnOK Try.prog (tblOf tab) A (64, 241) := ⟨Try.f64, p241, Try.func64, by kernel_rfl, by kernel_rfl, by kernel_rfl, by kernel_rfl⟩
theorem c16 : FnOK Try.prog (tblOf tab) A (16, 220) := ⟨Try.f16, p220, Try.func16, by kernel_rfl, by kernel_rfl, by kernel_rfl, by kernel_rfl⟩
theorem c3 : FnOK Try.prog (tblOf tab) A (3, 314) := ⟨Try.f3, p314, Try.func3, by kernel_rfl, by kernel_rfl, by kernel_rfl, by kernel_rfl⟩
theorem models : Models Try.prog (tblOf tab) A := by
  refine models_of (by kernel_rfl) fun x hx => ?_
  simp only [tab, List.mem_cons, List.not_mem_nil, or_false] at hx
  rcases hx with rfl | rfl | rfl | rfl | rfl | rfl | rfl | rfl | rfl | rfl | rfl | rfl | rfl | rfl | rfl | rfl | rfl | rfl | rfl | rfl | rfl | rfl | rfl | rfl | rfl | rfl | rfl | rfl | rfl | rfl | rfl | rfl | rfl | rfl | rfl | rfl | rfl | rfl | rfl | rfl | rfl | rfl | rfl | rfl | rfl | rfl | rfl | rfl | rfl | rfl | rfl | rfl | rfl | rfl | rfl | rfl | rfl | rfl | rfl | rfl | rfl | rfl | rfl | rfl | rfl | rfl | rfl | rfl | rfl | rfl | rfl | rfl | rfl | rfl | rfl | rfl
  · exact c36
  · exact c61
  · exact c25
  · exact c14
  · exact c39
  · exact c63
  · exact c26
  · exact c17
  · exact c40
  · exact c119
  · exact c65
  · exact c18
  · exact c66
  · exact c49
  · exact c20
  · exact c50
  · exact c10
  · exact c69
  · exact c55
  · exact c23
  · exact c56
  · exact c12
  · exact c52
  · exact c53
  · exact c54
  · exact c96
  · exact c97
  · exact c98
  · exact c133
  · exact c125
  · exact c182
  · exact c134
  · exact c181
  · exact c99
  · exact c51
  · exact c11
  · exact c58
  · exact c102
  · exact c115
  · exact c118
  · exact c117
  · exact c116
  · exact c60
  · exact c100
  · exact c183
  · exact c103
  · exact c81
  · exact c59
  · exact c101
  · exact c104
  · exact c106
  · exact c105
  · exact c107
  · exact c219
  · exact c198
  · exact c197
  · exact c201
  · exact c196
  · exact c144
  · exact c108
  · exact c185
  · exact c114
  · exact c167
  · exact c111
  · exact c184
  · exact c112
  · exact c113
  · exact c110
  · exact c109
  · exact c57
  · exact c13
  · exact c62
  · exact c15
  · exact c64
  · exact c16
  · exact c3
end Rv.Cm
