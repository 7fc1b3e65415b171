/- The abstract code is what the translated functions are compiled to. -/
import Derived.Test.YtjcipnbpeagglaaNdp
import Derived.Test.YtjcipnbpeagglaaChecked
import Derived.KernelRfl
namespace Rv.Nd
open Go.Proofs
set_option maxRecDepth 100000
theorem c9 : FnOK Try.prog (tblOf tab) A (9, 1) := ⟨Try.f9, p1, Try.func9, by kernel_rfl, by kernel_rfl, by kernel_rfl, by kernel_rfl⟩
theorem c10 : FnOK Try.prog (tblOf tab) A (10, 2) := ⟨Try.f10, p2, Try.func10, by kernel_rfl, by kernel_rfl, by kernel_rfl, by kernel_rfl⟩
theorem c11 : FnOK Try.prog (tblOf tab) A (11, 3) := ⟨Try.f11, p3, Try.func11, by kernel_rfl, by kernel_rfl, by kernel_rfl, by kernel_rfl⟩
theorem c12 : FnOK Try.prog (tblOf tab) A (12, 4) := ⟨Try.f12, p4, Try.func12, by kernel_rfl, by kernel_rfl, by kernel_rfl, by kernel_rfl⟩
theorem c13 : FnOK Try.prog (tblOf tab) A (13, 5) := ⟨Try.f13, p5, Try.func13, by kernel_rfl, by kernel_rfl, by kernel_rfl, by kernel_rfl⟩
theorem c24 : FnOK Try.prog (tblOf tab) A (24, 16) := ⟨Try.f24, p16, Try.func24, by kernel_rfl, by kernel_rfl, by kernel_rfl, by kernel_rfl⟩
theorem c25 : FnOK Try.prog (tblOf tab) A (25, 17) := ⟨Try.f25, p17, Try.func25, by kernel_rfl, by kernel_rfl, by kernel_rfl, by kernel_rfl⟩
theorem c28 : FnOK Try.prog (tblOf tab) A (28, 20) := ⟨Try.f28, p20, Try.func28, by kernel_rfl, by kernel_rfl, by kernel_rfl, by kernel_rfl⟩
theorem c29 : FnOK Try.prog (tblOf tab) A (29, 21) := ⟨Try.f29, p21, Try.func29, by kernel_rfl, by kernel_rfl, by kernel_rfl, by kernel_rfl⟩
theorem c30 : FnOK Try.prog (tblOf tab) A (30, 22) := ⟨Try.f30, p22, Try.func30, by kernel_rfl, by kernel_rfl, by kernel_rfl, by kernel_rfl⟩
theorem c33 : FnOK Try.prog (tblOf tab) A (33, 25) := ⟨Try.f33, p25, Try.func33, by kernel_rfl, by kernel_rfl, by kernel_rfl, by kernel_rfl⟩
theorem c34 : FnOK Try.prog (tblOf tab) A (34, 26) := ⟨Try.f34, p26, Try.func34, by kernel_rfl, by kernel_rfl, by kernel_rfl, by kernel_rfl⟩
theorem c35 : FnOK Try.prog (tblOf tab) A (35, 27) := ⟨Try.f35, p27, Try.func35, by kernel_rfl, by kernel_rfl, by kernel_rfl, by kernel_rfl⟩
theorem c38 : FnOK Try.prog (tblOf tab) A (38, 30) := ⟨Try.f38, p30, Try.func38, by kernel_rfl, by kernel_rfl, by kernel_rfl, by kernel_rfl⟩
theorem c39 : FnOK Try.prog (tblOf tab) A (39, 31) := ⟨Try.f39, p31, Try.func39, by kernel_rfl, by kernel_rfl, by kernel_rfl, by kernel_rfl⟩
theorem c40 : FnOK Try.prog (tblOf tab) A (40, 32) := ⟨Try.f40, p32, Try.func40, by kernel_rfl, by kernel_rfl, by kernel_rfl, by kernel_rfl⟩
theorem c41 : FnOK Try.prog (tblOf tab) A (41, 33) := ⟨Try.f41, p33, Try.func41, by kernel_rfl, by kernel_rfl, by kernel_rfl, by kernel_rfl⟩
theorem c42 : FnOK Try.prog (tblOf tab) A (42, 34) := ⟨Try.f42, p34, Try.func42, by kernel_rfl, by kernel_rfl, by kernel_rfl, by kernel_rfl⟩
theorem c43 : FnOK Try.prog (tblOf tab) A (43, 35) := ⟨Try.f43, p35, Try.func43, by kernel_rfl, by kernel_rfl, by kernel_rfl, by kernel_rfl⟩
theorem c44 : FnOK Try.prog (tblOf tab) A (44, 36) := ⟨Try.f44, p36, Try.func44, by kernel_rfl, by kernel_rfl, by kernel_rfl, by kernel_rfl⟩
theorem c59 : FnOK Try.prog (tblOf tab) A (59, 51) := ⟨Try.f59, p51, Try.func59, by kernel_rfl, by kernel_rfl, by kernel_rfl, by kernel_rfl⟩
theorem c60 : FnOK Try.prog (tblOf tab) A (60, 52) := ⟨Try.f60, p52, Try.func60, by kernel_rfl, by kernel_rfl, by kernel_rfl, by kernel_rfl⟩
theorem c61 : FnOK Try.prog (tblOf tab) A (61, 53) := ⟨Try.f61, p53, Try.func61, by kernel_rfl, by kernel_rfl, by kernel_rfl, by kernel_rfl⟩
theorem c64 : FnOK Try.prog (tblOf tab) A (64, 56) := ⟨Try.f64, p56, Try.func64, by kernel_rfl, by kernel_rfl, by kernel_rfl, by kernel_rfl⟩
theorem c67 : FnOK Try.prog (tblOf tab) A (67, 59) := ⟨Try.f67, p59, Try.func67, by kernel_rfl, by kernel_rfl, by kernel_rfl, by kernel_rfl⟩
theorem c72 : FnOK Try.prog (tblOf tab) A (72, 64) := ⟨Try.f72, p64, Try.func72, by kernel_rfl, by kernel_rfl, by kernel_rfl, by kernel_rfl⟩
theorem c73 : FnOK Try.prog (tblOf tab) A (73, 65) := ⟨Try.f73, p65, Try.func73, by kernel_rfl, by kernel_rfl, by kernel_rfl, by kernel_rfl⟩
theorem c74 : FnOK Try.prog (tblOf tab) A (74, 66) := ⟨Try.f74, p66, Try.func74, by kernel_rfl, by kernel_rfl, by kernel_rfl, by kernel_rfl⟩
theorem c75 : FnOK Try.prog (tblOf tab) A (75, 67) := ⟨Try.f75, p67, Try.func75, by kernel_rfl, by kernel_rfl, by kernel_rfl, by kernel_rfl⟩
theorem c76 : FnOK Try.prog (tblOf tab) A (76, 68) := ⟨Try.f76, p68, Try.func76, by kernel_rfl, by kernel_rfl, by kernel_rfl, by kernel_rfl⟩
theorem c77 : FnOK Try.prog (tblOf tab) A (77, 69) := ⟨Try.f77, p69, Try.func77, by kernel_rfl, by kernel_rfl, by kernel_rfl, by kernel_rfl⟩
theorem c78 : FnOK Try.prog (tblOf tab) A (78, 70) := ⟨Try.f78, p70, Try.func78, by kernel_rfl, by kernel_rfl, by kernel_rfl, by kernel_rfl⟩
theorem c79 : FnOK Try.prog (tblOf tab) A (79, 71) := ⟨Try.f79, p71, Try.func79, by kernel_rfl, by kernel_rfl, by kernel_rfl, by kernel_rfl⟩
theorem c80 : FnOK Try.prog (tblOf tab) A (80, 72) := ⟨Try.f80, p72, Try.func80, by kernel_rfl, by kernel_rfl, by kernel_rfl, by kernel_rfl⟩
theorem c81 : FnOK Try.prog (tblOf tab) A (81, 73) := ⟨Try.f81, p73, Try.func81, by kernel_rfl, by kernel_rfl, by kernel_rfl, by kernel_rfl⟩
theorem c82 : FnOK Try.prog (tblOf tab) A (82, 74) := ⟨Try.f82, p74, Try.func82, by kernel_rfl, by kernel_rfl, by kernel_rfl, by kernel_rfl⟩
theorem c83 : FnOK Try.prog (tblOf tab) A (83, 75) := ⟨Try.f83, p75, Try.func83, by kernel_rfl, by kernel_rfl, by kernel_rfl, by kernel_rfl⟩
theorem c104 : FnOK Try.prog (tblOf tab) A (104, 96) := ⟨Try.f104, p96, Try.func104, by kernel_rfl, by kernel_rfl, by kernel_rfl, by kernel_rfl⟩
theorem c112 : FnOK Try.prog (tblOf tab) A (112, 104) := ⟨Try.f112, p104, Try.func112, by kernel_rfl, by kernel_rfl, by kernel_rfl, by kernel_rfl⟩
theorem c113 : FnOK Try.prog (tblOf tab) A (113, 105) := ⟨Try.f113, p105, Try.func113, by kernel_rfl, by kernel_rfl, by kernel_rfl, by kernel_rfl⟩
theorem c114 : FnOK Try.prog (tblOf tab) A (114, 106) := ⟨Try.f114, p106, Try.func114, by kernel_rfl, by kernel_rfl, by kernel_rfl, by kernel_rfl⟩
theorem c115 : FnOK Try.prog (tblOf tab) A (115, 107) := ⟨Try.f115, p107, Try.func115, by kernel_rfl, by kernel_rfl, by kernel_rfl, by kernel_rfl⟩
theorem c3 : FnOK Try.prog (tblOf tab) A (3, 109) := ⟨Try.f3, p109, Try.func3, by kernel_rfl, by kernel_rfl, by kernel_rfl, by kernel_rfl⟩
theorem c129 : FnOK Try.prog (tblOf tab) A (129, 127) := ⟨Try.f129, p127, Try.func129, by kernel_rfl, by kernel_rfl, by kernel_rfl, by kernel_rfl⟩
theorem models : Models Try.prog (tblOf tab) A := by
  refine models_of (by kernel_rfl) fun x hx => ?_
  simp only [tab, List.mem_cons, List.not_mem_nil, or_false] at hx
  rcases hx with rfl | rfl | rfl | rfl | rfl | rfl | rfl | rfl | rfl | rfl | rfl | rfl | rfl | rfl | rfl | rfl | rfl | rfl | rfl | rfl | rfl | rfl | rfl | rfl | rfl | rfl | rfl | rfl | rfl | rfl | rfl | rfl | rfl | rfl | rfl | rfl | rfl | rfl | rfl | rfl | rfl | rfl | rfl | rfl
  · exact c9
  · exact c10
  · exact c11
  · exact c12
  · exact c13
  · exact c24
  · exact c25
  · exact c28
  · exact c29
  · exact c30
  · exact c33
  · exact c34
  · exact c35
  · exact c38
  · exact c39
  · exact c40
  · exact c41
  · exact c42
  · exact c43
  · exact c44
  · exact c59
  · exact c60
  · exact c61
  · exact c64
  · exact c67
  · exact c72
  · exact c73
  · exact c74
  · exact c75
  · exact c76
  · exact c77
  · exact c78
  · exact c79
  · exact c80
  · exact c81
  · exact c82
  · exact c83
  · exact c104
  · exact c112
  · exact c113
  · exact c114
  · exact c115
  · exact c3
  · exact c129
end Rv.Nd
