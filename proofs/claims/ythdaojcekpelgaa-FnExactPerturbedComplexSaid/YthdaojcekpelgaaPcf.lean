/- What the row says of the program at large. -/
import Derived.Test.YthdaojcekpelgaaRows
import Derived.WalkKit
import Derived.ProofKit
import Derived.SizedLaws
namespace Go.Proofs.Ythdaojcekpelgaa.fnExactPerturbedComplex
set_option maxRecDepth 100000
theorem k0 : laidOutB Try.checked.prog = true := by kernel_rfl
theorem k1 : mapsRowed Try.checked.prog = true := by kernel_rfl
theorem k2 : Try.checked.prog.inPlace 5 = Rows.fnExactPerturbedComplexRow.inPlace := by kernel_rfl
theorem k3 : Try.checked.prog.unfollowed 5 = Rows.fnExactPerturbedComplexRow.unfollowed := by kernel_rfl
theorem k4 : Try.checked.prog.recurses 5 = Rows.fnExactPerturbedComplexRow.recurses := by kernel_rfl
theorem k5 : Try.checked.prog.varsNamed 5 = Rows.fnExactPerturbedComplexRow.named := by kernel_rfl
theorem facts : joinedFacts Try.checked.prog 5 Try.f5 Rows.fnExactPerturbedComplexSpec Rows.fnExactPerturbedComplexRow = true := by
  unfold joinedFacts
  rw [k0, k1, k2, k3, k4, k5]
  kernel_rfl
theorem named : Try.checked.prog.funcNamed Rows.fnExactPerturbedComplexRow.func = some 5 := by kernel_rfl
theorem inst : Try.f5.isInstance Try.checked.prog Rows.fnExactPerturbedComplexRow.origin Rows.fnExactPerturbedComplexRow.targs := of_decide_eq_true (by kernel_rfl)
theorem wrap : Try.f5.isWrapper Try.checked.prog Rows.fnExactPerturbedComplexRow.wrapper Rows.fnExactPerturbedComplexRow.mainSum := by unfold Func.isWrapper; first | (rw [if_pos (by decide +kernel)]; kernel_rfl) | (rw [if_neg (by decide +kernel)]; exact ⟨rfl, rfl⟩)
end Go.Proofs.Ythdaojcekpelgaa.fnExactPerturbedComplex
