/- What the row says of the program at large. -/
import Derived.Test.YtnioomfbbmjpaaaRows
import Derived.WalkKit
import Derived.ProofKit
import Derived.SizedLaws
namespace Go.Proofs.Ytnioomfbbmjpaaa.fnExactIsContraction
set_option maxRecDepth 100000
theorem k0 : laidOutB Try.checked.prog = true := by kernel_rfl
theorem k1 : mapsRowed Try.checked.prog = true := by kernel_rfl
theorem k2 : Try.checked.prog.inPlace 5 = Rows.fnExactIsContractionRow.inPlace := by kernel_rfl
theorem k3 : Try.checked.prog.unfollowed 5 = Rows.fnExactIsContractionRow.unfollowed := by kernel_rfl
theorem k4 : Try.checked.prog.recurses 5 = Rows.fnExactIsContractionRow.recurses := by kernel_rfl
theorem k5 : Try.checked.prog.varsNamed 5 = Rows.fnExactIsContractionRow.named := by kernel_rfl
theorem facts : joinedFacts Try.checked.prog 5 Try.f5 Rows.fnExactIsContractionSpec Rows.fnExactIsContractionRow = true := by
  unfold joinedFacts
  rw [k0, k1, k2, k3, k4, k5]
  kernel_rfl
theorem named : Try.checked.prog.funcNamed Rows.fnExactIsContractionRow.func = some 5 := by kernel_rfl
theorem inst : Try.f5.isInstance Try.checked.prog Rows.fnExactIsContractionRow.origin Rows.fnExactIsContractionRow.targs := of_decide_eq_true (by kernel_rfl)
theorem wrap : Try.f5.isWrapper Try.checked.prog Rows.fnExactIsContractionRow.wrapper Rows.fnExactIsContractionRow.mainSum := by unfold Func.isWrapper; first | (rw [if_pos (by decide +kernel)]; kernel_rfl) | (rw [if_neg (by decide +kernel)]; exact ⟨rfl, rfl⟩)
end Go.Proofs.Ytnioomfbbmjpaaa.fnExactIsContraction
