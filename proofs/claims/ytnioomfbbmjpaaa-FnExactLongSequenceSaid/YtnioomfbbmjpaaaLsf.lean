/- What the row says of the program at large. -/
import Derived.Test.YtnioomfbbmjpaaaRows
import Derived.WalkKit
import Derived.ProofKit
import Derived.SizedLaws
namespace Go.Proofs.Ytnioomfbbmjpaaa.fnExactLongSequence
set_option maxRecDepth 100000
theorem k0 : laidOutB Try.checked.prog = true := by kernel_rfl
theorem k1 : mapsRowed Try.checked.prog = true := by kernel_rfl
theorem k2 : Try.checked.prog.inPlace 9 = Rows.fnExactLongSequenceRow.inPlace := by kernel_rfl
theorem k3 : Try.checked.prog.unfollowed 9 = Rows.fnExactLongSequenceRow.unfollowed := by kernel_rfl
theorem k4 : Try.checked.prog.recurses 9 = Rows.fnExactLongSequenceRow.recurses := by kernel_rfl
theorem k5 : Try.checked.prog.varsNamed 9 = Rows.fnExactLongSequenceRow.named := by kernel_rfl
theorem facts : joinedFacts Try.checked.prog 9 Try.f9 Rows.fnExactLongSequenceSpec Rows.fnExactLongSequenceRow = true := by
  unfold joinedFacts
  rw [k0, k1, k2, k3, k4, k5]
  kernel_rfl
theorem named : Try.checked.prog.funcNamed Rows.fnExactLongSequenceRow.func = some 9 := by kernel_rfl
theorem inst : Try.f9.isInstance Try.checked.prog Rows.fnExactLongSequenceRow.origin Rows.fnExactLongSequenceRow.targs := of_decide_eq_true (by kernel_rfl)
theorem wrap : Try.f9.isWrapper Try.checked.prog Rows.fnExactLongSequenceRow.wrapper Rows.fnExactLongSequenceRow.mainSum := by unfold Func.isWrapper; first | (rw [if_pos (by decide +kernel)]; kernel_rfl) | (rw [if_neg (by decide +kernel)]; exact ⟨rfl, rfl⟩)
end Go.Proofs.Ytnioomfbbmjpaaa.fnExactLongSequence
