/- What the row says of the program at large. -/
import Derived.Test.YtnioomfbbmjpaaaRows
import Derived.WalkKit
import Derived.ProofKit
import Derived.SizedLaws
namespace Go.Proofs.Ytnioomfbbmjpaaa.fnExactLevelNumbers
set_option maxRecDepth 100000
theorem k0 : laidOutB Try.checked.prog = true := by kernel_rfl
theorem k1 : mapsRowed Try.checked.prog = true := by kernel_rfl
theorem k2 : Try.checked.prog.inPlace 6 = Rows.fnExactLevelNumbersRow.inPlace := by kernel_rfl
theorem k3 : Try.checked.prog.unfollowed 6 = Rows.fnExactLevelNumbersRow.unfollowed := by kernel_rfl
theorem k4 : Try.checked.prog.recurses 6 = Rows.fnExactLevelNumbersRow.recurses := by kernel_rfl
theorem k5 : Try.checked.prog.varsNamed 6 = Rows.fnExactLevelNumbersRow.named := by kernel_rfl
theorem facts : joinedFacts Try.checked.prog 6 Try.f6 Rows.fnExactLevelNumbersSpec Rows.fnExactLevelNumbersRow = true := by
  unfold joinedFacts
  rw [k0, k1, k2, k3, k4, k5]
  kernel_rfl
theorem named : Try.checked.prog.funcNamed Rows.fnExactLevelNumbersRow.func = some 6 := by kernel_rfl
theorem inst : Try.f6.isInstance Try.checked.prog Rows.fnExactLevelNumbersRow.origin Rows.fnExactLevelNumbersRow.targs := of_decide_eq_true (by kernel_rfl)
theorem wrap : Try.f6.isWrapper Try.checked.prog Rows.fnExactLevelNumbersRow.wrapper Rows.fnExactLevelNumbersRow.mainSum := by unfold Func.isWrapper; first | (rw [if_pos (by decide +kernel)]; kernel_rfl) | (rw [if_neg (by decide +kernel)]; exact ⟨rfl, rfl⟩)
end Go.Proofs.Ytnioomfbbmjpaaa.fnExactLevelNumbers
