/- What the row says of the program at large. -/
import Derived.Test.YtnioomfbbmjpaaaRows
import Derived.WalkKit
import Derived.ProofKit
import Derived.SizedLaws
namespace Go.Proofs.Ytnioomfbbmjpaaa.fnExactLastPage
set_option maxRecDepth 100000
theorem k0 : laidOutB Try.checked.prog = true := by kernel_rfl
theorem k1 : mapsRowed Try.checked.prog = true := by kernel_rfl
theorem k2 : Try.checked.prog.inPlace 8 = Rows.fnExactLastPageRow.inPlace := by kernel_rfl
theorem k3 : Try.checked.prog.unfollowed 8 = Rows.fnExactLastPageRow.unfollowed := by kernel_rfl
theorem k4 : Try.checked.prog.recurses 8 = Rows.fnExactLastPageRow.recurses := by kernel_rfl
theorem k5 : Try.checked.prog.varsNamed 8 = Rows.fnExactLastPageRow.named := by kernel_rfl
theorem facts : joinedFacts Try.checked.prog 8 Try.f8 Rows.fnExactLastPageSpec Rows.fnExactLastPageRow = true := by
  unfold joinedFacts
  rw [k0, k1, k2, k3, k4, k5]
  kernel_rfl
theorem named : Try.checked.prog.funcNamed Rows.fnExactLastPageRow.func = some 8 := by kernel_rfl
theorem inst : Try.f8.isInstance Try.checked.prog Rows.fnExactLastPageRow.origin Rows.fnExactLastPageRow.targs := of_decide_eq_true (by kernel_rfl)
theorem wrap : Try.f8.isWrapper Try.checked.prog Rows.fnExactLastPageRow.wrapper Rows.fnExactLastPageRow.mainSum := by unfold Func.isWrapper; first | (rw [if_pos (by decide +kernel)]; kernel_rfl) | (rw [if_neg (by decide +kernel)]; exact ⟨rfl, rfl⟩)
end Go.Proofs.Ytnioomfbbmjpaaa.fnExactLastPage
