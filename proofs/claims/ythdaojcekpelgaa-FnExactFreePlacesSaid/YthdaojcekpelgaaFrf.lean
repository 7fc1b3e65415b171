/- What the row says of the program at large. -/
import Derived.Test.YthdaojcekpelgaaRows
import Derived.WalkKit
import Derived.ProofKit
import Derived.SizedLaws
namespace Go.Proofs.Ythdaojcekpelgaa.fnExactFreePlaces
set_option maxRecDepth 100000
theorem k0 : laidOutB Try.checked.prog = true := by kernel_rfl
theorem k1 : mapsRowed Try.checked.prog = true := by kernel_rfl
theorem k2 : Try.checked.prog.inPlace 7 = Rows.fnExactFreePlacesRow.inPlace := by kernel_rfl
theorem k3 : Try.checked.prog.unfollowed 7 = Rows.fnExactFreePlacesRow.unfollowed := by kernel_rfl
theorem k4 : Try.checked.prog.recurses 7 = Rows.fnExactFreePlacesRow.recurses := by kernel_rfl
theorem k5 : Try.checked.prog.varsNamed 7 = Rows.fnExactFreePlacesRow.named := by kernel_rfl
theorem facts : joinedFacts Try.checked.prog 7 Try.f7 Rows.fnExactFreePlacesSpec Rows.fnExactFreePlacesRow = true := by
  unfold joinedFacts
  rw [k0, k1, k2, k3, k4, k5]
  kernel_rfl
theorem named : Try.checked.prog.funcNamed Rows.fnExactFreePlacesRow.func = some 7 := by kernel_rfl
theorem inst : Try.f7.isInstance Try.checked.prog Rows.fnExactFreePlacesRow.origin Rows.fnExactFreePlacesRow.targs := of_decide_eq_true (by kernel_rfl)
theorem wrap : Try.f7.isWrapper Try.checked.prog Rows.fnExactFreePlacesRow.wrapper Rows.fnExactFreePlacesRow.mainSum := by unfold Func.isWrapper; first | (rw [if_pos (by decide +kernel)]; kernel_rfl) | (rw [if_neg (by decide +kernel)]; exact ⟨rfl, rfl⟩)
end Go.Proofs.Ythdaojcekpelgaa.fnExactFreePlaces
