/- What the row says of the program at large. -/
import Derived.Test.YthdaojcekpelgaaRows
import Derived.WalkKit
import Derived.ProofKit
import Derived.SizedLaws
namespace Go.Proofs.Ythdaojcekpelgaa.fnExactPageTable
set_option maxRecDepth 100000
theorem k0 : laidOutB Try.checked.prog = true := by kernel_rfl
theorem k1 : mapsRowed Try.checked.prog = true := by kernel_rfl
theorem k2 : Try.checked.prog.inPlace 14 = Rows.fnExactPageTableRow.inPlace := by kernel_rfl
theorem k3 : Try.checked.prog.unfollowed 14 = Rows.fnExactPageTableRow.unfollowed := by kernel_rfl
theorem k4 : Try.checked.prog.recurses 14 = Rows.fnExactPageTableRow.recurses := by kernel_rfl
theorem k5 : Try.checked.prog.varsNamed 14 = Rows.fnExactPageTableRow.named := by kernel_rfl
theorem facts : joinedFacts Try.checked.prog 14 Try.f14 Rows.fnExactPageTableSpec Rows.fnExactPageTableRow = true := by
  unfold joinedFacts
  rw [k0, k1, k2, k3, k4, k5]
  kernel_rfl
theorem named : Try.checked.prog.funcNamed Rows.fnExactPageTableRow.func = some 14 := by kernel_rfl
theorem inst : Try.f14.isInstance Try.checked.prog Rows.fnExactPageTableRow.origin Rows.fnExactPageTableRow.targs := of_decide_eq_true (by kernel_rfl)
theorem wrap : Try.f14.isWrapper Try.checked.prog Rows.fnExactPageTableRow.wrapper Rows.fnExactPageTableRow.mainSum := by unfold Func.isWrapper; first | (rw [if_pos (by decide +kernel)]; kernel_rfl) | (rw [if_neg (by decide +kernel)]; exact ⟨rfl, rfl⟩)
end Go.Proofs.Ythdaojcekpelgaa.fnExactPageTable
