/- What the row says of the program at large. -/
import Derived.Test.YthdaojcekpelgaaRows
import Derived.WalkKit
import Derived.ProofKit
import Derived.SizedLaws
namespace Go.Proofs.Ythdaojcekpelgaa.fnExactDifferentialRank
set_option maxRecDepth 100000
theorem k0 : laidOutB Try.checked.prog = true := by kernel_rfl
theorem k1 : mapsRowed Try.checked.prog = true := by kernel_rfl
theorem k2 : Try.checked.prog.inPlace 10 = Rows.fnExactDifferentialRankRow.inPlace := by kernel_rfl
theorem k3 : Try.checked.prog.unfollowed 10 = Rows.fnExactDifferentialRankRow.unfollowed := by kernel_rfl
theorem k4 : Try.checked.prog.recurses 10 = Rows.fnExactDifferentialRankRow.recurses := by kernel_rfl
theorem k5 : Try.checked.prog.varsNamed 10 = Rows.fnExactDifferentialRankRow.named := by kernel_rfl
theorem facts : joinedFacts Try.checked.prog 10 Try.f10 Rows.fnExactDifferentialRankSpec Rows.fnExactDifferentialRankRow = true := by
  unfold joinedFacts
  rw [k0, k1, k2, k3, k4, k5]
  kernel_rfl
theorem named : Try.checked.prog.funcNamed Rows.fnExactDifferentialRankRow.func = some 10 := by kernel_rfl
theorem inst : Try.f10.isInstance Try.checked.prog Rows.fnExactDifferentialRankRow.origin Rows.fnExactDifferentialRankRow.targs := of_decide_eq_true (by kernel_rfl)
theorem wrap : Try.f10.isWrapper Try.checked.prog Rows.fnExactDifferentialRankRow.wrapper Rows.fnExactDifferentialRankRow.mainSum := by unfold Func.isWrapper; first | (rw [if_pos (by decide +kernel)]; kernel_rfl) | (rw [if_neg (by decide +kernel)]; exact ⟨rfl, rfl⟩)
end Go.Proofs.Ythdaojcekpelgaa.fnExactDifferentialRank
