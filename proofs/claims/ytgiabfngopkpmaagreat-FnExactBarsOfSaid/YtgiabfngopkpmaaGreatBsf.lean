/- What the row says of the program at large. -/
import Derived.Test.YtgiabfngopkpmaaGreatRows
import Derived.WalkKit
import Derived.ProofKit
import Derived.SizedLaws
namespace Go.Proofs.YtgiabfngopkpmaaGreat.fnExactBarsOf
set_option maxRecDepth 100000
theorem k0:laidOutB Tryz.checked.prog=true:=by kernel_rfl
theorem k1:mapsRowed Tryz.checked.prog=true:=by kernel_rfl
theorem k2:Tryz.checked.prog.inPlace 5=Rows.fnExactBarsOfRow.inPlace:=by kernel_rfl
theorem k3:Tryz.checked.prog.unfollowed 5=Rows.fnExactBarsOfRow.unfollowed:=by kernel_rfl
theorem k4:Tryz.checked.prog.recurses 5=Rows.fnExactBarsOfRow.recurses:=by kernel_rfl
theorem k5:Tryz.checked.prog.varsNamed 5=Rows.fnExactBarsOfRow.named:=by kernel_rfl
theorem facts:joinedFacts Tryz.checked.prog 5 Tryz.f5 Rows.fnExactBarsOfSpec Rows.fnExactBarsOfRow=true:=by
 unfold joinedFacts;rw[k0,k1,k2,k3,k4,k5]
 kernel_rfl
theorem named:Tryz.checked.prog.funcNamed Rows.fnExactBarsOfRow.func=some 5:=by kernel_rfl
theorem inst:Tryz.f5.isInstance Tryz.checked.prog Rows.fnExactBarsOfRow.origin Rows.fnExactBarsOfRow.targs:=of_decide_eq_true (by kernel_rfl)
theorem wrap:Tryz.f5.isWrapper Tryz.checked.prog Rows.fnExactBarsOfRow.wrapper Rows.fnExactBarsOfRow.mainSum:=by unfold Func.isWrapper; first|(rw[if_pos (by decide+kernel)]; kernel_rfl)|(rw[if_neg (by decide+kernel)]; exact⟨rfl,rfl⟩)
end Go.Proofs.YtgiabfngopkpmaaGreat.fnExactBarsOf
