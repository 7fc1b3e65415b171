/- What the row says of the program at large. -/
import Derived.Test.YtgiabfngopkpmaaGreatRows
import Derived.WalkKit
import Derived.ProofKit
import Derived.SizedLaws
namespace Go.Proofs.YtgiabfngopkpmaaGreat.fnExactPageProduct
set_option maxRecDepth 100000
theorem k0:laidOutB Tryz.checked.prog=true:=by kernel_rfl
theorem k1:mapsRowed Tryz.checked.prog=true:=by kernel_rfl
theorem k2:Tryz.checked.prog.inPlace 4=Rows.fnExactPageProductRow.inPlace:=by kernel_rfl
theorem k3:Tryz.checked.prog.unfollowed 4=Rows.fnExactPageProductRow.unfollowed:=by kernel_rfl
theorem k4:Tryz.checked.prog.recurses 4=Rows.fnExactPageProductRow.recurses:=by kernel_rfl
theorem k5:Tryz.checked.prog.varsNamed 4=Rows.fnExactPageProductRow.named:=by kernel_rfl
theorem facts:joinedFacts Tryz.checked.prog 4 Tryz.f4 Rows.fnExactPageProductSpec Rows.fnExactPageProductRow=true:=by
 unfold joinedFacts;rw[k0,k1,k2,k3,k4,k5]
 kernel_rfl
theorem named:Tryz.checked.prog.funcNamed Rows.fnExactPageProductRow.func=some 4:=by kernel_rfl
theorem inst:Tryz.f4.isInstance Tryz.checked.prog Rows.fnExactPageProductRow.origin Rows.fnExactPageProductRow.targs:=of_decide_eq_true (by kernel_rfl)
theorem wrap:Tryz.f4.isWrapper Tryz.checked.prog Rows.fnExactPageProductRow.wrapper Rows.fnExactPageProductRow.mainSum:=by unfold Func.isWrapper; first|(rw[if_pos (by decide+kernel)]; kernel_rfl)|(rw[if_neg (by decide+kernel)]; exact⟨rfl,rfl⟩)
end Go.Proofs.YtgiabfngopkpmaaGreat.fnExactPageProduct
