/- What the row says of the program at large. -/
import Derived.Test.YtgiabfngopkpmaaRows
import Derived.WalkKit
import Derived.ProofKit
import Derived.SizedLaws
namespace Go.Proofs.Ytgiabfngopkpmaa.fnExactHomologyProduct
set_option maxRecDepth 100000
theorem k0:laidOutB Try.checked.prog=true:=by kernel_rfl
theorem k1:mapsRowed Try.checked.prog=true:=by kernel_rfl
theorem k2:Try.checked.prog.inPlace 3=Rows.fnExactHomologyProductRow.inPlace:=by kernel_rfl
theorem k3:Try.checked.prog.unfollowed 3=Rows.fnExactHomologyProductRow.unfollowed:=by kernel_rfl
theorem k4:Try.checked.prog.recurses 3=Rows.fnExactHomologyProductRow.recurses:=by kernel_rfl
theorem k5:Try.checked.prog.varsNamed 3=Rows.fnExactHomologyProductRow.named:=by kernel_rfl
theorem facts:joinedFacts Try.checked.prog 3 Try.f3 Rows.fnExactHomologyProductSpec Rows.fnExactHomologyProductRow=true:=by
 unfold joinedFacts;rw[k0,k1,k2,k3,k4,k5]
 kernel_rfl
theorem named:Try.checked.prog.funcNamed Rows.fnExactHomologyProductRow.func=some 3:=by kernel_rfl
theorem inst:Try.f3.isInstance Try.checked.prog Rows.fnExactHomologyProductRow.origin Rows.fnExactHomologyProductRow.targs:=of_decide_eq_true (by kernel_rfl)
theorem wrap:Try.f3.isWrapper Try.checked.prog Rows.fnExactHomologyProductRow.wrapper Rows.fnExactHomologyProductRow.mainSum:=by unfold Func.isWrapper; first|(rw[if_pos (by decide+kernel)]; kernel_rfl)|(rw[if_neg (by decide+kernel)]; exact⟨rfl,rfl⟩)
end Go.Proofs.Ytgiabfngopkpmaa.fnExactHomologyProduct
