/- What the row says of the program at large. -/
import Derived.Test.YtadnnniccgdigaaGreatRows
import Derived.WalkKit
import Derived.ProofKit
import Derived.SizedLaws
namespace Go.Proofs.YtadnnniccgdigaaGreat.fnFilteredParts
set_option maxRecDepth 100000
theorem k0:laidOutB Tryz.checked.prog=true:=by kernel_rfl
theorem k1:mapsRowed Tryz.checked.prog=true:=by kernel_rfl
theorem k2:Tryz.checked.prog.inPlace 5=Rows.fnFilteredPartsRow.inPlace:=by kernel_rfl
theorem k3:Tryz.checked.prog.unfollowed 5=Rows.fnFilteredPartsRow.unfollowed:=by kernel_rfl
theorem k4:Tryz.checked.prog.recurses 5=Rows.fnFilteredPartsRow.recurses:=by kernel_rfl
theorem k5:Tryz.checked.prog.varsNamed 5=Rows.fnFilteredPartsRow.named:=by kernel_rfl
theorem facts:joinedFacts Tryz.checked.prog 5 Tryz.f5 Rows.fnFilteredPartsSpec Rows.fnFilteredPartsRow=true:=by
 unfold joinedFacts;rw[k0,k1,k2,k3,k4,k5]
 kernel_rfl
theorem named:Tryz.checked.prog.funcNamed Rows.fnFilteredPartsRow.func=some 5:=by kernel_rfl
theorem inst:Tryz.f5.isInstance Tryz.checked.prog Rows.fnFilteredPartsRow.origin Rows.fnFilteredPartsRow.targs:=of_decide_eq_true (by kernel_rfl)
theorem wrap:Tryz.f5.isWrapper Tryz.checked.prog Rows.fnFilteredPartsRow.wrapper Rows.fnFilteredPartsRow.mainSum:=by unfold Func.isWrapper; first|(rw[if_pos (by decide+kernel)]; kernel_rfl)|(rw[if_neg (by decide+kernel)]; exact⟨rfl,rfl⟩)
end Go.Proofs.YtadnnniccgdigaaGreat.fnFilteredParts
