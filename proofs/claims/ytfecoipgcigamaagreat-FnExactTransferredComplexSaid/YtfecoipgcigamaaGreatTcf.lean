/- What the row says of the program at large. -/
import Derived.Test.YtfecoipgcigamaaGreatRows
import Derived.WalkKit
import Derived.ProofKit
import Derived.SizedLaws
namespace Go.Proofs.YtfecoipgcigamaaGreat.fnExactTransferredComplex
set_option maxRecDepth 100000
theorem k0:laidOutB Tryz.checked.prog=true:=by kernel_rfl
theorem k1:mapsRowed Tryz.checked.prog=true:=by kernel_rfl
theorem k2:Tryz.checked.prog.inPlace 7=Rows.fnExactTransferredComplexRow.inPlace:=by kernel_rfl
theorem k3:Tryz.checked.prog.unfollowed 7=Rows.fnExactTransferredComplexRow.unfollowed:=by kernel_rfl
theorem k4:Tryz.checked.prog.recurses 7=Rows.fnExactTransferredComplexRow.recurses:=by kernel_rfl
theorem k5:Tryz.checked.prog.varsNamed 7=Rows.fnExactTransferredComplexRow.named:=by kernel_rfl
theorem facts:joinedFacts Tryz.checked.prog 7 Tryz.f7 Rows.fnExactTransferredComplexSpec Rows.fnExactTransferredComplexRow=true:=by
 unfold joinedFacts;rw[k0,k1,k2,k3,k4,k5]
 kernel_rfl
theorem named:Tryz.checked.prog.funcNamed Rows.fnExactTransferredComplexRow.func=some 7:=by kernel_rfl
theorem inst:Tryz.f7.isInstance Tryz.checked.prog Rows.fnExactTransferredComplexRow.origin Rows.fnExactTransferredComplexRow.targs:=of_decide_eq_true (by kernel_rfl)
theorem wrap:Tryz.f7.isWrapper Tryz.checked.prog Rows.fnExactTransferredComplexRow.wrapper Rows.fnExactTransferredComplexRow.mainSum:=by unfold Func.isWrapper; first|(rw[if_pos (by decide+kernel)]; kernel_rfl)|(rw[if_neg (by decide+kernel)]; exact⟨rfl,rfl⟩)
end Go.Proofs.YtfecoipgcigamaaGreat.fnExactTransferredComplex
