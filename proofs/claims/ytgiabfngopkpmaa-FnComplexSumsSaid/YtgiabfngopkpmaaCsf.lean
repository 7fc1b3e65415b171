/- What the row says of the program at large. -/
import Derived.Test.YtgiabfngopkpmaaRows
import Derived.WalkKit
import Derived.ProofKit
import Derived.SizedLaws
namespace Go.Proofs.Ytgiabfngopkpmaa.fnComplexSums
set_option maxRecDepth 100000
theorem k0:laidOutB Try.checked.prog=true:=by kernel_rfl
theorem k1:mapsRowed Try.checked.prog=true:=by kernel_rfl
theorem k2:Try.checked.prog.inPlace 4=Rows.fnComplexSumsRow.inPlace:=by kernel_rfl
theorem k3:Try.checked.prog.unfollowed 4=Rows.fnComplexSumsRow.unfollowed:=by kernel_rfl
theorem k4:Try.checked.prog.recurses 4=Rows.fnComplexSumsRow.recurses:=by kernel_rfl
theorem k5:Try.checked.prog.varsNamed 4=Rows.fnComplexSumsRow.named:=by kernel_rfl
theorem facts:joinedFacts Try.checked.prog 4 Try.f4 Rows.fnComplexSumsSpec Rows.fnComplexSumsRow=true:=by
 unfold joinedFacts;rw[k0,k1,k2,k3,k4,k5]
 kernel_rfl
theorem named:Try.checked.prog.funcNamed Rows.fnComplexSumsRow.func=some 4:=by kernel_rfl
theorem inst:Try.f4.isInstance Try.checked.prog Rows.fnComplexSumsRow.origin Rows.fnComplexSumsRow.targs:=of_decide_eq_true (by kernel_rfl)
theorem wrap:Try.f4.isWrapper Try.checked.prog Rows.fnComplexSumsRow.wrapper Rows.fnComplexSumsRow.mainSum:=by unfold Func.isWrapper; first|(rw[if_pos (by decide+kernel)]; kernel_rfl)|(rw[if_neg (by decide+kernel)]; exact⟨rfl,rfl⟩)
end Go.Proofs.Ytgiabfngopkpmaa.fnComplexSums
