/- What the row says of the program at large. -/
import Derived.Test.YtoejjfefmcbkpaaGreatRows
import Derived.WalkKit
import Derived.ProofKit
import Derived.SizedLaws
namespace Go.Proofs.YtoejjfefmcbkpaaGreat.fnHomotopies
set_option maxRecDepth 100000
theorem k0:laidOutB Tryz.checked.prog=true:=by kernel_rfl
theorem k1:mapsRowed Tryz.checked.prog=true:=by kernel_rfl
theorem k2:Tryz.checked.prog.inPlace 3=Rows.fnHomotopiesRow.inPlace:=by kernel_rfl
theorem k3:Tryz.checked.prog.unfollowed 3=Rows.fnHomotopiesRow.unfollowed:=by kernel_rfl
theorem k4:Tryz.checked.prog.recurses 3=Rows.fnHomotopiesRow.recurses:=by kernel_rfl
theorem k5:Tryz.checked.prog.varsNamed 3=Rows.fnHomotopiesRow.named:=by kernel_rfl
theorem facts:joinedFacts Tryz.checked.prog 3 Tryz.f3 Rows.fnHomotopiesSpec Rows.fnHomotopiesRow=true:=by
 unfold joinedFacts;rw[k0,k1,k2,k3,k4,k5]
 kernel_rfl
theorem named:Tryz.checked.prog.funcNamed Rows.fnHomotopiesRow.func=some 3:=by kernel_rfl
theorem inst:Tryz.f3.isInstance Tryz.checked.prog Rows.fnHomotopiesRow.origin Rows.fnHomotopiesRow.targs:=of_decide_eq_true (by kernel_rfl)
theorem wrap:Tryz.f3.isWrapper Tryz.checked.prog Rows.fnHomotopiesRow.wrapper Rows.fnHomotopiesRow.mainSum:=by unfold Func.isWrapper; first|(rw[if_pos (by decide+kernel)]; kernel_rfl)|(rw[if_neg (by decide+kernel)]; exact⟨rfl,rfl⟩)
end Go.Proofs.YtoejjfefmcbkpaaGreat.fnHomotopies
