/- The law FnExactBarsOf answers true at every call, and what it reads stays as it was. -/
import Derived.Test.YtgiabfngopkpmaaGreatRows
import Derived.Test.YtgiabfngopkpmaaGreatBsf
import Derived.Test.YtgiabfngopkpmaaGreatBsc
import Derived.Test.YtgiabfngopkpmaaGreatBsq1
import Derived.WalkKit
import Derived.ProofKit
import Derived.OpenShut
import Derived.ShutString
import Derived.ChangeOld
import Derived.Below
import Derived.Carry
import Derived.SizedLaws
namespace Go.Proofs.YtgiabfngopkpmaaGreat.fnExactBarsOf
open Go.ChangeShapes Go.WideShapes Go.ChangeAt Go.RowKit
set_option maxRecDepth 100000
set_option linter.unusedVariables false
theorem own:ownKnob Tryz.prog.godebug=none:=by kernel_rfl
theorem laidOut:laidOutB Tryz.prog=true:=by kernel_rfl
theorem o2(w:World):Rv.Opens Tryz.prog (Rv.tblOf Rv.Bs.tab) w 2 1 (Int) (Rv.Long0):=Rv.opens_int Tryz.underlying2 (by kernel_rfl)
theorem o27(w:World):Rv.Opens Tryz.prog (Rv.tblOf Rv.Bs.tab) w 27 1 (List Int) (Rv.LongL Rv.Long0):=Rv.opens_slice Tryz.underlying27 (by kernel_rfl) (by decide) (fun x=> rfl) (o2 w)
theorem o42(w:World):Rv.Opens Tryz.prog (Rv.tblOf Rv.Bs.tab) w 42 1 (List (List Int)) (Rv.LongL (Rv.LongL Rv.Long0)):=Rv.opens_slice Tryz.underlying42 (by kernel_rfl) (by decide) (fun x=> rfl) (o27 w)
theorem o39(w:World):Rv.Opens Tryz.prog (Rv.tblOf Rv.Bs.tab) w 39 1 (List (List (List Int))) (Rv.LongL (Rv.LongL (Rv.LongL Rv.Long0))):=Rv.opens_slice Tryz.underlying39 (by kernel_rfl) (by decide) (fun x=> rfl) (o42 w)
theorem o73(w:World):Rv.Opens Tryz.prog (Rv.tblOf Rv.Bs.tab) w 73 3 (Rv.GComplex) (Rv.LongC):=
 Rv.opens_struct3 (fun x0 x1 x2=>⟨x0,x1,x2⟩) _ Tryz.underlying73 (by kernel_rfl) rfl rfl rfl (o2 w) (o27 w) (o39 w) (fun x0 x1 x2=> rfl) (fun x0 x1 x2 h0 h1 h2=>⟨h0,h1,h2⟩)
theorem o75(w:World):Rv.Opens Tryz.prog (Rv.tblOf Rv.Bs.tab) w 75 4 (Rv.GFiltered) (Rv.LongF):=
 Rv.opens_struct2 (fun x0 x1=>⟨x0,x1⟩) _ Tryz.underlying75 (by kernel_rfl) rfl rfl (o73 w) (o42 w) (fun x0 x1=> rfl) (fun x0 x1 h0 h1=>⟨h0,h1⟩)
theorem answers(x0:Rv.GFiltered)(h0:Rv.LongF x0):∃k,((Rv.Prog.run Rv.A k 388 [Rv.Enc.enc x0] Rv.Heap.empty).map (·.1))=some (.bool true):=by
 exact Rv.ran_of_ans (Rv.s388 x0 (Rv.law50 h0))
theorem walk(w:World)(v0:Value)(x0:Rv.GFiltered)(h0:Rv.LongF x0)(r0:Rv.RI (Rv.tblOf Rv.Bs.tab) (Rv.cellsOf w) (Rv.Enc.enc x0) v0):Calls Tryz.prog 5 #[v0] w fun e w'=> e= .returned (.bool true)∧Below w.heap.size w w':=by
 obtain⟨k,hk⟩:=answers x0 h0;refine(Rv.calls_of_run Rv.Bs.models (f:=5) (g:=388) (by kernel_rfl) hk w (Rv.cellsOf w) (fun _ _ _ h=> h) (cargs:=[v0]) (.cons r0 .nil)).mono ?_;rintro e w' ⟨c,κ,J,rfl,hr,hb⟩;exact⟨by rw[hr.of_bool],hb⟩
theorem lifted(os:Os)(started:os.Started)(H:Type)(enc:TypeId×Value→H):
  ReturnsInHanded {} Tryz.checked os 5 .any (Rows.fnExactBarsOfSpec.pre6 enc Tryz.prog Tryz.f5 Rows.fnExactBarsOfRow.domain false) (Rows.fnExactBarsOfSpec.post enc Tryz.prog Tryz.f5 false true false false):=by
 refine returnsInHanded_of_change_sized (C:=Tryz.checked) own started (by kernel_rfl) Tryz.func5
  (ChangeSpec.witness6 (enc:=enc) (C:=Tryz.checked) false ⟨#[], #[.agg #[.int .i64 0,.slice none 0 0,.slice none 0 0,.slice none 0 0]],[]⟩ 12 (by kernel_rfl) (by kernel_rfl) (by kernel_rfl) (by kernel_rfl)) ?_
 intro W base args ds gs before hval0 hW hcnd hsz0 _;have hval:∀ (j:Nat) t v,Tryz.f5.params[j]? =some t→args[j]? =some v→Value.okWide Tryz.prog W .any base t v:=hval0;have hW':=hW;obtain⟨p,q,hA0,hV,rfl,hfz,hnd⟩:=hW;have hA:DataW.TrodAll enc Tryz.prog W 0 (fun _=> true) true Tryz.f5.params.toList args.toList ds p:=hA0;rw[Tryz.params5]at hA hval;obtain⟨v0,vs0,d0,ds0,p0,q0,hargs,rfl,rfl,h0,r0⟩:=trodAll_cons hA;obtain⟨rfl,rfl,rfl⟩:=trodAll_nil r0;obtain rfl:args= #[v0]:=by cases args; simp_all
 obtain⟨rfl,rfl⟩:=trodVars_none hV;have lt0:∀x∈p0,x.block < W.heap.size:=by obtain⟨m,hm⟩:=h0; exact DataW.trod_lt m _ _ _ hm
 obtain⟨x0,l0,z0⟩:=Rv.opened_struct Tryz.underlying75 (hval 0 75 v0 rfl rfl) (o75 W) (fun x=> rfl) h0;clear hA0 hval0 hsz0;refine(walk W v0 x0 l0 z0).mono fun e W' ⟨he,bel⟩=>?_;subst he;exact⟨_,rfl,_,_,_,[],_,[],hW',trodAll_mk1 (shut_bool Tryz.underlying4 _),(trodAll_cons_mk (Below.trod laidOut (by kernel_rfl) (of_decide_eq_true (by kernel_rfl)) h0 bel lt0) trodAll_mk0),rfl,bel.frame _,fun h=> by cases h⟩
theorem over:Rows.fnExactBarsOfRow.holds Tryz.pinned (OpenSpec.ofChange Rows.fnExactBarsOfSpec):=
 OpenClaim.holds_of_wide 5 Tryz.f5 rfl rfl rfl rfl rfl rfl rfl ⟨rfl,rfl,rfl,rfl,rfl⟩ rfl rfl rfl rfl rfl named Tryz.func5 facts
  inst wrap
  (fun os started H enc _=> lifted os started H enc)
end Go.Proofs.YtgiabfngopkpmaaGreat.fnExactBarsOf
namespace Go.Proofs.YtgiabfngopkpmaaGreat
theorem fnExactBarsOf_holds:Rows.FnExactBarsOfSaid:=fnExactBarsOf.over
end Go.Proofs.YtgiabfngopkpmaaGreat
