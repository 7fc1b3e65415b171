/- The law FnExactTransferredComplex answers true at every call, and what it reads stays as it was. -/
import Derived.Test.YtfecoipgcigamaaGreatRows
import Derived.Test.YtfecoipgcigamaaGreatTcf
import Derived.Test.YtfecoipgcigamaaGreatTcc
import Derived.Test.YtfecoipgcigamaaGreatTcq1
import Derived.WalkKit
import Derived.ProofKit
import Derived.OpenShut
import Derived.ShutString
import Derived.ChangeOld
import Derived.Below
import Derived.Carry
import Derived.SizedLaws
namespace Go.Proofs.YtfecoipgcigamaaGreat.fnExactTransferredComplex
open Go.ChangeShapes Go.WideShapes Go.ChangeAt Go.RowKit
set_option maxRecDepth 100000
set_option linter.unusedVariables false
theorem own:ownKnob Tryz.prog.godebug=none:=by kernel_rfl
theorem laidOut:laidOutB Tryz.prog=true:=by kernel_rfl
theorem o2(w:World):Rv.Opens Tryz.prog (Rv.tblOf Rv.Tc.tab) w 2 1 (Int) (Rv.Long0):=Rv.opens_int Tryz.underlying2 (by kernel_rfl)
theorem o27(w:World):Rv.Opens Tryz.prog (Rv.tblOf Rv.Tc.tab) w 27 1 (List Int) (Rv.LongL Rv.Long0):=Rv.opens_slice Tryz.underlying27 (by kernel_rfl) (by decide) (fun x=> rfl) (o2 w)
theorem o42(w:World):Rv.Opens Tryz.prog (Rv.tblOf Rv.Tc.tab) w 42 1 (List (List Int)) (Rv.LongL (Rv.LongL Rv.Long0)):=Rv.opens_slice Tryz.underlying42 (by kernel_rfl) (by decide) (fun x=> rfl) (o27 w)
theorem o39(w:World):Rv.Opens Tryz.prog (Rv.tblOf Rv.Tc.tab) w 39 1 (List (List (List Int))) (Rv.LongL (Rv.LongL (Rv.LongL Rv.Long0))):=Rv.opens_slice Tryz.underlying39 (by kernel_rfl) (by decide) (fun x=> rfl) (o42 w)
theorem o65(w:World):Rv.Opens Tryz.prog (Rv.tblOf Rv.Tc.tab) w 65 3 (Rv.GComplex) (Rv.LongC):=
 Rv.opens_struct3 (fun x0 x1 x2=>⟨x0,x1,x2⟩) _ Tryz.underlying65 (by kernel_rfl) rfl rfl rfl (o2 w) (o27 w) (o39 w) (fun x0 x1 x2=> rfl) (fun x0 x1 x2 h0 h1 h2=>⟨h0,h1,h2⟩)
theorem o99(w:World):Rv.Opens Tryz.prog (Rv.tblOf Rv.Tc.tab) w 99 3 (Rv.GContraction) (Rv.LongK):=
 Rv.opens_struct3 (fun x0 x1 x2=>⟨x0,x1,x2⟩) _ Tryz.underlying99 (by kernel_rfl) rfl rfl rfl (o39 w) (o39 w) (o39 w) (fun x0 x1 x2=> rfl) (fun x0 x1 x2 h0 h1 h2=>⟨h0,h1,h2⟩)
theorem answers(x0:Rv.GComplex)(x1:Rv.GContraction)(x2:List (List (List Int)))(h0:Rv.LongC x0)(h1:Rv.LongK x1)(h2:Rv.LongL (Rv.LongL (Rv.LongL Rv.Long0)) x2):∃k,((Rv.Prog.run Rv.A k 363 [Rv.Enc.enc x0,Rv.Enc.enc x1,Rv.Enc.enc x2] Rv.Heap.empty).map (·.1))=some (.bool true):=by
 exact Rv.ran_of_ans (Rv.s363 x0 x1 x2 (Rv.law19 h0 h1 h2))
theorem walk(w:World)(v0 v1 v2:Value)(x0:Rv.GComplex)(x1:Rv.GContraction)(x2:List (List (List Int)))(h0:Rv.LongC x0)(h1:Rv.LongK x1)(h2:Rv.LongL (Rv.LongL (Rv.LongL Rv.Long0)) x2)(r0:Rv.RI (Rv.tblOf Rv.Tc.tab) (Rv.cellsOf w) (Rv.Enc.enc x0) v0)(r1:Rv.RI (Rv.tblOf Rv.Tc.tab) (Rv.cellsOf w) (Rv.Enc.enc x1) v1)(r2:Rv.RI (Rv.tblOf Rv.Tc.tab) (Rv.cellsOf w) (Rv.Enc.enc x2) v2):Calls Tryz.prog 7 #[v0,v1,v2] w fun e w'=> e= .returned (.bool true)∧Below w.heap.size w w':=by
 obtain⟨k,hk⟩:=answers x0 x1 x2 h0 h1 h2;refine(Rv.calls_of_run Rv.Tc.models (f:=7) (g:=363) (by kernel_rfl) hk w (Rv.cellsOf w) (fun _ _ _ h=> h) (cargs:=[v0,v1,v2]) (.cons r0 (.cons r1 (.cons r2 .nil)))).mono ?_;rintro e w' ⟨c,κ,J,rfl,hr,hb⟩;exact⟨by rw[hr.of_bool],hb⟩
theorem lifted(os:Os)(started:os.Started)(H:Type)(enc:TypeId×Value→H):
  ReturnsInHanded {} Tryz.checked os 7 .any (Rows.fnExactTransferredComplexSpec.pre6 enc Tryz.prog Tryz.f7 Rows.fnExactTransferredComplexRow.domain false) (Rows.fnExactTransferredComplexSpec.post enc Tryz.prog Tryz.f7 false true false false):=by
 refine returnsInHanded_of_change_sized (C:=Tryz.checked) own started (by kernel_rfl) Tryz.func7
  (ChangeSpec.witness6 (enc:=enc) (C:=Tryz.checked) false ⟨#[], #[.agg #[.int .i64 0,.slice none 0 0,.slice none 0 0],.agg #[.slice none 0 0,.slice none 0 0,.slice none 0 0],.slice none 0 0],[]⟩ 12 (by kernel_rfl) (by kernel_rfl) (by kernel_rfl) (by kernel_rfl)) ?_
 intro W base args ds gs before hval0 hW hcnd hsz0 _;have hval:∀ (j:Nat) t v,Tryz.f7.params[j]? =some t→args[j]? =some v→Value.okWide Tryz.prog W .any base t v:=hval0;have hW':=hW;obtain⟨p,q,hA0,hV,rfl,hfz,hnd⟩:=hW;have hA:DataW.TrodAll enc Tryz.prog W 0 (fun _=> true) true Tryz.f7.params.toList args.toList ds p:=hA0;rw[Tryz.params7]at hA hval;obtain⟨v0,vs0,d0,ds0,p0,q0,hargs,rfl,rfl,h0,r0⟩:=trodAll_cons hA;obtain⟨v1,vs1,d1,ds1,p1,q1,rfl,rfl,rfl,h1,r1⟩:=trodAll_cons r0;obtain⟨v2,vs2,d2,ds2,p2,q2,rfl,rfl,rfl,h2,r2⟩:=trodAll_cons r1;obtain⟨rfl,rfl,rfl⟩:=trodAll_nil r2;obtain rfl:args= #[v0,v1,v2]:=by cases args; simp_all
 obtain⟨rfl,rfl⟩:=trodVars_none hV;have lt0:∀x∈p0,x.block < W.heap.size:=by obtain⟨m,hm⟩:=h0; exact DataW.trod_lt m _ _ _ hm
 obtain⟨x0,l0,z0⟩:=Rv.opened_struct Tryz.underlying65 (hval 0 65 v0 rfl rfl) (o65 W) (fun x=> rfl) h0;have lt1:∀x∈p1,x.block < W.heap.size:=by obtain⟨m,hm⟩:=h1; exact DataW.trod_lt m _ _ _ hm
 obtain⟨x1,l1,z1⟩:=Rv.opened_struct Tryz.underlying99 (hval 1 99 v1 rfl rfl) (o99 W) (fun x=> rfl) h1;have lt2:∀x∈p2,x.block < W.heap.size:=by obtain⟨m,hm⟩:=h2; exact DataW.trod_lt m _ _ _ hm
 obtain⟨x2,l2,z2⟩:=Rv.opened_slice Tryz.underlying39 (hval 2 39 v2 rfl rfl) (o39 W) h2;clear hA0 hval0 hsz0;refine(walk W v0 v1 v2 x0 x1 x2 l0 l1 l2 z0 z1 z2).mono fun e W' ⟨he,bel⟩=>?_;subst he;exact⟨_,rfl,_,_,_,[],_,[],hW',trodAll_mk1 (shut_bool Tryz.underlying4 _),(trodAll_cons_mk (Below.trod laidOut (by kernel_rfl) (of_decide_eq_true (by kernel_rfl)) h0 bel lt0) (trodAll_cons_mk (Below.trod laidOut (by kernel_rfl) (of_decide_eq_true (by kernel_rfl)) h1 bel lt1) (trodAll_cons_mk (Below.trod laidOut (by kernel_rfl) (of_decide_eq_true (by kernel_rfl)) h2 bel lt2) trodAll_mk0))),rfl,bel.frame _,fun h=> by cases h⟩
theorem over:Rows.fnExactTransferredComplexRow.holds Tryz.pinned (OpenSpec.ofChange Rows.fnExactTransferredComplexSpec):=
 OpenClaim.holds_of_wide 7 Tryz.f7 rfl rfl rfl rfl rfl rfl rfl ⟨rfl,rfl,rfl,rfl,rfl⟩ rfl rfl rfl rfl rfl named Tryz.func7 facts
  inst wrap
  (fun os started H enc _=> lifted os started H enc)
end Go.Proofs.YtfecoipgcigamaaGreat.fnExactTransferredComplex
namespace Go.Proofs.YtfecoipgcigamaaGreat
theorem fnExactTransferredComplex_holds:Rows.FnExactTransferredComplexSaid:=fnExactTransferredComplex.over
end Go.Proofs.YtfecoipgcigamaaGreat
