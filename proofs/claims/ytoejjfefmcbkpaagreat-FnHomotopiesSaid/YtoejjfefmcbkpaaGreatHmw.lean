/- The law FnHomotopies answers true at every call, and what it reads stays as it was. -/
import Derived.Test.YtoejjfefmcbkpaaGreatRows
import Derived.Test.YtoejjfefmcbkpaaGreatHmf
import Derived.Test.YtoejjfefmcbkpaaGreatHmc
import Derived.Test.YtoejjfefmcbkpaaGreatHmq1
import Derived.WalkKit
import Derived.ProofKit
import Derived.OpenShut
import Derived.ShutString
import Derived.ChangeOld
import Derived.Below
import Derived.Carry
import Derived.SizedLaws
namespace Go.Proofs.YtoejjfefmcbkpaaGreat.fnHomotopies
open Go.ChangeShapes Go.WideShapes Go.ChangeAt Go.RowKit
set_option maxRecDepth 100000
set_option linter.unusedVariables false
theorem own:ownKnob Tryz.prog.godebug=none:=by kernel_rfl
theorem laidOut:laidOutB Tryz.prog=true:=by kernel_rfl
theorem o5(w:World):Rv.Opens Tryz.prog (Rv.tblOf Rv.Hm.tab) w 5 1 (Rv.U8) (Rv.LongU):=Rv.opens_u8 Tryz.underlying5 (by kernel_rfl)
theorem o22(w:World):Rv.Opens Tryz.prog (Rv.tblOf Rv.Hm.tab) w 22 1 (List Rv.U8) (Rv.LongL Rv.LongU):=Rv.opens_slice Tryz.underlying22 (by kernel_rfl) (by decide) (fun x=> rfl) (o5 w)
theorem answers(x0:List Rv.U8)(h0:Rv.LongL Rv.LongU x0):∃k,((Rv.Prog.run Rv.A k 502 [Rv.Enc.enc x0] Rv.Heap.empty).map (·.1))=some (.bool true):=by
 exact Rv.ran_of_ans (Rv.s502 x0 (Rv.law77 h0))
theorem walk(w:World)(v0:Value)(x0:List Rv.U8)(h0:Rv.LongL Rv.LongU x0)(r0:Rv.RI (Rv.tblOf Rv.Hm.tab) (Rv.cellsOf w) (Rv.Enc.enc x0) v0):Calls Tryz.prog 3 #[v0] w fun e w'=> e= .returned (.bool true)∧Below w.heap.size w w':=by
 obtain⟨k,hk⟩:=answers x0 h0;refine(Rv.calls_of_run Rv.Hm.models (f:=3) (g:=502) (by kernel_rfl) hk w (Rv.cellsOf w) (fun _ _ _ h=> h) (cargs:=[v0]) (.cons r0 .nil)).mono ?_;rintro e w' ⟨c,κ,J,rfl,hr,hb⟩;exact⟨by rw[hr.of_bool],hb⟩
theorem lifted(os:Os)(started:os.Started)(H:Type)(enc:TypeId×Value→H):
  ReturnsInHanded {} Tryz.checked os 3 .any (Rows.fnHomotopiesSpec.pre6 enc Tryz.prog Tryz.f3 Rows.fnHomotopiesRow.domain false) (Rows.fnHomotopiesSpec.post enc Tryz.prog Tryz.f3 false true false false):=by
 refine returnsInHanded_of_change_sized (C:=Tryz.checked) own started (by kernel_rfl) Tryz.func3
  (ChangeSpec.witness6 (enc:=enc) (C:=Tryz.checked) false ⟨#[], #[.slice none 0 0],[]⟩ 12 (by kernel_rfl) (by kernel_rfl) (by kernel_rfl) (by kernel_rfl)) ?_
 intro W base args ds gs before hval0 hW hcnd hsz0 _;have hval:∀ (j:Nat) t v,Tryz.f3.params[j]? =some t→args[j]? =some v→Value.okWide Tryz.prog W .any base t v:=hval0;have hW':=hW;obtain⟨p,q,hA0,hV,rfl,hfz,hnd⟩:=hW;have hA:DataW.TrodAll enc Tryz.prog W 0 (fun _=> true) true Tryz.f3.params.toList args.toList ds p:=hA0;rw[Tryz.params3]at hA hval;obtain⟨v0,vs0,d0,ds0,p0,q0,hargs,rfl,rfl,h0,r0⟩:=trodAll_cons hA;obtain⟨rfl,rfl,rfl⟩:=trodAll_nil r0;obtain rfl:args= #[v0]:=by cases args; simp_all
 obtain⟨rfl,rfl⟩:=trodVars_none hV;have lt0:∀x∈p0,x.block < W.heap.size:=by obtain⟨m,hm⟩:=h0; exact DataW.trod_lt m _ _ _ hm
 obtain⟨x0,l0,z0⟩:=Rv.opened_slice Tryz.underlying22 (hval 0 22 v0 rfl rfl) (o22 W) h0;clear hA0 hval0 hsz0;refine(walk W v0 x0 l0 z0).mono fun e W' ⟨he,bel⟩=>?_;subst he;exact⟨_,rfl,_,_,_,[],_,[],hW',trodAll_mk1 (shut_bool Tryz.underlying4 _),(trodAll_cons_mk (Below.trod laidOut (by kernel_rfl) (of_decide_eq_true (by kernel_rfl)) h0 bel lt0) trodAll_mk0),rfl,bel.frame _,fun h=> by cases h⟩
theorem over:Rows.fnHomotopiesRow.holds Tryz.pinned (OpenSpec.ofChange Rows.fnHomotopiesSpec):=
 OpenClaim.holds_of_wide 3 Tryz.f3 rfl rfl rfl rfl rfl rfl rfl ⟨rfl,rfl,rfl,rfl,rfl⟩ rfl rfl rfl rfl rfl named Tryz.func3 facts
  inst wrap
  (fun os started H enc _=> lifted os started H enc)
end Go.Proofs.YtoejjfefmcbkpaaGreat.fnHomotopies
namespace Go.Proofs.YtoejjfefmcbkpaaGreat
theorem fnHomotopies_holds:Rows.FnHomotopiesSaid:=fnHomotopies.over
end Go.Proofs.YtoejjfefmcbkpaaGreat
