/- The law FnExactColumnOf answers true at every call, and what it reads stays as it was. -/
import Derived.Test.YtnioomfbbmjpaaaRows
import Derived.Test.YtnioomfbbmjpaaaCmf
import Derived.Test.YtnioomfbbmjpaaaCmc
import Derived.Test.YtnioomfbbmjpaaaCmq
import Derived.WalkKit
import Derived.ProofKit
import Derived.OpenShut
import Derived.ShutString
import Derived.ChangeOld
import Derived.Below
import Derived.Carry
import Derived.SizedLaws
namespace Go.Proofs.Ytnioomfbbmjpaaa.fnExactColumnOf
open Go.ChangeShapes Go.WideShapes Go.ChangeAt Go.RowKit
set_option maxRecDepth 100000
set_option linter.unusedVariables false
theorem own : ownKnob Try.prog.godebug = none := by kernel_rfl
theorem laidOut : laidOutB Try.prog = true := by kernel_rfl
theorem o2 (w : World) : Rv.Opens Try.prog (Rv.tblOf Rv.Cm.tab) w 2 1 (Int) (Rv.Long0) := Rv.opens_int Try.underlying2 (by kernel_rfl)
theorem o27 (w : World) : Rv.Opens Try.prog (Rv.tblOf Rv.Cm.tab) w 27 1 (List Int) (Rv.LongL Rv.Long0) := Rv.opens_slice Try.underlying27 (by kernel_rfl) (by decide) (fun x => rfl) (o2 w)
theorem o22 (w : World) : Rv.Opens Try.prog (Rv.tblOf Rv.Cm.tab) w 22 1 (List (List Int)) (Rv.LongL (Rv.LongL Rv.Long0)) := Rv.opens_slice Try.underlying22 (by kernel_rfl) (by decide) (fun x => rfl) (o27 w)
theorem o28 (w : World) : Rv.Opens Try.prog (Rv.tblOf Rv.Cm.tab) w 28 1 (List (List (List Int))) (Rv.LongL (Rv.LongL (Rv.LongL Rv.Long0))) := Rv.opens_slice Try.underlying28 (by kernel_rfl) (by decide) (fun x => rfl) (o22 w)
theorem o23 (w : World) : Rv.Opens Try.prog (Rv.tblOf Rv.Cm.tab) w 23 1 (List (List (List (List Int)))) (Rv.LongL (Rv.LongL (Rv.LongL (Rv.LongL Rv.Long0)))) := Rv.opens_slice Try.underlying23 (by kernel_rfl) (by decide) (fun x => rfl) (o28 w)
theorem o25 (w : World) : Rv.Opens Try.prog (Rv.tblOf Rv.Cm.tab) w 25 4 (Rv.GDouble) (Rv.LongB) := 
  Rv.opens_struct4 (fun x0 x1 x2 x3 => ⟨x0, x1, x2, x3⟩) _ Try.underlying25 (by kernel_rfl) rfl rfl rfl rfl (o2 w) (o22 w) (o23 w) (o23 w) (fun x0 x1 x2 x3 => rfl) (fun x0 x1 x2 x3 h0 h1 h2 h3 => ⟨h0, h1, h2, h3⟩)
theorem answers (x0 : Rv.GDouble) (x1 : Int) (h0 : Rv.LongB x0) (h1 : Rv.Long0 x1) : ∃ k, ((Rv.Prog.run Rv.A k 314 [Rv.Enc.enc x0, Rv.Enc.enc x1] Rv.Heap.empty).map (·.1)) = some (.bool true) := by
  exact Rv.ran_of_ans (Rv.s314 x0 x1 (Rv.law17 h0 h1))
theorem walk (w : World) (v0 v1 : Value) (x0 : Rv.GDouble) (x1 : Int) (h0 : Rv.LongB x0) (h1 : Rv.Long0 x1) (r0 : Rv.RI (Rv.tblOf Rv.Cm.tab) (Rv.cellsOf w) (Rv.Enc.enc x0) v0) (r1 : Rv.RI (Rv.tblOf Rv.Cm.tab) (Rv.cellsOf w) (Rv.Enc.enc x1) v1) : Calls Try.prog 3 #[v0, v1] w fun e w' => e = .returned (.bool true) ∧ Below w.heap.size w w' := by
  obtain ⟨k, hk⟩ := answers x0 x1 h0 h1
  refine (Rv.calls_of_run Rv.Cm.models (f := 3) (g := 314) (by kernel_rfl) hk w (Rv.cellsOf w) (fun _ _ _ h => h) (cargs := [v0, v1]) (.cons r0 (.cons r1 .nil))).mono ?_
  rintro e w' ⟨c, κ, J, rfl, hr, hb⟩
  exact ⟨by rw [hr.of_bool], hb⟩
theorem lifted (os : Os) (started : os.Started) (H : Type) (enc : TypeId × Value → H) :
    ReturnsInHanded {} Try.checked os 3 .any (Rows.fnExactColumnOfSpec.pre6 enc Try.prog Try.f3 Rows.fnExactColumnOfRow.domain false) (Rows.fnExactColumnOfSpec.post enc Try.prog Try.f3 false true false false) := by
  refine returnsInHanded_of_change_sized (C := Try.checked) own started (by kernel_rfl) Try.func3
    (ChangeSpec.witness6 (enc := enc) (C := Try.checked) false ⟨#[], #[.agg #[.int .i64 0, .slice none 0 0, .slice none 0 0, .slice none 0 0], .int .i64 0], []⟩ 12 (by kernel_rfl) (by kernel_rfl) (by kernel_rfl) (by kernel_rfl)) ?_
  intro W base args ds gs before hval0 hW hcnd hsz0 _
  have hval : ∀ (j : Nat) t v, Try.f3.params[j]? = some t → args[j]? = some v → Value.okWide Try.prog W .any base t v := hval0
  have hW' := hW
  obtain ⟨p, q, hA0, hV, rfl, hfz, hnd⟩ := hW
  have hA : DataW.TrodAll enc Try.prog W 0 (fun _ => true) true Try.f3.params.toList args.toList ds p := hA0
  rw [Try.params3] at hA hval
  obtain ⟨v0, vs0, d0, ds0, p0, q0, hargs, rfl, rfl, h0, r0⟩ := trodAll_cons hA
  obtain ⟨v1, vs1, d1, ds1, p1, q1, rfl, rfl, rfl, h1, r1⟩ := trodAll_cons r0
  obtain ⟨rfl, rfl, rfl⟩ := trodAll_nil r1
  obtain rfl : args = #[v0, v1] := by cases args; simp_all
  obtain ⟨rfl, rfl⟩ := trodVars_none hV
  have lt0 : ∀ x ∈ p0, x.block < W.heap.size := by obtain ⟨m, hm⟩ := h0; exact DataW.trod_lt m _ _ _ hm
  obtain ⟨x0, l0, z0⟩ := Rv.opened_struct Try.underlying25 (hval 0 25 v0 rfl rfl) (o25 W) (fun x => rfl) h0
  have k1 := h1
  obtain ⟨x1, rfl, rfl, rfl, w1⟩ := open_int Try.underlying2 (hval 1 2 v1 rfl rfl) h1
  have l1 : Rv.Long0 x1 := bounds_i64 w1
  have z1 : Rv.RI (Rv.tblOf Rv.Cm.tab) (Rv.cellsOf W) (Rv.Enc.enc x1) (.int .i64 x1) := .int _ _
  clear hA0 hval0 hsz0
  refine (walk W v0 _ x0 x1 l0 l1 z0 z1).mono fun e W' ⟨he, bel⟩ => ?_
  subst he
  exact ⟨_, rfl, _, _, _, [], _, [], hW', trodAll_mk1 (shut_bool Try.underlying4 _), (trodAll_cons_mk (Below.trod laidOut (by kernel_rfl) (of_decide_eq_true (by kernel_rfl)) h0 bel lt0) (trodAll_cons_mk (shut_int Try.underlying2 w1) trodAll_mk0)), rfl, bel.frame _, fun h => by cases h⟩
theorem over : Rows.fnExactColumnOfRow.holds Try.pinned (OpenSpec.ofChange Rows.fnExactColumnOfSpec) :=
  OpenClaim.holds_of_wide 3 Try.f3 rfl rfl rfl rfl rfl rfl rfl ⟨rfl, rfl, rfl, rfl, rfl⟩ rfl rfl rfl rfl rfl named Try.func3 facts
    inst wrap
    (fun os started H enc _ => lifted os started H enc)
end Go.Proofs.Ytnioomfbbmjpaaa.fnExactColumnOf
namespace Go.Proofs.Ytnioomfbbmjpaaa
theorem fnExactColumnOf_holds : Rows.FnExactColumnOfSaid := fnExactColumnOf.over
end Go.Proofs.Ytnioomfbbmjpaaa
