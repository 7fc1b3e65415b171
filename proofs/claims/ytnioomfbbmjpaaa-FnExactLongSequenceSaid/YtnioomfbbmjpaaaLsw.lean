/- The law FnExactLongSequence answers true at every call, and what it reads stays as it was. -/
import Derived.Test.YtnioomfbbmjpaaaRows
import Derived.Test.YtnioomfbbmjpaaaLsf
import Derived.Test.YtnioomfbbmjpaaaLsc
import Derived.Test.YtnioomfbbmjpaaaLsq1
import Derived.WalkKit
import Derived.ProofKit
import Derived.OpenShut
import Derived.ShutString
import Derived.ChangeOld
import Derived.Below
import Derived.Carry
import Derived.SizedLaws
namespace Go.Proofs.Ytnioomfbbmjpaaa.fnExactLongSequence
open Go.ChangeShapes Go.WideShapes Go.ChangeAt Go.RowKit
set_option maxRecDepth 100000
set_option linter.unusedVariables false
theorem own : ownKnob Try.prog.godebug = none := by kernel_rfl
theorem laidOut : laidOutB Try.prog = true := by kernel_rfl
theorem o2 (w : World) : Rv.Opens Try.prog (Rv.tblOf Rv.Ls.tab) w 2 1 (Int) (Rv.Long0) := Rv.opens_int Try.underlying2 (by kernel_rfl)
theorem o27 (w : World) : Rv.Opens Try.prog (Rv.tblOf Rv.Ls.tab) w 27 1 (List Int) (Rv.LongL Rv.Long0) := Rv.opens_slice Try.underlying27 (by kernel_rfl) (by decide) (fun x => rfl) (o2 w)
theorem o22 (w : World) : Rv.Opens Try.prog (Rv.tblOf Rv.Ls.tab) w 22 1 (List (List Int)) (Rv.LongL (Rv.LongL Rv.Long0)) := Rv.opens_slice Try.underlying22 (by kernel_rfl) (by decide) (fun x => rfl) (o27 w)
theorem o28 (w : World) : Rv.Opens Try.prog (Rv.tblOf Rv.Ls.tab) w 28 1 (List (List (List Int))) (Rv.LongL (Rv.LongL (Rv.LongL Rv.Long0))) := Rv.opens_slice Try.underlying28 (by kernel_rfl) (by decide) (fun x => rfl) (o22 w)
theorem o40 (w : World) : Rv.Opens Try.prog (Rv.tblOf Rv.Ls.tab) w 40 3 (Rv.GComplex) (Rv.LongC) := 
  Rv.opens_struct3 (fun x0 x1 x2 => ⟨x0, x1, x2⟩) _ Try.underlying40 (by kernel_rfl) rfl rfl rfl (o2 w) (o27 w) (o28 w) (fun x0 x1 x2 => rfl) (fun x0 x1 x2 h0 h1 h2 => ⟨h0, h1, h2⟩)
theorem answers (x0 : Rv.GComplex) (x1 : Rv.GComplex) (x2 : List (List (List Int))) (h0 : Rv.LongC x0) (h1 : Rv.LongC x1) (h2 : Rv.LongL (Rv.LongL (Rv.LongL Rv.Long0)) x2) : ∃ k, ((Rv.Prog.run Rv.A k 342 [Rv.Enc.enc x0, Rv.Enc.enc x1, Rv.Enc.enc x2] Rv.Heap.empty).map (·.1)) = some (.bool true) := by
  exact Rv.ran_of_ans (Rv.s342 x0 x1 x2 (Rv.law16 h0 h1 h2))
theorem walk (w : World) (v0 v1 v2 : Value) (x0 : Rv.GComplex) (x1 : Rv.GComplex) (x2 : List (List (List Int))) (h0 : Rv.LongC x0) (h1 : Rv.LongC x1) (h2 : Rv.LongL (Rv.LongL (Rv.LongL Rv.Long0)) x2) (r0 : Rv.RI (Rv.tblOf Rv.Ls.tab) (Rv.cellsOf w) (Rv.Enc.enc x0) v0) (r1 : Rv.RI (Rv.tblOf Rv.Ls.tab) (Rv.cellsOf w) (Rv.Enc.enc x1) v1) (r2 : Rv.RI (Rv.tblOf Rv.Ls.tab) (Rv.cellsOf w) (Rv.Enc.enc x2) v2) : Calls Try.prog 9 #[v0, v1, v2] w fun e w' => e = .returned (.bool true) ∧ Below w.heap.size w w' := by
  obtain ⟨k, hk⟩ := answers x0 x1 x2 h0 h1 h2
  refine (Rv.calls_of_run Rv.Ls.models (f := 9) (g := 342) (by kernel_rfl) hk w (Rv.cellsOf w) (fun _ _ _ h => h) (cargs := [v0, v1, v2]) (.cons r0 (.cons r1 (.cons r2 .nil)))).mono ?_
  rintro e w' ⟨c, κ, J, rfl, hr, hb⟩
  exact ⟨by rw [hr.of_bool], hb⟩
theorem lifted (os : Os) (started : os.Started) (H : Type) (enc : TypeId × Value → H) :
    ReturnsInHanded {} Try.checked os 9 .any (Rows.fnExactLongSequenceSpec.pre6 enc Try.prog Try.f9 Rows.fnExactLongSequenceRow.domain false) (Rows.fnExactLongSequenceSpec.post enc Try.prog Try.f9 false true false false) := by
  refine returnsInHanded_of_change_sized (C := Try.checked) own started (by kernel_rfl) Try.func9
    (ChangeSpec.witness6 (enc := enc) (C := Try.checked) false ⟨#[], #[.agg #[.int .i64 0, .slice none 0 0, .slice none 0 0], .agg #[.int .i64 0, .slice none 0 0, .slice none 0 0], .slice none 0 0], []⟩ 12 (by kernel_rfl) (by kernel_rfl) (by kernel_rfl) (by kernel_rfl)) ?_
  intro W base args ds gs before hval0 hW hcnd hsz0 _
  have hval : ∀ (j : Nat) t v, Try.f9.params[j]? = some t → args[j]? = some v → Value.okWide Try.prog W .any base t v := hval0
  have hW' := hW
  obtain ⟨p, q, hA0, hV, rfl, hfz, hnd⟩ := hW
  have hA : DataW.TrodAll enc Try.prog W 0 (fun _ => true) true Try.f9.params.toList args.toList ds p := hA0
  rw [Try.params9] at hA hval
  obtain ⟨v0, vs0, d0, ds0, p0, q0, hargs, rfl, rfl, h0, r0⟩ := trodAll_cons hA
  obtain ⟨v1, vs1, d1, ds1, p1, q1, rfl, rfl, rfl, h1, r1⟩ := trodAll_cons r0
  obtain ⟨v2, vs2, d2, ds2, p2, q2, rfl, rfl, rfl, h2, r2⟩ := trodAll_cons r1
  obtain ⟨rfl, rfl, rfl⟩ := trodAll_nil r2
  obtain rfl : args = #[v0, v1, v2] := by cases args; simp_all
  obtain ⟨rfl, rfl⟩ := trodVars_none hV
  have lt0 : ∀ x ∈ p0, x.block < W.heap.size := by obtain ⟨m, hm⟩ := h0; exact DataW.trod_lt m _ _ _ hm
  obtain ⟨x0, l0, z0⟩ := Rv.opened_struct Try.underlying40 (hval 0 40 v0 rfl rfl) (o40 W) (fun x => rfl) h0
  have lt1 : ∀ x ∈ p1, x.block < W.heap.size := by obtain ⟨m, hm⟩ := h1; exact DataW.trod_lt m _ _ _ hm
  obtain ⟨x1, l1, z1⟩ := Rv.opened_struct Try.underlying40 (hval 1 40 v1 rfl rfl) (o40 W) (fun x => rfl) h1
  have lt2 : ∀ x ∈ p2, x.block < W.heap.size := by obtain ⟨m, hm⟩ := h2; exact DataW.trod_lt m _ _ _ hm
  obtain ⟨x2, l2, z2⟩ := Rv.opened_slice Try.underlying28 (hval 2 28 v2 rfl rfl) (o28 W) h2
  clear hA0 hval0 hsz0
  refine (walk W v0 v1 v2 x0 x1 x2 l0 l1 l2 z0 z1 z2).mono fun e W' ⟨he, bel⟩ => ?_
  subst he
  exact ⟨_, rfl, _, _, _, [], _, [], hW', trodAll_mk1 (shut_bool Try.underlying4 _), (trodAll_cons_mk (Below.trod laidOut (by kernel_rfl) (of_decide_eq_true (by kernel_rfl)) h0 bel lt0) (trodAll_cons_mk (Below.trod laidOut (by kernel_rfl) (of_decide_eq_true (by kernel_rfl)) h1 bel lt1) (trodAll_cons_mk (Below.trod laidOut (by kernel_rfl) (of_decide_eq_true (by kernel_rfl)) h2 bel lt2) trodAll_mk0))), rfl, bel.frame _, fun h => by cases h⟩
theorem over : Rows.fnExactLongSequenceRow.holds Try.pinned (OpenSpec.ofChange Rows.fnExactLongSequenceSpec) :=
  OpenClaim.holds_of_wide 9 Try.f9 rfl rfl rfl rfl rfl rfl rfl ⟨rfl, rfl, rfl, rfl, rfl⟩ rfl rfl rfl rfl rfl named Try.func9 facts
    inst wrap
    (fun os started H enc _ => lifted os started H enc)
end Go.Proofs.Ytnioomfbbmjpaaa.fnExactLongSequence
namespace Go.Proofs.Ytnioomfbbmjpaaa
theorem fnExactLongSequence_holds : Rows.FnExactLongSequenceSaid := fnExactLongSequence.over
end Go.Proofs.Ytnioomfbbmjpaaa
