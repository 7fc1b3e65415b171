/- The law FnExactPageDifferential answers true at every call, and what it reads stays as it was. -/
import Derived.Test.YtfmilkanaigjcaaRows
import Derived.Test.YtfmilkanaigjcaaPdf
import Derived.Test.YtfmilkanaigjcaaPdc
import Derived.Test.YtfmilkanaigjcaaPdq
import Derived.WalkKit
import Derived.ProofKit
import Derived.OpenShut
import Derived.ShutString
import Derived.ChangeOld
import Derived.Below
import Derived.Carry
import Derived.SizedLaws
namespace Go.Proofs.Ytfmilkanaigjcaa.fnExactPageDifferential
open Go.ChangeShapes Go.WideShapes Go.ChangeAt Go.RowKit
set_option maxRecDepth 100000
set_option linter.unusedVariables false
theorem own : ownKnob Try.prog.godebug = none := by kernel_rfl
theorem laidOut : laidOutB Try.prog = true := by kernel_rfl
theorem o2 (w : World) : Rv.Opens Try.prog (Rv.tblOf Rv.Pd.tab) w 2 1 (Int) (Rv.Long0) := Rv.opens_int Try.underlying2 (by kernel_rfl)
theorem o22 (w : World) : Rv.Opens Try.prog (Rv.tblOf Rv.Pd.tab) w 22 1 (List Int) (Rv.LongL Rv.Long0) := Rv.opens_slice Try.underlying22 (by kernel_rfl) (by decide) (fun x => rfl) (o2 w)
theorem o26 (w : World) : Rv.Opens Try.prog (Rv.tblOf Rv.Pd.tab) w 26 1 (List (List Int)) (Rv.LongL (Rv.LongL Rv.Long0)) := Rv.opens_slice Try.underlying26 (by kernel_rfl) (by decide) (fun x => rfl) (o22 w)
theorem o23 (w : World) : Rv.Opens Try.prog (Rv.tblOf Rv.Pd.tab) w 23 1 (List (List (List Int))) (Rv.LongL (Rv.LongL (Rv.LongL Rv.Long0))) := Rv.opens_slice Try.underlying23 (by kernel_rfl) (by decide) (fun x => rfl) (o26 w)
theorem o25 (w : World) : Rv.Opens Try.prog (Rv.tblOf Rv.Pd.tab) w 25 3 (Rv.GComplex) (Rv.LongC) := 
  Rv.opens_struct3 (fun x0 x1 x2 => ⟨x0, x1, x2⟩) _ Try.underlying25 (by kernel_rfl) rfl rfl rfl (o2 w) (o22 w) (o23 w) (fun x0 x1 x2 => rfl) (fun x0 x1 x2 h0 h1 h2 => ⟨h0, h1, h2⟩)
theorem o28 (w : World) : Rv.Opens Try.prog (Rv.tblOf Rv.Pd.tab) w 28 4 (Rv.GFiltered) (Rv.LongF) := 
  Rv.opens_struct2 (fun x0 x1 => ⟨x0, x1⟩) _ Try.underlying28 (by kernel_rfl) rfl rfl (o25 w) (o26 w) (fun x0 x1 => rfl) (fun x0 x1 h0 h1 => ⟨h0, h1⟩)
theorem answers (x0 : Rv.GFiltered) (x1 : Int) (x2 : Int) (x3 : Int) (h0 : Rv.LongF x0) (h1 : Rv.Long0 x1) (h2 : Rv.Long0 x2) (h3 : Rv.Long0 x3) : ∃ k, ((Rv.Prog.run Rv.A k 337 [Rv.Enc.enc x0, Rv.Enc.enc x1, Rv.Enc.enc x2, Rv.Enc.enc x3] Rv.Heap.empty).map (·.1)) = some (.bool true) := by
  exact Rv.ran_of_ans (Rv.s337 x0 x1 x2 x3 (Rv.law10 h0 h1 h2 h3))
theorem walk (w : World) (v0 v1 v2 v3 : Value) (x0 : Rv.GFiltered) (x1 : Int) (x2 : Int) (x3 : Int) (h0 : Rv.LongF x0) (h1 : Rv.Long0 x1) (h2 : Rv.Long0 x2) (h3 : Rv.Long0 x3) (r0 : Rv.RI (Rv.tblOf Rv.Pd.tab) (Rv.cellsOf w) (Rv.Enc.enc x0) v0) (r1 : Rv.RI (Rv.tblOf Rv.Pd.tab) (Rv.cellsOf w) (Rv.Enc.enc x1) v1) (r2 : Rv.RI (Rv.tblOf Rv.Pd.tab) (Rv.cellsOf w) (Rv.Enc.enc x2) v2) (r3 : Rv.RI (Rv.tblOf Rv.Pd.tab) (Rv.cellsOf w) (Rv.Enc.enc x3) v3) : Calls Try.prog 4 #[v0, v1, v2, v3] w fun e w' => e = .returned (.bool true) ∧ Below w.heap.size w w' := by
  obtain ⟨k, hk⟩ := answers x0 x1 x2 x3 h0 h1 h2 h3
  refine (Rv.calls_of_run Rv.Pd.models (f := 4) (g := 337) (by kernel_rfl) hk w (Rv.cellsOf w) (fun _ _ _ h => h) (cargs := [v0, v1, v2, v3]) (.cons r0 (.cons r1 (.cons r2 (.cons r3 .nil))))).mono ?_
  rintro e w' ⟨c, κ, J, rfl, hr, hb⟩
  exact ⟨by rw [hr.of_bool], hb⟩
theorem lifted (os : Os) (started : os.Started) (H : Type) (enc : TypeId × Value → H) :
    ReturnsInHanded {} Try.checked os 4 .any (Rows.fnExactPageDifferentialSpec.pre6 enc Try.prog Try.f4 Rows.fnExactPageDifferentialRow.domain false) (Rows.fnExactPageDifferentialSpec.post enc Try.prog Try.f4 false true false false) := by
  refine returnsInHanded_of_change_sized (C := Try.checked) own started (by kernel_rfl) Try.func4
    (ChangeSpec.witness6 (enc := enc) (C := Try.checked) false ⟨#[], #[.agg #[.int .i64 0, .slice none 0 0, .slice none 0 0, .slice none 0 0], .int .i64 0, .int .i64 0, .int .i64 0], []⟩ 12 (by kernel_rfl) (by kernel_rfl) (by kernel_rfl) (by kernel_rfl)) ?_
  intro W base args ds gs before hval0 hW hcnd hsz0 _
  have hval : ∀ (j : Nat) t v, Try.f4.params[j]? = some t → args[j]? = some v → Value.okWide Try.prog W .any base t v := hval0
  have hW' := hW
  obtain ⟨p, q, hA0, hV, rfl, hfz, hnd⟩ := hW
  have hA : DataW.TrodAll enc Try.prog W 0 (fun _ => true) true Try.f4.params.toList args.toList ds p := hA0
  rw [Try.params4] at hA hval
  obtain ⟨v0, vs0, d0, ds0, p0, q0, hargs, rfl, rfl, h0, r0⟩ := trodAll_cons hA
  obtain ⟨v1, vs1, d1, ds1, p1, q1, rfl, rfl, rfl, h1, r1⟩ := trodAll_cons r0
  obtain ⟨v2, vs2, d2, ds2, p2, q2, rfl, rfl, rfl, h2, r2⟩ := trodAll_cons r1
  obtain ⟨v3, vs3, d3, ds3, p3, q3, rfl, rfl, rfl, h3, r3⟩ := trodAll_cons r2
  obtain ⟨rfl, rfl, rfl⟩ := trodAll_nil r3
  obtain rfl : args = #[v0, v1, v2, v3] := by cases args; simp_all
  obtain ⟨rfl, rfl⟩ := trodVars_none hV
  have lt0 : ∀ x ∈ p0, x.block < W.heap.size := by obtain ⟨m, hm⟩ := h0; exact DataW.trod_lt m _ _ _ hm
  obtain ⟨x0, l0, z0⟩ := Rv.opened_struct Try.underlying28 (hval 0 28 v0 rfl rfl) (o28 W) (fun x => rfl) h0
  have k1 := h1
  obtain ⟨x1, rfl, rfl, rfl, w1⟩ := open_int Try.underlying2 (hval 1 2 v1 rfl rfl) h1
  have l1 : Rv.Long0 x1 := bounds_i64 w1
  have z1 : Rv.RI (Rv.tblOf Rv.Pd.tab) (Rv.cellsOf W) (Rv.Enc.enc x1) (.int .i64 x1) := .int _ _
  have k2 := h2
  obtain ⟨x2, rfl, rfl, rfl, w2⟩ := open_int Try.underlying2 (hval 2 2 v2 rfl rfl) h2
  have l2 : Rv.Long0 x2 := bounds_i64 w2
  have z2 : Rv.RI (Rv.tblOf Rv.Pd.tab) (Rv.cellsOf W) (Rv.Enc.enc x2) (.int .i64 x2) := .int _ _
  have k3 := h3
  obtain ⟨x3, rfl, rfl, rfl, w3⟩ := open_int Try.underlying2 (hval 3 2 v3 rfl rfl) h3
  have l3 : Rv.Long0 x3 := bounds_i64 w3
  have z3 : Rv.RI (Rv.tblOf Rv.Pd.tab) (Rv.cellsOf W) (Rv.Enc.enc x3) (.int .i64 x3) := .int _ _
  clear hA0 hval0 hsz0
  refine (walk W v0 _ _ _ x0 x1 x2 x3 l0 l1 l2 l3 z0 z1 z2 z3).mono fun e W' ⟨he, bel⟩ => ?_
  subst he
  exact ⟨_, rfl, _, _, _, [], _, [], hW', trodAll_mk1 (shut_bool Try.underlying4 _), (trodAll_cons_mk (Below.trod laidOut (by kernel_rfl) (of_decide_eq_true (by kernel_rfl)) h0 bel lt0) (trodAll_cons_mk (shut_int Try.underlying2 w1) (trodAll_cons_mk (shut_int Try.underlying2 w2) (trodAll_cons_mk (shut_int Try.underlying2 w3) trodAll_mk0)))), rfl, bel.frame _, fun h => by cases h⟩
theorem over : Rows.fnExactPageDifferentialRow.holds Try.pinned (OpenSpec.ofChange Rows.fnExactPageDifferentialSpec) :=
  OpenClaim.holds_of_wide 4 Try.f4 rfl rfl rfl rfl rfl rfl rfl ⟨rfl, rfl, rfl, rfl, rfl⟩ rfl rfl rfl rfl rfl named Try.func4 facts
    inst wrap
    (fun os started H enc _ => lifted os started H enc)
end Go.Proofs.Ytfmilkanaigjcaa.fnExactPageDifferential
namespace Go.Proofs.Ytfmilkanaigjcaa
theorem fnExactPageDifferential_holds : Rows.FnExactPageDifferentialSaid := fnExactPageDifferential.over
end Go.Proofs.Ytfmilkanaigjcaa
