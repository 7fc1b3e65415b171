/- What the abstract code answers: typed functions, part 2. -/
import Derived.Test.YtnioomfbbmjpaaaCms0
namespace Rv
set_option linter.unusedVariables false
set_option linter.unusedSimpArgs false
set_option maxRecDepth 100000
noncomputable section
def F267_2_B (a0 : GDouble) (a1 : List (List (List (List Int)))) (v19_1 : Int) (x5 : List (List (List Int))) (f2 : Int → Int → Option Int) (v34_2 : Int) (s : Unit) : Option ((Unit) ⊕ ((Unit) ⊕ Bool)) :=
  (getI x5 v34_2).bind fun x13 =>
(getI a0.Dims v19_1).bind fun x17 =>
(getI x17 v34_2).bind fun x19 =>
if (x13.length : Int) = x19 then
  (f2 v19_1 v34_2).bind fun x22 =>
  (F90 a0.Prime x22 x13).bind fun x24 =>
  if x24 = true then
    some (.inl ())
  else
    some (.inr (.inr false))
else
  some (.inr (.inr false))
def F267_2_D (a0 : GDouble) (a1 : List (List (List (List Int)))) (v19_1 : Int) (x5 : List (List (List Int))) (f2 : Int → Int → Option Int) (v34_2 : Int) (s : Unit) : Option ((Unit) ⊕ Bool) :=
  some (.inl ())
def F267_1_B (a0 : GDouble) (a1 : List (List (List (List Int)))) (f2 : Int → Int → Option Int) (v19_1 : Int) (s : Unit) : Option ((Unit) ⊕ ((Unit) ⊕ Bool)) :=
  (getI a1 v19_1).bind fun x5 =>
(getI a0.Dims 0).bind fun x7 =>
if (x5.length : Int) = (x7.length : Int) then
  (forR 0 (x5.length : Int) (F267_2_B a0 a1 v19_1 x5 f2) (F267_2_D a0 a1 v19_1 x5 f2) ()).bind fun t26 => match t26 with
    | .inl _ =>
      some (.inl ())
    | .inr r27 => some (.inr (.inr r27))
else
  some (.inr (.inr false))
def F267_1_D (a0 : GDouble) (a1 : List (List (List (List Int)))) (f2 : Int → Int → Option Int) (v19_1 : Int) (s : Unit) : Option ((Unit) ⊕ Bool) :=
  some (.inl ())
def F267 (a0 : GDouble) (a1 : List (List (List (List Int)))) (f2 : Int → Int → Option Int) : Option Bool :=
  if (a1.length : Int) = (a0.Dims.length : Int) then
    (forR 0 (a1.length : Int) (F267_1_B a0 a1 f2) (F267_1_D a0 a1 f2) ()).bind fun t28 => match t28 with
      | .inl _ =>
        some true
      | .inr r29 => some r29
  else
    some false
def I267_2 (a0 : GDouble) (a1 : List (List (List (List Int)))) (v19_1 : Int) (x5 : List (List (List Int))) (f2 : Int → Int → Option Int) (vf2 : V) (v34_2 : Int) (s : Unit) (e : Env) (h : Heap) : Prop :=
  ∃ k11 : Nat, h = ⟨[(0, none)], k11⟩ ∧ e.length = 63 ∧ e.at 2 = vf2 ∧ e.at 3 = V.iptr [V.int .i64 a0.Prime, V.isl (a0.Dims.map Enc.enc), V.isl (a0.Across.map Enc.enc), V.isl (a0.Down.map Enc.enc)] ∧ e.at 7 = V.int .i64 v19_1 ∧ e.at 17 = V.isl (a1.map Enc.enc) ∧ e.at 18 = V.int .i64 (a1.length : Int) ∧ e.at 19 = V.int .i64 v19_1 ∧ e.at 32 = V.isl (x5.map Enc.enc) ∧ e.at 33 = V.int .i64 (x5.length : Int) ∧ e.at 34 = V.int .i64 v34_2
def P267_2 (a0 : GDouble) (a1 : List (List (List (List Int)))) (v19_1 : Int) (x5 : List (List (List Int))) (f2 : Int → Int → Option Int) (vf2 : V) (t : (Unit) ⊕ Bool) (x : Ex) (e : Env) (h : Heap) : Prop :=
  match t with
  | .inl _ => x = .normal ∧ ∃ k11 : Nat, h = ⟨[(0, none)], k11⟩ ∧ e.length = 63 ∧ e.at 2 = vf2 ∧ e.at 3 = V.iptr [V.int .i64 a0.Prime, V.isl (a0.Dims.map Enc.enc), V.isl (a0.Across.map Enc.enc), V.isl (a0.Down.map Enc.enc)] ∧ e.at 17 = V.isl (a1.map Enc.enc) ∧ e.at 18 = V.int .i64 (a1.length : Int) ∧ e.at 19 = V.int .i64 v19_1
  | .inr r => x = .ret ∧ Fin p267 (Enc.enc r) .ret e h
theorem l267_2 (a0 : GDouble) (a1 : List (List (List (List Int)))) (v19_1 : Int) (x5 : List (List (List Int))) (f2 : Int → Int → Option Int) (vf2 : V) (hf2 : Clo2 A vf2 f2) {lo : Int} {s : Unit} {t : (Unit) ⊕ Bool} (hF : forR lo (x5.length : Int) (F267_2_B a0 a1 v19_1 x5 f2) (F267_2_D a0 a1 v19_1 x5 f2) s = some t) {e : Env} {h : Heap} (hI : I267_2 a0 a1 v19_1 x5 f2 vf2 lo s e h) : W A c267_2 e h (P267_2 a0 a1 v19_1 x5 f2 vf2 t) := by
  obtain ⟨g_f2, fs_f2, cs_f2, hv_f2, hc_f2⟩ := id hf2
  show W A (.block 2 (.loop false b267_2)) e h _
  rw [W_block]
  refine W_forR hF 1 (by obtain ⟨_, rfl, _⟩ := hI; rfl) (I267_2 a0 a1 v19_1 x5 f2 vf2) hI ?_ ?_
  · rintro v34_2 _ e h ⟨k11, rfl, h_10⟩ hlt hw o ho
    unfold F267_2_B at ho
    obtain ⟨x13, gx13, ho⟩ := bS ho
    obtain ⟨w14a, w14b⟩ := getI_w gx13
    have w16 : ans A 89 [V.isl (x13.map Enc.enc)] = some (V.int .i64 (x13.length : Int)) := s89 x13  rfl
    obtain ⟨x17, gx17, ho⟩ := bS ho
    obtain ⟨w18a, w18b⟩ := getI_w gx17
    obtain ⟨x19, gx19, ho⟩ := bS ho
    obtain ⟨w20a, w20b⟩ := getI_w gx19
    by_cases c21 : (x13.length : Int) = x19
    · rw [if_pos c21] at ho
      obtain ⟨x22, gx22, ho⟩ := bS ho
      have w23a : ∀ h, mapO (frz h 16) (fs_f2 ++ [V.int .i64 v19_1, V.int .i64 v34_2] ++ cs_f2) = some (fs_f2 ++ [V.int .i64 v19_1, V.int .i64 v34_2] ++ cs_f2) := fun h => hc_f2.zf v19_1 v34_2 h
      have w23b : List.all (fs_f2 ++ [V.int .i64 v19_1, V.int .i64 v34_2] ++ cs_f2) (refless 16) = true := hc_f2.zr v19_1 v34_2
      have w23c : ans A g_f2 (fs_f2 ++ [V.int .i64 v19_1, V.int .i64 v34_2] ++ cs_f2) = some (V.int .i64 x22) := hc_f2.ka v19_1 v34_2 _ gx22
      obtain ⟨x24, gx24, ho⟩ := bS ho
      have w25 : ans A 90 [V.int .i64 a0.Prime, V.int .i64 x22, V.isl (x13.map Enc.enc)] = some (V.bool x24) := s90 a0.Prime x22 x13  gx24
      cases x24 with
      | true =>
        rw [if_pos rfl] at ho
        cases ho
        simp only [simprocAttr, R0, opEv, fillV, mapO, mapS, b267_2, h_10, eq_true hlt, hw, w14a, w14b, w16, w18a, w18b, w20a, w20b, eq_true c21, hv_f2, w23a, w23b, w23c, w25]
        refine And.intro rfl (Exists.intro _ ( And.intro rfl ?_))
        simp only [simprocAttr, R0, h_10, eq_true hlt, hw, w14a, w14b, w16, w18a, w18b, w20a, w20b, eq_true c21, hv_f2, w23a, w23b, w23c, w25]
      | false =>
        rw [if_neg Bool.false_ne_true] at ho
        cases ho
        simp only [simprocAttr, R0, opEv, fillV, mapO, mapS, b267_2, h_10, eq_true hlt, hw, w14a, w14b, w16, w18a, w18b, w20a, w20b, eq_true c21, hv_f2, w23a, w23b, w23c, w25]
        intro ht; subst ht
        simp only [simprocAttr, RR, RB]
        exact And.intro rfl (fin_ret (by simp only [simprocAttr, R0, fn_out, p267, Rs.ev, mapO, mapS, take_len_self, h_10, eq_true hlt, hw, w14a, w14b, w16, w18a, w18b, w20a, w20b, eq_true c21, hv_f2, w23a, w23b, w23c, w25]))
    · rw [if_neg c21] at ho
      cases ho
      simp only [simprocAttr, R0, opEv, fillV, mapO, mapS, b267_2, h_10, eq_true hlt, hw, w14a, w14b, w16, w18a, w18b, w20a, w20b, eq_false c21]
      intro ht; subst ht
      simp only [simprocAttr, RR, RB]
      exact And.intro rfl (fin_ret (by simp only [simprocAttr, R0, fn_out, p267, Rs.ev, mapO, mapS, take_len_self, h_10, eq_true hlt, hw, w14a, w14b, w16, w18a, w18b, w20a, w20b, eq_false c21]))
  · rintro v34_2 _ e h ⟨k11, rfl, h_10⟩ hge t1 ho
    unfold F267_2_D at ho
    cases ho
    simp only [simprocAttr, R0, opEv, fillV, mapO, mapS, b267_2, h_10, eq_false hge]
    intro ht; subst ht
    refine And.intro rfl (Exists.intro _ ( And.intro rfl ?_))
    simp only [simprocAttr, R0, h_10, eq_false hge]
def I267_1 (a0 : GDouble) (a1 : List (List (List (List Int)))) (f2 : Int → Int → Option Int) (vf2 : V) (v19_1 : Int) (s : Unit) (e : Env) (h : Heap) : Prop :=
  ∃ k3 : Nat, h = ⟨[(0, none)], k3⟩ ∧ e.length = 63 ∧ e.at 2 = vf2 ∧ e.at 3 = V.iptr [V.int .i64 a0.Prime, V.isl (a0.Dims.map Enc.enc), V.isl (a0.Across.map Enc.enc), V.isl (a0.Down.map Enc.enc)] ∧ e.at 17 = V.isl (a1.map Enc.enc) ∧ e.at 18 = V.int .i64 (a1.length : Int) ∧ e.at 19 = V.int .i64 v19_1
def P267_1 (a0 : GDouble) (a1 : List (List (List (List Int)))) (f2 : Int → Int → Option Int) (vf2 : V) (t : (Unit) ⊕ Bool) (x : Ex) (e : Env) (h : Heap) : Prop :=
  match t with
  | .inl _ => x = .normal ∧ ∃ k3 : Nat, h = ⟨[(0, none)], k3⟩ ∧ e.length = 63
  | .inr r => x = .ret ∧ Fin p267 (Enc.enc r) .ret e h
theorem l267_1 (a0 : GDouble) (a1 : List (List (List (List Int)))) (f2 : Int → Int → Option Int) (vf2 : V) (hf2 : Clo2 A vf2 f2) {lo : Int} {s : Unit} {t : (Unit) ⊕ Bool} (hF : forR lo (a1.length : Int) (F267_1_B a0 a1 f2) (F267_1_D a0 a1 f2) s = some t) {e : Env} {h : Heap} (hI : I267_1 a0 a1 f2 vf2 lo s e h) : W A c267_1 e h (P267_1 a0 a1 f2 vf2 t) := by
  obtain ⟨g_f2, fs_f2, cs_f2, hv_f2, hc_f2⟩ := id hf2
  show W A (.block 0 (.loop false b267_1)) e h _
  rw [W_block]
  refine W_forR hF 1 (by obtain ⟨_, rfl, _⟩ := hI; rfl) (I267_1 a0 a1 f2 vf2) hI ?_ ?_
  · rintro v19_1 _ e h ⟨k3, rfl, h_2⟩ hlt hw o ho
    unfold F267_1_B at ho
    obtain ⟨x5, gx5, ho⟩ := bS ho
    obtain ⟨w6a, w6b⟩ := getI_w gx5
    obtain ⟨x7, gx7, ho⟩ := bS ho
    obtain ⟨w8a, w8b⟩ := getI_w gx7
    replace w8b : a0.Dims[0]? = some x7 := w8b
    by_cases c9 : (x5.length : Int) = (x7.length : Int)
    · rw [if_pos c9] at ho
      obtain ⟨t26, gt26, ho⟩ := bS ho
      rcases t26 with _ | r27
      · dsimp only at ho
        simp only [simprocAttr, R0, opEv, fillV, mapO, mapS, b267_1, h_2, eq_true hlt, hw, w6a, w6b, w8a, w8b, eq_true c9]
        refine W.mono (l267_2 a0 a1 v19_1 x5 f2 vf2 hf2 gt26 (Exists.intro _ ( And.intro rfl ?_))) ?_
        · simp only [simprocAttr, R0, h_2, eq_true hlt, hw, w6a, w6b, w8a, w8b, eq_true c9]
        rintro _ e _ ⟨rfl, k11, rfl, h_12⟩
        cases ho
        simp only [simprocAttr, R0, opEv, fillV, mapO, mapS, h_12, eq_true hlt, hw, eq_true c9]
        refine And.intro rfl (Exists.intro _ ( And.intro rfl ?_))
        simp only [simprocAttr, R0, h_12, eq_true hlt, hw, eq_true c9]
      · dsimp only at ho
        cases ho
        simp only [simprocAttr, R0, opEv, fillV, mapO, mapS, b267_1, h_2, eq_true hlt, hw, w6a, w6b, w8a, w8b, eq_true c9]
        refine W.mono (l267_2 a0 a1 v19_1 x5 f2 vf2 hf2 gt26 (Exists.intro _ ( And.intro rfl ?_))) ?_
        · simp only [simprocAttr, R0, h_2, eq_true hlt, hw, w6a, w6b, w8a, w8b, eq_true c9]
        rintro _ e h ⟨rfl, hq⟩
        simp only [simprocAttr, RR, RB]
        intro ht; subst ht
        simp only [simprocAttr, RR, RB]
        exact And.intro rfl hq
    · rw [if_neg c9] at ho
      cases ho
      simp only [simprocAttr, R0, opEv, fillV, mapO, mapS, b267_1, h_2, eq_true hlt, hw, w6a, w6b, w8a, w8b, eq_false c9]
      intro ht; subst ht
      simp only [simprocAttr, RR, RB]
      exact And.intro rfl (fin_ret (by simp only [simprocAttr, R0, fn_out, p267, Rs.ev, mapO, mapS, take_len_self, h_2, eq_true hlt, hw, w6a, w6b, w8a, w8b, eq_false c9]))
  · rintro v19_1 _ e h ⟨k3, rfl, h_2⟩ hge t1 ho
    unfold F267_1_D at ho
    cases ho
    simp only [simprocAttr, R0, opEv, fillV, mapO, mapS, b267_1, h_2, eq_false hge]
    intro ht; subst ht
    refine And.intro rfl (Exists.intro _ ( And.intro rfl ?_))
    simp only [simprocAttr, R0, h_2, eq_false hge]
theorem s267 (a0 : GDouble) (a1 : List (List (List (List Int)))) (f2 : Int → Int → Option Int) {vf2 : V} (hf2 : Clo2 A vf2 f2) {r : Bool} (hF : F267 a0 a1 f2 = some r) : ans A 267 [V.agg [V.int .i64 a0.Prime, V.isl (a0.Dims.map Enc.enc), V.isl (a0.Across.map Enc.enc), V.isl (a0.Down.map Enc.enc)], V.isl (a1.map Enc.enc), vf2] = some (Enc.enc r) := by
  refine ans_of (f := p267) rfl rfl rfl fun e hl he => ?_
  have h0_0 : e.at 0 = V.agg [V.int .i64 a0.Prime, V.isl (a0.Dims.map Enc.enc), V.isl (a0.Across.map Enc.enc), V.isl (a0.Down.map Enc.enc)] := he 0 _ rfl
  have h1_0 : e.at 1 = V.isl (a1.map Enc.enc) := he 1 _ rfl
  have h2_0 : e.at 2 = vf2 := he 2 _ rfl
  obtain ⟨g_f2, fs_f2, cs_f2, hv_f2, hc_f2⟩ := id hf2
  have hl_0 : e.length = 63 := hl
  clear he hl
  have h_0 := And.intro hl_0 (And.intro h0_0 (And.intro h1_0 h2_0))
  show W A b267 e ⟨[], 0⟩ _
  unfold F267 at hF
  by_cases c1 : (a1.length : Int) = (a0.Dims.length : Int)
  · rw [if_pos c1] at hF
    obtain ⟨t28, gt28, hF⟩ := bS hF
    rcases t28 with _ | r29
    · dsimp only at hF
      simp only [simprocAttr, R0, opEv, fillV, mapO, mapS, b267, h_0, eq_true c1]
      refine W.mono (l267_1 a0 a1 f2 vf2 hf2 gt28 (Exists.intro _ ( And.intro rfl ?_))) ?_
      · simp only [simprocAttr, R0, h_0, eq_true c1]
      rintro _ e _ ⟨rfl, k3, rfl, hl_4⟩
      cases hF
      simp only [simprocAttr, R0, opEv, fillV, mapO, mapS, hl_4, eq_true c1]
      exact fin_ret (by simp only [simprocAttr, R0, fn_out, p267, Rs.ev, mapO, mapS, take_len_self, hl_4, eq_true c1])
    · dsimp only at hF
      cases hF
      simp only [simprocAttr, R0, opEv, fillV, mapO, mapS, b267, h_0, eq_true c1]
      refine W.mono (l267_1 a0 a1 f2 vf2 hf2 gt28 (Exists.intro _ ( And.intro rfl ?_))) ?_
      · simp only [simprocAttr, R0, h_0, eq_true c1]
      rintro _ e h ⟨rfl, hq⟩
      simp only [simprocAttr, RR, RB]
      exact hq
  · rw [if_neg c1] at hF
    cases hF
    simp only [simprocAttr, R0, opEv, fillV, mapO, mapS, b267, h_0, eq_false c1]
    exact fin_ret (by simp only [simprocAttr, R0, fn_out, p267, Rs.ev, mapO, mapS, take_len_self, h_0, eq_false c1])
def F118 (a0 : Int) : Option Bool :=
  some (!(decide (a0 = 0)))
theorem s118 (a0 : Int)   {r : Bool} (hF : F118 a0 = some r) : ans A 118 [V.int .i64 a0] = some (Enc.enc r) := by
  refine ans_of (f := p118) rfl rfl rfl fun e hl he => ?_
  have h0_0 : e.at 0 = V.int .i64 a0 := he 0 _ rfl
  have hl_0 : e.length = 5 := hl
  clear he hl
  show W A b118 e ⟨[], 0⟩ _
  unfold F118 at hF
  cases hF
  simp only [simprocAttr, R0, opEv, fillV, mapO, mapS, b118, hl_0, h0_0]
  exact fin_ret (by simp only [simprocAttr, R0, fn_out, p118, Rs.ev, mapO, mapS, take_len_self, hl_0, h0_0])
def F92 (a0 : List Int) : Option Bool :=
  (F82 a0 (fun x => F118 x)).bind fun x1 =>
  some (!x1)
theorem s92 (a0 : List Int)   {r : Bool} (hF : F92 a0 = some r) : ans A 92 [V.isl (a0.map Enc.enc)] = some (Enc.enc r) := by
  refine ans_of (f := p92) rfl rfl rfl fun e hl he => ?_
  have h0_0 : e.at 0 = V.isl (a0.map Enc.enc) := he 0 _ rfl
  have hl_0 : e.length = 6 := hl
  clear he hl
  show W A b92 e ⟨[], 0⟩ _
  unfold F92 at hF
  obtain ⟨x1, gx1, hF⟩ := bS hF
  have w2 : ans A 82 [V.isl (a0.map Enc.enc), V.fn 118 [] []] = some (V.bool x1) := s82 a0 (fun x => F118 x) (Clo1.of (by intro h f; simp only [RZ, mapO]) (by intro h f; simp only [RZ, mapO]) (by intro f; simp only [RZ, RB]) (by intro f; simp only [RZ, RB]) (fun x _ hr => s118 x hr)) gx1
  cases hF
  simp only [simprocAttr, R0, opEv, fillV, mapO, mapS, b92, hl_0, h0_0, w2]
  exact fin_ret (by simp only [simprocAttr, R0, fn_out, p92, Rs.ev, mapO, mapS, take_len_self, hl_0, h0_0, w2])
def F132 (a0 : Int) (a1 : Int) : Option (List Int) :=
  (mkL 8 a0 0).bind fun l1 =>
  (getI l1 a1).bind fun x3 =>
  (setI l1 a1 1).bind fun l5 =>
  some l5
theorem t132 (a0 : Int) (a1 : Int)   {r : List Int} (hF : F132 a0 a1 = some r) : tans A 132 [1] [V.int .i64 a0, V.int .i64 a1] = some (Enc.enc r) := by
  refine tans_of (f := p132) rfl rfl rfl fun e hl he => ?_
  have h0_0 : e.at 0 = V.int .i64 a0 := he 0 _ rfl
  have h1_0 : e.at 1 = V.int .i64 a1 := he 1 _ rfl
  have hl_0 : e.length = 12 := hl
  clear he hl
  show W A b132 e ⟨[], 0⟩ _
  unfold F132 at hF
  obtain ⟨l1, gl1, hF⟩ := bS hF
  obtain ⟨w2a, w2b, w2c, w2d, w2e⟩ := mkL_w gl1
  replace w2e : (List.replicate (Int.toNat a0) [V.int .i64 0]).flatten = List.map Enc.enc l1 := w2e
  obtain ⟨x3, gx3, hF⟩ := bS hF
  obtain ⟨w4a, w4b⟩ := getI_w gx3
  have w4c := getI_lt gx3
  replace w4c : a1 < (((Int.toNat a0) : Nat) : Int) := by first | exact w4c | (simp only [w2d] at w4c ⊢; exact w4c)
  have w4d : List.drop (Int.toNat a1) (l1.map Enc.enc) = (V.int .i64 x3) :: List.drop ((Int.toNat a1) + 1) (l1.map Enc.enc) := drop_enc w4b
  obtain ⟨l5, gl5, hF⟩ := bS hF
  obtain ⟨w6a, w6b, w6c, w6d, w6e⟩ := setI_w gl5
  replace w6e : List.take (Int.toNat a1) (l1.map Enc.enc) ++ [V.int .i64 1] ++ List.drop (Int.toNat a1 + 1) (l1.map Enc.enc) = List.map Enc.enc l5 := w6e
  have hE := Option.some.inj hF; subst hE
  simp only [↓reduceIte, Nat.reduceAdd, Nat.reduceMul, Nat.reduceSub, Nat.reduceLT, Nat.reduceLeDiff, Nat.reduceEqDiff, Nat.reducePow, Int.reducePow, Int.reduceLE, Int.reduceLT, Int.reduceEq, Int.reduceToNat, reduceCtorEq, R0, opEv, fillV, mapO, mapS, b132, hl_0, h0_0, h1_0, w2a, w2b, w2c, w2e, w4a, w4b, w4c, w4d, w6a, w6b, w6c, w6e]
  exact tfin_ret (by simp only [↓reduceIte, Nat.reduceAdd, Nat.reduceMul, Nat.reduceSub, Nat.reduceLT, Nat.reduceLeDiff, Nat.reduceEqDiff, Nat.reducePow, Int.reducePow, Int.reduceLE, Int.reduceLT, Int.reduceEq, Int.reduceToNat, reduceCtorEq, R0, fn_out, p132, Rs.ev, mapO, mapS, take_len_self, hl_0, h0_0, h1_0, w2a, w2b, w2c, w2e, w4a, w4b, w4c, w4d, w6a, w6b, w6c, w6e, frzs (α := Int) l5, takes (α := Int) l5, take_len (α := Int) (l := l5) (n := (Int.toNat a0)) (by first | rfl | simp only [w2d, w6d]), w2d, w6d])
def F124_1_B (a0 : Int) (v7_1 : Int) (o0_1 : (List (List Int))) : Option (((List (List Int))) ⊕ ((List (List Int)))) :=
  (F132 a0 v7_1).bind fun x5 =>
(app 24 o0_1 [x5]).bind fun l8 =>
some (.inl l8)
def F124_1_D (a0 : Int) (v7_1 : Int) (o0_1 : (List (List Int))) : Option ((List (List Int))) :=
  some o0_1
def F124 (a0 : Int) : Option (List (List Int)) :=
  (forR 0 a0 (F124_1_B a0) (F124_1_D a0) ([] : (List (List Int)))).bind fun zo0_1 =>
  some zo0_1
theorem d124 (a0 : Int) {r : List (List Int)} (hF : F124 a0 = some r) : ∃ v h', res A 124 [V.int .i64 a0] Heap.empty = some (v, h') ∧ ∃ K, Deep.rep h' v r K := by
  refine res_dp (f := p124) rfl rfl rfl fun e hl he => ?_
  have h0_0 : e.at 0 = V.int .i64 a0 := he 0 _ rfl
  have hl_0 : e.length = 18 := hl
  clear he hl
  show W A b124 e ⟨[], 0⟩ _
  unfold F124 at hF
  obtain ⟨zo0_1, gt9, hF⟩ := bS hF
  have hE := Option.some.inj hF; subst hE
  simp only [simprocAttr, R1, opEv, fillV, mapO, mapS, b124, hl_0, h0_0]
  show W A (.block 0 (.loop true b124_1)) _ _ _
  rw [W_block]
  refine W_forR gt9 _ rfl (fun i l e h => ∃ u vs K, h.ents[0]? = some (u, some vs) ∧ reps h vs l K ∧ ¬ K 0 ∧ e.length = 18 ∧ e.at 0 = V.int .i64 a0 ∧ e.at 3 = V.sl 0 u 0 l.length 1 ∧ e.at 6 = V.int .i64 a0 ∧ e.at 7 = V.int .i64 i) ?_ ?_ ?_
  · refine ⟨0, [], fun _ => False, rfl, fun _ x => x, fun x => x, ?_⟩
    simp only [simprocAttr, R1, hl_0, h0_0]
  · rintro i l e ⟨E, c⟩ ⟨u, vs, K, g1, g2, g3, hl_1, h0_1, h3_1, h6_1, h7_1⟩ hlt hw o ho
    unfold F124_1_B at ho
    obtain ⟨x7, gx7, ho⟩ := bS ho
    have w8 := t132 a0 i gx7
    obtain ⟨l10, gl10, ho⟩ := bS ho
    obtain ⟨q1, q2, rfl⟩ := app_w gl10
    have hE := Option.some.inj ho; subst hE
    have hln := g2.len
    have hE0 : 0 < E.length := (List.getElem?_eq_some_iff.1 g1).1
    have w9 : ∀ x y c', appendV 1 24 (.sl 0 u 0 l.length 1) 1 [V.sl E.length c 0 x7.length 1] ⟨E ++ [x] ++ [y], c'⟩ = _ := fun x y c' => appendV_deep (E := E ++ [x] ++ [y]) (vs := vs) (by rw [List.getElem?_append_left (by simp), List.getElem?_append_left hE0]; exact g1) hln (by simpa using q1) (by simpa using q2)
    simp only [simprocAttr, R1, opEv, fillV, mapO, mapS, b124_1, hl_1, h0_1, h3_1, h6_1, h7_1, eq_true hlt, hw, w8, callM_tans, thaw_one, get_last, w9]
    have r1 := deep_round (h := ⟨E, c⟩) (h1 := ⟨E ++ [(c, some (x7.map Enc.enc))], c + 1⟩) (h2 := ⟨(E ++ [(c, some (x7.map Enc.enc))] ++ [(c + 1, some [V.sl E.length c 0 x7.length 1])]).set 0 (c + 1 + 1, some (vs ++ [V.sl E.length c 0 x7.length 1])), c + 1 + 1 + 1⟩) g2
      (int_row (l := x7) (K := fun k => k = E.length) (get_last _ _) fun k => Iff.rfl) (fun k q => by show E.length ≤ k; omega) (fun k q => List.getElem?_append_left q) (fun k p q => set_app_new (fun e => by subst e; exact q.elim g3 (fun q => by omega)) p) (by simp)
    refine And.intro rfl ⟨_, _, _, set_app_key (by simp), r1, fun q => q.elim g3 (fun q => by omega), ?_⟩
    simp only [simprocAttr, R1, hl_1, h0_1, h3_1, h6_1, h7_1, eq_true hlt, hw, w8, List.length_append]
  · rintro i l e ⟨E, c⟩ ⟨u, vs, K, g1, g2, g3, hl_1, h0_1, h3_1, h6_1, h7_1⟩ hge t1 ho
    unfold F124_1_D at ho
    have hE := Option.some.inj ho; subst hE
    simp only [simprocAttr, R1, opEv, fillV, mapO, mapS, b124_1, hl_1, h0_1, h3_1, h6_1, h7_1, eq_false hge]
    intro ht; subst ht
    refine And.intro (fun _ => trivial) ⟨_, by simp only [simprocAttr, R1, fn_out, p124, Rs.ev, mapO, mapS, hl_1], fun k => k = 0 ∨ K k, .inr ⟨0, u, vs, K, rfl, g1, g2, g3, fun k => Iff.rfl⟩⟩
theorem s124 (a0 : Int) {r : List (List Int)} (hF : F124 a0 = some r) : ans A 124 [V.int .i64 a0] = some (Enc.enc r) := ans_of_deep (by decide) (d124 a0 hF)
def F119_2_B (a0 : Int) (a2 : List Int) (a3 : List (List Int)) (v18_1 : Int) (x7 : Int) (x9 : List Int) (v28_2 : Int) (o0_2 : (List Int)) : Option (((List Int)) ⊕ ((List Int))) :=
  (getI x9 v28_2).bind fun x15 =>
(getI o0_2 v28_2).bind fun x17 =>
(chk (x7 * x15)).bind fun x19 =>
(chk (x17 + x19)).bind fun x20 =>
(remI x20 a0).bind fun x21 =>
(setI o0_2 v28_2 x21).bind fun l23 =>
some (.inl l23)
def F119_2_D (a0 : Int) (a2 : List Int) (a3 : List (List Int)) (v18_1 : Int) (x7 : Int) (x9 : List Int) (v28_2 : Int) (o0_2 : (List Int)) : Option ((List Int)) :=
  some o0_2
def F119_1_B (a0 : Int) (a2 : List Int) (a3 : List (List Int)) (v18_1 : Int) (o0_1 : (List Int)) : Option (((List Int)) ⊕ ((List Int))) :=
  (getI a2 v18_1).bind fun x7 =>
(getI a3 v18_1).bind fun x9 =>
(forR 0 (x9.length : Int) (F119_2_B a0 a2 a3 v18_1 x7 x9) (F119_2_D a0 a2 a3 v18_1 x7 x9) o0_1).bind fun zo0_2 =>
some (.inl zo0_2)
def F119_1_D (a0 : Int) (a2 : List Int) (a3 : List (List Int)) (v18_1 : Int) (o0_1 : (List Int)) : Option ((List Int)) :=
  some o0_1
def F119 (a0 : Int) (a1 : Int) (a2 : List Int) (a3 : List (List Int)) : Option (List Int) :=
  (mkL 8 a1 0).bind fun l1 =>
  (forR 0 (a2.length : Int) (F119_1_B a0 a2 a3) (F119_1_D a0 a2 a3) l1).bind fun zo0_1 =>
  some zo0_1
def I119_2 (a0 : Int) (a2 : List Int) (a3 : List (List Int)) (v18_1 : Int) (x7 : Int) (x9 : List Int)  (v28_2 : Int) (o0_2 : (List Int)) (e : Env) (h : Heap) : Prop :=
  ∃ u12 k13 : Nat, h = ⟨[(u12, some (o0_2.map Enc.enc))], k13⟩ ∧ e.length = 49 ∧ e.at 0 = V.int .i64 a0 ∧ e.at 3 = V.isl (a3.map Enc.enc) ∧ e.at 9 = V.sl 0 u12 0 o0_2.length 1 ∧ e.at 11 = V.int .i64 x7 ∧ e.at 16 = V.isl (a2.map Enc.enc) ∧ e.at 17 = V.int .i64 (a2.length : Int) ∧ e.at 18 = V.int .i64 v18_1 ∧ e.at 26 = V.isl (x9.map Enc.enc) ∧ e.at 27 = V.int .i64 (x9.length : Int) ∧ e.at 28 = V.int .i64 v28_2
def P119_2 (a0 : Int) (a2 : List Int) (a3 : List (List Int)) (v18_1 : Int) (x7 : Int) (x9 : List Int)  (zo0_2 : (List Int)) (x : Ex) (e : Env) (h : Heap) : Prop :=
  x = .normal ∧ ∃ u12 k13 : Nat, h = ⟨[(u12, some (zo0_2.map Enc.enc))], k13⟩ ∧ e.length = 49 ∧ e.at 0 = V.int .i64 a0 ∧ e.at 3 = V.isl (a3.map Enc.enc) ∧ e.at 9 = V.sl 0 u12 0 zo0_2.length 1 ∧ e.at 16 = V.isl (a2.map Enc.enc) ∧ e.at 17 = V.int .i64 (a2.length : Int) ∧ e.at 18 = V.int .i64 v18_1
theorem l119_2 (a0 : Int) (a2 : List Int) (a3 : List (List Int)) (v18_1 : Int) (x7 : Int) (x9 : List Int)   {lo : Int} {s : (List Int)} {t : (List Int)} (hF : forR lo (x9.length : Int) (F119_2_B a0 a2 a3 v18_1 x7 x9) (F119_2_D a0 a2 a3 v18_1 x7 x9) s = some t) {e : Env} {h : Heap} (hI : I119_2 a0 a2 a3 v18_1 x7 x9  lo s e h) : W A c119_2 e h (P119_2 a0 a2 a3 v18_1 x7 x9  t) := by
  show W A (.block 2 (.loop false b119_2)) e h _
  rw [W_block]
  refine W_forR hF 1 (by obtain ⟨_, _, rfl, _⟩ := hI; rfl) (I119_2 a0 a2 a3 v18_1 x7 x9 ) hI ?_ ?_
  · rintro v28_2 o0_2 e h ⟨u12, k13, rfl, h_11⟩ hlt hw o ho
    unfold F119_2_B at ho
    obtain ⟨x15, gx15, ho⟩ := bS ho
    obtain ⟨w16a, w16b⟩ := getI_w gx15
    obtain ⟨x17, gx17, ho⟩ := bS ho
    obtain ⟨w18a, w18b⟩ := getI_w gx17
    have w18c := getI_lt gx17
    have w18d : List.drop (Int.toNat v28_2) (o0_2.map Enc.enc) = (V.int .i64 x17) :: List.drop ((Int.toNat v28_2) + 1) (o0_2.map Enc.enc) := drop_enc w18b
    obtain ⟨x19, gx19, ho⟩ := bS ho
    have wx19 := chk_w gx19
    obtain ⟨x20, gx20, ho⟩ := bS ho
    have wx20 := chk_w gx20
    obtain ⟨x21, gx21, ho⟩ := bS ho
    obtain ⟨w22a, w22b⟩ := rem_w gx21
    obtain ⟨l23, gl23, ho⟩ := bS ho
    obtain ⟨w24a, w24b, w24c, w24d, w24e⟩ := setI_w gl23
    replace w24e : List.take (Int.toNat v28_2) (o0_2.map Enc.enc) ++ [V.int .i64 x21] ++ List.drop (Int.toNat v28_2 + 1) (o0_2.map Enc.enc) = List.map Enc.enc l23 := w24e
    cases ho
    simp only [simprocAttr, R0, opEv, fillV, mapO, mapS, b119_2, h_11, eq_true hlt, hw, w16a, w16b, w18a, w18b, w18c, w18d, wx19, wx20, eq_false w22a, w22b, w24a, w24b, w24c, w24e]
    refine And.intro rfl (Exists.intro _ ( Exists.intro _ ( And.intro rfl ?_)))
    simp only [simprocAttr, R0, h_11, eq_true hlt, hw, w16a, w16b, w18a, w18b, w18c, w18d, wx19, wx20, eq_false w22a, w22b, w24a, w24b, w24c, w24e, w24d]
  · rintro v28_2 o0_2 e h ⟨u12, k13, rfl, h_11⟩ hge t1 ho
    unfold F119_2_D at ho
    cases ho
    simp only [simprocAttr, R0, opEv, fillV, mapO, mapS, b119_2, h_11, eq_false hge]
    intro ht; subst ht
    refine And.intro rfl (Exists.intro _ ( Exists.intro _ ( And.intro rfl ?_)))
    simp only [simprocAttr, R0, h_11, eq_false hge]
def I119_1 (a0 : Int) (a2 : List Int) (a3 : List (List Int))  (v18_1 : Int) (o0_1 : (List Int)) (e : Env) (h : Heap) : Prop :=
  ∃ u4 k5 : Nat, h = ⟨[(u4, some (o0_1.map Enc.enc))], k5⟩ ∧ e.length = 49 ∧ e.at 0 = V.int .i64 a0 ∧ e.at 3 = V.isl (a3.map Enc.enc) ∧ e.at 9 = V.sl 0 u4 0 o0_1.length 1 ∧ e.at 16 = V.isl (a2.map Enc.enc) ∧ e.at 17 = V.int .i64 (a2.length : Int) ∧ e.at 18 = V.int .i64 v18_1
def P119_1 (a0 : Int) (a2 : List Int) (a3 : List (List Int))  (zo0_1 : (List Int)) (x : Ex) (e : Env) (h : Heap) : Prop :=
  x = .normal ∧ ∃ u4 k5 : Nat, h = ⟨[(u4, some (zo0_1.map Enc.enc))], k5⟩ ∧ e.length = 49 ∧ e.at 9 = V.sl 0 u4 0 zo0_1.length 1
theorem l119_1 (a0 : Int) (a2 : List Int) (a3 : List (List Int))   {lo : Int} {s : (List Int)} {t : (List Int)} (hF : forR lo (a2.length : Int) (F119_1_B a0 a2 a3) (F119_1_D a0 a2 a3) s = some t) {e : Env} {h : Heap} (hI : I119_1 a0 a2 a3  lo s e h) : W A c119_1 e h (P119_1 a0 a2 a3  t) := by
  show W A (.block 0 (.loop false b119_1)) e h _
  rw [W_block]
  refine W_forR hF 1 (by obtain ⟨_, _, rfl, _⟩ := hI; rfl) (I119_1 a0 a2 a3 ) hI ?_ ?_
  · rintro v18_1 o0_1 e h ⟨u4, k5, rfl, h_3⟩ hlt hw o ho
    unfold F119_1_B at ho
    obtain ⟨x7, gx7, ho⟩ := bS ho
    obtain ⟨w8a, w8b⟩ := getI_w gx7
    obtain ⟨x9, gx9, ho⟩ := bS ho
    obtain ⟨w10a, w10b⟩ := getI_w gx9
    obtain ⟨zo0_2, gt25, ho⟩ := bS ho
    simp only [simprocAttr, R0, opEv, fillV, mapO, mapS, b119_1, h_3, eq_true hlt, hw, w8a, w8b, w10a, w10b]
    refine W.mono (l119_2 a0 a2 a3 v18_1 x7 x9   gt25 (Exists.intro _ ( Exists.intro _ ( And.intro rfl ?_)))) ?_
    · simp only [simprocAttr, R0, h_3, eq_true hlt, hw, w8a, w8b, w10a, w10b]
    rintro _ e _ ⟨rfl, u12, k13, rfl, h_14⟩
    cases ho
    simp only [simprocAttr, R0, opEv, fillV, mapO, mapS, h_14, eq_true hlt, hw]
    refine And.intro rfl (Exists.intro _ ( Exists.intro _ ( And.intro rfl ?_)))
    simp only [simprocAttr, R0, h_14, eq_true hlt, hw]
  · rintro v18_1 o0_1 e h ⟨u4, k5, rfl, h_3⟩ hge t1 ho
    unfold F119_1_D at ho
    cases ho
    simp only [simprocAttr, R0, opEv, fillV, mapO, mapS, b119_1, h_3, eq_false hge]
    intro ht; subst ht
    refine And.intro rfl (Exists.intro _ ( Exists.intro _ ( And.intro rfl ?_)))
    simp only [simprocAttr, R0, h_3, eq_false hge]
theorem s119 (a0 : Int) (a1 : Int) (a2 : List Int) (a3 : List (List Int))   {r : List Int} (hF : F119 a0 a1 a2 a3 = some r) : ans A 119 [V.int .i64 a0, V.int .i64 a1, V.isl (a2.map Enc.enc), V.isl (a3.map Enc.enc)] = some (Enc.enc r) := by
  refine ans_of (f := p119) rfl rfl rfl fun e hl he => ?_
  have h0_0 : e.at 0 = V.int .i64 a0 := he 0 _ rfl
  have h1_0 : e.at 1 = V.int .i64 a1 := he 1 _ rfl
  have h2_0 : e.at 2 = V.isl (a2.map Enc.enc) := he 2 _ rfl
  have h3_0 : e.at 3 = V.isl (a3.map Enc.enc) := he 3 _ rfl
  have hl_0 : e.length = 49 := hl
  clear he hl
  show W A b119 e ⟨[], 0⟩ _
  unfold F119 at hF
  obtain ⟨l1, gl1, hF⟩ := bS hF
  obtain ⟨w2a, w2b, w2c, w2d, w2e⟩ := mkL_w gl1
  replace w2e : (List.replicate (Int.toNat a1) [V.int .i64 0]).flatten = List.map Enc.enc l1 := w2e
  obtain ⟨zo0_1, gt26, hF⟩ := bS hF
  simp only [↓reduceIte, Nat.reduceAdd, Nat.reduceMul, Nat.reduceSub, Nat.reduceLT, Nat.reduceLeDiff, Nat.reduceEqDiff, Nat.reducePow, Int.reducePow, Int.reduceLE, Int.reduceLT, Int.reduceEq, Int.reduceToNat, reduceCtorEq, R0, opEv, fillV, mapO, mapS, b119, hl_0, h0_0, h1_0, h2_0, h3_0, w2a, w2b, w2c, w2e]
  refine W.mono (l119_1 a0 a2 a3   gt26 (Exists.intro _ ( Exists.intro _ ( And.intro rfl ?_)))) ?_
  · simp only [↓reduceIte, Nat.reduceAdd, Nat.reduceMul, Nat.reduceSub, Nat.reduceLT, Nat.reduceLeDiff, Nat.reduceEqDiff, Nat.reducePow, Int.reducePow, Int.reduceLE, Int.reduceLT, Int.reduceEq, Int.reduceToNat, reduceCtorEq, R0, hl_0, h0_0, h1_0, h2_0, h3_0, w2a, w2b, w2c, w2e, w2d]
  rintro _ e _ ⟨rfl, u4, k5, rfl, hl_6, h9_6⟩
  have hE := Option.some.inj hF; subst hE
  simp only [↓reduceIte, Nat.reduceAdd, Nat.reduceMul, Nat.reduceSub, Nat.reduceLT, Nat.reduceLeDiff, Nat.reduceEqDiff, Nat.reducePow, Int.reducePow, Int.reduceLE, Int.reduceLT, Int.reduceEq, Int.reduceToNat, reduceCtorEq, R0, opEv, fillV, mapO, mapS, hl_6, h9_6]
  exact fin_ret (by simp only [↓reduceIte, Nat.reduceAdd, Nat.reduceMul, Nat.reduceSub, Nat.reduceLT, Nat.reduceLeDiff, Nat.reduceEqDiff, Nat.reducePow, Int.reducePow, Int.reduceLE, Int.reduceLT, Int.reduceEq, Int.reduceToNat, reduceCtorEq, R0, fn_out, p119, Rs.ev, mapO, mapS, take_len_self, hl_6, h9_6, frzs (α := Int) zo0_1, takes (α := Int) zo0_1])
theorem t119 (a0 : Int) (a1 : Int) (a2 : List Int) (a3 : List (List Int))   {r : List Int} (hF : F119 a0 a1 a2 a3 = some r) : tans A 119 [1] [V.int .i64 a0, V.int .i64 a1, V.isl (a2.map Enc.enc), V.isl (a3.map Enc.enc)] = some (Enc.enc r) := by
  refine tans_of (f := p119) rfl rfl rfl fun e hl he => ?_
  have h0_0 : e.at 0 = V.int .i64 a0 := he 0 _ rfl
  have h1_0 : e.at 1 = V.int .i64 a1 := he 1 _ rfl
  have h2_0 : e.at 2 = V.isl (a2.map Enc.enc) := he 2 _ rfl
  have h3_0 : e.at 3 = V.isl (a3.map Enc.enc) := he 3 _ rfl
  have hl_0 : e.length = 49 := hl
  clear he hl
  show W A b119 e ⟨[], 0⟩ _
  unfold F119 at hF
  obtain ⟨l1, gl1, hF⟩ := bS hF
  obtain ⟨w2a, w2b, w2c, w2d, w2e⟩ := mkL_w gl1
  replace w2e : (List.replicate (Int.toNat a1) [V.int .i64 0]).flatten = List.map Enc.enc l1 := w2e
  obtain ⟨zo0_1, gt26, hF⟩ := bS hF
  simp only [↓reduceIte, Nat.reduceAdd, Nat.reduceMul, Nat.reduceSub, Nat.reduceLT, Nat.reduceLeDiff, Nat.reduceEqDiff, Nat.reducePow, Int.reducePow, Int.reduceLE, Int.reduceLT, Int.reduceEq, Int.reduceToNat, reduceCtorEq, R0, opEv, fillV, mapO, mapS, b119, hl_0, h0_0, h1_0, h2_0, h3_0, w2a, w2b, w2c, w2e]
  refine W.mono (l119_1 a0 a2 a3   gt26 (Exists.intro _ ( Exists.intro _ ( And.intro rfl ?_)))) ?_
  · simp only [↓reduceIte, Nat.reduceAdd, Nat.reduceMul, Nat.reduceSub, Nat.reduceLT, Nat.reduceLeDiff, Nat.reduceEqDiff, Nat.reducePow, Int.reducePow, Int.reduceLE, Int.reduceLT, Int.reduceEq, Int.reduceToNat, reduceCtorEq, R0, hl_0, h0_0, h1_0, h2_0, h3_0, w2a, w2b, w2c, w2e, w2d]
  rintro _ e _ ⟨rfl, u4, k5, rfl, hl_6, h9_6⟩
  have hE := Option.some.inj hF; subst hE
  simp only [↓reduceIte, Nat.reduceAdd, Nat.reduceMul, Nat.reduceSub, Nat.reduceLT, Nat.reduceLeDiff, Nat.reduceEqDiff, Nat.reducePow, Int.reducePow, Int.reduceLE, Int.reduceLT, Int.reduceEq, Int.reduceToNat, reduceCtorEq, R0, opEv, fillV, mapO, mapS, hl_6, h9_6]
  exact tfin_ret (by simp only [↓reduceIte, Nat.reduceAdd, Nat.reduceMul, Nat.reduceSub, Nat.reduceLT, Nat.reduceLeDiff, Nat.reduceEqDiff, Nat.reducePow, Int.reducePow, Int.reduceLE, Int.reduceLT, Int.reduceEq, Int.reduceToNat, reduceCtorEq, R0, fn_out, p119, Rs.ev, mapO, mapS, take_len_self, hl_6, h9_6, frzs (α := Int) zo0_1, takes (α := Int) zo0_1])
def F300 (a0 : GDouble) (a1 : Int) (a2 : Int) (a3 : List Int) : Option (List Int) :=
  (F299 a0 a1 a2).bind fun x1 =>
  if x1 = 0 then
    (chk (a1 - 1)).bind fun x4 =>
    (F299 a0 x4 a2).bind fun x5 =>
    (mkL 8 x5 0).bind fun l7 =>
    some l7
  else
    (chk (a1 - 1)).bind fun x9 =>
    (F299 a0 x9 a2).bind fun x10 =>
    (getI a0.Across a1).bind fun x12 =>
    (getI x12 a2).bind fun x14 =>
    (F119 a0.Prime x10 a3 x14).bind fun x16 =>
    some x16
theorem s300 (a0 : GDouble) (a1 : Int) (a2 : Int) (a3 : List Int)   {r : List Int} (hF : F300 a0 a1 a2 a3 = some r) : ans A 300 [V.agg [V.int .i64 a0.Prime, V.isl (a0.Dims.map Enc.enc), V.isl (a0.Across.map Enc.enc), V.isl (a0.Down.map Enc.enc)], V.int .i64 a1, V.int .i64 a2, V.isl (a3.map Enc.enc)] = some (Enc.enc r) := by
  refine ans_of (f := p300) rfl rfl rfl fun e hl he => ?_
  have h0_0 : e.at 0 = V.agg [V.int .i64 a0.Prime, V.isl (a0.Dims.map Enc.enc), V.isl (a0.Across.map Enc.enc), V.isl (a0.Down.map Enc.enc)] := he 0 _ rfl
  have h1_0 : e.at 1 = V.int .i64 a1 := he 1 _ rfl
  have h2_0 : e.at 2 = V.int .i64 a2 := he 2 _ rfl
  have h3_0 : e.at 3 = V.isl (a3.map Enc.enc) := he 3 _ rfl
  have hl_0 : e.length = 37 := hl
  clear he hl
  show W A b300 e ⟨[], 0⟩ _
  unfold F300 at hF
  obtain ⟨x1, gx1, hF⟩ := bS hF
  have w2 : ans A 299 [V.agg [V.int .i64 a0.Prime, V.isl (a0.Dims.map Enc.enc), V.isl (a0.Across.map Enc.enc), V.isl (a0.Down.map Enc.enc)], V.int .i64 a1, V.int .i64 a2] = some (V.int .i64 x1) := s299 a0 a1 a2  gx1
  by_cases c3 : x1 = 0
  · rw [if_pos c3] at hF
    obtain ⟨x4, gx4, hF⟩ := bS hF
    have wx4 := chk_w gx4
    obtain ⟨x5, gx5, hF⟩ := bS hF
    have w6 : ans A 299 [V.agg [V.int .i64 a0.Prime, V.isl (a0.Dims.map Enc.enc), V.isl (a0.Across.map Enc.enc), V.isl (a0.Down.map Enc.enc)], V.int .i64 x4, V.int .i64 a2] = some (V.int .i64 x5) := s299 a0 x4 a2  gx5
    obtain ⟨l7, gl7, hF⟩ := bS hF
    obtain ⟨w8a, w8b, w8c, w8d, w8e⟩ := mkL_w gl7
    replace w8e : (List.replicate (Int.toNat x5) [V.int .i64 0]).flatten = List.map Enc.enc l7 := w8e
    have hE := Option.some.inj hF; subst hE
    simp only [↓reduceIte, Nat.reduceAdd, Nat.reduceMul, Nat.reduceSub, Nat.reduceLT, Nat.reduceLeDiff, Nat.reduceEqDiff, Nat.reducePow, Int.reducePow, Int.reduceLE, Int.reduceLT, Int.reduceEq, Int.reduceToNat, reduceCtorEq, R0, opEv, fillV, mapO, mapS, b300, hl_0, h0_0, h1_0, h2_0, h3_0, w2, eq_true c3, wx4, w6, w8a, w8b, w8c, w8e]
    exact fin_ret (by simp only [↓reduceIte, Nat.reduceAdd, Nat.reduceMul, Nat.reduceSub, Nat.reduceLT, Nat.reduceLeDiff, Nat.reduceEqDiff, Nat.reducePow, Int.reducePow, Int.reduceLE, Int.reduceLT, Int.reduceEq, Int.reduceToNat, reduceCtorEq, R0, fn_out, p300, Rs.ev, mapO, mapS, take_len_self, hl_0, h0_0, h1_0, h2_0, h3_0, w2, eq_true c3, wx4, w6, w8a, w8b, w8c, w8e, frzs (α := Int) l7, takes (α := Int) l7, take_len (α := Int) (l := l7) (n := (Int.toNat x5)) (by first | rfl | simp only [w8d]), w8d])
  · rw [if_neg c3] at hF
    obtain ⟨x9, gx9, hF⟩ := bS hF
    have wx9 := chk_w gx9
    obtain ⟨x10, gx10, hF⟩ := bS hF
    have w11 : ans A 299 [V.agg [V.int .i64 a0.Prime, V.isl (a0.Dims.map Enc.enc), V.isl (a0.Across.map Enc.enc), V.isl (a0.Down.map Enc.enc)], V.int .i64 x9, V.int .i64 a2] = some (V.int .i64 x10) := s299 a0 x9 a2  gx10
    obtain ⟨x12, gx12, hF⟩ := bS hF
    obtain ⟨w13a, w13b⟩ := getI_w gx12
    obtain ⟨x14, gx14, hF⟩ := bS hF
    obtain ⟨w15a, w15b⟩ := getI_w gx14
    obtain ⟨x16, gx16, hF⟩ := bS hF
    have w17 : ans A 119 [V.int .i64 a0.Prime, V.int .i64 x10, V.isl (a3.map Enc.enc), V.isl (x14.map Enc.enc)] = some (V.isl (x16.map Enc.enc)) := s119 a0.Prime x10 a3 x14  gx16
    have hE := Option.some.inj hF; subst hE
    simp only [↓reduceIte, Nat.reduceAdd, Nat.reduceMul, Nat.reduceSub, Nat.reduceLT, Nat.reduceLeDiff, Nat.reduceEqDiff, Nat.reducePow, Int.reducePow, Int.reduceLE, Int.reduceLT, Int.reduceEq, Int.reduceToNat, reduceCtorEq, R0, opEv, fillV, mapO, mapS, b300, hl_0, h0_0, h1_0, h2_0, h3_0, w2, eq_false c3, wx9, w11, w13a, w13b, w15a, w15b, w17]
    exact fin_ret (by simp only [↓reduceIte, Nat.reduceAdd, Nat.reduceMul, Nat.reduceSub, Nat.reduceLT, Nat.reduceLeDiff, Nat.reduceEqDiff, Nat.reducePow, Int.reducePow, Int.reduceLE, Int.reduceLT, Int.reduceEq, Int.reduceToNat, reduceCtorEq, R0, fn_out, p300, Rs.ev, mapO, mapS, take_len_self, hl_0, h0_0, h1_0, h2_0, h3_0, w2, eq_false c3, wx9, w11, w13a, w13b, w15a, w15b, w17])
def F301 (a0 : GDouble) (a1 : Int) (a2 : Int) (a3 : List Int) : Option (List Int) :=
  (F299 a0 a1 a2).bind fun x1 =>
  if x1 = 0 then
    (chk (a2 - 1)).bind fun x4 =>
    (F299 a0 a1 x4).bind fun x5 =>
    (mkL 8 x5 0).bind fun l7 =>
    some l7
  else
    (chk (a2 - 1)).bind fun x9 =>
    (F299 a0 a1 x9).bind fun x10 =>
    (getI a0.Down a1).bind fun x12 =>
    (getI x12 a2).bind fun x14 =>
    (F119 a0.Prime x10 a3 x14).bind fun x16 =>
    some x16
theorem s301 (a0 : GDouble) (a1 : Int) (a2 : Int) (a3 : List Int)   {r : List Int} (hF : F301 a0 a1 a2 a3 = some r) : ans A 301 [V.agg [V.int .i64 a0.Prime, V.isl (a0.Dims.map Enc.enc), V.isl (a0.Across.map Enc.enc), V.isl (a0.Down.map Enc.enc)], V.int .i64 a1, V.int .i64 a2, V.isl (a3.map Enc.enc)] = some (Enc.enc r) := by
  refine ans_of (f := p301) rfl rfl rfl fun e hl he => ?_
  have h0_0 : e.at 0 = V.agg [V.int .i64 a0.Prime, V.isl (a0.Dims.map Enc.enc), V.isl (a0.Across.map Enc.enc), V.isl (a0.Down.map Enc.enc)] := he 0 _ rfl
  have h1_0 : e.at 1 = V.int .i64 a1 := he 1 _ rfl
  have h2_0 : e.at 2 = V.int .i64 a2 := he 2 _ rfl
  have h3_0 : e.at 3 = V.isl (a3.map Enc.enc) := he 3 _ rfl
  have hl_0 : e.length = 37 := hl
  clear he hl
  show W A b301 e ⟨[], 0⟩ _
  unfold F301 at hF
  obtain ⟨x1, gx1, hF⟩ := bS hF
  have w2 : ans A 299 [V.agg [V.int .i64 a0.Prime, V.isl (a0.Dims.map Enc.enc), V.isl (a0.Across.map Enc.enc), V.isl (a0.Down.map Enc.enc)], V.int .i64 a1, V.int .i64 a2] = some (V.int .i64 x1) := s299 a0 a1 a2  gx1
  by_cases c3 : x1 = 0
  · rw [if_pos c3] at hF
    obtain ⟨x4, gx4, hF⟩ := bS hF
    have wx4 := chk_w gx4
    obtain ⟨x5, gx5, hF⟩ := bS hF
    have w6 : ans A 299 [V.agg [V.int .i64 a0.Prime, V.isl (a0.Dims.map Enc.enc), V.isl (a0.Across.map Enc.enc), V.isl (a0.Down.map Enc.enc)], V.int .i64 a1, V.int .i64 x4] = some (V.int .i64 x5) := s299 a0 a1 x4  gx5
    obtain ⟨l7, gl7, hF⟩ := bS hF
    obtain ⟨w8a, w8b, w8c, w8d, w8e⟩ := mkL_w gl7
    replace w8e : (List.replicate (Int.toNat x5) [V.int .i64 0]).flatten = List.map Enc.enc l7 := w8e
    have hE := Option.some.inj hF; subst hE
    simp only [↓reduceIte, Nat.reduceAdd, Nat.reduceMul, Nat.reduceSub, Nat.reduceLT, Nat.reduceLeDiff, Nat.reduceEqDiff, Nat.reducePow, Int.reducePow, Int.reduceLE, Int.reduceLT, Int.reduceEq, Int.reduceToNat, reduceCtorEq, R0, opEv, fillV, mapO, mapS, b301, hl_0, h0_0, h1_0, h2_0, h3_0, w2, eq_true c3, wx4, w6, w8a, w8b, w8c, w8e]
    exact fin_ret (by simp only [↓reduceIte, Nat.reduceAdd, Nat.reduceMul, Nat.reduceSub, Nat.reduceLT, Nat.reduceLeDiff, Nat.reduceEqDiff, Nat.reducePow, Int.reducePow, Int.reduceLE, Int.reduceLT, Int.reduceEq, Int.reduceToNat, reduceCtorEq, R0, fn_out, p301, Rs.ev, mapO, mapS, take_len_self, hl_0, h0_0, h1_0, h2_0, h3_0, w2, eq_true c3, wx4, w6, w8a, w8b, w8c, w8e, frzs (α := Int) l7, takes (α := Int) l7, take_len (α := Int) (l := l7) (n := (Int.toNat x5)) (by first | rfl | simp only [w8d]), w8d])
  · rw [if_neg c3] at hF
    obtain ⟨x9, gx9, hF⟩ := bS hF
    have wx9 := chk_w gx9
    obtain ⟨x10, gx10, hF⟩ := bS hF
    have w11 : ans A 299 [V.agg [V.int .i64 a0.Prime, V.isl (a0.Dims.map Enc.enc), V.isl (a0.Across.map Enc.enc), V.isl (a0.Down.map Enc.enc)], V.int .i64 a1, V.int .i64 x9] = some (V.int .i64 x10) := s299 a0 a1 x9  gx10
    obtain ⟨x12, gx12, hF⟩ := bS hF
    obtain ⟨w13a, w13b⟩ := getI_w gx12
    obtain ⟨x14, gx14, hF⟩ := bS hF
    obtain ⟨w15a, w15b⟩ := getI_w gx14
    obtain ⟨x16, gx16, hF⟩ := bS hF
    have w17 : tans A 119 [1] [V.int .i64 a0.Prime, V.int .i64 x10, V.isl (a3.map Enc.enc), V.isl (x14.map Enc.enc)] = some (V.isl (x16.map Enc.enc)) := t119 a0.Prime x10 a3 x14  gx16
    have w17t := thaw_one (α := Int) x16
    have hE := Option.some.inj hF; subst hE
    simp only [↓reduceIte, Nat.reduceAdd, Nat.reduceMul, Nat.reduceSub, Nat.reduceLT, Nat.reduceLeDiff, Nat.reduceEqDiff, Nat.reducePow, Int.reducePow, Int.reduceLE, Int.reduceLT, Int.reduceEq, Int.reduceToNat, reduceCtorEq, R0, opEv, fillV, mapO, mapS, b301, hl_0, h0_0, h1_0, h2_0, h3_0, w2, eq_false c3, wx9, w11, w13a, w13b, w15a, w15b, w17, w17t]
    exact fin_ret (by simp only [↓reduceIte, Nat.reduceAdd, Nat.reduceMul, Nat.reduceSub, Nat.reduceLT, Nat.reduceLeDiff, Nat.reduceEqDiff, Nat.reducePow, Int.reducePow, Int.reduceLE, Int.reduceLT, Int.reduceEq, Int.reduceToNat, reduceCtorEq, R0, fn_out, p301, Rs.ev, mapO, mapS, take_len_self, hl_0, h0_0, h1_0, h2_0, h3_0, w2, eq_false c3, wx9, w11, w13a, w13b, w15a, w15b, w17, w17t, frzs (α := Int) x16, takes (α := Int) x16])
theorem t301 (a0 : GDouble) (a1 : Int) (a2 : Int) (a3 : List Int)   {r : List Int} (hF : F301 a0 a1 a2 a3 = some r) : tans A 301 [1] [V.agg [V.int .i64 a0.Prime, V.isl (a0.Dims.map Enc.enc), V.isl (a0.Across.map Enc.enc), V.isl (a0.Down.map Enc.enc)], V.int .i64 a1, V.int .i64 a2, V.isl (a3.map Enc.enc)] = some (Enc.enc r) := by
  refine tans_of (f := p301) rfl rfl rfl fun e hl he => ?_
  have h0_0 : e.at 0 = V.agg [V.int .i64 a0.Prime, V.isl (a0.Dims.map Enc.enc), V.isl (a0.Across.map Enc.enc), V.isl (a0.Down.map Enc.enc)] := he 0 _ rfl
  have h1_0 : e.at 1 = V.int .i64 a1 := he 1 _ rfl
  have h2_0 : e.at 2 = V.int .i64 a2 := he 2 _ rfl
  have h3_0 : e.at 3 = V.isl (a3.map Enc.enc) := he 3 _ rfl
  have hl_0 : e.length = 37 := hl
  clear he hl
  show W A b301 e ⟨[], 0⟩ _
  unfold F301 at hF
  obtain ⟨x1, gx1, hF⟩ := bS hF
  have w2 : ans A 299 [V.agg [V.int .i64 a0.Prime, V.isl (a0.Dims.map Enc.enc), V.isl (a0.Across.map Enc.enc), V.isl (a0.Down.map Enc.enc)], V.int .i64 a1, V.int .i64 a2] = some (V.int .i64 x1) := s299 a0 a1 a2  gx1
  by_cases c3 : x1 = 0
  · rw [if_pos c3] at hF
    obtain ⟨x4, gx4, hF⟩ := bS hF
    have wx4 := chk_w gx4
    obtain ⟨x5, gx5, hF⟩ := bS hF
    have w6 : ans A 299 [V.agg [V.int .i64 a0.Prime, V.isl (a0.Dims.map Enc.enc), V.isl (a0.Across.map Enc.enc), V.isl (a0.Down.map Enc.enc)], V.int .i64 a1, V.int .i64 x4] = some (V.int .i64 x5) := s299 a0 a1 x4  gx5
    obtain ⟨l7, gl7, hF⟩ := bS hF
    obtain ⟨w8a, w8b, w8c, w8d, w8e⟩ := mkL_w gl7
    replace w8e : (List.replicate (Int.toNat x5) [V.int .i64 0]).flatten = List.map Enc.enc l7 := w8e
    have hE := Option.some.inj hF; subst hE
    simp only [↓reduceIte, Nat.reduceAdd, Nat.reduceMul, Nat.reduceSub, Nat.reduceLT, Nat.reduceLeDiff, Nat.reduceEqDiff, Nat.reducePow, Int.reducePow, Int.reduceLE, Int.reduceLT, Int.reduceEq, Int.reduceToNat, reduceCtorEq, R0, opEv, fillV, mapO, mapS, b301, hl_0, h0_0, h1_0, h2_0, h3_0, w2, eq_true c3, wx4, w6, w8a, w8b, w8c, w8e]
    exact tfin_ret (by simp only [↓reduceIte, Nat.reduceAdd, Nat.reduceMul, Nat.reduceSub, Nat.reduceLT, Nat.reduceLeDiff, Nat.reduceEqDiff, Nat.reducePow, Int.reducePow, Int.reduceLE, Int.reduceLT, Int.reduceEq, Int.reduceToNat, reduceCtorEq, R0, fn_out, p301, Rs.ev, mapO, mapS, take_len_self, hl_0, h0_0, h1_0, h2_0, h3_0, w2, eq_true c3, wx4, w6, w8a, w8b, w8c, w8e, frzs (α := Int) l7, takes (α := Int) l7, take_len (α := Int) (l := l7) (n := (Int.toNat x5)) (by first | rfl | simp only [w8d]), w8d])
  · rw [if_neg c3] at hF
    obtain ⟨x9, gx9, hF⟩ := bS hF
    have wx9 := chk_w gx9
    obtain ⟨x10, gx10, hF⟩ := bS hF
    have w11 : ans A 299 [V.agg [V.int .i64 a0.Prime, V.isl (a0.Dims.map Enc.enc), V.isl (a0.Across.map Enc.enc), V.isl (a0.Down.map Enc.enc)], V.int .i64 a1, V.int .i64 x9] = some (V.int .i64 x10) := s299 a0 a1 x9  gx10
    obtain ⟨x12, gx12, hF⟩ := bS hF
    obtain ⟨w13a, w13b⟩ := getI_w gx12
    obtain ⟨x14, gx14, hF⟩ := bS hF
    obtain ⟨w15a, w15b⟩ := getI_w gx14
    obtain ⟨x16, gx16, hF⟩ := bS hF
    have w17 : tans A 119 [1] [V.int .i64 a0.Prime, V.int .i64 x10, V.isl (a3.map Enc.enc), V.isl (x14.map Enc.enc)] = some (V.isl (x16.map Enc.enc)) := t119 a0.Prime x10 a3 x14  gx16
    have w17t := thaw_one (α := Int) x16
    have hE := Option.some.inj hF; subst hE
    simp only [↓reduceIte, Nat.reduceAdd, Nat.reduceMul, Nat.reduceSub, Nat.reduceLT, Nat.reduceLeDiff, Nat.reduceEqDiff, Nat.reducePow, Int.reducePow, Int.reduceLE, Int.reduceLT, Int.reduceEq, Int.reduceToNat, reduceCtorEq, R0, opEv, fillV, mapO, mapS, b301, hl_0, h0_0, h1_0, h2_0, h3_0, w2, eq_false c3, wx9, w11, w13a, w13b, w15a, w15b, w17, w17t]
    exact tfin_ret (by simp only [↓reduceIte, Nat.reduceAdd, Nat.reduceMul, Nat.reduceSub, Nat.reduceLT, Nat.reduceLeDiff, Nat.reduceEqDiff, Nat.reducePow, Int.reducePow, Int.reduceLE, Int.reduceLT, Int.reduceEq, Int.reduceToNat, reduceCtorEq, R0, fn_out, p301, Rs.ev, mapO, mapS, take_len_self, hl_0, h0_0, h1_0, h2_0, h3_0, w2, eq_false c3, wx9, w11, w13a, w13b, w15a, w15b, w17, w17t, frzs (α := Int) x16, takes (α := Int) x16])
def F268_2_B (a0 : Int) (a1 : Int) (d0 : GDouble) (x3 : List (List Int)) (q1_0_1 : Bool) (v19_1 : Int) (x10 : List Int) (x12 : List Int) (x18 : List Int) (v46_2 : Int) (o3_2 : (List Int)) : Option (((List Int)) ⊕ ((List Int))) :=
  (getI x18 v46_2).bind fun x24 =>
(getI o3_2 v46_2).bind fun x26 =>
(chk (x26 + x24)).bind fun x28 =>
(remI x28 d0.Prime).bind fun x29 =>
(setI o3_2 v46_2 x29).bind fun l31 =>
some (.inl l31)
def F268_2_D (a0 : Int) (a1 : Int) (d0 : GDouble) (x3 : List (List Int)) (q1_0_1 : Bool) (v19_1 : Int) (x10 : List Int) (x12 : List Int) (x18 : List Int) (v46_2 : Int) (o3_2 : (List Int)) : Option ((List Int)) :=
  some o3_2
def F268_1_B (a0 : Int) (a1 : Int) (d0 : GDouble) (x3 : List (List Int)) (v19_1 : Int) (q1_0_1 : Bool) : Option ((Bool) ⊕ (Bool)) :=
  (getI x3 v19_1).bind fun x8 =>
(F300 d0 a0 a1 x8).bind fun x10 =>
(F301 d0 a0 a1 x8).bind fun x12 =>
(chk (a0 - 1)).bind fun x14 =>
(F301 d0 x14 a1 x10).bind fun x15 =>
(chk (a1 - 1)).bind fun x17 =>
(F300 d0 a0 x17 x12).bind fun x18 =>
(forR 0 (x18.length : Int) (F268_2_B a0 a1 d0 x3 q1_0_1 v19_1 x10 x12 x18) (F268_2_D a0 a1 d0 x3 q1_0_1 v19_1 x10 x12 x18) x15).bind fun zo3_2 =>
if q1_0_1 = true then
  (F300 d0 x14 a1 x10).bind fun x34 =>
  (F92 x34).bind fun x36 =>
  if x36 = true then
    (F301 d0 a0 x17 x12).bind fun x38 =>
    (F92 x38).bind fun x40 =>
    if x40 = true then
      (F92 zo3_2).bind fun x42 =>
      some (.inl x42)
    else
      some (.inl false)
  else
    some (.inl false)
else
  some (.inl false)
def F268_1_D (a0 : Int) (a1 : Int) (d0 : GDouble) (x3 : List (List Int)) (v19_1 : Int) (q1_0_1 : Bool) : Option (Bool) :=
  some q1_0_1
def F268 (a0 : Int) (a1 : Int) (d0 : GDouble) (d1 : Bool) : Option Bool :=
  (F299 d0 a0 a1).bind fun x1 =>
  (F124 x1).bind fun x3 =>
  (forR 0 (x3.length : Int) (F268_1_B a0 a1 d0 x3) (F268_1_D a0 a1 d0 x3) d1).bind fun zq1_0_1 =>
  some zq1_0_1
def I268_2 (a0 : Int) (a1 : Int) (d0 : GDouble) (x3 : List (List Int)) (q1_0_1 : Bool) (v19_1 : Int) (x10 : List Int) (x12 : List Int) (x18 : List Int) (uid : Nat) (v46_2 : Int) (o3_2 : (List Int)) (e : Env) (h : Heap) : Prop :=
  ∃ u21 k22 : Nat, h = ⟨[(0, none), (uid, some [V.bool q1_0_1]), (0, none), (u21, some (o3_2.map Enc.enc))], k22⟩ ∧ e.length = 88 ∧ e.at 0 = V.int .i64 a0 ∧ e.at 1 = V.int .i64 a1 ∧ e.at 2 = V.iptr [V.int .i64 d0.Prime, V.isl (d0.Dims.map Enc.enc), V.isl (d0.Across.map Enc.enc), V.isl (d0.Down.map Enc.enc)] ∧ e.at 3 = V.ptr 1 uid 0 ∧ e.at 8 = V.isl (x10.map Enc.enc) ∧ e.at 9 = V.isl (x12.map Enc.enc) ∧ e.at 10 = V.sl 3 u21 0 o3_2.length 1 ∧ e.at 17 = V.isl (x3.map Enc.enc) ∧ e.at 18 = V.int .i64 (x3.length : Int) ∧ e.at 19 = V.int .i64 v19_1 ∧ e.at 44 = V.isl (x18.map Enc.enc) ∧ e.at 45 = V.int .i64 (x18.length : Int) ∧ e.at 46 = V.int .i64 v46_2
def P268_2 (a0 : Int) (a1 : Int) (d0 : GDouble) (x3 : List (List Int)) (q1_0_1 : Bool) (v19_1 : Int) (x10 : List Int) (x12 : List Int) (x18 : List Int) (uid : Nat) (zo3_2 : (List Int)) (x : Ex) (e : Env) (h : Heap) : Prop :=
  x = .normal ∧ ∃ u21 k22 : Nat, h = ⟨[(0, none), (uid, some [V.bool q1_0_1]), (0, none), (u21, some (zo3_2.map Enc.enc))], k22⟩ ∧ e.length = 88 ∧ e.at 0 = V.int .i64 a0 ∧ e.at 1 = V.int .i64 a1 ∧ e.at 2 = V.iptr [V.int .i64 d0.Prime, V.isl (d0.Dims.map Enc.enc), V.isl (d0.Across.map Enc.enc), V.isl (d0.Down.map Enc.enc)] ∧ e.at 3 = V.ptr 1 uid 0 ∧ e.at 8 = V.isl (x10.map Enc.enc) ∧ e.at 9 = V.isl (x12.map Enc.enc) ∧ e.at 10 = V.sl 3 u21 0 zo3_2.length 1 ∧ e.at 17 = V.isl (x3.map Enc.enc) ∧ e.at 18 = V.int .i64 (x3.length : Int) ∧ e.at 19 = V.int .i64 v19_1
theorem l268_2 (a0 : Int) (a1 : Int) (d0 : GDouble) (x3 : List (List Int)) (q1_0_1 : Bool) (v19_1 : Int) (x10 : List Int) (x12 : List Int) (x18 : List Int) (uid : Nat)  {lo : Int} {s : (List Int)} {t : (List Int)} (hF : forR lo (x18.length : Int) (F268_2_B a0 a1 d0 x3 q1_0_1 v19_1 x10 x12 x18) (F268_2_D a0 a1 d0 x3 q1_0_1 v19_1 x10 x12 x18) s = some t) {e : Env} {h : Heap} (hI : I268_2 a0 a1 d0 x3 q1_0_1 v19_1 x10 x12 x18 uid lo s e h) : W A c268_2 e h (P268_2 a0 a1 d0 x3 q1_0_1 v19_1 x10 x12 x18 uid t) := by
  show W A (.block 2 (.loop false b268_2)) e h _
  rw [W_block]
  refine W_forR hF 4 (by obtain ⟨_, _, rfl, _⟩ := hI; rfl) (I268_2 a0 a1 d0 x3 q1_0_1 v19_1 x10 x12 x18 uid) hI ?_ ?_
  · rintro v46_2 o3_2 e h ⟨u21, k22, rfl, h_20⟩ hlt hw o ho
    unfold F268_2_B at ho
    obtain ⟨x24, gx24, ho⟩ := bS ho
    obtain ⟨w25a, w25b⟩ := getI_w gx24
    obtain ⟨x26, gx26, ho⟩ := bS ho
    obtain ⟨w27a, w27b⟩ := getI_w gx26
    have w27c := getI_lt gx26
    have w27d : List.drop (Int.toNat v46_2) (o3_2.map Enc.enc) = (V.int .i64 x26) :: List.drop ((Int.toNat v46_2) + 1) (o3_2.map Enc.enc) := drop_enc w27b
    obtain ⟨x28, gx28, ho⟩ := bS ho
    have wx28 := chk_w gx28
    obtain ⟨x29, gx29, ho⟩ := bS ho
    obtain ⟨w30a, w30b⟩ := rem_w gx29
    obtain ⟨l31, gl31, ho⟩ := bS ho
    obtain ⟨w32a, w32b, w32c, w32d, w32e⟩ := setI_w gl31
    replace w32e : List.take (Int.toNat v46_2) (o3_2.map Enc.enc) ++ [V.int .i64 x29] ++ List.drop (Int.toNat v46_2 + 1) (o3_2.map Enc.enc) = List.map Enc.enc l31 := w32e
    cases ho
    simp only [simprocAttr, R0, opEv, fillV, mapO, mapS, b268_2, h_20, eq_true hlt, hw, w25a, w25b, w27a, w27b, w27c, w27d, wx28, eq_false w30a, w30b, w32a, w32b, w32c, w32e]
    refine And.intro rfl (Exists.intro _ ( Exists.intro _ ( And.intro rfl ?_)))
    simp only [simprocAttr, R0, h_20, eq_true hlt, hw, w25a, w25b, w27a, w27b, w27c, w27d, wx28, eq_false w30a, w30b, w32a, w32b, w32c, w32e, w32d]
  · rintro v46_2 o3_2 e h ⟨u21, k22, rfl, h_20⟩ hge t1 ho
    unfold F268_2_D at ho
    cases ho
    simp only [simprocAttr, R0, opEv, fillV, mapO, mapS, b268_2, h_20, eq_false hge]
    intro ht; subst ht
    refine And.intro rfl (Exists.intro _ ( Exists.intro _ ( And.intro rfl ?_)))
    simp only [simprocAttr, R0, h_20, eq_false hge]
def I268_1 (a0 : Int) (a1 : Int) (d0 : GDouble) (x3 : List (List Int)) (uid : Nat) (v19_1 : Int) (q1_0_1 : Bool) (e : Env) (h : Heap) : Prop :=
  ∃ k6 : Nat, h = ⟨[(0, none), (uid, some [V.bool q1_0_1]), (0, none)], k6⟩ ∧ e.length = 88 ∧ e.at 0 = V.int .i64 a0 ∧ e.at 1 = V.int .i64 a1 ∧ e.at 2 = V.iptr [V.int .i64 d0.Prime, V.isl (d0.Dims.map Enc.enc), V.isl (d0.Across.map Enc.enc), V.isl (d0.Down.map Enc.enc)] ∧ e.at 3 = V.ptr 1 uid 0 ∧ e.at 17 = V.isl (x3.map Enc.enc) ∧ e.at 18 = V.int .i64 (x3.length : Int) ∧ e.at 19 = V.int .i64 v19_1
def P268_1 (a0 : Int) (a1 : Int) (d0 : GDouble) (x3 : List (List Int)) (uid : Nat) (zq1_0_1 : Bool) (x : Ex) (e : Env) (h : Heap) : Prop :=
  x = .normal ∧ ∃ k6 : Nat, h = ⟨[(0, none), (uid, some [V.bool zq1_0_1]), (0, none)], k6⟩ ∧ e.length = 88
theorem l268_1 (a0 : Int) (a1 : Int) (d0 : GDouble) (x3 : List (List Int)) (uid : Nat)  {lo : Int} {s : Bool} {t : Bool} (hF : forR lo (x3.length : Int) (F268_1_B a0 a1 d0 x3) (F268_1_D a0 a1 d0 x3) s = some t) {e : Env} {h : Heap} (hI : I268_1 a0 a1 d0 x3 uid lo s e h) : W A c268_1 e h (P268_1 a0 a1 d0 x3 uid t) := by
  show W A (.block 0 (.loop false b268_1)) e h _
  rw [W_block]
  refine W_forR hF 3 (by obtain ⟨_, rfl, _⟩ := hI; rfl) (I268_1 a0 a1 d0 x3 uid) hI ?_ ?_
  · rintro v19_1 q1_0_1 e h ⟨k6, rfl, h_5⟩ hlt hw o ho
    unfold F268_1_B at ho
    obtain ⟨x8, gx8, ho⟩ := bS ho
    obtain ⟨w9a, w9b⟩ := getI_w gx8
    obtain ⟨x10, gx10, ho⟩ := bS ho
    have w11 : ans A 300 [V.agg [V.int .i64 d0.Prime, V.isl (d0.Dims.map Enc.enc), V.isl (d0.Across.map Enc.enc), V.isl (d0.Down.map Enc.enc)], V.int .i64 a0, V.int .i64 a1, V.isl (x8.map Enc.enc)] = some (V.isl (x10.map Enc.enc)) := s300 d0 a0 a1 x8  gx10
    obtain ⟨x12, gx12, ho⟩ := bS ho
    have w13 : ans A 301 [V.agg [V.int .i64 d0.Prime, V.isl (d0.Dims.map Enc.enc), V.isl (d0.Across.map Enc.enc), V.isl (d0.Down.map Enc.enc)], V.int .i64 a0, V.int .i64 a1, V.isl (x8.map Enc.enc)] = some (V.isl (x12.map Enc.enc)) := s301 d0 a0 a1 x8  gx12
    obtain ⟨x14, gx14, ho⟩ := bS ho
    have wx14 := chk_w gx14
    obtain ⟨x15, gx15, ho⟩ := bS ho
    have w16 : tans A 301 [1] [V.agg [V.int .i64 d0.Prime, V.isl (d0.Dims.map Enc.enc), V.isl (d0.Across.map Enc.enc), V.isl (d0.Down.map Enc.enc)], V.int .i64 x14, V.int .i64 a1, V.isl (x10.map Enc.enc)] = some (V.isl (x15.map Enc.enc)) := t301 d0 x14 a1 x10  gx15
    have w16t := thaw_one (α := Int) x15
    obtain ⟨x17, gx17, ho⟩ := bS ho
    have wx17 := chk_w gx17
    obtain ⟨x18, gx18, ho⟩ := bS ho
    have w19 : ans A 300 [V.agg [V.int .i64 d0.Prime, V.isl (d0.Dims.map Enc.enc), V.isl (d0.Across.map Enc.enc), V.isl (d0.Down.map Enc.enc)], V.int .i64 a0, V.int .i64 x17, V.isl (x12.map Enc.enc)] = some (V.isl (x18.map Enc.enc)) := s300 d0 a0 x17 x12  gx18
    obtain ⟨zo3_2, gt33, ho⟩ := bS ho
    simp only [simprocAttr, R0, opEv, fillV, mapO, mapS, b268_1, h_5, eq_true hlt, hw, w9a, w9b, w11, w13, wx14, w16, w16t, wx17, w19]
    refine W.mono (l268_2 a0 a1 d0 x3 q1_0_1 v19_1 x10 x12 x18 uid  gt33 (Exists.intro _ ( Exists.intro _ ( And.intro rfl ?_)))) ?_
    · simp only [simprocAttr, R0, h_5, eq_true hlt, hw, w9a, w9b, w11, w13, wx14, w16, w16t, wx17, w19]
    rintro _ e _ ⟨rfl, u21, k22, rfl, h_23⟩
    cases q1_0_1 with
    | true =>
      rw [if_pos rfl] at ho
      obtain ⟨x34, gx34, ho⟩ := bS ho
      have w35 : ans A 300 [V.agg [V.int .i64 d0.Prime, V.isl (d0.Dims.map Enc.enc), V.isl (d0.Across.map Enc.enc), V.isl (d0.Down.map Enc.enc)], V.int .i64 x14, V.int .i64 a1, V.isl (x10.map Enc.enc)] = some (V.isl (x34.map Enc.enc)) := s300 d0 x14 a1 x10  gx34
      obtain ⟨x36, gx36, ho⟩ := bS ho
      have w37 : ans A 92 [V.isl (x34.map Enc.enc)] = some (V.bool x36) := s92 x34  gx36
      cases x36 with
      | true =>
        rw [if_pos rfl] at ho
        obtain ⟨x38, gx38, ho⟩ := bS ho
        have w39 : ans A 301 [V.agg [V.int .i64 d0.Prime, V.isl (d0.Dims.map Enc.enc), V.isl (d0.Across.map Enc.enc), V.isl (d0.Down.map Enc.enc)], V.int .i64 a0, V.int .i64 x17, V.isl (x12.map Enc.enc)] = some (V.isl (x38.map Enc.enc)) := s301 d0 a0 x17 x12  gx38
        obtain ⟨x40, gx40, ho⟩ := bS ho
        have w41 : ans A 92 [V.isl (x38.map Enc.enc)] = some (V.bool x40) := s92 x38  gx40
        cases x40 with
        | true =>
          rw [if_pos rfl] at ho
          obtain ⟨x42, gx42, ho⟩ := bS ho
          have w43 : ans A 92 [V.isl (zo3_2.map Enc.enc)] = some (V.bool x42) := s92 zo3_2  gx42
          cases ho
          simp only [simprocAttr, R0, opEv, fillV, mapO, mapS, h_23, eq_true hlt, hw, wx14, w35, w37, wx17, w39, w41, frzs (α := Int) zo3_2, w43]
          refine And.intro rfl (Exists.intro _ ( And.intro rfl ?_))
          simp only [simprocAttr, R0, h_23, eq_true hlt, hw, wx14, w35, w37, wx17, w39, w41, frzs (α := Int) zo3_2, w43]
        | false =>
          rw [if_neg Bool.false_ne_true] at ho
          cases ho
          simp only [simprocAttr, R0, opEv, fillV, mapO, mapS, h_23, eq_true hlt, hw, wx14, w35, w37, wx17, w39, w41]
          refine And.intro rfl (Exists.intro _ ( And.intro rfl ?_))
          simp only [simprocAttr, R0, h_23, eq_true hlt, hw, wx14, w35, w37, wx17, w39, w41]
      | false =>
        rw [if_neg Bool.false_ne_true] at ho
        cases ho
        simp only [simprocAttr, R0, opEv, fillV, mapO, mapS, h_23, eq_true hlt, hw, wx14, w35, w37]
        refine And.intro rfl (Exists.intro _ ( And.intro rfl ?_))
        simp only [simprocAttr, R0, h_23, eq_true hlt, hw, wx14, w35, w37]
    | false =>
      rw [if_neg Bool.false_ne_true] at ho
      cases ho
      simp only [simprocAttr, R0, opEv, fillV, mapO, mapS, h_23, eq_true hlt, hw]
      refine And.intro rfl (Exists.intro _ ( And.intro rfl ?_))
      simp only [simprocAttr, R0, h_23, eq_true hlt, hw]
  · rintro v19_1 q1_0_1 e h ⟨k6, rfl, h_5⟩ hge t1 ho
    unfold F268_1_D at ho
    cases ho
    simp only [simprocAttr, R0, opEv, fillV, mapO, mapS, b268_1, h_5, eq_false hge]
    intro ht; subst ht
    refine And.intro rfl (Exists.intro _ ( And.intro rfl ?_))
    simp only [simprocAttr, R0, h_5, eq_false hge]
theorem q268 (a0 : Int) (a1 : Int) (d0 : GDouble) (d1 : Bool) (uid clk : Nat) {r : Bool} (hF : F268 a0 a1 d0 d1 = some r) : ∃ c', res A 268 [V.int .i64 a0, V.int .i64 a1, V.iptr [V.int .i64 d0.Prime, V.isl (d0.Dims.map Enc.enc), V.isl (d0.Across.map Enc.enc), V.isl (d0.Down.map Enc.enc)], V.ptr 1 uid 0] ⟨[(0, none), (uid, some [V.bool d1]), (0, none)], clk⟩ = some (V.undef, ⟨[(0, none), (uid, some [V.bool r]), (0, none)], c'⟩) := by
  have key : ∃ h', res A 268 [V.int .i64 a0, V.int .i64 a1, V.iptr [V.int .i64 d0.Prime, V.isl (d0.Dims.map Enc.enc), V.isl (d0.Across.map Enc.enc), V.isl (d0.Down.map Enc.enc)], V.ptr 1 uid 0] ⟨[(0, none), (uid, some [V.bool d1]), (0, none)], clk⟩ = some (V.undef, h') ∧ ∃ c', h' = ⟨[(0, none), (uid, some [V.bool r]), (0, none)], c'⟩ := by
    refine res_ex (f := p268) rfl rfl rfl fun e hl he => ?_
    have h0_0 : e.at 0 = V.int .i64 a0 := he 0 _ rfl
    have h1_0 : e.at 1 = V.int .i64 a1 := he 1 _ rfl
    have h2_0 : e.at 2 = V.iptr [V.int .i64 d0.Prime, V.isl (d0.Dims.map Enc.enc), V.isl (d0.Across.map Enc.enc), V.isl (d0.Down.map Enc.enc)] := he 2 _ rfl
    have h3_0 : e.at 3 = V.ptr 1 uid 0 := he 3 _ rfl
    have hl_0 : e.length = 88 := hl
    clear he hl
    show W A b268 e _ _
    unfold F268 at hF
    obtain ⟨x1, gx1, hF⟩ := bS hF
    have w2 : ans A 299 [V.agg [V.int .i64 d0.Prime, V.isl (d0.Dims.map Enc.enc), V.isl (d0.Across.map Enc.enc), V.isl (d0.Down.map Enc.enc)], V.int .i64 a0, V.int .i64 a1] = some (V.int .i64 x1) := s299 d0 a0 a1  gx1
    obtain ⟨x3, gx3, hF⟩ := bS hF
    have w4 : ans A 124 [V.int .i64 x1] = some (V.isl (x3.map Enc.enc)) := s124 x1  gx3
    obtain ⟨zq1_0_1, gt44, hF⟩ := bS hF
    simp only [simprocAttr, R0, opEv, fillV, mapO, mapS, b268, hl_0, h0_0, h1_0, h2_0, h3_0, w2, w4]
    refine W.mono (l268_1 a0 a1 d0 x3 uid  gt44 (Exists.intro _ ( And.intro rfl ?_))) ?_
    · simp only [simprocAttr, R0, hl_0, h0_0, h1_0, h2_0, h3_0, w2, w4]
    rintro _ e _ ⟨rfl, k6, rfl, hl_7⟩
    cases hF
    simp only [simprocAttr, R0, opEv, fillV, mapO, mapS, hl_7]
    refine And.intro ?_ (And.intro ?_ ?_)
    · first | (intro i; trivial) | (simp; done)
    · first | rfl | (simp only [simprocAttr, R0, fn_out, p268, mapO]; rfl) | (simp only [simprocAttr, R0, fn_out, p268, mapO]; done)
    exact ⟨_, rfl⟩
  obtain ⟨_, k1, c', rfl⟩ := key
  exact ⟨c', k1⟩
def F269_2_B (x : GDouble) (i : Int) (j : Int) (s : Bool) : Option (Bool ⊕ Bool) := (F268 i j x s).bind fun t => some (.inl t)
def F269_2_D (j : Int) (s : Bool) : Option Bool := some s
def F269_1_B (x : GDouble) (i : Int) (s : Bool) : Option (Bool ⊕ Bool) := (F263 x).bind fun n => (forR 0 n (F269_2_B x i) F269_2_D s).bind fun t => some (.inl t)
def F269_1_D (i : Int) (s : Bool) : Option Bool := some s
def F269 (x : GDouble) (s : Bool) : Option Bool := (F239 x).bind fun n => forR 0 n (F269_1_B x) F269_1_D s
theorem d269 (x : GDouble) {s s' : Bool} (hF : F269 x s = some s') (uid clk : Nat) : ∃ c', res A 269 [V.agg [V.int .i64 x.Prime, V.isl (x.Dims.map Enc.enc), V.isl (x.Across.map Enc.enc), V.isl (x.Down.map Enc.enc)], V.fn 268 [] [V.iptr [V.int .i64 x.Prime, V.isl (x.Dims.map Enc.enc), V.isl (x.Across.map Enc.enc), V.isl (x.Down.map Enc.enc)], V.ptr 1 uid 0]] ⟨[(0, none), (uid, some [V.bool s])], clk⟩ = some (V.undef, ⟨[(0, none), (uid, some [V.bool s']), (0, none)], c'⟩) := by
  have key : ∃ h', res A 269 [V.agg [V.int .i64 x.Prime, V.isl (x.Dims.map Enc.enc), V.isl (x.Across.map Enc.enc), V.isl (x.Down.map Enc.enc)], V.fn 268 [] [V.iptr [V.int .i64 x.Prime, V.isl (x.Dims.map Enc.enc), V.isl (x.Across.map Enc.enc), V.isl (x.Down.map Enc.enc)], V.ptr 1 uid 0]] ⟨[(0, none), (uid, some [V.bool s])], clk⟩ = some (V.undef, h') ∧ ∃ c', h' = ⟨[(0, none), (uid, some [V.bool s']), (0, none)], c'⟩ := by
    refine res_ex (f := p269) rfl rfl rfl fun e hl he => ?_
    have h0_0 : e.at 0 = V.agg [V.int .i64 x.Prime, V.isl (x.Dims.map Enc.enc), V.isl (x.Across.map Enc.enc), V.isl (x.Down.map Enc.enc)] := he 0 _ rfl
    have h1_0 : e.at 1 = V.fn 268 [] [V.iptr [V.int .i64 x.Prime, V.isl (x.Dims.map Enc.enc), V.isl (x.Across.map Enc.enc), V.isl (x.Down.map Enc.enc)], V.ptr 1 uid 0] := he 1 _ rfl
    have hl_0 : e.length = 22 := hl
    clear he hl
    show W A b269 e _ _
    unfold F269 at hF
    obtain ⟨n, gn, hF⟩ := bS hF
    have wn : ans A 239 [V.agg [V.int .i64 x.Prime, V.isl (x.Dims.map Enc.enc), V.isl (x.Across.map Enc.enc), V.isl (x.Down.map Enc.enc)]] = some (V.int .i64 n) := s239 x gn
    simp only [simprocAttr, R0, opEv, fillV, mapO, mapS, b269, hl_0, h0_0, h1_0, wn]
    refine W.mono (Q := fun x' e h => x' = .normal ∧ (∃ c, h = ⟨[(0, none), (uid, some [V.bool s']), (0, none)], c⟩) ∧ e.length = 22) ?_ ?_
    rotate_left
    · rintro _ e _ ⟨rfl, ⟨c, rfl⟩, hl_2⟩
      refine And.intro (fun i => by simp) (And.intro ?_ ⟨c, rfl⟩)
      simp only [simprocAttr, R0, fn_out, p269, mapO]
      try rfl
    show W A (.block 0 (.loop true b269_1)) _ _ _
    rw [W_block]
    refine W_forR hF _ rfl (fun i s e h => (∃ c, h = ⟨[(0, none), (uid, some [V.bool s]), (0, none)], c⟩) ∧ e.length = 22 ∧ e.at 1 = V.fn 268 [] [V.iptr [V.int .i64 x.Prime, V.isl (x.Dims.map Enc.enc), V.isl (x.Across.map Enc.enc), V.isl (x.Down.map Enc.enc)], V.ptr 1 uid 0] ∧ e.at 2 = V.iptr [V.int .i64 x.Prime, V.isl (x.Dims.map Enc.enc), V.isl (x.Across.map Enc.enc), V.isl (x.Down.map Enc.enc)] ∧ e.at 7 = V.int .i64 n ∧ e.at 8 = V.int .i64 i) ?_ ?_ ?_
    · simp only [simprocAttr, R0, hl_0, h0_0, h1_0]
      exact ⟨_, rfl⟩
    · clear hl_0 h0_0 h1_0
      rintro i s e _ ⟨⟨c, rfl⟩, hl_1, h1_1, h2_1, h7_1, h8_1⟩ hlt hw o ho
      unfold F269_1_B at ho
      obtain ⟨m, gm, ho⟩ := bS ho
      have wm : ans A 263 [V.agg [V.int .i64 x.Prime, V.isl (x.Dims.map Enc.enc), V.isl (x.Across.map Enc.enc), V.isl (x.Down.map Enc.enc)]] = some (V.int .i64 m) := s263 x gm
      obtain ⟨z, gz, ho⟩ := bS ho
      have hE := Option.some.inj ho; subst hE
      simp only [simprocAttr, R0, opEv, fillV, mapO, mapS, b269_1, hl_1, h1_1, h2_1, h7_1, h8_1, eq_true hlt, hw, wm]
      refine W.mono (Q := fun x' e h => x' = .normal ∧ (∃ c, h = ⟨[(0, none), (uid, some [V.bool z]), (0, none)], c⟩) ∧ e.length = 22 ∧ e.at 1 = V.fn 268 [] [V.iptr [V.int .i64 x.Prime, V.isl (x.Dims.map Enc.enc), V.isl (x.Across.map Enc.enc), V.isl (x.Down.map Enc.enc)], V.ptr 1 uid 0] ∧ e.at 2 = V.iptr [V.int .i64 x.Prime, V.isl (x.Dims.map Enc.enc), V.isl (x.Across.map Enc.enc), V.isl (x.Down.map Enc.enc)] ∧ e.at 7 = V.int .i64 n ∧ e.at 8 = V.int .i64 i) ?_ ?_
      rotate_left
      · rintro _ e _ ⟨rfl, ⟨c, rfl⟩, hl_2, h1_2, h2_2, h7_2, h8_2⟩
        simp only [simprocAttr, R0, opEv, fillV, mapO, mapS, hl_2, h1_2, h2_2, h7_2, h8_2, hw]
        refine And.intro rfl (And.intro ⟨c, rfl⟩ ?_)
        simp only [simprocAttr, R0, hl_2, h1_2, h2_2, h7_2, h8_2, hw]
      show W A (.block 2 (.loop true b269_2)) _ _ _
      rw [W_block]
      refine W_forR gz _ rfl (fun j s e h => (∃ c, h = ⟨[(0, none), (uid, some [V.bool s]), (0, none)], c⟩) ∧ e.length = 22 ∧ e.at 1 = V.fn 268 [] [V.iptr [V.int .i64 x.Prime, V.isl (x.Dims.map Enc.enc), V.isl (x.Across.map Enc.enc), V.isl (x.Down.map Enc.enc)], V.ptr 1 uid 0] ∧ e.at 2 = V.iptr [V.int .i64 x.Prime, V.isl (x.Dims.map Enc.enc), V.isl (x.Across.map Enc.enc), V.isl (x.Down.map Enc.enc)] ∧ e.at 4 = V.int .i64 i ∧ e.at 7 = V.int .i64 n ∧ e.at 8 = V.int .i64 i ∧ e.at 12 = V.int .i64 m ∧ e.at 13 = V.int .i64 j) ?_ ?_ ?_
      · simp only [simprocAttr, R0, hl_1, h1_1, h2_1, h7_1, h8_1]
        exact ⟨_, rfl⟩
      · clear hl_1 h1_1 h2_1 h7_1 h8_1
        rintro j s e _ ⟨⟨c, rfl⟩, hl_1, h1_1, h2_1, h4_1, h7_1, h8_1, h12_1, h13_1⟩ hlt2 hw2 o ho
        unfold F269_2_B at ho
        obtain ⟨y, gy, ho⟩ := bS ho
        have hE := Option.some.inj ho; subst hE
        obtain ⟨c2, wy⟩ := q268 i j x s uid c gy
        simp only [simprocAttr, R0, opEv, fillV, mapO, mapS, b269_2, hl_1, h1_1, h2_1, h4_1, h7_1, h8_1, h12_1, h13_1, eq_true hlt2, hw2, callM_plain_eq, wy]
        refine And.intro rfl (And.intro ⟨c2, rfl⟩ ?_)
        simp only [simprocAttr, R0, hl_1, h1_1, h2_1, h4_1, h7_1, h8_1, h12_1, h13_1, hw2]
      · clear hl_1 h1_1 h2_1 h7_1 h8_1
        rintro j s e _ ⟨⟨c, rfl⟩, hl_1, h1_1, h2_1, h4_1, h7_1, h8_1, h12_1, h13_1⟩ hge t1 ho
        unfold F269_2_D at ho
        have hE := Option.some.inj ho; subst hE
        simp only [simprocAttr, R0, opEv, fillV, mapO, mapS, b269_2, hl_1, h1_1, h2_1, h4_1, h7_1, h8_1, h12_1, h13_1, eq_false hge]
        intro ht; subst ht
        exact ⟨_, rfl⟩
    · clear hl_0 h0_0 h1_0
      rintro i s e _ ⟨⟨c, rfl⟩, hl_1, h1_1, h2_1, h7_1, h8_1⟩ hge t1 ho
      unfold F269_1_D at ho
      have hE := Option.some.inj ho; subst hE
      simp only [simprocAttr, R0, opEv, fillV, mapO, mapS, b269_1, hl_1, h1_1, h2_1, h7_1, h8_1, eq_false hge]
      intro ht; subst ht
      exact ⟨_, rfl⟩
  obtain ⟨_, k1, c', rfl⟩ := key
  exact ⟨c', k1⟩
def F238_1_B (a0 : GDouble) (v27_1 : Int) (s : Unit) : Option ((Unit) ⊕ ((Unit) ⊕ Bool)) :=
  (getI a0.Dims v27_1).bind fun x14 =>
(F263 a0).bind fun x18 =>
if (x14.length : Int) = x18 then
  (F82 x14 (fun x => F264 x)).bind fun x21 =>
  if x21 = true then
    some (.inr (.inr false))
  else
    some (.inl ())
else
  some (.inr (.inr false))
def F238_1_D (a0 : GDouble) (v27_1 : Int) (s : Unit) : Option ((Unit) ⊕ Bool) :=
  some (.inl ())
def F238 (a0 : GDouble) : Option Bool :=
  (F67 a0.Prime).bind fun x1 =>
  if x1 = true then
    (F239 a0).bind fun x3 =>
    (F56 x3 1 4).bind fun x5 =>
    if x5 = true then
      (F263 a0).bind fun x7 =>
      (F56 x7 1 4).bind fun x9 =>
      if x9 = true then
        (forR 0 (a0.Dims.length : Int) (F238_1_B a0) (F238_1_D a0) ()).bind fun t23 => match t23 with
          | .inl _ =>
            (F267 a0 a0.Across (fun x y => F265 x y a0)).bind fun x24 =>
            if x24 = true then
              (F267 a0 a0.Down (fun x y => F266 x y a0)).bind fun x26 =>
              if x26 = true then
                (F269 a0 true).bind fun y28 =>
                some y28
              else
                some false
            else
              some false
          | .inr r31 => some r31
      else
        some false
    else
      some false
  else
    some false
def I238_1 (a0 : GDouble)  (v27_1 : Int) (s : Unit) (e : Env) (h : Heap) : Prop :=
  ∃ k12 : Nat, h = ⟨[(0, none)], k12⟩ ∧ e.length = 61 ∧ e.at 1 = V.iptr [V.int .i64 a0.Prime, V.isl (a0.Dims.map Enc.enc), V.isl (a0.Across.map Enc.enc), V.isl (a0.Down.map Enc.enc)] ∧ e.at 25 = V.isl (a0.Dims.map Enc.enc) ∧ e.at 26 = V.int .i64 (a0.Dims.length : Int) ∧ e.at 27 = V.int .i64 v27_1
def P238_1 (a0 : GDouble)  (t : (Unit) ⊕ Bool) (x : Ex) (e : Env) (h : Heap) : Prop :=
  match t with
  | .inl _ => x = .normal ∧ ∃ k12 : Nat, h = ⟨[(0, none)], k12⟩ ∧ e.length = 61 ∧ e.at 1 = V.iptr [V.int .i64 a0.Prime, V.isl (a0.Dims.map Enc.enc), V.isl (a0.Across.map Enc.enc), V.isl (a0.Down.map Enc.enc)]
  | .inr r => x = .ret ∧ Fin p238 (Enc.enc r) .ret e h
theorem l238_1 (a0 : GDouble)   {lo : Int} {s : Unit} {t : (Unit) ⊕ Bool} (hF : forR lo (a0.Dims.length : Int) (F238_1_B a0) (F238_1_D a0) s = some t) {e : Env} {h : Heap} (hI : I238_1 a0  lo s e h) : W A c238_1 e h (P238_1 a0  t) := by
  show W A (.block 0 (.loop false b238_1)) e h _
  rw [W_block]
  refine W_forR hF 1 (by obtain ⟨_, rfl, _⟩ := hI; rfl) (I238_1 a0 ) hI ?_ ?_
  · rintro v27_1 _ e h ⟨k12, rfl, h_11⟩ hlt hw o ho
    unfold F238_1_B at ho
    obtain ⟨x14, gx14, ho⟩ := bS ho
    obtain ⟨w15a, w15b⟩ := getI_w gx14
    have w17 : ans A 73 [V.isl (x14.map Enc.enc)] = some (V.int .i64 (x14.length : Int)) := s73 x14  rfl
    obtain ⟨x18, gx18, ho⟩ := bS ho
    have w19 : ans A 263 [V.agg [V.int .i64 a0.Prime, V.isl (a0.Dims.map Enc.enc), V.isl (a0.Across.map Enc.enc), V.isl (a0.Down.map Enc.enc)]] = some (V.int .i64 x18) := s263 a0  gx18
    by_cases c20 : (x14.length : Int) = x18
    · rw [if_pos c20] at ho
      obtain ⟨x21, gx21, ho⟩ := bS ho
      have w22 : ans A 82 [V.isl (x14.map Enc.enc), V.fn 264 [] []] = some (V.bool x21) := s82 x14 (fun x => F264 x) (Clo1.of (by intro h f; simp only [RZ, mapO]) (by intro h f; simp only [RZ, mapO]) (by intro f; simp only [RZ, RB]) (by intro f; simp only [RZ, RB]) (fun x _ hr => s264 x hr)) gx21
      cases x21 with
      | true =>
        rw [if_pos rfl] at ho
        cases ho
        simp only [simprocAttr, R0, opEv, fillV, mapO, mapS, b238_1, h_11, eq_true hlt, hw, w15a, w15b, w17, w19, eq_true c20, w22]
        intro ht; subst ht
        simp only [simprocAttr, RR, RB]
        exact And.intro rfl (fin_ret (by simp only [simprocAttr, R0, fn_out, p238, Rs.ev, mapO, mapS, take_len_self, h_11, eq_true hlt, hw, w15a, w15b, w17, w19, eq_true c20, w22]))
      | false =>
        rw [if_neg Bool.false_ne_true] at ho
        cases ho
        simp only [simprocAttr, R0, opEv, fillV, mapO, mapS, b238_1, h_11, eq_true hlt, hw, w15a, w15b, w17, w19, eq_true c20, w22]
        refine And.intro rfl (Exists.intro _ ( And.intro rfl ?_))
        simp only [simprocAttr, R0, h_11, eq_true hlt, hw, w15a, w15b, w17, w19, eq_true c20, w22]
    · rw [if_neg c20] at ho
      cases ho
      simp only [simprocAttr, R0, opEv, fillV, mapO, mapS, b238_1, h_11, eq_true hlt, hw, w15a, w15b, w17, w19, eq_false c20]
      intro ht; subst ht
      simp only [simprocAttr, RR, RB]
      exact And.intro rfl (fin_ret (by simp only [simprocAttr, R0, fn_out, p238, Rs.ev, mapO, mapS, take_len_self, h_11, eq_true hlt, hw, w15a, w15b, w17, w19, eq_false c20]))
  · rintro v27_1 _ e h ⟨k12, rfl, h_11⟩ hge t1 ho
    unfold F238_1_D at ho
    cases ho
    simp only [simprocAttr, R0, opEv, fillV, mapO, mapS, b238_1, h_11, eq_false hge]
    intro ht; subst ht
    refine And.intro rfl (Exists.intro _ ( And.intro rfl ?_))
    simp only [simprocAttr, R0, h_11, eq_false hge]
theorem s238 (a0 : GDouble)   {r : Bool} (hF : F238 a0 = some r) : ans A 238 [V.agg [V.int .i64 a0.Prime, V.isl (a0.Dims.map Enc.enc), V.isl (a0.Across.map Enc.enc), V.isl (a0.Down.map Enc.enc)]] = some (Enc.enc r) := by
  refine ans_of (f := p238) rfl rfl rfl fun e hl he => ?_
  have h0_0 : e.at 0 = V.agg [V.int .i64 a0.Prime, V.isl (a0.Dims.map Enc.enc), V.isl (a0.Across.map Enc.enc), V.isl (a0.Down.map Enc.enc)] := he 0 _ rfl
  have hl_0 : e.length = 61 := hl
  clear he hl
  have h_0 := And.intro hl_0 h0_0
  show W A b238 e ⟨[], 0⟩ _
  unfold F238 at hF
  obtain ⟨x1, gx1, hF⟩ := bS hF
  have w2 : ans A 67 [V.int .i64 a0.Prime] = some (V.bool x1) := s67 a0.Prime  gx1
  cases x1 with
  | true =>
    rw [if_pos rfl] at hF
    obtain ⟨x3, gx3, hF⟩ := bS hF
    have w4 : ans A 239 [V.agg [V.int .i64 a0.Prime, V.isl (a0.Dims.map Enc.enc), V.isl (a0.Across.map Enc.enc), V.isl (a0.Down.map Enc.enc)]] = some (V.int .i64 x3) := s239 a0  gx3
    obtain ⟨x5, gx5, hF⟩ := bS hF
    have w6 : ans A 56 [V.int .i64 x3, V.int .i64 1, V.int .i64 4] = some (V.bool x5) := s56 x3 1 4  gx5
    cases x5 with
    | true =>
      rw [if_pos rfl] at hF
      obtain ⟨x7, gx7, hF⟩ := bS hF
      have w8 : ans A 263 [V.agg [V.int .i64 a0.Prime, V.isl (a0.Dims.map Enc.enc), V.isl (a0.Across.map Enc.enc), V.isl (a0.Down.map Enc.enc)]] = some (V.int .i64 x7) := s263 a0  gx7
      obtain ⟨x9, gx9, hF⟩ := bS hF
      have w10 : ans A 56 [V.int .i64 x7, V.int .i64 1, V.int .i64 4] = some (V.bool x9) := s56 x7 1 4  gx9
      cases x9 with
      | true =>
        rw [if_pos rfl] at hF
        obtain ⟨t23, gt23, hF⟩ := bS hF
        rcases t23 with _ | r31
        · dsimp only at hF
          simp only [simprocAttr, R0, opEv, fillV, mapO, mapS, b238, h_0, w2, w4, w6, w8, w10]
          refine W.mono (l238_1 a0   gt23 (Exists.intro _ ( And.intro rfl ?_))) ?_
          · simp only [simprocAttr, R0, h_0, w2, w4, w6, w8, w10]
          rintro _ e _ ⟨rfl, k12, rfl, h_13⟩
          obtain ⟨x24, gx24, hF⟩ := bS hF
          have w25 : ans A 267 [V.agg [V.int .i64 a0.Prime, V.isl (a0.Dims.map Enc.enc), V.isl (a0.Across.map Enc.enc), V.isl (a0.Down.map Enc.enc)], V.isl (a0.Across.map Enc.enc), V.fn 265 [] [V.iptr [V.int .i64 a0.Prime, V.isl (a0.Dims.map Enc.enc), V.isl (a0.Across.map Enc.enc), V.isl (a0.Down.map Enc.enc)]]] = some (V.bool x24) := s267 a0 a0.Across (fun x y => F265 x y a0) (Clo2.of (by intro h f; simp only [RZ, mapO]) (by intro h f; simp only [RZ, mapO]) (by intro f; simp only [RZ, RB]) (by intro f; simp only [RZ, RB]) (fun x y _ hr => s265 x y a0 hr)) gx24
          cases x24 with
          | true =>
            rw [if_pos rfl] at hF
            obtain ⟨x26, gx26, hF⟩ := bS hF
            have w27 : ans A 267 [V.agg [V.int .i64 a0.Prime, V.isl (a0.Dims.map Enc.enc), V.isl (a0.Across.map Enc.enc), V.isl (a0.Down.map Enc.enc)], V.isl (a0.Down.map Enc.enc), V.fn 266 [] [V.iptr [V.int .i64 a0.Prime, V.isl (a0.Dims.map Enc.enc), V.isl (a0.Across.map Enc.enc), V.isl (a0.Down.map Enc.enc)]]] = some (V.bool x26) := s267 a0 a0.Down (fun x y => F266 x y a0) (Clo2.of (by intro h f; simp only [RZ, mapO]) (by intro h f; simp only [RZ, mapO]) (by intro f; simp only [RZ, RB]) (by intro f; simp only [RZ, RB]) (fun x y _ hr => s266 x y a0 hr)) gx26
            cases x26 with
            | true =>
              rw [if_pos rfl] at hF
              obtain ⟨y28, gy28, hF⟩ := bS hF
              obtain ⟨k30, w29⟩ := d269 a0 gy28 k12 (k12 + 1)
              cases hF
              simp only [simprocAttr, R0, opEv, fillV, mapO, mapS, h_13, w25, w27, callM_plain_eq, w29]
              exact fin_ret (by simp only [simprocAttr, R0, fn_out, p238, Rs.ev, mapO, mapS, take_len_self, h_13, w25, w27, callM_plain_eq, w29])
            | false =>
              rw [if_neg Bool.false_ne_true] at hF
              cases hF
              simp only [simprocAttr, R0, opEv, fillV, mapO, mapS, h_13, w25, w27]
              exact fin_ret (by simp only [simprocAttr, R0, fn_out, p238, Rs.ev, mapO, mapS, take_len_self, h_13, w25, w27])
          | false =>
            rw [if_neg Bool.false_ne_true] at hF
            cases hF
            simp only [simprocAttr, R0, opEv, fillV, mapO, mapS, h_13, w25]
            exact fin_ret (by simp only [simprocAttr, R0, fn_out, p238, Rs.ev, mapO, mapS, take_len_self, h_13, w25])
        · dsimp only at hF
          cases hF
          simp only [simprocAttr, R0, opEv, fillV, mapO, mapS, b238, h_0, w2, w4, w6, w8, w10]
          refine W.mono (l238_1 a0   gt23 (Exists.intro _ ( And.intro rfl ?_))) ?_
          · simp only [simprocAttr, R0, h_0, w2, w4, w6, w8, w10]
          rintro _ e h ⟨rfl, hq⟩
          simp only [simprocAttr, RR, RB]
          exact hq
      | false =>
        rw [if_neg Bool.false_ne_true] at hF
        cases hF
        simp only [simprocAttr, R0, opEv, fillV, mapO, mapS, b238, h_0, w2, w4, w6, w8, w10]
        exact fin_ret (by simp only [simprocAttr, R0, fn_out, p238, Rs.ev, mapO, mapS, take_len_self, h_0, w2, w4, w6, w8, w10])
    | false =>
      rw [if_neg Bool.false_ne_true] at hF
      cases hF
      simp only [simprocAttr, R0, opEv, fillV, mapO, mapS, b238, h_0, w2, w4, w6]
      exact fin_ret (by simp only [simprocAttr, R0, fn_out, p238, Rs.ev, mapO, mapS, take_len_self, h_0, w2, w4, w6])
  | false =>
    rw [if_neg Bool.false_ne_true] at hF
    cases hF
    simp only [simprocAttr, R0, opEv, fillV, mapO, mapS, b238, h_0, w2]
    exact fin_ret (by simp only [simprocAttr, R0, fn_out, p238, Rs.ev, mapO, mapS, take_len_self, h_0, w2])
def F218_1_B (l12 : List (List (List Int))) (v37_1 : Int) (s : (List (List (List Int))) × Int × (List Int)) : Option (((List (List (List Int))) × Int × (List Int)) ⊕ ((List (List (List Int))) × Int × (List Int))) :=
  match s with
  | (o2_1, q3_0_1, q3_1_1) =>
    (getI l12 v37_1).bind fun x18 =>
    (app 24 o2_1 [x18]).bind fun l21 =>
    some (.inl (l21, q3_0_1, q3_1_1))
def F218_1_D (l12 : List (List (List Int))) (v37_1 : Int) (s : (List (List (List Int))) × Int × (List Int)) : Option ((List (List (List Int))) × Int × (List Int)) :=
  match s with
  | (o2_1, q3_0_1, q3_1_1) =>
    some (o2_1, q3_0_1, q3_1_1)
def F218 (a0 : GDouble) (a1 : Int) : Option (T2 GComplex Int) :=
  (F238 a0).bind fun x1 =>
  if x1 = true then
    (F239 a0).bind fun x3 =>
    (chk (x3 - 1)).bind fun x5 =>
    (F56 a1 0 x5).bind fun x6 =>
    if x6 = true then
      (getI a0.Dims a1).bind fun x8 =>
      (getI a0.Down a1).bind fun x10 =>
      (slI x10 1 (x10.length : Int)).bind fun l12 =>
      (forR 0 (l12.length : Int) (F218_1_B l12) (F218_1_D l12) ([], a0.Prime, x8)).bind fun t22 => match t22 with
        | (zo2_1, zq3_0_1, zq3_1_1) =>
          (F57 ⟨zq3_0_1, zq3_1_1, zo2_1⟩).bind fun x23 =>
          some ⟨x23, 0⟩
    else
      some ⟨⟨0, [], []⟩, 2⟩
  else
    some ⟨⟨0, [], []⟩, 1⟩
def I218_1 (l12 : List (List (List Int)))  (v37_1 : Int) (s : (List (List (List Int))) × Int × (List Int)) (e : Env) (h : Heap) : Prop :=
  match s with
  | (o2_1, q3_0_1, q3_1_1) =>
    ∃ u15 k16 : Nat, h = ⟨[(0, none), (1, some [V.int .i64 0, V.nils, V.nils]), (u15, some (o2_1.map Enc.enc)), (3, some [V.int .i64 q3_0_1, V.isl (q3_1_1.map Enc.enc), V.sl 2 u15 0 o2_1.length 1])], k16⟩ ∧ e.length = 50 ∧ e.at 4 = V.ptr 1 1 0 ∧ e.at 6 = V.ptr 3 3 0 ∧ e.at 35 = V.isl (l12.map Enc.enc) ∧ e.at 36 = V.int .i64 (l12.length : Int) ∧ e.at 37 = V.int .i64 v37_1
def P218_1 (l12 : List (List (List Int)))  (t : (List (List (List Int))) × Int × (List Int)) (x : Ex) (e : Env) (h : Heap) : Prop :=
  match t with
  | (zo2_1, zq3_0_1, zq3_1_1) =>
    x = .normal ∧ ∃ u15 k16 : Nat, h = ⟨[(0, none), (1, some [V.int .i64 0, V.nils, V.nils]), (u15, some (zo2_1.map Enc.enc)), (3, some [V.int .i64 zq3_0_1, V.isl (zq3_1_1.map Enc.enc), V.sl 2 u15 0 zo2_1.length 1])], k16⟩ ∧ e.length = 50 ∧ e.at 4 = V.ptr 1 1 0 ∧ e.at 6 = V.ptr 3 3 0
theorem l218_1 (l12 : List (List (List Int)))   {lo : Int} {s : (List (List (List Int))) × Int × (List Int)} {t : (List (List (List Int))) × Int × (List Int)} (hF : forR lo (l12.length : Int) (F218_1_B l12) (F218_1_D l12) s = some t) {e : Env} {h : Heap} (hI : I218_1 l12  lo s e h) : W A c218_1 e h (P218_1 l12  t) := by
  show W A (.block 1 (.loop false b218_1)) e h _
  rw [W_block]
  refine W_forR hF 4 (by rcases s with ⟨_, _, _⟩; obtain ⟨_, _, rfl, _⟩ := hI; rfl) (I218_1 l12 ) hI ?_ ?_
  · rintro v37_1 ⟨o2_1, q3_0_1, q3_1_1⟩ e h ⟨u15, k16, rfl, h_14⟩ hlt hw o ho
    unfold F218_1_B at ho
    dsimp only at ho
    obtain ⟨x18, gx18, ho⟩ := bS ho
    obtain ⟨w19a, w19b⟩ := getI_w gx18
    obtain ⟨l21, gl21, ho⟩ := bS ho
    have w20 := fun a b c d e => appendV_w (α := List (List Int)) (n := o2_1.length) (m := 1) (ds := [V.isl (x18.map Enc.enc)]) gl21 (by first | rfl | simp) (by first | rfl | simp) rfl a b c d e
    have w20l := app_len gl21
    cases ho
    simp only [simprocAttr, R0, opEv, fillV, mapO, mapS, b218_1, h_14, eq_true hlt, hw, w19a, w19b, w20]
    refine And.intro rfl (Exists.intro _ ( Exists.intro _ ( And.intro rfl ?_)))
    simp only [simprocAttr, R0, h_14, eq_true hlt, hw, w19a, w19b, w20]
  · rintro v37_1 ⟨o2_1, q3_0_1, q3_1_1⟩ e h ⟨u15, k16, rfl, h_14⟩ hge t1 ho
    unfold F218_1_D at ho
    dsimp only at ho
    cases ho
    simp only [simprocAttr, R0, opEv, fillV, mapO, mapS, b218_1, h_14, eq_false hge]
    intro ht; subst ht
    refine And.intro rfl (Exists.intro _ ( Exists.intro _ ( And.intro rfl ?_)))
    simp only [simprocAttr, R0, h_14, eq_false hge]
theorem d218 (a0 : GDouble) (a1 : Int) {r : T2 GComplex Int} (hF : F218 a0 a1 = some r) : ∃ v h', res A 218 [V.agg [V.int .i64 a0.Prime, V.isl (a0.Dims.map Enc.enc), V.isl (a0.Across.map Enc.enc), V.isl (a0.Down.map Enc.enc)], V.int .i64 a1] Heap.empty = some (v, h') ∧ ∃ vs K, v = V.tup vs ∧ repF h' vs [⟨r.a⟩, ⟨r.b⟩] K := by
  refine res_dp (f := p218) rfl rfl rfl fun e hl he => ?_
  have h0_0 : e.at 0 = V.agg [V.int .i64 a0.Prime, V.isl (a0.Dims.map Enc.enc), V.isl (a0.Across.map Enc.enc), V.isl (a0.Down.map Enc.enc)] := he 0 _ rfl
  have h1_0 : e.at 1 = V.int .i64 a1 := he 1 _ rfl
  have hl_0 : e.length = 50 := hl
  clear he hl
  have h_0 := And.intro hl_0 (And.intro h0_0 h1_0)
  show W A b218 e ⟨[], 0⟩ _
  unfold F218 at hF
  have zr : ∀ h, Deep.rep h (V.agg [V.int .i64 0, V.nils, V.nils]) (⟨0, [], []⟩ : GComplex) _ := fun h => ⟨_, rfl, rec3 (rep_nils h) (rep_nils h) fun _ x _ => x⟩
  obtain ⟨x1, gx1, hF⟩ := bS hF
  have w2 : ans A 238 [V.agg [V.int .i64 a0.Prime, V.isl (a0.Dims.map Enc.enc), V.isl (a0.Across.map Enc.enc), V.isl (a0.Down.map Enc.enc)]] = some (V.bool x1) := s238 a0  gx1
  cases x1 with
  | true =>
    rw [if_pos rfl] at hF
    obtain ⟨x3, gx3, hF⟩ := bS hF
    have w4 : ans A 239 [V.agg [V.int .i64 a0.Prime, V.isl (a0.Dims.map Enc.enc), V.isl (a0.Across.map Enc.enc), V.isl (a0.Down.map Enc.enc)]] = some (V.int .i64 x3) := s239 a0  gx3
    obtain ⟨x5, gx5, hF⟩ := bS hF
    have wx5 := chk_w gx5
    obtain ⟨x6, gx6, hF⟩ := bS hF
    have w7 : ans A 56 [V.int .i64 a1, V.int .i64 0, V.int .i64 x5] = some (V.bool x6) := s56 a1 0 x5  gx6
    cases x6 with
    | true =>
      rw [if_pos rfl] at hF
      obtain ⟨x8, gx8, hF⟩ := bS hF
      obtain ⟨w9a, w9b⟩ := getI_w gx8
      obtain ⟨x10, gx10, hF⟩ := bS hF
      obtain ⟨w11a, w11b⟩ := getI_w gx10
      obtain ⟨l12, gl12, hF⟩ := bS hF
      have w13 : sliceV 1 (V.isl (x10.map Enc.enc)) (some (V.int .i64 1)) none = some (V.isl (l12.map Enc.enc)) := sliceV_w (α := List (List Int)) One.one gl12 (.inr rfl) (.inl ⟨rfl, rfl⟩)
      obtain ⟨⟨zo2_1, zq3_0_1, zq3_1_1⟩, gt22, hF⟩ := bS hF
      dsimp only at hF
      simp only [simprocAttr, R0, opEv, fillV, mapO, mapS, b218, h_0, w2, w4, wx5, w7, w9a, w9b, w11a, w11b, w13]
      refine W.mono (l218_1 l12   gt22 (Exists.intro _ ( Exists.intro _ ( And.intro rfl ?_)))) ?_
      · simp only [simprocAttr, R0, h_0, w2, w4, wx5, w7, w9a, w9b, w11a, w11b, w13]
      rintro _ e _ ⟨rfl, u15, k16, rfl, h_17⟩
      obtain ⟨x23, gx23, hF⟩ := bS hF
      have w24 := x57 ⟨zq3_0_1, zq3_1_1, zo2_1⟩ gx23
      cases hF
      obtain ⟨_, ⟨E1, c1⟩, t1, ⟨_, rfl, t2⟩, t3, t4⟩ := thaw_deep (α := GComplex) (by decide) x23 ⟨[(0, none), (1, some [V.int .i64 0, V.nils, V.nils]), (0, none), (3, some [V.int .i64 zq3_0_1, V.isl (zq3_1_1.map Enc.enc), V.sl 2 u15 0 zo2_1.length 1])], k16⟩
      obtain ⟨dv, m, K1, K2, rfl, t5, t6, t7, t8⟩ := rec3_un t2
      simp only [List.length_cons, List.length_nil, Nat.zero_add, Nat.reduceAdd] at t3 t4 t8
      have t1' : thaw 16 [1, 1, 1] ((eC x23)) ⟨[(0, none), (1, some [V.int .i64 0, V.nils, V.nils]), (0, none), (3, some [V.int .i64 zq3_0_1, V.isl (zq3_1_1.map Enc.enc), V.sl 2 u15 0 zo2_1.length 1])], k16⟩ = some (V.agg [V.int .i64 x23.Prime, dv, m], ⟨E1, c1⟩) := t1
      have b1 : ∀ k, K1 k → 4 ≤ k ∧ k < E1.length := fun k q => (t8 k).2 (.inl q)
      have b2 : ∀ k, K2 k → 4 ≤ k ∧ k < E1.length := fun k q => (t8 k).2 (.inr q)
      have m1 : E1[1]? = some (1, some [V.int .i64 0, V.nils, V.nils]) := t4 1 (by decide)
      have n1 : ∀ z, (E1.set 1 z)[1]? = some z := fun z => set_app_key (by omega)
      have rr : ∀ z c, Deep.rep ⟨E1.set 1 z, c⟩ (V.agg [V.int .i64 x23.Prime, dv, m]) x23 (fun k => K1 k ∨ K2 k) := fun z c => ⟨_, rfl, rec3 (Deep.frame t5 fun k q => set_ne (by have := b1 k q; omega)) (Deep.frame t6 fun k q => set_ne (by have := b2 k q; omega)) t7⟩
      simp only [simprocAttr, R0, opEv, fillV, mapO, mapS, h_17, takes (α := List (List Int)) zo2_1, w24, callM_tans, t1', m1, n1]
      refine And.intro (fun _ => trivial) ⟨V.tup [V.agg [V.int .i64 x23.Prime, dv, m], V.int .i64 0], ?_, _, _, rfl, pair_rep (rr _ _) _⟩
      simp only [simprocAttr, R0, fn_out, p218, Rs.ev, mapO, mapS, h_17, n1]
    | false =>
      rw [if_neg Bool.false_ne_true] at hF
      cases hF
      simp only [simprocAttr, R0, opEv, fillV, mapO, mapS, b218, h_0, w2, w4, wx5, w7]
      refine And.intro (fun _ => trivial) ⟨V.tup [V.agg [V.int .i64 0, V.nils, V.nils], V.int .i64 2], ?_, _, _, rfl, pair_rep (α := GComplex) (zr _) _⟩
      simp only [simprocAttr, R0, fn_out, p218, Rs.ev, mapO, mapS, hl_0]
  | false =>
    rw [if_neg Bool.false_ne_true] at hF
    cases hF
    simp only [simprocAttr, R0, opEv, fillV, mapO, mapS, b218, h_0, w2]
    refine And.intro (fun _ => trivial) ⟨V.tup [V.agg [V.int .i64 0, V.nils, V.nils], V.int .i64 1], ?_, _, _, rfl, pair_rep (α := GComplex) (zr _) _⟩
    simp only [simprocAttr, R0, fn_out, p218, Rs.ev, mapO, mapS, hl_0]
theorem x218 (a0 : GDouble) (a1 : Int) {r : T2 GComplex Int} (hF : F218 a0 a1 = some r) : tans A 218 [1, 1, 1] [V.agg [V.int .i64 a0.Prime, V.isl (a0.Dims.map Enc.enc), V.isl (a0.Across.map Enc.enc), V.isl (a0.Down.map Enc.enc)], V.int .i64 a1] = some (V.tup [Enc.enc r.a, V.int .i64 r.b]) := by
  obtain ⟨_, h', h1, vs, K, rfl, h2⟩ := d218 a0 a1 hF
  exact tans_tup (fits_pair rfl (by decide)) h1 h2
theorem s218 (a0 : GDouble) (a1 : Int) {r : T2 GComplex Int} (hF : F218 a0 a1 = some r) : ans A 218 [V.agg [V.int .i64 a0.Prime, V.isl (a0.Dims.map Enc.enc), V.isl (a0.Across.map Enc.enc), V.isl (a0.Down.map Enc.enc)], V.int .i64 a1] = some (EncR.enc r) := by
  obtain ⟨_, h', h1, vs, K, rfl, h2⟩ := d218 a0 a1 hF
  exact ans_tup (ss := [1, 1, 1]) (fits_pair rfl (by decide)) h1 h2
def F240_1_B (a0 : List (List (List (List Int)))) (a1 : List (List (List (List Int)))) (v5_1 : Int) (s : Unit) : Option ((Unit) ⊕ ((Unit) ⊕ Bool)) :=
  (getI a0 v5_1).bind fun x5 =>
(getI a1 v5_1).bind fun x7 =>
(F17 x5 x7).bind fun x9 =>
if x9 = true then
  some (.inl ())
else
  some (.inr (.inr false))
def F240_1_D (a0 : List (List (List (List Int)))) (a1 : List (List (List (List Int)))) (v5_1 : Int) (s : Unit) : Option ((Unit) ⊕ Bool) :=
  some (.inl ())
def F240 (a0 : List (List (List (List Int)))) (a1 : List (List (List (List Int)))) : Option Bool :=
  if (a0.length : Int) = (a1.length : Int) then
    (forR 0 (a0.length : Int) (F240_1_B a0 a1) (F240_1_D a0 a1) ()).bind fun t11 => match t11 with
      | .inl _ =>
        some true
      | .inr r12 => some r12
  else
    some false
def I240_1 (a0 : List (List (List (List Int)))) (a1 : List (List (List (List Int))))  (v5_1 : Int) (s : Unit) (e : Env) (h : Heap) : Prop :=
  ∃ k3 : Nat, h = ⟨[], k3⟩ ∧ e.length = 27 ∧ e.at 0 = V.isl (a0.map Enc.enc) ∧ e.at 1 = V.isl (a1.map Enc.enc) ∧ e.at 5 = V.int .i64 v5_1
def P240_1 (a0 : List (List (List (List Int)))) (a1 : List (List (List (List Int))))  (t : (Unit) ⊕ Bool) (x : Ex) (e : Env) (h : Heap) : Prop :=
  match t with
  | .inl _ => x = .normal ∧ ∃ k3 : Nat, h = ⟨[], k3⟩ ∧ e.length = 27
  | .inr r => x = .ret ∧ Fin p240 (Enc.enc r) .ret e h
theorem l240_1 (a0 : List (List (List (List Int)))) (a1 : List (List (List (List Int))))   {lo : Int} {s : Unit} {t : (Unit) ⊕ Bool} (hF : forR lo (a0.length : Int) (F240_1_B a0 a1) (F240_1_D a0 a1) s = some t) {e : Env} {h : Heap} (hI : I240_1 a0 a1  lo s e h) : W A c240_1 e h (P240_1 a0 a1  t) := by
  show W A (.block 0 (.loop false b240_1)) e h _
  rw [W_block]
  refine W_forR hF 0 (by obtain ⟨_, rfl, _⟩ := hI; rfl) (I240_1 a0 a1 ) hI ?_ ?_
  · rintro v5_1 _ e h ⟨k3, rfl, h_2⟩ hlt hw o ho
    unfold F240_1_B at ho
    obtain ⟨x5, gx5, ho⟩ := bS ho
    obtain ⟨w6a, w6b⟩ := getI_w gx5
    obtain ⟨x7, gx7, ho⟩ := bS ho
    obtain ⟨w8a, w8b⟩ := getI_w gx7
    obtain ⟨x9, gx9, ho⟩ := bS ho
    have w10 : ans A 17 [V.isl (x5.map Enc.enc), V.isl (x7.map Enc.enc)] = some (V.bool x9) := s17 x5 x7  gx9
    cases x9 with
    | true =>
      rw [if_pos rfl] at ho
      cases ho
      simp only [simprocAttr, R0, opEv, fillV, mapO, mapS, b240_1, h_2, eq_true hlt, hw, w6a, w6b, w8a, w8b, w10]
      refine And.intro rfl (Exists.intro _ ( And.intro rfl ?_))
      simp only [simprocAttr, R0, h_2, eq_true hlt, hw, w6a, w6b, w8a, w8b, w10]
    | false =>
      rw [if_neg Bool.false_ne_true] at ho
      cases ho
      simp only [simprocAttr, R0, opEv, fillV, mapO, mapS, b240_1, h_2, eq_true hlt, hw, w6a, w6b, w8a, w8b, w10]
      intro ht; subst ht
      simp only [simprocAttr, RR, RB]
      exact And.intro rfl (fin_ret (by simp only [simprocAttr, R0, fn_out, p240, Rs.ev, mapO, mapS, take_len_self, h_2, eq_true hlt, hw, w6a, w6b, w8a, w8b, w10]))
  · rintro v5_1 _ e h ⟨k3, rfl, h_2⟩ hge t1 ho
    unfold F240_1_D at ho
    cases ho
    simp only [simprocAttr, R0, opEv, fillV, mapO, mapS, b240_1, h_2, eq_false hge]
    intro ht; subst ht
    refine And.intro rfl (Exists.intro _ ( And.intro rfl ?_))
    simp only [simprocAttr, R0, h_2, eq_false hge]
theorem s240 (a0 : List (List (List (List Int)))) (a1 : List (List (List (List Int))))   {r : Bool} (hF : F240 a0 a1 = some r) : ans A 240 [V.isl (a0.map Enc.enc), V.isl (a1.map Enc.enc)] = some (Enc.enc r) := by
  refine ans_of (f := p240) rfl rfl rfl fun e hl he => ?_
  have h0_0 : e.at 0 = V.isl (a0.map Enc.enc) := he 0 _ rfl
  have h1_0 : e.at 1 = V.isl (a1.map Enc.enc) := he 1 _ rfl
  have hl_0 : e.length = 27 := hl
  clear he hl
  have h_0 := And.intro hl_0 (And.intro h0_0 h1_0)
  show W A b240 e ⟨[], 0⟩ _
  unfold F240 at hF
  by_cases c1 : (a0.length : Int) = (a1.length : Int)
  · rw [if_pos c1] at hF
    obtain ⟨t11, gt11, hF⟩ := bS hF
    rcases t11 with _ | r12
    · dsimp only at hF
      simp only [simprocAttr, R0, opEv, fillV, mapO, mapS, b240, h_0, eq_true c1]
      refine W.mono (l240_1 a0 a1   gt11 (Exists.intro _ ( And.intro rfl ?_))) ?_
      · simp only [simprocAttr, R0, h_0, eq_true c1]
      rintro _ e _ ⟨rfl, k3, rfl, hl_4⟩
      cases hF
      simp only [simprocAttr, R0, opEv, fillV, mapO, mapS, hl_4, eq_true c1]
      exact fin_ret (by simp only [simprocAttr, R0, fn_out, p240, Rs.ev, mapO, mapS, take_len_self, hl_4, eq_true c1])
    · dsimp only at hF
      cases hF
      simp only [simprocAttr, R0, opEv, fillV, mapO, mapS, b240, h_0, eq_true c1]
      refine W.mono (l240_1 a0 a1   gt11 (Exists.intro _ ( And.intro rfl ?_))) ?_
      · simp only [simprocAttr, R0, h_0, eq_true c1]
      rintro _ e h ⟨rfl, hq⟩
      simp only [simprocAttr, RR, RB]
      exact hq
  · rw [if_neg c1] at hF
    cases hF
    simp only [simprocAttr, R0, opEv, fillV, mapO, mapS, b240, h_0, eq_false c1]
    exact fin_ret (by simp only [simprocAttr, R0, fn_out, p240, Rs.ev, mapO, mapS, take_len_self, h_0, eq_false c1])
def F219 (a0 : GDouble) (a1 : GDouble) : Option Bool :=
  if a0.Prime = a1.Prime then
    (F51 a0.Dims a1.Dims).bind fun x2 =>
    if x2 = true then
      (F240 a0.Across a1.Across).bind fun x4 =>
      if x4 = true then
        (F240 a0.Down a1.Down).bind fun x6 =>
        if x6 = true then
          some true
        else
          some false
      else
        some false
    else
      some false
  else
    some false
theorem s219 (a0 : GDouble) (a1 : GDouble)   {r : Bool} (hF : F219 a0 a1 = some r) : ans A 219 [V.agg [V.int .i64 a0.Prime, V.isl (a0.Dims.map Enc.enc), V.isl (a0.Across.map Enc.enc), V.isl (a0.Down.map Enc.enc)], V.agg [V.int .i64 a1.Prime, V.isl (a1.Dims.map Enc.enc), V.isl (a1.Across.map Enc.enc), V.isl (a1.Down.map Enc.enc)]] = some (Enc.enc r) := by
  refine ans_of (f := p219) rfl rfl rfl fun e hl he => ?_
  have h0_0 : e.at 0 = V.agg [V.int .i64 a0.Prime, V.isl (a0.Dims.map Enc.enc), V.isl (a0.Across.map Enc.enc), V.isl (a0.Down.map Enc.enc)] := he 0 _ rfl
  have h1_0 : e.at 1 = V.agg [V.int .i64 a1.Prime, V.isl (a1.Dims.map Enc.enc), V.isl (a1.Across.map Enc.enc), V.isl (a1.Down.map Enc.enc)] := he 1 _ rfl
  have hl_0 : e.length = 28 := hl
  clear he hl
  have h_0 := And.intro hl_0 (And.intro h0_0 h1_0)
  show W A b219 e ⟨[], 0⟩ _
  unfold F219 at hF
  by_cases c1 : a0.Prime = a1.Prime
  · rw [if_pos c1] at hF
    obtain ⟨x2, gx2, hF⟩ := bS hF
    have w3 : ans A 51 [V.isl (a0.Dims.map Enc.enc), V.isl (a1.Dims.map Enc.enc)] = some (V.bool x2) := s51 a0.Dims a1.Dims  gx2
    cases x2 with
    | true =>
      rw [if_pos rfl] at hF
      obtain ⟨x4, gx4, hF⟩ := bS hF
      have w5 : ans A 240 [V.isl (a0.Across.map Enc.enc), V.isl (a1.Across.map Enc.enc)] = some (V.bool x4) := s240 a0.Across a1.Across  gx4
      cases x4 with
      | true =>
        rw [if_pos rfl] at hF
        obtain ⟨x6, gx6, hF⟩ := bS hF
        have w7 : ans A 240 [V.isl (a0.Down.map Enc.enc), V.isl (a1.Down.map Enc.enc)] = some (V.bool x6) := s240 a0.Down a1.Down  gx6
        cases x6 with
        | true =>
          rw [if_pos rfl] at hF
          cases hF
          simp only [simprocAttr, R0, opEv, fillV, mapO, mapS, b219, h_0, eq_true c1, w3, w5, w7]
          exact fin_ret (by simp only [simprocAttr, R0, fn_out, p219, Rs.ev, mapO, mapS, take_len_self, h_0, eq_true c1, w3, w5, w7])
        | false =>
          rw [if_neg Bool.false_ne_true] at hF
          cases hF
          simp only [simprocAttr, R0, opEv, fillV, mapO, mapS, b219, h_0, eq_true c1, w3, w5, w7]
          exact fin_ret (by simp only [simprocAttr, R0, fn_out, p219, Rs.ev, mapO, mapS, take_len_self, h_0, eq_true c1, w3, w5, w7])
      | false =>
        rw [if_neg Bool.false_ne_true] at hF
        cases hF
        simp only [simprocAttr, R0, opEv, fillV, mapO, mapS, b219, h_0, eq_true c1, w3, w5]
        exact fin_ret (by simp only [simprocAttr, R0, fn_out, p219, Rs.ev, mapO, mapS, take_len_self, h_0, eq_true c1, w3, w5])
    | false =>
      rw [if_neg Bool.false_ne_true] at hF
      cases hF
      simp only [simprocAttr, R0, opEv, fillV, mapO, mapS, b219, h_0, eq_true c1, w3]
      exact fin_ret (by simp only [simprocAttr, R0, fn_out, p219, Rs.ev, mapO, mapS, take_len_self, h_0, eq_true c1, w3])
  · rw [if_neg c1] at hF
    cases hF
    simp only [simprocAttr, R0, opEv, fillV, mapO, mapS, b219, h_0, eq_false c1]
    exact fin_ret (by simp only [simprocAttr, R0, fn_out, p219, Rs.ev, mapO, mapS, take_len_self, h_0, eq_false c1])
def F241_1_B (i : Int) (s : List (List (List (List Int))) × Int) : Option ((List (List (List (List Int))) × Int) ⊕ (List (List (List (List Int))) × Int)) :=
  (getI s.1 i).bind fun r => (F21 r s.2).bind fun q => (setI s.1 i q.1).bind fun l => some (.inl (l, q.2))
def F241_1_D (i : Int) (s : List (List (List (List Int))) × Int) : Option (List (List (List (List Int))) × Int) := some s
def F241 (l : List (List (List (List Int)))) (k : Int) : Option (List (List (List (List Int))) × Int) := forR 0 (l.length : Int) F241_1_B F241_1_D (l, k)
theorem d241 {l : List (List (List (List Int)))} {k : Int} {r : List (List (List (List Int))) × Int} (hF : F241 l k = some r) (h : Heap) {v : V} {K : Ks} (hr : Deep.rep h v l K) :
    ∃ h', res A 241 [v, V.int .i64 k] h = some (V.int .i64 r.2, h') ∧ Deep.rep h' v r.1 K ∧ (∀ k, ¬ K k → h'.ents[k]? = h.ents[k]?) ∧ h'.ents.length = h.ents.length := by
  refine res_ex (f := p241) rfl rfl rfl fun e hl he => ?_
  have h0_0 : e.at 0 = v := he 0 _ rfl
  have h1_0 : e.at 1 = V.int .i64 k := he 1 _ rfl
  have hl_0 : e.length = 19 := hl
  clear he hl
  show W A b241 e h _
  unfold F241 at hF
  obtain ⟨E, c⟩ := h
  simp only [simprocAttr, R1, opEv, fillV, mapO, mapS, b241, hl_0, h0_0, h1_0]
  show W A (.block 0 (.loop true b241_1)) _ _ _
  rw [W_block]
  refine W_forR hF _ rfl (fun i s e h => Deep.rep h v s.1 K ∧ (∀ k, ¬ K k → h.ents[k]? = E[k]?) ∧ h.ents.length = E.length ∧ s.1.length = l.length ∧ e.length = 19 ∧ e.at 0 = v ∧ e.at 1 = V.int .i64 s.2 ∧ e.at 5 = V.int .i64 i) ?_ ?_ ?_
  · refine ⟨hr, fun _ _ => rfl, rfl, rfl, ?_⟩
    simp only [simprocAttr, R1, hl_0, h0_0, h1_0]
  · clear hl_0 h0_0 h1_0
    rintro i ⟨s, q⟩ e ⟨E3, c3⟩ ⟨q1, q2, q3, q4, hl_1, h0_1, h1_1, h5_1⟩ hlt hw oo ho
    unfold F241_1_B at ho
    simp only at ho q1 q2 q3 q4 h1_1
    obtain ⟨row, gr, ho⟩ := bS ho
    obtain ⟨ra, rb⟩ := getI_w gr
    obtain ⟨t, gt, ho⟩ := bS ho
    obtain ⟨s2, gs, ho⟩ := bS ho
    have sm : s2 = s.set i.toNat t.1 := setI_eq gs
    have hE := Option.some.inj ho; subst hE
    obtain ⟨key, uid, vs, x1, K1, hm, a1, a2, a3, a4, a5, a6⟩ := rep_focus q1 rb
    obtain ⟨⟨E4, c4⟩, w1, r1, r2, r3⟩ := d21 gt ⟨E3, c3⟩ a4
    have o1 := ofCells_drop a2
    simp only at a1 r2 r3
    have hsl : s2.length = l.length := by rw [sm, List.length_set]; exact q4
    have r4 := a6 _ _ r1 fun k _ nk => r2 k nk
    rw [← sm] at r4
    simp only [simprocAttr, R1, opEv, fillV, mapO, mapS, b241_1, hl_1, h0_1, h1_1, h5_1, eq_true hlt, hw, hm, q4, a1, ra, o1, callM_plain_eq, w1]
    refine And.intro rfl ⟨?_, fun k nk => (r2 k fun p => nk (a5 k p)).trans (q2 k nk), by rw [← q3]; exact r3, hsl, ?_⟩
    · rw [← q4, ← hm]; exact r4
    · simp only [simprocAttr, R1, hl_1, h0_1, h1_1, h5_1, hw, hm, q4]
  · clear hl_0 h0_0 h1_0
    rintro i ⟨s, q⟩ e ⟨E3, c3⟩ ⟨q1, q2, q3, q4, hl_1, h0_1, h1_1, h5_1⟩ hge t1 ho
    have hE := Option.some.inj ho; subst hE
    have hlen := rep_len q1
    simp only at hlen q1 q2 q3 q4 h1_1
    simp only [simprocAttr, R1, opEv, fillV, mapO, mapS, b241_1, hl_1, h0_1, h1_1, h5_1, hlen, q4, eq_false hge]
    intro ht; subst ht
    refine And.intro (fun _ => trivial) ⟨?_, q1, q2, q3⟩
    simp only [simprocAttr, R1, fn_out, p241, Rs.ev, mapO, hl_1]
def FM220 (x : GDouble) (k : Int) : Option (GDouble × Int) := (F52 x.Dims k).bind fun t => (F241 x.Across t.2).bind fun u => (F241 x.Down u.2).bind fun w => some (⟨x.Prime, t.1, u.1, w.1⟩, w.2)
theorem dm220 {x : GDouble} {k : Int} {r : GDouble × Int} (hF : FM220 x k = some r) (h : Heap) {v : V} {K : Ks} (hr : Deep.rep h v x K) : ∃ h', res A 220 [v, V.int .i64 k] h = some (V.int .i64 r.2, h') ∧ Deep.rep h' v r.1 K ∧ (∀ k, k < h.ents.length → ¬ K k → h'.ents[k]? = h.ents[k]?) ∧ h.ents.length ≤ h'.ents.length := by
  obtain ⟨vs, rfl, r0⟩ := hr
  obtain ⟨dv, av, bv, K1, K2, K3, rfl, g1, g2, g3, d1, d2, d3, hK⟩ := rec4_un r0
  refine res_ex (f := p220) rfl rfl rfl fun e hl he => ?_
  have h0_0 : e.at 0 = V.agg [V.int .i64 x.Prime, dv, av, bv] := he 0 _ rfl
  have h1_0 : e.at 1 = V.int .i64 k := he 1 _ rfl
  have hl_0 : e.length = 18 := hl
  clear he hl
  show W A b220 e h _
  unfold FM220 at hF
  obtain ⟨t, gt, hF⟩ := bS hF
  obtain ⟨u, gu, hF⟩ := bS hF
  obtain ⟨w, gw, hF⟩ := bS hF
  cases hF
  obtain ⟨E, c⟩ := h
  have pre : ∀ (x : Nat × Option (List V)) k, k < E.length → (E ++ [x])[k]? = E[k]? := fun x k hk => List.getElem?_append_left hk
  have n1 : ¬ K1 E.length := fun x => by have := Deep.bd g1 x; simp at this
  have n2 : ¬ K2 E.length := fun x => by have := Deep.bd g2 x; simp at this
  have n3 : ¬ K3 E.length := fun x => by have := Deep.bd g3 x; simp at this
  obtain ⟨⟨E3, c3⟩, w1, a1, a2, a3⟩ := d52 gt ⟨E ++ [(c, some [V.int .i64 x.Prime, dv, av, bv])], c + 1⟩ (Deep.frame g1 fun k hk => pre _ k (Deep.bd g1 hk))
  simp only [le1] at a2 a3
  have m1 : E3[E.length]? = some (c, some [V.int .i64 x.Prime, dv, av, bv]) := (a2 _ n1).trans (get_last _ _)
  have g2' : Deep.rep ⟨E3, c3⟩ av x.Across K2 := Deep.frame g2 fun k hk => (a2 k fun q => d1 k q hk).trans (pre _ k (Deep.bd g2 hk))
  obtain ⟨⟨E4, c4⟩, w2, b1, b2, b3⟩ := d241 gu ⟨E3, c3⟩ g2'
  simp only at b2 b3
  have m2 : E4[E.length]? = some (c, some [V.int .i64 x.Prime, dv, av, bv]) := (b2 _ n2).trans m1
  have g3' : Deep.rep ⟨E4, c4⟩ bv x.Down K3 := Deep.frame g3 fun k hk => (b2 k fun q => d3 k q hk).trans ((a2 k fun q => d2 k q hk).trans (pre _ k (Deep.bd g3 hk)))
  obtain ⟨⟨E5, c5⟩, w3, e1, e2, e3⟩ := d241 gw ⟨E4, c4⟩ g3'
  simp only at e2 e3
  have r1 : Deep.rep ⟨E5, c5⟩ dv t.1 K1 := Deep.frame a1 fun k hk => (e2 k fun q => d2 k hk q).trans (b2 k fun q => d1 k hk q)
  have r2 : Deep.rep ⟨E5, c5⟩ av u.1 K2 := Deep.frame b1 fun k hk => e2 k fun q => d3 k hk q
  simp only [simprocAttr, R1, opEv, fillV, mapO, mapS, b220, hl_0, h0_0, h1_0, get_last, callM_plain_eq, w1, m1, w2, m2, w3]
  refine And.intro (fun _ => trivial) ⟨?_, ⟨_, rfl, (rec4 r1 r2 e1 d1 d2 d3).to hK⟩, fun k hk nk => ?_, by first | omega | (simp at a3; omega)⟩
  · simp only [simprocAttr, R1, fn_out, p220, Rs.ev, mapO, hl_0]
  · rw [hK] at nk
    exact (e2 k fun q => nk (.inr (.inr q))).trans ((b2 k fun q => nk (.inr (.inl q))).trans ((a2 k fun q => nk (.inl q)).trans (pre _ k hk)))
def L314 (a0 : GDouble) (a1 : Int) : Prop :=
  (∃ l0, F215 a0 1048576 = some l0 ∧ l0 < 0) ∨
  (∃ (l0 : Int) (s0 : GDouble) (w : GComplex) (cd : Int) (m0 : GDouble × Int) (mg : GComplex × Int), F215 a0 1048576 = some l0 ∧ ¬ l0 < 0 ∧ F216 a0 = some s0 ∧ F217 s0 a1 = some ⟨w, cd⟩ ∧ F218 s0 a1 = some ⟨w, cd⟩ ∧ F16 w w = some true ∧ F219 s0 s0 = some true ∧ FM220 s0 1 = some m0 ∧ ¬ m0.2 < 0 ∧ FM20 w 1 = some mg ∧ F22 mg.1 1 = some mg.2 ∧ ¬ mg.2 < 0)
theorem s314 (a0 : GDouble) (a1 : Int) (hF : L314 a0 a1) : ans A 314 [V.agg [V.int .i64 a0.Prime, V.isl (a0.Dims.map Enc.enc), V.isl (a0.Across.map Enc.enc), V.isl (a0.Down.map Enc.enc)], V.int .i64 a1] = some (V.bool true) := by
  refine ans_of (f := p314) rfl rfl rfl fun e hl he => ?_
  have h0_0 : e.at 0 = V.agg [V.int .i64 a0.Prime, V.isl (a0.Dims.map Enc.enc), V.isl (a0.Across.map Enc.enc), V.isl (a0.Down.map Enc.enc)] := he 0 _ rfl
  have h1_0 : e.at 1 = V.int .i64 a1 := he 1 _ rfl
  have hl_0 : e.length = 101 := hl
  clear he hl
  show W A b314 e ⟨[], 0⟩ _
  rcases hF with ⟨l0, g0, c0⟩ | ⟨l0, s0, w, cd, m0, mg, g0, c0, t0, gs, gi, ge, q0, k0, ck, gm, gh, cg⟩
  · have z0 := s215 a0 _ g0
    simp only [simprocAttr, R0, opEv, fillV, mapO, mapS, b314, hl_0, h0_0, h1_0, z0, eq_true c0]
    exact fin_ret (by simp only [simprocAttr, R0, fn_out, p314, Rs.ev, mapO, mapS, take_len_self, hl_0, z0, eq_true c0])
  · have z0 := s215 a0 _ g0
    have u0 : ans A 216 [V.agg [V.int .i64 a0.Prime, V.isl (a0.Dims.map Enc.enc), V.isl (a0.Across.map Enc.enc), V.isl (a0.Down.map Enc.enc)]] = some (V.agg [V.int .i64 s0.Prime, V.isl (s0.Dims.map Enc.enc), V.isl (s0.Across.map Enc.enc), V.isl (s0.Down.map Enc.enc)]) := s216 a0 t0
    have x0 : tans A 216 [1, 1, 1, 1] [V.agg [V.int .i64 a0.Prime, V.isl (a0.Dims.map Enc.enc), V.isl (a0.Across.map Enc.enc), V.isl (a0.Down.map Enc.enc)]] = some (V.agg [V.int .i64 s0.Prime, V.isl (s0.Dims.map Enc.enc), V.isl (s0.Across.map Enc.enc), V.isl (s0.Down.map Enc.enc)]) := x216 a0 t0
    have us : ans A 217 [V.agg [V.int .i64 s0.Prime, V.isl (s0.Dims.map Enc.enc), V.isl (s0.Across.map Enc.enc), V.isl (s0.Down.map Enc.enc)], V.int .i64 a1] = some (V.tup [(eC w), V.int .i64 cd]) := s217 s0 a1 gs
    have ui : ans A 218 [V.agg [V.int .i64 s0.Prime, V.isl (s0.Dims.map Enc.enc), V.isl (s0.Across.map Enc.enc), V.isl (s0.Down.map Enc.enc)], V.int .i64 a1] = some (V.tup [(eC w), V.int .i64 cd]) := s218 s0 a1 gi
    have xi : tans A 218 [1, 1, 1] [V.agg [V.int .i64 s0.Prime, V.isl (s0.Dims.map Enc.enc), V.isl (s0.Across.map Enc.enc), V.isl (s0.Down.map Enc.enc)], V.int .i64 a1] = some (V.tup [(eC w), V.int .i64 cd]) := x218 s0 a1 gi
    have ue : ans A 16 [(eC w), (eC w)] = some (V.bool true) := s16 w w ge
    have y0 : ans A 219 [V.agg [V.int .i64 s0.Prime, V.isl (s0.Dims.map Enc.enc), V.isl (s0.Across.map Enc.enc), V.isl (s0.Down.map Enc.enc)], V.agg [V.int .i64 s0.Prime, V.isl (s0.Dims.map Enc.enc), V.isl (s0.Across.map Enc.enc), V.isl (s0.Down.map Enc.enc)]] = some (V.bool true) := s219 s0 s0 q0
    have bw : bare 16 [1, 1, 1] (V.tup [(eC w), V.int .i64 cd]) = true := bare_tup (l := [⟨w⟩, ⟨cd⟩]) (fits_pair rfl (by decide))
    obtain ⟨v0, ⟨E_1, c_2⟩, K_3, t_5, r_4, b_6, le_7, o_8⟩ := thawD (α := GDouble) (by decide) s0 ⟨[(0, none), (1, some [V.int .i64 w.Prime, V.isl (w.Dims.map Enc.enc), V.isl (w.Maps.map Enc.enc)])], 2⟩
    obtain ⟨d0_1, d0_2, d0_3, rfl, -⟩ := sh_GDouble r_4
    simp only [le1, List.length_cons, List.length_nil, Nat.zero_add, Nat.reduceAdd] at b_6 le_7 o_8
    have t_5' : thaw 16 [1, 1, 1, 1] (V.agg [V.int .i64 s0.Prime, V.isl (s0.Dims.map Enc.enc), V.isl (s0.Across.map Enc.enc), V.isl (s0.Down.map Enc.enc)]) ⟨[(0, none), (1, some [V.int .i64 w.Prime, V.isl (w.Dims.map Enc.enc), V.isl (w.Maps.map Enc.enc)])], 2⟩ = some (V.agg [V.int .i64 s0.Prime, d0_1, d0_2, d0_3], ⟨E_1, c_2⟩) := t_5
    have f_9 : E_1[1]? = some (1, some [V.int .i64 w.Prime, V.isl (w.Dims.map Enc.enc), V.isl (w.Maps.map Enc.enc)]) := o_8 1 (by decide)
    have f_10 : (E_1 ++ [(c_2, some [V.int .i64 s0.Prime, d0_1, d0_2, d0_3])])[1]? = some (1, some [V.int .i64 w.Prime, V.isl (w.Dims.map Enc.enc), V.isl (w.Maps.map Enc.enc)]) := (List.getElem?_append_left (List.getElem?_eq_some_iff.1 f_9).1).trans f_9
    have f_11 : (E_1 ++ [(c_2, some [V.int .i64 s0.Prime, d0_1, d0_2, d0_3])])[E_1.length]? = some (c_2, some [V.int .i64 s0.Prime, d0_1, d0_2, d0_3]) := get_last _ _
    have r_12 := Deep.frame (h' := ⟨E_1 ++ [(c_2, some [V.int .i64 s0.Prime, d0_1, d0_2, d0_3])], c_2 + 1⟩) r_4 fun k q => (List.getElem?_append_left (Deep.bd r_4 q) : (E_1 ++ [(c_2, some [V.int .i64 s0.Prime, d0_1, d0_2, d0_3])])[k]? = _)
    obtain ⟨z_13_e0, z_13_1, z_13_2, z_13_3⟩ := fz_GDouble r_12
    obtain ⟨vg, ⟨E_14, c_15⟩, K_16, t_18, r_17, b_19, le_20, o_21⟩ := thawP (α := GComplex) (s := 1) (ss := [1, 1]) (by decide) w cd ⟨E_1 ++ [(c_2, some [V.int .i64 s0.Prime, d0_1, d0_2, d0_3])], c_2 + 1⟩
    obtain ⟨dg_1, dg_2, rfl, -⟩ := sh_GComplex r_17
    simp only [le1, List.length_cons, List.length_nil, Nat.zero_add, Nat.reduceAdd] at b_19 le_20 o_21
    have t_18' : thaw 16 [1, 1, 1] (V.tup [(eC w), V.int .i64 cd]) ⟨E_1 ++ [(c_2, some [V.int .i64 s0.Prime, d0_1, d0_2, d0_3])], c_2 + 1⟩ = some (V.tup [V.agg [V.int .i64 w.Prime, dg_1, dg_2], V.int .i64 cd], ⟨E_14, c_15⟩) := t_18
    have f_22 : E_14[1]? = some (1, some [V.int .i64 w.Prime, V.isl (w.Dims.map Enc.enc), V.isl (w.Maps.map Enc.enc)]) := (o_21 1 (by have := (List.getElem?_eq_some_iff.1 f_10).1; (try simp only [le1] at this); omega)).trans f_10
    have f_23 : E_14[E_1.length]? = some (c_2, some [V.int .i64 s0.Prime, d0_1, d0_2, d0_3]) := (o_21 E_1.length (by have := (List.getElem?_eq_some_iff.1 f_11).1; (try simp only [le1] at this); omega)).trans f_11
    have r_24 := Deep.frame (h' := ⟨E_14, c_15⟩) r_12 fun k q => o_21 k (by have := Deep.bd r_12 q; (try simp only [le1] at this); omega)
    have f_25 : (E_14 ++ [(c_15, some [V.int .i64 w.Prime, dg_1, dg_2])])[1]? = some (1, some [V.int .i64 w.Prime, V.isl (w.Dims.map Enc.enc), V.isl (w.Maps.map Enc.enc)]) := (List.getElem?_append_left (List.getElem?_eq_some_iff.1 f_22).1).trans f_22
    have f_26 : (E_14 ++ [(c_15, some [V.int .i64 w.Prime, dg_1, dg_2])])[E_1.length]? = some (c_2, some [V.int .i64 s0.Prime, d0_1, d0_2, d0_3]) := (List.getElem?_append_left (List.getElem?_eq_some_iff.1 f_23).1).trans f_23
    have f_27 : (E_14 ++ [(c_15, some [V.int .i64 w.Prime, dg_1, dg_2])])[E_14.length]? = some (c_15, some [V.int .i64 w.Prime, dg_1, dg_2]) := get_last _ _
    have r_28 := Deep.frame (h' := ⟨E_14 ++ [(c_15, some [V.int .i64 w.Prime, dg_1, dg_2])], c_15 + 1⟩) r_24 fun k q => (List.getElem?_append_left (Deep.bd r_24 q) : (E_14 ++ [(c_15, some [V.int .i64 w.Prime, dg_1, dg_2])])[k]? = _)
    have r_29 := Deep.frame (h' := ⟨E_14 ++ [(c_15, some [V.int .i64 w.Prime, dg_1, dg_2])], c_15 + 1⟩) r_17 fun k q => (List.getElem?_append_left (Deep.bd r_17 q) : (E_14 ++ [(c_15, some [V.int .i64 w.Prime, dg_1, dg_2])])[k]? = _)
    obtain ⟨z_30_e0, z_30_1, z_30_2⟩ := fz_GComplex r_29
    obtain ⟨z_31_e0, z_31_1, z_31_2, z_31_3⟩ := fz_GDouble r_28
    obtain ⟨⟨E_32, c_33⟩, w_34, r_35, o_37, le_36⟩ := dm220 k0 _ r_28
    try simp only [le1] at o_37 le_36
    have f_38 : E_32[1]? = some (1, some [V.int .i64 w.Prime, V.isl (w.Dims.map Enc.enc), V.isl (w.Maps.map Enc.enc)]) := (o_37 1 (by have := (List.getElem?_eq_some_iff.1 f_25).1; (try simp only [le1] at this); omega) (fun p => by have h1 := b_6 _ p; omega)).trans f_25
    have f_39 : E_32[E_1.length]? = some (c_2, some [V.int .i64 s0.Prime, d0_1, d0_2, d0_3]) := (o_37 E_1.length (by have := (List.getElem?_eq_some_iff.1 f_26).1; (try simp only [le1] at this); omega) (fun p => by have h1 := b_6 _ p; omega)).trans f_26
    have f_40 : E_32[E_14.length]? = some (c_15, some [V.int .i64 w.Prime, dg_1, dg_2]) := (o_37 E_14.length (by have := (List.getElem?_eq_some_iff.1 f_27).1; (try simp only [le1] at this); omega) (fun p => by have h1 := b_6 _ p; omega)).trans f_27
    have r_41 := Deep.frame (h' := ⟨E_32, c_33⟩) r_29 fun k q => o_37 k (by have := Deep.bd r_29 q; (try simp only [le1] at this); omega) (fun p => by have h1 := b_6 k p; have h2 := b_19 k q; omega)
    obtain ⟨z_42_e0, z_42_1, z_42_2⟩ := fz_GComplex r_41
    obtain ⟨⟨E_43, c_44⟩, w_45, r_46, o_48, le_47⟩ := dm20 gm _ r_41
    try simp only [le1] at o_48 le_47
    have f_49 : E_43[1]? = some (1, some [V.int .i64 w.Prime, V.isl (w.Dims.map Enc.enc), V.isl (w.Maps.map Enc.enc)]) := (o_48 1 (by have := (List.getElem?_eq_some_iff.1 f_38).1; (try simp only [le1] at this); omega) (fun p => by have h1 := b_19 _ p; omega)).trans f_38
    have f_50 : E_43[E_1.length]? = some (c_2, some [V.int .i64 s0.Prime, d0_1, d0_2, d0_3]) := (o_48 E_1.length (by have := (List.getElem?_eq_some_iff.1 f_39).1; (try simp only [le1] at this); omega) (fun p => by have h1 := b_19 _ p; omega)).trans f_39
    have f_51 : E_43[E_14.length]? = some (c_15, some [V.int .i64 w.Prime, dg_1, dg_2]) := (o_48 E_14.length (by have := (List.getElem?_eq_some_iff.1 f_40).1; (try simp only [le1] at this); omega) (fun p => by have h1 := b_19 _ p; omega)).trans f_40
    have r_52 := Deep.frame (h' := ⟨E_43, c_44⟩) r_35 fun k q => o_48 k (by have := Deep.bd r_35 q; (try simp only [le1] at this); omega) (fun p => by have h1 := b_19 k p; have h2 := b_6 k q; omega)
    obtain ⟨z_53_e0, z_53_1, z_53_2⟩ := fz_GComplex r_46
    have uh : ans A 22 [V.agg [V.int .i64 w.Prime, V.isl (List.map Enc.enc mg.1.Dims), V.isl (List.map Enc.enc mg.1.Maps)], V.int .i64 1] = some (V.int .i64 mg.2) := by
      rw [← z_53_e0]; exact s22 mg.1 1 gh
    have f_54 : (E_43 ++ [(c_44, some [V.int .i64 w.Prime, V.isl (w.Dims.map Enc.enc), V.isl (w.Maps.map Enc.enc)])])[1]? = some (1, some [V.int .i64 w.Prime, V.isl (w.Dims.map Enc.enc), V.isl (w.Maps.map Enc.enc)]) := (List.getElem?_append_left (List.getElem?_eq_some_iff.1 f_49).1).trans f_49
    have f_55 : (E_43 ++ [(c_44, some [V.int .i64 w.Prime, V.isl (w.Dims.map Enc.enc), V.isl (w.Maps.map Enc.enc)])])[E_1.length]? = some (c_2, some [V.int .i64 s0.Prime, d0_1, d0_2, d0_3]) := (List.getElem?_append_left (List.getElem?_eq_some_iff.1 f_50).1).trans f_50
    have f_56 : (E_43 ++ [(c_44, some [V.int .i64 w.Prime, V.isl (w.Dims.map Enc.enc), V.isl (w.Maps.map Enc.enc)])])[E_14.length]? = some (c_15, some [V.int .i64 w.Prime, dg_1, dg_2]) := (List.getElem?_append_left (List.getElem?_eq_some_iff.1 f_51).1).trans f_51
    have f_57 : (E_43 ++ [(c_44, some [V.int .i64 w.Prime, V.isl (w.Dims.map Enc.enc), V.isl (w.Maps.map Enc.enc)])])[E_43.length]? = some (c_44, some [V.int .i64 w.Prime, V.isl (w.Dims.map Enc.enc), V.isl (w.Maps.map Enc.enc)]) := get_last _ _
    have r_58 := Deep.frame (h' := ⟨E_43 ++ [(c_44, some [V.int .i64 w.Prime, V.isl (w.Dims.map Enc.enc), V.isl (w.Maps.map Enc.enc)])], c_44 + 1⟩) r_52 fun k q => (List.getElem?_append_left (Deep.bd r_52 q) : (E_43 ++ [(c_44, some [V.int .i64 w.Prime, V.isl (w.Dims.map Enc.enc), V.isl (w.Maps.map Enc.enc)])])[k]? = _)
    have r_59 := Deep.frame (h' := ⟨E_43 ++ [(c_44, some [V.int .i64 w.Prime, V.isl (w.Dims.map Enc.enc), V.isl (w.Maps.map Enc.enc)])], c_44 + 1⟩) r_46 fun k q => (List.getElem?_append_left (Deep.bd r_46 q) : (E_43 ++ [(c_44, some [V.int .i64 w.Prime, V.isl (w.Dims.map Enc.enc), V.isl (w.Maps.map Enc.enc)])])[k]? = _)
    obtain ⟨z_60_e0, z_60_1, z_60_2⟩ := fz_GComplex r_59
    simp only [simprocAttr, R0, opEv, fillV, mapO, mapS, b314, hl_0, h0_0, h1_0, callM_tans, callM_plain_eq, get_last, set_last, le1, z0, eq_false c0, u0, x0, us, ui, xi, ue, y0, bw, t_5', f_9, f_10, f_11, z_13_1, z_13_2, z_13_3, t_18', f_22, f_23, f_25, f_26, f_27, z_30_1, z_30_2, z_31_1, z_31_2, z_31_3, w_34, f_38, f_39, f_40, z_42_1, z_42_2, eq_false ck, w_45, f_49, f_50, f_51, z_53_1, z_53_2, uh, eq_false cg, f_54, f_55, f_56, f_57, z_60_1, z_60_2]
    exact fin_ret (by simp only [simprocAttr, R0, fn_out, p314, Rs.ev, mapO, mapS, take_len_self, hl_0])
end
end Rv
