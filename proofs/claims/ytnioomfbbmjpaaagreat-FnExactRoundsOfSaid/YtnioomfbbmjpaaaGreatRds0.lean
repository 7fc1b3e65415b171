/- What the abstract code answers: typed functions, part 1. -/
import Derived.Test.YtnioomfbbmjpaaaGreatRdp
namespace Rv
set_option linter.unusedVariables false
set_option linter.unusedSimpArgs false
set_option maxRecDepth 100000
noncomputable section
abbrev eC (x : GComplex) : V := V.agg [V.int .i64 x.Prime, V.isl (x.Dims.map Enc.enc), V.isl (x.Maps.map Enc.enc)]
abbrev eK (x : GContraction) : V := V.agg [V.isl (x.Down.map Enc.enc), V.isl (x.Up.map Enc.enc), V.isl (x.Back.map Enc.enc)]
theorem R1 : type_of% (And.intro RR (And.intro RB (And.intro RZ (And.intro @ii_eq <| And.intro @nn_eq <| And.intro @oM_e <| And.intro @oL_e <| And.intro @oS_e <| And.intro @oF_e <| And.intro @oB_e <| And.intro @oC_e <| And.intro @oI_e <| And.intro @oN_e <| And.intro @oP_e <| And.intro @oQ_e <| And.intro @oR_e <| And.intro @oU_e <| And.intro @opEv.eq_1 <| And.intro @opEv.eq_2 <| And.intro @opEv.eq_3 <| And.intro @opEv.eq_4 <| And.intro @opEv.eq_5 <| And.intro @opEv.eq_6 <| And.intro @opEv.eq_7 <| And.intro @opEv.eq_8 <| And.intro @opEv.eq_9 <| And.intro @opEv.eq_10 <| And.intro @opEv.eq_11 <| And.intro @opEv.eq_12 <| And.intro @opEv.eq_13 <| And.intro @opEv.eq_14 <| And.intro @opEv.eq_15 <| And.intro @opEv.eq_16 <| And.intro @opEv.eq_17 <| And.intro @opEv.eq_18 <| And.intro @opEv.eq_19 <| And.intro @opEv.eq_20 <| And.intro @opEv.eq_21 <| And.intro @opEv.eq_22 <| And.intro @opEv.eq_23 <| And.intro @opEv.eq_24 <| And.intro @opEv.eq_25 <| And.intro @opEv.eq_26 <| And.intro @opEv.eq_27 <| And.intro @opEv.eq_28 <| And.intro @opEv.eq_29 <| And.intro @opEv.eq_30 <| And.intro @opEv.eq_31 <| And.intro @opEv.eq_32 <| And.intro @opEv.eq_33 <| And.intro @opEv.eq_34 <| And.intro @opEv.eq_35 <| And.intro @opEv.eq_36 <| And.intro @opEv.eq_37 <| And.intro @fillV.eq_1 <| And.intro @fillV.eq_2 <| And.intro @mapO.eq_1 <| And.intro @mapO.eq_2 <| And.intro @mapS.eq_1 <| @mapS.eq_2)))) := And.intro RR (And.intro RB (And.intro RZ (And.intro @ii_eq <| And.intro @nn_eq <| And.intro @oM_e <| And.intro @oL_e <| And.intro @oS_e <| And.intro @oF_e <| And.intro @oB_e <| And.intro @oC_e <| And.intro @oI_e <| And.intro @oN_e <| And.intro @oP_e <| And.intro @oQ_e <| And.intro @oR_e <| And.intro @oU_e <| And.intro @opEv.eq_1 <| And.intro @opEv.eq_2 <| And.intro @opEv.eq_3 <| And.intro @opEv.eq_4 <| And.intro @opEv.eq_5 <| And.intro @opEv.eq_6 <| And.intro @opEv.eq_7 <| And.intro @opEv.eq_8 <| And.intro @opEv.eq_9 <| And.intro @opEv.eq_10 <| And.intro @opEv.eq_11 <| And.intro @opEv.eq_12 <| And.intro @opEv.eq_13 <| And.intro @opEv.eq_14 <| And.intro @opEv.eq_15 <| And.intro @opEv.eq_16 <| And.intro @opEv.eq_17 <| And.intro @opEv.eq_18 <| And.intro @opEv.eq_19 <| And.intro @opEv.eq_20 <| And.intro @opEv.eq_21 <| And.intro @opEv.eq_22 <| And.intro @opEv.eq_23 <| And.intro @opEv.eq_24 <| And.intro @opEv.eq_25 <| And.intro @opEv.eq_26 <| And.intro @opEv.eq_27 <| And.intro @opEv.eq_28 <| And.intro @opEv.eq_29 <| And.intro @opEv.eq_30 <| And.intro @opEv.eq_31 <| And.intro @opEv.eq_32 <| And.intro @opEv.eq_33 <| And.intro @opEv.eq_34 <| And.intro @opEv.eq_35 <| And.intro @opEv.eq_36 <| And.intro @opEv.eq_37 <| And.intro @fillV.eq_1 <| And.intro @fillV.eq_2 <| And.intro @mapO.eq_1 <| And.intro @mapO.eq_2 <| And.intro @mapS.eq_1 <| @mapS.eq_2)))
theorem R0 : type_of% (And.intro R1 RE) := And.intro R1 RE
def F43 (a0 : List Int) (a1 : Int) : Option Int :=
 (chk (a1 - (a0.length : Int))).bind fun x1 =>
 if x1 < 0 then
  some (-1)
 else
  some x1
theorem s43 (a0 : List Int) (a1 : Int)   {r : Int} (hF : F43 a0 a1 = some r) : ans A 43 [V.isl (a0.map Enc.enc), V.int .i64 a1] = some (Enc.enc r) := by
 refine ans_of (f := p43) rfl rfl rfl fun e hl he => ?_
 have h0_0 : e.at 0 = V.isl (a0.map Enc.enc) := he 0 _ rfl
 have h1_0 : e.at 1 = V.int .i64 a1 := he 1 _ rfl
 have hl_0 : e.length = 12 := hl
 clear he hl
 have h_0 := And.intro hl_0 (And.intro h0_0 h1_0)
 show W A b43 e ⟨[], 0⟩ _
 unfold F43 at hF
 obtain ⟨x1, gx1, hF⟩ := bS hF
 have wx1 := chk_w gx1
 by_cases c2 : x1 < 0
 ·rw [if_pos c2] at hF
  cases hF
  simp only [simprocAttr, R0, b43, h_0, wx1, eq_true c2]
  exact fin_ret (by simp only [simprocAttr, R0, fn_out, p43, Rs.ev, take_len_self, h_0, wx1, eq_true c2])
 ·rw [if_neg c2] at hF
  cases hF
  simp only [simprocAttr, R0, b43, h_0, wx1, eq_false c2]
  exact fin_ret (by simp only [simprocAttr, R0, fn_out, p43, Rs.ev, take_len_self, h_0, wx1, eq_false c2])
def F44_1_B (a0 : List (List Int)) (v5_1 : Int) (v1_1 : Int) : Option ((Int) ⊕ ((Int) ⊕ Int)) :=
 (getI a0 v5_1).bind fun x6 =>
(F43 x6 v1_1).bind fun x8 =>
if x8 < 0 then
 some (.inr (.inr (-1)))
else
 some (.inl x8)
def F44_1_D (a0 : List (List Int)) (v5_1 : Int) (v1_1 : Int) : Option ((Int) ⊕ Int) :=
 some (.inl v1_1)
def F44 (a0 : List (List Int)) (a1 : Int) : Option Int :=
 (chk (a1 - (a0.length : Int))).bind fun x1 =>
 if x1 < 0 then
  some (-1)
 else
  (forR 0 (a0.length : Int) (F44_1_B a0) (F44_1_D a0) x1).bind fun t11 => match t11 with
   | .inl zv1_1 =>
    some zv1_1
   | .inr r12 => some r12
def I44_1 (a0 : List (List Int))  (v5_1 : Int) (v1_1 : Int) (e : Env) (h : Heap) : Prop :=
 ∃ k4 : Nat, h = ⟨[], k4⟩ ∧ e.length = 27 ∧ e.at 0 = V.isl (a0.map Enc.enc) ∧ e.at 1 = V.int .i64 v1_1 ∧ e.at 5 = V.int .i64 v5_1
def P44_1 (a0 : List (List Int))  (t : (Int) ⊕ Int) (x : Ex) (e : Env) (h : Heap) : Prop :=
 match t with
 | .inl zv1_1 => x = .normal ∧ ∃ k4 : Nat, h = ⟨[], k4⟩ ∧ e.length = 27 ∧ e.at 1 = V.int .i64 zv1_1
 | .inr r => x = .ret ∧ Fin p44 (Enc.enc r) .ret e h
theorem l44_1 (a0 : List (List Int))   {lo : Int} {s : Int} {t : (Int) ⊕ Int} (hF : forR lo (a0.length : Int) (F44_1_B a0) (F44_1_D a0) s = some t) {e : Env} {h : Heap} (hI : I44_1 a0  lo s e h) : W A c44_1 e h (P44_1 a0  t) := by
 show W A (.block 0 (.loop false b44_1)) e h _
 rw [W_block]
 refine W_forR hF 0 (by obtain ⟨_, rfl, _⟩ := hI; rfl) (I44_1 a0 ) hI ?_ ?_
 ·rintro v5_1 v1_1 e h ⟨k4, rfl, h_3⟩ hlt hw o ho
  unfold F44_1_B at ho
  obtain ⟨x6, gx6, ho⟩ := bS ho
  obtain ⟨w7a, w7b⟩ := getI_w gx6
  obtain ⟨x8, gx8, ho⟩ := bS ho
  have w9 : ans A 43 [V.isl (x6.map Enc.enc), V.int .i64 v1_1] = some (V.int .i64 x8) := s43 x6 v1_1  gx8
  by_cases c10 : x8 < 0
  ·rw [if_pos c10] at ho
   cases ho
   simp only [simprocAttr, R0, b44_1, h_3, eq_true hlt, hw, w7a, w7b, w9, eq_true c10]
   intro ht; subst ht
   simp only [simprocAttr, RR, RB]
   exact And.intro rfl (fin_ret (by simp only [simprocAttr, R0, fn_out, p44, Rs.ev, take_len_self, h_3, eq_true hlt, hw, w7a, w7b, w9, eq_true c10]))
  ·rw [if_neg c10] at ho
   cases ho
   simp only [simprocAttr, R0, b44_1, h_3, eq_true hlt, hw, w7a, w7b, w9, eq_false c10]
   refine And.intro rfl (Exists.intro _ ( And.intro rfl ?_))
   simp only [simprocAttr, R0, h_3, eq_true hlt, hw, w7a, w7b, w9, eq_false c10]
 ·rintro v5_1 v1_1 e h ⟨k4, rfl, h_3⟩ hge t1 ho
  unfold F44_1_D at ho
  cases ho
  simp only [simprocAttr, R0, b44_1, h_3, eq_false hge]
  intro ht; subst ht
  refine And.intro rfl (Exists.intro _ ( And.intro rfl ?_))
  simp only [simprocAttr, R0, h_3, eq_false hge]
theorem s44 (a0 : List (List Int)) (a1 : Int)   {r : Int} (hF : F44 a0 a1 = some r) : ans A 44 [V.isl (a0.map Enc.enc), V.int .i64 a1] = some (Enc.enc r) := by
 refine ans_of (f := p44) rfl rfl rfl fun e hl he => ?_
 have h0_0 : e.at 0 = V.isl (a0.map Enc.enc) := he 0 _ rfl
 have h1_0 : e.at 1 = V.int .i64 a1 := he 1 _ rfl
 have hl_0 : e.length = 27 := hl
 clear he hl
 have h_0 := And.intro hl_0 (And.intro h0_0 h1_0)
 show W A b44 e ⟨[], 0⟩ _
 unfold F44 at hF
 obtain ⟨x1, gx1, hF⟩ := bS hF
 have wx1 := chk_w gx1
 by_cases c2 : x1 < 0
 ·rw [if_pos c2] at hF
  cases hF
  simp only [simprocAttr, R0, b44, h_0, wx1, eq_true c2]
  exact fin_ret (by simp only [simprocAttr, R0, fn_out, p44, Rs.ev, take_len_self, h_0, wx1, eq_true c2])
 ·rw [if_neg c2] at hF
  obtain ⟨t11, gt11, hF⟩ := bS hF
  rcases t11 with zv1_1 | r12
  ·dsimp only at hF
   simp only [simprocAttr, R0, b44, h_0, wx1, eq_false c2]
   refine W.mono (l44_1 a0   gt11 (Exists.intro _ ( And.intro rfl ?_))) ?_
   ·simp only [simprocAttr, R0, h_0, wx1, eq_false c2]
   rintro _ e _ ⟨rfl, k4, rfl, h_5⟩
   cases hF
   simp only [simprocAttr, R0, h_5, eq_false c2]
   exact fin_ret (by simp only [simprocAttr, R0, fn_out, p44, Rs.ev, take_len_self, h_5, eq_false c2])
  ·dsimp only at hF
   cases hF
   simp only [simprocAttr, R0, b44, h_0, wx1, eq_false c2]
   refine W.mono (l44_1 a0   gt11 (Exists.intro _ ( And.intro rfl ?_))) ?_
   ·simp only [simprocAttr, R0, h_0, wx1, eq_false c2]
   rintro _ e h ⟨rfl, hq⟩
   simp only [simprocAttr, RR, RB]
   exact hq
def F11_1_B (a0 : List (List (List Int))) (v5_1 : Int) (v1_1 : Int) : Option ((Int) ⊕ ((Int) ⊕ Int)) :=
 (getI a0 v5_1).bind fun x6 =>
(F44 x6 v1_1).bind fun x8 =>
if x8 < 0 then
 some (.inr (.inr (-1)))
else
 some (.inl x8)
def F11_1_D (a0 : List (List (List Int))) (v5_1 : Int) (v1_1 : Int) : Option ((Int) ⊕ Int) :=
 some (.inl v1_1)
def F11 (a0 : List (List (List Int))) (a1 : Int) : Option Int :=
 (chk (a1 - (a0.length : Int))).bind fun x1 =>
 if x1 < 0 then
  some (-1)
 else
  (forR 0 (a0.length : Int) (F11_1_B a0) (F11_1_D a0) x1).bind fun t11 => match t11 with
   | .inl zv1_1 =>
    some zv1_1
   | .inr r12 => some r12
def I11_1 (a0 : List (List (List Int)))  (v5_1 : Int) (v1_1 : Int) (e : Env) (h : Heap) : Prop :=
 ∃ k4 : Nat, h = ⟨[], k4⟩ ∧ e.length = 27 ∧ e.at 0 = V.isl (a0.map Enc.enc) ∧ e.at 1 = V.int .i64 v1_1 ∧ e.at 5 = V.int .i64 v5_1
def P11_1 (a0 : List (List (List Int)))  (t : (Int) ⊕ Int) (x : Ex) (e : Env) (h : Heap) : Prop :=
 match t with
 | .inl zv1_1 => x = .normal ∧ ∃ k4 : Nat, h = ⟨[], k4⟩ ∧ e.length = 27 ∧ e.at 1 = V.int .i64 zv1_1
 | .inr r => x = .ret ∧ Fin p11 (Enc.enc r) .ret e h
theorem l11_1 (a0 : List (List (List Int)))   {lo : Int} {s : Int} {t : (Int) ⊕ Int} (hF : forR lo (a0.length : Int) (F11_1_B a0) (F11_1_D a0) s = some t) {e : Env} {h : Heap} (hI : I11_1 a0  lo s e h) : W A c11_1 e h (P11_1 a0  t) := by
 show W A (.block 0 (.loop false b11_1)) e h _
 rw [W_block]
 refine W_forR hF 0 (by obtain ⟨_, rfl, _⟩ := hI; rfl) (I11_1 a0 ) hI ?_ ?_
 ·rintro v5_1 v1_1 e h ⟨k4, rfl, h_3⟩ hlt hw o ho
  unfold F11_1_B at ho
  obtain ⟨x6, gx6, ho⟩ := bS ho
  obtain ⟨w7a, w7b⟩ := getI_w gx6
  obtain ⟨x8, gx8, ho⟩ := bS ho
  have w9 : ans A 44 [V.isl (x6.map Enc.enc), V.int .i64 v1_1] = some (V.int .i64 x8) := s44 x6 v1_1  gx8
  by_cases c10 : x8 < 0
  ·rw [if_pos c10] at ho
   cases ho
   simp only [simprocAttr, R0, b11_1, h_3, eq_true hlt, hw, w7a, w7b, w9, eq_true c10]
   intro ht; subst ht
   simp only [simprocAttr, RR, RB]
   exact And.intro rfl (fin_ret (by simp only [simprocAttr, R0, fn_out, p11, Rs.ev, take_len_self, h_3, eq_true hlt, hw, w7a, w7b, w9, eq_true c10]))
  ·rw [if_neg c10] at ho
   cases ho
   simp only [simprocAttr, R0, b11_1, h_3, eq_true hlt, hw, w7a, w7b, w9, eq_false c10]
   refine And.intro rfl (Exists.intro _ ( And.intro rfl ?_))
   simp only [simprocAttr, R0, h_3, eq_true hlt, hw, w7a, w7b, w9, eq_false c10]
 ·rintro v5_1 v1_1 e h ⟨k4, rfl, h_3⟩ hge t1 ho
  unfold F11_1_D at ho
  cases ho
  simp only [simprocAttr, R0, b11_1, h_3, eq_false hge]
  intro ht; subst ht
  refine And.intro rfl (Exists.intro _ ( And.intro rfl ?_))
  simp only [simprocAttr, R0, h_3, eq_false hge]
theorem s11 (a0 : List (List (List Int))) (a1 : Int)   {r : Int} (hF : F11 a0 a1 = some r) : ans A 11 [V.isl (a0.map Enc.enc), V.int .i64 a1] = some (Enc.enc r) := by
 refine ans_of (f := p11) rfl rfl rfl fun e hl he => ?_
 have h0_0 : e.at 0 = V.isl (a0.map Enc.enc) := he 0 _ rfl
 have h1_0 : e.at 1 = V.int .i64 a1 := he 1 _ rfl
 have hl_0 : e.length = 27 := hl
 clear he hl
 have h_0 := And.intro hl_0 (And.intro h0_0 h1_0)
 show W A b11 e ⟨[], 0⟩ _
 unfold F11 at hF
 obtain ⟨x1, gx1, hF⟩ := bS hF
 have wx1 := chk_w gx1
 by_cases c2 : x1 < 0
 ·rw [if_pos c2] at hF
  cases hF
  simp only [simprocAttr, R0, b11, h_0, wx1, eq_true c2]
  exact fin_ret (by simp only [simprocAttr, R0, fn_out, p11, Rs.ev, take_len_self, h_0, wx1, eq_true c2])
 ·rw [if_neg c2] at hF
  obtain ⟨t11, gt11, hF⟩ := bS hF
  rcases t11 with zv1_1 | r12
  ·dsimp only at hF
   simp only [simprocAttr, R0, b11, h_0, wx1, eq_false c2]
   refine W.mono (l11_1 a0   gt11 (Exists.intro _ ( And.intro rfl ?_))) ?_
   ·simp only [simprocAttr, R0, h_0, wx1, eq_false c2]
   rintro _ e _ ⟨rfl, k4, rfl, h_5⟩
   cases hF
   simp only [simprocAttr, R0, h_5, eq_false c2]
   exact fin_ret (by simp only [simprocAttr, R0, fn_out, p11, Rs.ev, take_len_self, h_5, eq_false c2])
  ·dsimp only at hF
   cases hF
   simp only [simprocAttr, R0, b11, h_0, wx1, eq_false c2]
   refine W.mono (l11_1 a0   gt11 (Exists.intro _ ( And.intro rfl ?_))) ?_
   ·simp only [simprocAttr, R0, h_0, wx1, eq_false c2]
   rintro _ e h ⟨rfl, hq⟩
   simp only [simprocAttr, RR, RB]
   exact hq
def F10 (a0 : GComplex) (a1 : Int) : Option Int :=
 (F43 a0.Dims a1).bind fun x1 =>
 if x1 < 0 then
  some (-1)
 else
  (F11 a0.Maps x1).bind fun x4 =>
  if x4 < 0 then
   some (-1)
  else
   some x4
theorem s10 (a0 : GComplex) (a1 : Int)   {r : Int} (hF : F10 a0 a1 = some r) : ans A 10 [(eC a0), V.int .i64 a1] = some (Enc.enc r) := by
 refine ans_of (f := p10) rfl rfl rfl fun e hl he => ?_
 have h0_0 : e.at 0 = (eC a0) := he 0 _ rfl
 have h1_0 : e.at 1 = V.int .i64 a1 := he 1 _ rfl
 have hl_0 : e.length = 18 := hl
 clear he hl
 have h_0 := And.intro hl_0 (And.intro h0_0 h1_0)
 show W A b10 e ⟨[], 0⟩ _
 unfold F10 at hF
 obtain ⟨x1, gx1, hF⟩ := bS hF
 have w2 : ans A 43 [V.isl (a0.Dims.map Enc.enc), V.int .i64 a1] = some (V.int .i64 x1) := s43 a0.Dims a1  gx1
 by_cases c3 : x1 < 0
 ·rw [if_pos c3] at hF
  cases hF
  simp only [simprocAttr, R0, b10, h_0, w2, eq_true c3]
  exact fin_ret (by simp only [simprocAttr, R0, fn_out, p10, Rs.ev, take_len_self, h_0, w2, eq_true c3])
 ·rw [if_neg c3] at hF
  obtain ⟨x4, gx4, hF⟩ := bS hF
  have w5 : ans A 11 [V.isl (a0.Maps.map Enc.enc), V.int .i64 x1] = some (V.int .i64 x4) := s11 a0.Maps x1  gx4
  by_cases c6 : x4 < 0
  ·rw [if_pos c6] at hF
   cases hF
   simp only [simprocAttr, R0, b10, h_0, w2, eq_false c3, w5, eq_true c6]
   exact fin_ret (by simp only [simprocAttr, R0, fn_out, p10, Rs.ev, take_len_self, h_0, w2, eq_false c3, w5, eq_true c6])
  ·rw [if_neg c6] at hF
   cases hF
   simp only [simprocAttr, R0, b10, h_0, w2, eq_false c3, w5, eq_false c6]
   exact fin_ret (by simp only [simprocAttr, R0, fn_out, p10, Rs.ev, take_len_self, h_0, w2, eq_false c3, w5, eq_false c6])
def F47_1_B (a0 : List Int) (v4_1 : Int) (o0_1 : (List Int)) : Option (((List Int)) ⊕ ((List Int))) :=
 (getI a0 v4_1).bind fun x7 =>
(getI o0_1 v4_1).bind fun x9 =>
(setI o0_1 v4_1 x7).bind fun l11 =>
some (.inl l11)
def F47_1_D (a0 : List Int) (v4_1 : Int) (o0_1 : (List Int)) : Option ((List Int)) :=
 some o0_1
def F47 (a0 : List Int) : Option (List Int) :=
 (mkL 8 (a0.length : Int) 0).bind fun l1 =>
 (forR 0 (a0.length : Int) (F47_1_B a0) (F47_1_D a0) l1).bind fun zo0_1 =>
 some zo0_1
def I47_1 (a0 : List Int)  (v4_1 : Int) (o0_1 : (List Int)) (e : Env) (h : Heap) : Prop :=
 ∃ u4 k5 : Nat, h = ⟨[(u4, some (o0_1.map Enc.enc))], k5⟩ ∧ e.length = 22 ∧ e.at 0 = V.isl (a0.map Enc.enc) ∧ e.at 3 = V.sl 0 u4 0 o0_1.length 1 ∧ e.at 4 = V.int .i64 v4_1
def P47_1 (a0 : List Int)  (zo0_1 : (List Int)) (x : Ex) (e : Env) (h : Heap) : Prop :=
 x = .normal ∧ ∃ u4 k5 : Nat, h = ⟨[(u4, some (zo0_1.map Enc.enc))], k5⟩ ∧ e.length = 22 ∧ e.at 3 = V.sl 0 u4 0 zo0_1.length 1
theorem l47_1 (a0 : List Int)   {lo : Int} {s : (List Int)} {t : (List Int)} (hF : forR lo (a0.length : Int) (F47_1_B a0) (F47_1_D a0) s = some t) {e : Env} {h : Heap} (hI : I47_1 a0  lo s e h) : W A c47_1 e h (P47_1 a0  t) := by
 show W A (.block 0 (.loop false b47_1)) e h _
 rw [W_block]
 refine W_forR hF 1 (by obtain ⟨_, _, rfl, _⟩ := hI; rfl) (I47_1 a0 ) hI ?_ ?_
 ·rintro v4_1 o0_1 e h ⟨u4, k5, rfl, h_3⟩ hlt hw o ho
  unfold F47_1_B at ho
  obtain ⟨x7, gx7, ho⟩ := bS ho
  obtain ⟨w8a, w8b⟩ := getI_w gx7
  obtain ⟨x9, gx9, ho⟩ := bS ho
  obtain ⟨w10a, w10b⟩ := getI_w gx9
  have w10c := getI_lt gx9
  have w10d : List.drop (Int.toNat v4_1) (o0_1.map Enc.enc) = (V.int .i64 x9) :: List.drop ((Int.toNat v4_1) + 1) (o0_1.map Enc.enc) := drop_enc w10b
  obtain ⟨l11, gl11, ho⟩ := bS ho
  obtain ⟨w12a, w12b, w12c, w12d, w12e⟩ := setI_w gl11
  replace w12e : List.take (Int.toNat v4_1) (o0_1.map Enc.enc) ++ [V.int .i64 x7] ++ List.drop (Int.toNat v4_1 + 1) (o0_1.map Enc.enc) = List.map Enc.enc l11 := w12e
  cases ho
  simp only [simprocAttr, R0, b47_1, h_3, eq_true hlt, hw, w8a, w8b, w10a, w10b, w10c, w10d, w12a, w12b, w12c, w12e]
  refine And.intro rfl (Exists.intro _ ( Exists.intro _ ( And.intro rfl ?_)))
  simp only [simprocAttr, R0, h_3, eq_true hlt, hw, w8a, w8b, w10a, w10b, w10c, w10d, w12a, w12b, w12c, w12e, w12d]
 ·rintro v4_1 o0_1 e h ⟨u4, k5, rfl, h_3⟩ hge t1 ho
  unfold F47_1_D at ho
  cases ho
  simp only [simprocAttr, R0, b47_1, h_3, eq_false hge]
  intro ht; subst ht
  refine And.intro rfl (Exists.intro _ ( Exists.intro _ ( And.intro rfl ?_)))
  simp only [simprocAttr, R0, h_3, eq_false hge]
theorem t47 (a0 : List Int)   {r : List Int} (hF : F47 a0 = some r) : tans A 47 [1] [V.isl (a0.map Enc.enc)] = some (Enc.enc r) := by
 refine tans_of (f := p47) rfl rfl rfl fun e hl he => ?_
 have h0_0 : e.at 0 = V.isl (a0.map Enc.enc) := he 0 _ rfl
 have hl_0 : e.length = 22 := hl
 clear he hl
 show W A b47 e ⟨[], 0⟩ _
 unfold F47 at hF
 obtain ⟨l1, gl1, hF⟩ := bS hF
 obtain ⟨w2a, w2b, w2c, w2d, w2e⟩ := mkL_w gl1
 replace w2e : (List.replicate (Int.toNat (a0.length : Int)) [V.int .i64 0]).flatten = List.map Enc.enc l1 := w2e
 obtain ⟨zo0_1, gt13, hF⟩ := bS hF
 simp only [↓reduceIte, Nat.reduceAdd, Nat.reduceMul, Nat.reduceSub, Nat.reduceLT, Nat.reduceLeDiff, Nat.reduceEqDiff, Nat.reducePow, Int.reducePow, Int.reduceLE, Int.reduceLT, Int.reduceEq, Int.reduceToNat, reduceCtorEq, R0, b47, hl_0, h0_0, w2a, w2b, w2c, w2e]
 refine W.mono (l47_1 a0   gt13 (Exists.intro _ ( Exists.intro _ ( And.intro rfl ?_)))) ?_
 ·simp only [↓reduceIte, Nat.reduceAdd, Nat.reduceMul, Nat.reduceSub, Nat.reduceLT, Nat.reduceLeDiff, Nat.reduceEqDiff, Nat.reducePow, Int.reducePow, Int.reduceLE, Int.reduceLT, Int.reduceEq, Int.reduceToNat, reduceCtorEq, R0, hl_0, h0_0, w2a, w2b, w2c, w2e, w2d]
 rintro _ e _ ⟨rfl, u4, k5, rfl, hl_6, h3_6⟩
 have hE := Option.some.inj hF; subst hE
 simp only [↓reduceIte, Nat.reduceAdd, Nat.reduceMul, Nat.reduceSub, Nat.reduceLT, Nat.reduceLeDiff, Nat.reduceEqDiff, Nat.reducePow, Int.reducePow, Int.reduceLE, Int.reduceLT, Int.reduceEq, Int.reduceToNat, reduceCtorEq, R0, hl_6, h3_6]
 exact tfin_ret (by simp only [↓reduceIte, Nat.reduceAdd, Nat.reduceMul, Nat.reduceSub, Nat.reduceLT, Nat.reduceLeDiff, Nat.reduceEqDiff, Nat.reducePow, Int.reducePow, Int.reduceLE, Int.reduceLT, Int.reduceEq, Int.reduceToNat, reduceCtorEq, R0, fn_out, p47, Rs.ev, take_len_self, hl_6, h3_6, frzs (α := Int) zo0_1, takes (α := Int) zo0_1])
def F48_1_B (a0 : List (List Int)) (v4_1 : Int) (o0_1 : (List (List Int))) : Option (((List (List Int))) ⊕ ((List (List Int)))) :=
 (getI a0 v4_1).bind fun x7 =>
(F47 x7).bind fun x9 =>
(getI o0_1 v4_1).bind fun x11 =>
(setI o0_1 v4_1 x9).bind fun l13 =>
some (.inl l13)
def F48_1_D (a0 : List (List Int)) (v4_1 : Int) (o0_1 : (List (List Int))) : Option ((List (List Int))) :=
 some o0_1
def F48 (a0 : List (List Int)) : Option (List (List Int)) :=
 (mkL 24 (a0.length : Int) ([] : List Int)).bind fun l1 =>
 (forR 0 (a0.length : Int) (F48_1_B a0) (F48_1_D a0) l1).bind fun zo0_1 =>
 some zo0_1
theorem d48 (a0 : List (List Int)) {r : List (List Int)} (hF : F48 a0 = some r) : ∃ v h', res A 48 [V.isl (a0.map Enc.enc)] Heap.empty = some (v, h') ∧ ∃ K, Deep.rep h' v r K := by
 refine res_dp (f := p48) rfl rfl rfl fun e hl he => ?_
 have h0_0 : e.at 0 = V.isl (a0.map Enc.enc) := he 0 _ rfl
 have hl_0 : e.length = 23 := hl
 clear he hl
 show W A b48 e ⟨[], 0⟩ _
 unfold F48 at hF
 obtain ⟨l1, gl1, hF⟩ := bS hF
 obtain ⟨zo, gt, hF⟩ := bS hF
 have hE := Option.some.inj hF; subst hE
 obtain ⟨w1a, w1b, w1c, w1d⟩ := mkL_deep gl1
 simp only [Int.toNat_natCast] at w1d
 have w1e : (List.replicate (Int.toNat (a0.length : Int)) [V.nils]).flatten = List.replicate a0.length V.nils := by rw [Int.toNat_natCast, List.flatten_replicate_singleton]
 subst w1d
 simp only [↓reduceIte, Nat.reduceAdd, Nat.reduceMul, Nat.reduceSub, Nat.reduceLT, Nat.reduceLeDiff, Nat.reduceEqDiff, Nat.reducePow, Int.reducePow, Int.reduceLE, Int.reduceLT, Int.reduceEq, Int.reduceToNat, reduceCtorEq, R1, b48, hl_0, h0_0, w1a, w1b, w1c, w1e, Int.toNat_natCast]
 show W A (.block 0 (.loop true b48_1)) _ _ _
 rw [W_block]
 refine W_forR gt _ rfl (fun i l e h => ∃ vs K, h.ents[0]? = some (0, some vs) ∧ reps h vs l K ∧ ¬ K 0 ∧ l.length = a0.length ∧ e.length = 23 ∧ e.at 0 = V.isl (a0.map Enc.enc) ∧ e.at 3 = V.sl 0 0 0 a0.length 1 ∧ e.at 4 = V.int .i64 i) ?_ ?_ ?_
 ·refine ⟨_, fun _ => False, rfl, by rw [List.flatten_replicate_singleton]; exact reps_nils _ _, fun x => x, by simp, ?_⟩
  simp only [↓reduceIte, Nat.reduceAdd, Nat.reduceMul, Nat.reduceSub, Nat.reduceLT, Nat.reduceLeDiff, Nat.reduceEqDiff, Nat.reducePow, Int.reducePow, Int.reduceLE, Int.reduceLT, Int.reduceEq, Int.reduceToNat, reduceCtorEq, R1, hl_0, h0_0]
 ·rintro i l e ⟨E, c⟩ ⟨vs, K, g1, g2, g3, g4, hl_1, h0_1, h3_1, h4_1⟩ hlt hw o ho
  unfold F48_1_B at ho
  obtain ⟨x7, gx7, ho⟩ := bS ho
  obtain ⟨w6a, w6b⟩ := getI_w gx7
  obtain ⟨x9, gx9, ho⟩ := bS ho
  have w8 := t47 x7 gx9
  obtain ⟨x11, gx11, ho⟩ := bS ho
  obtain ⟨l13, gl13, ho⟩ := bS ho
  have sm : l13 = l.set i.toNat x9 := setI_eq gl13
  have hE := Option.some.inj ho; subst hE
  have hil : i.toNat < l.length := by omega
  have hln := g2.len
  have hE0 : 0 < E.length := (List.getElem?_eq_some_iff.1 g1).1
  obtain ⟨x, K1, K2, f1, f2, f3, f4, f5⟩ := g2.focus hil
  have p0 : ∀ y, (E ++ [y])[0]? = some (0, some vs) := fun y => (List.getElem?_append_left hE0).trans g1
  have hs : List.take i.toNat vs ++ [V.sl E.length c 0 x9.length 1] ++ List.drop (i.toNat + 1) vs = vs.set i.toNat (V.sl E.length c 0 x9.length 1) := by
   rw [List.set_eq_take_append_cons_drop, if_pos (by omega)]; simp
  have hle : i.toNat + 1 ≤ vs.length := by omega
  simp only [↓reduceIte, Nat.reduceAdd, Nat.reduceMul, Nat.reduceSub, Nat.reduceLT, Nat.reduceLeDiff, Nat.reduceEqDiff, Nat.reducePow, Int.reducePow, Int.reduceLE, Int.reduceLT, Int.reduceEq, Int.reduceToNat, reduceCtorEq, R1, b48_1, hl_1, h0_1, h3_1, h4_1, eq_true hlt, hw, w6a, w6b, w8, callM_tans, thaw_one, p0, hs, hle]
  have r1 := f5 ⟨(E ++ [(c, some (x9.map Enc.enc))]).set 0 (0, some (vs.set i.toNat (V.sl E.length c 0 x9.length 1))), c + 1⟩ (V.sl E.length c 0 x9.length 1) x9 (fun k => k = E.length) (fun k => k = E.length ∨ K2 k)
   (int_row ((set_ne (by omega)).trans (get_last _ _)) fun k => Iff.rfl)
   (fun k q => set_app_new (fun e => g3 (e ▸ (f4 k).2 (.inr q))) (g2.bd ((f4 k).2 (.inr q))))
   (fun k q q2 => by have := g2.bd ((f4 k).2 (.inr q2)); simp only at this; omega) (fun k => Iff.rfl)
  refine And.intro rfl ⟨_, fun k => k = E.length ∨ K2 k, set_app_key (by simp), by rw [sm]; exact r1, fun q => q.elim (fun q => by omega) (fun q => g3 ((f4 0).2 (.inr q))), by rw [sm, List.length_set]; exact g4, ?_⟩
  simp only [↓reduceIte, Nat.reduceAdd, Nat.reduceMul, Nat.reduceSub, Nat.reduceLT, Nat.reduceLeDiff, Nat.reduceEqDiff, Nat.reducePow, Int.reducePow, Int.reduceLE, Int.reduceLT, Int.reduceEq, Int.reduceToNat, reduceCtorEq, R1, hl_1, h0_1, h3_1, h4_1, hw]
 ·rintro i l e ⟨E, c⟩ ⟨vs, K, g1, g2, g3, g4, hl_1, h0_1, h3_1, h4_1⟩ hge t1 ho
  unfold F48_1_D at ho
  have hE := Option.some.inj ho; subst hE
  simp only [↓reduceIte, Nat.reduceAdd, Nat.reduceMul, Nat.reduceSub, Nat.reduceLT, Nat.reduceLeDiff, Nat.reduceEqDiff, Nat.reducePow, Int.reducePow, Int.reduceLE, Int.reduceLT, Int.reduceEq, Int.reduceToNat, reduceCtorEq, R1, b48_1, hl_1, h0_1, h3_1, h4_1, eq_false hge]
  intro ht; subst ht
  refine And.intro (fun _ => trivial) ⟨_, by simp only [↓reduceIte, Nat.reduceAdd, Nat.reduceMul, Nat.reduceSub, Nat.reduceLT, Nat.reduceLeDiff, Nat.reduceEqDiff, Nat.reducePow, Int.reducePow, Int.reduceLE, Int.reduceLT, Int.reduceEq, Int.reduceToNat, reduceCtorEq, R1, fn_out, p48, Rs.ev, hl_1]; rfl, fun k => k = 0 ∨ K k, .inr ⟨0, 0, vs, K, by rw [g4], g1, g2, g3, fun k => Iff.rfl⟩⟩
theorem x48 (a0 : List (List Int)) {r : List (List Int)} (hF : F48 a0 = some r) : tans A 48 [1, 1] [V.isl (a0.map Enc.enc)] = some (Enc.enc r) := tans_of_deep (α := List (List Int)) (by decide) (d48 a0 hF)
def F13_1_B (a0 : List (List (List Int))) (v4_1 : Int) (o0_1 : (List (List (List Int)))) : Option (((List (List (List Int)))) ⊕ ((List (List (List Int))))) :=
 (getI a0 v4_1).bind fun x7 =>
(F48 x7).bind fun x9 =>
(getI o0_1 v4_1).bind fun x11 =>
(setI o0_1 v4_1 x9).bind fun l13 =>
some (.inl l13)
def F13_1_D (a0 : List (List (List Int))) (v4_1 : Int) (o0_1 : (List (List (List Int)))) : Option ((List (List (List Int)))) :=
 some o0_1
def F13 (a0 : List (List (List Int))) : Option (List (List (List Int))) :=
 (mkL 24 (a0.length : Int) ([] : List (List Int))).bind fun l1 =>
 (forR 0 (a0.length : Int) (F13_1_B a0) (F13_1_D a0) l1).bind fun zo0_1 =>
 some zo0_1
theorem d13 (a0 : List (List (List Int))) {r : List (List (List Int))} (hF : F13 a0 = some r) : ∃ v h', res A 13 [V.isl (a0.map Enc.enc)] Heap.empty = some (v, h') ∧ ∃ K, Deep.rep h' v r K := by
 refine res_dp (f := p13) rfl rfl rfl fun e hl he => ?_
 have h0_0 : e.at 0 = V.isl (a0.map Enc.enc) := he 0 _ rfl
 have hl_0 : e.length = 23 := hl
 clear he hl
 show W A b13 e ⟨[], 0⟩ _
 unfold F13 at hF
 obtain ⟨l1, gl1, hF⟩ := bS hF
 obtain ⟨zo, gt, hF⟩ := bS hF
 have hE := Option.some.inj hF; subst hE
 obtain ⟨w1a, w1b, w1c, w1d⟩ := mkL_deep gl1
 simp only [Int.toNat_natCast] at w1d
 have w1e : (List.replicate (Int.toNat (a0.length : Int)) [V.nils]).flatten = List.replicate a0.length V.nils := by rw [Int.toNat_natCast, List.flatten_replicate_singleton]
 subst w1d
 simp only [↓reduceIte, Nat.reduceAdd, Nat.reduceMul, Nat.reduceSub, Nat.reduceLT, Nat.reduceLeDiff, Nat.reduceEqDiff, Nat.reducePow, Int.reducePow, Int.reduceLE, Int.reduceLT, Int.reduceEq, Int.reduceToNat, reduceCtorEq, R1, b13, hl_0, h0_0, w1a, w1b, w1c, w1e, Int.toNat_natCast]
 show W A (.block 0 (.loop true b13_1)) _ _ _
 rw [W_block]
 refine W_forR gt _ rfl (fun i l e h => ∃ vs K, h.ents[0]? = some (0, some vs) ∧ reps h vs l K ∧ ¬ K 0 ∧ l.length = a0.length ∧ e.length = 23 ∧ e.at 0 = V.isl (a0.map Enc.enc) ∧ e.at 3 = V.sl 0 0 0 a0.length 1 ∧ e.at 4 = V.int .i64 i) ?_ ?_ ?_
 ·refine ⟨_, fun _ => False, rfl, by rw [List.flatten_replicate_singleton]; exact reps_nils _ _, fun x => x, by simp, ?_⟩
  simp only [↓reduceIte, Nat.reduceAdd, Nat.reduceMul, Nat.reduceSub, Nat.reduceLT, Nat.reduceLeDiff, Nat.reduceEqDiff, Nat.reducePow, Int.reducePow, Int.reduceLE, Int.reduceLT, Int.reduceEq, Int.reduceToNat, reduceCtorEq, R1, hl_0, h0_0]
 ·rintro i l e ⟨E, c⟩ ⟨vs, K, g1, g2, g3, g4, hl_1, h0_1, h3_1, h4_1⟩ hlt hw o ho
  unfold F13_1_B at ho
  obtain ⟨x7, gx7, ho⟩ := bS ho
  obtain ⟨w6a, w6b⟩ := getI_w gx7
  obtain ⟨x9, gx9, ho⟩ := bS ho
  have w8 := x48 x7 gx9
  obtain ⟨x11, gx11, ho⟩ := bS ho
  obtain ⟨l13, gl13, ho⟩ := bS ho
  have sm : l13 = l.set i.toNat x9 := setI_eq gl13
  have hE := Option.some.inj ho; subst hE
  have hil : i.toNat < l.length := by omega
  have hln := g2.len
  have hE0 : 0 < E.length := (List.getElem?_eq_some_iff.1 g1).1
  obtain ⟨x, K1, K2, f1, f2, f3, f4, f5⟩ := g2.focus hil
  obtain ⟨v, ⟨E1, c1⟩, t1, t2, t3, t4⟩ := thaw_deep (α := List (List Int)) (by decide) x9 ⟨E, c⟩
  have t1' : thaw 16 [1, 1] (V.isl (x9.map Enc.enc)) ⟨E, c⟩ = some (v, ⟨E1, c1⟩) := t1
  obtain ⟨v1, v2⟩ := rep_one t2
  simp only at t2 t3 t4 g1
  have p0 : E1[0]? = some (0, some vs) := (t4 0 hE0).trans g1
  have hs : List.take i.toNat vs ++ [v] ++ List.drop (i.toNat + 1) vs = vs.set i.toNat (v) := by
   rw [List.set_eq_take_append_cons_drop, if_pos (by omega)]; simp
  have hle : i.toNat + 1 ≤ vs.length := by omega
  simp only [↓reduceIte, Nat.reduceAdd, Nat.reduceMul, Nat.reduceSub, Nat.reduceLT, Nat.reduceLeDiff, Nat.reduceEqDiff, Nat.reducePow, Int.reducePow, Int.reduceLE, Int.reduceLT, Int.reduceEq, Int.reduceToNat, reduceCtorEq, R1, b13_1, hl_1, h0_1, h3_1, h4_1, eq_true hlt, hw, w6a, w6b, w8, callM_tans, t1', v1, v2, p0, hs, hle]
  have r1 := f5 ⟨E1.set 0 (0, some (vs.set i.toNat v)), c1⟩ v x9 (fun k => E.length ≤ k ∧ k < E1.length) (fun k => (E.length ≤ k ∧ k < E1.length) ∨ K2 k)
   (Deep.frame t2 fun k q => set_ne (by omega))
   (fun k q => (set_ne (E := E1) (key := 0) (k := k) (fun e : k = 0 => g3 (e ▸ (f4 k).2 (.inr q)))).trans (t4 k (g2.bd ((f4 k).2 (.inr q)))))
   (fun k q q2 => by have := g2.bd ((f4 k).2 (.inr q2)); simp only at this; omega) (fun k => Iff.rfl)
  refine And.intro rfl ⟨_, fun k => (E.length ≤ k ∧ k < E1.length) ∨ K2 k, set_app_key (by omega), by rw [sm]; exact r1, fun q => q.elim (fun q => by omega) (fun q => g3 ((f4 0).2 (.inr q))), by rw [sm, List.length_set]; exact g4, ?_⟩
  simp only [↓reduceIte, Nat.reduceAdd, Nat.reduceMul, Nat.reduceSub, Nat.reduceLT, Nat.reduceLeDiff, Nat.reduceEqDiff, Nat.reducePow, Int.reducePow, Int.reduceLE, Int.reduceLT, Int.reduceEq, Int.reduceToNat, reduceCtorEq, R1, hl_1, h0_1, h3_1, h4_1, hw]
 ·rintro i l e ⟨E, c⟩ ⟨vs, K, g1, g2, g3, g4, hl_1, h0_1, h3_1, h4_1⟩ hge t1 ho
  unfold F13_1_D at ho
  have hE := Option.some.inj ho; subst hE
  simp only [↓reduceIte, Nat.reduceAdd, Nat.reduceMul, Nat.reduceSub, Nat.reduceLT, Nat.reduceLeDiff, Nat.reduceEqDiff, Nat.reducePow, Int.reducePow, Int.reduceLE, Int.reduceLT, Int.reduceEq, Int.reduceToNat, reduceCtorEq, R1, b13_1, hl_1, h0_1, h3_1, h4_1, eq_false hge]
  intro ht; subst ht
  refine And.intro (fun _ => trivial) ⟨_, by simp only [↓reduceIte, Nat.reduceAdd, Nat.reduceMul, Nat.reduceSub, Nat.reduceLT, Nat.reduceLeDiff, Nat.reduceEqDiff, Nat.reducePow, Int.reducePow, Int.reduceLE, Int.reduceLT, Int.reduceEq, Int.reduceToNat, reduceCtorEq, R1, fn_out, p13, Rs.ev, hl_1]; rfl, fun k => k = 0 ∨ K k, .inr ⟨0, 0, vs, K, by rw [g4], g1, g2, g3, fun k => Iff.rfl⟩⟩
theorem s13 (a0 : List (List (List Int))) {r : List (List (List Int))} (hF : F13 a0 = some r) : ans A 13 [V.isl (a0.map Enc.enc)] = some (Enc.enc r) := ans_of_deep (by decide) (d13 a0 hF)
theorem x13 (a0 : List (List (List Int))) {r : List (List (List Int))} (hF : F13 a0 = some r) : tans A 13 [1, 1, 1] [V.isl (a0.map Enc.enc)] = some (Enc.enc r) := tans_of_deep (α := List (List (List Int))) (by decide) (d13 a0 hF)
def F12 (a0 : GComplex) : Option GComplex :=
 (F47 a0.Dims).bind fun x1 =>
 (F13 a0.Maps).bind fun x3 =>
 some ⟨a0.Prime, x1, x3⟩
theorem d12 (x : GComplex) {r : GComplex} (hF : F12 x = some r) : ∃ v h', res A 12 [(eC x)] Heap.empty = some (v, h') ∧ ∃ dv mv, ∃ K1 K2 : Ks, v = V.agg [V.int .i64 r.Prime, dv, mv] ∧ Deep.rep h' dv r.Dims K1 ∧ Deep.rep h' mv r.Maps K2 ∧ ∀ k, K1 k → ¬ K2 k := by
 refine res_dp (f := p12) rfl rfl rfl fun e hl he => ?_
 have h0_0 : e.at 0 = (eC x) := he 0 _ rfl
 have hl_0 : e.length = 16 := hl
 clear he hl
 show W A b12 e ⟨[], 0⟩ _
 unfold F12 at hF
 obtain ⟨d, gd, hF⟩ := bS hF
 have w1 := t47 x.Dims gd
 obtain ⟨ms, gm, hF⟩ := bS hF
 have w2 := x13 x.Maps gm
 cases hF
 obtain ⟨mv, ⟨E1, c1⟩, t1, t2, t3, t4⟩ := thaw_deep (α := List (List (List Int))) (by decide) ms ⟨[(0, none), (1, some [V.int .i64 0, V.nils, V.nils]), (2, some [V.int .i64 x.Prime, V.sl 3 3 0 d.length 1, V.nils]), (3, some (d.map Enc.enc))], 4⟩
 have t1' : thaw 16 [1, 1, 1] (V.isl (ms.map Enc.enc)) ⟨[(0, none), (1, some [V.int .i64 0, V.nils, V.nils]), (2, some [V.int .i64 x.Prime, V.sl 3 3 0 d.length 1, V.nils]), (3, some (d.map Enc.enc))], 4⟩ = some (mv, ⟨E1, c1⟩) := t1
 obtain ⟨v1, v2⟩ := rep_one t2
 simp only [List.length_cons, List.length_nil, Nat.zero_add, Nat.reduceAdd] at t2 t3 t4
 have m1 : E1[1]? = some (1, some [V.int .i64 0, V.nils, V.nils]) := t4 1 (by decide)
 have m2 : E1[2]? = some (2, some [V.int .i64 x.Prime, V.sl 3 3 0 d.length 1, V.nils]) := t4 2 (by decide)
 have m3 : E1[3]? = some (3, some (d.map Enc.enc)) := t4 3 (by decide)
 have n1 : ∀ z, (E1.set 2 z)[1]? = _ := fun z => (set_ne (by decide)).trans m1
 have n2 : ∀ z, (E1.set 2 z)[2]? = some z := fun z => set_app_key (by omega)
 simp only [simprocAttr, R0, b12, hl_0, h0_0, w1, w2, callM_tans, thaw_one, t1', v1, v2, m1, m2, n1, n2]
 refine And.intro (fun _ => trivial) ⟨_, by simp only [simprocAttr, R0, fn_out, p12, Rs.ev, hl_0, set_app_key (show 1 < (E1.set 2 (2, some [V.int .i64 x.Prime, V.sl 3 3 0 d.length 1, mv])).length by simp; omega)], V.sl 3 3 0 d.length 1, mv, fun k => k = 3, _, rfl, int_row ((set_ne (by decide)).trans ((set_ne (by decide)).trans m3)) (fun k => Iff.rfl), Deep.frame t2 fun k q => (set_ne (by omega)).trans (set_ne (by omega)), fun k q => by omega⟩
theorem s12 (x : GComplex) {r : GComplex} (hF : F12 x = some r) : ans A 12 [(eC x)] = some (Enc.enc r) := by
 obtain ⟨v, h', h1, dv, mv, K1, K2, rfl, h2, h3, h4⟩ := d12 x hF
 exact ans_agg2 h1 h2 h3
theorem x12 (x : GComplex) {r : GComplex} (hF : F12 x = some r) : tans A 12 [1, 1, 1] [(eC x)] = some ((eC r)) := by
 obtain ⟨v, h', h1, dv, mv, K1, K2, rfl, h2, h3, h4⟩ := d12 x hF
 exact tans_agg2 h1 h2 h3 h4
def F30_1_B (a0 : List Int) (a1 : List Int) (v5_1 : Int) (s : Unit) : Option ((Unit) ⊕ ((Unit) ⊕ Bool)) :=
 (getI a0 v5_1).bind fun x5 =>
(getI a1 v5_1).bind fun x7 =>
if x5 = x7 then
 some (.inl ())
else
 some (.inr (.inr false))
def F30_1_D (a0 : List Int) (a1 : List Int) (v5_1 : Int) (s : Unit) : Option ((Unit) ⊕ Bool) :=
 some (.inl ())
def F30 (a0 : List Int) (a1 : List Int) : Option Bool :=
 if (a0.length : Int) = (a1.length : Int) then
  (forR 0 (a0.length : Int) (F30_1_B a0 a1) (F30_1_D a0 a1) ()).bind fun t10 => match t10 with
   | .inl _ =>
    some true
   | .inr r11 => some r11
 else
  some false
def I30_1 (a0 : List Int) (a1 : List Int)  (v5_1 : Int) (s : Unit) (e : Env) (h : Heap) : Prop :=
 ∃ k3 : Nat, h = ⟨[], k3⟩ ∧ e.length = 26 ∧ e.at 0 = V.isl (a0.map Enc.enc) ∧ e.at 1 = V.isl (a1.map Enc.enc) ∧ e.at 5 = V.int .i64 v5_1
def P30_1 (a0 : List Int) (a1 : List Int)  (t : (Unit) ⊕ Bool) (x : Ex) (e : Env) (h : Heap) : Prop :=
 match t with
 | .inl _ => x = .normal ∧ ∃ k3 : Nat, h = ⟨[], k3⟩ ∧ e.length = 26
 | .inr r => x = .ret ∧ Fin p30 (Enc.enc r) .ret e h
theorem l30_1 (a0 : List Int) (a1 : List Int)   {lo : Int} {s : Unit} {t : (Unit) ⊕ Bool} (hF : forR lo (a0.length : Int) (F30_1_B a0 a1) (F30_1_D a0 a1) s = some t) {e : Env} {h : Heap} (hI : I30_1 a0 a1  lo s e h) : W A c30_1 e h (P30_1 a0 a1  t) := by
 show W A (.block 0 (.loop false b30_1)) e h _
 rw [W_block]
 refine W_forR hF 0 (by obtain ⟨_, rfl, _⟩ := hI; rfl) (I30_1 a0 a1 ) hI ?_ ?_
 ·rintro v5_1 _ e h ⟨k3, rfl, h_2⟩ hlt hw o ho
  unfold F30_1_B at ho
  obtain ⟨x5, gx5, ho⟩ := bS ho
  obtain ⟨w6a, w6b⟩ := getI_w gx5
  obtain ⟨x7, gx7, ho⟩ := bS ho
  obtain ⟨w8a, w8b⟩ := getI_w gx7
  by_cases c9 : x5 = x7
  ·rw [if_pos c9] at ho
   cases ho
   simp only [simprocAttr, R0, b30_1, h_2, eq_true hlt, hw, w6a, w6b, w8a, w8b, eq_true c9]
   refine And.intro rfl (Exists.intro _ ( And.intro rfl ?_))
   simp only [simprocAttr, R0, h_2, eq_true hlt, hw, w6a, w6b, w8a, w8b, eq_true c9]
  ·rw [if_neg c9] at ho
   cases ho
   simp only [simprocAttr, R0, b30_1, h_2, eq_true hlt, hw, w6a, w6b, w8a, w8b, eq_false c9]
   intro ht; subst ht
   simp only [simprocAttr, RR, RB]
   exact And.intro rfl (fin_ret (by simp only [simprocAttr, R0, fn_out, p30, Rs.ev, take_len_self, h_2, eq_true hlt, hw, w6a, w6b, w8a, w8b, eq_false c9]))
 ·rintro v5_1 _ e h ⟨k3, rfl, h_2⟩ hge t1 ho
  unfold F30_1_D at ho
  cases ho
  simp only [simprocAttr, R0, b30_1, h_2, eq_false hge]
  intro ht; subst ht
  refine And.intro rfl (Exists.intro _ ( And.intro rfl ?_))
  simp only [simprocAttr, R0, h_2, eq_false hge]
theorem s30 (a0 : List Int) (a1 : List Int)   {r : Bool} (hF : F30 a0 a1 = some r) : ans A 30 [V.isl (a0.map Enc.enc), V.isl (a1.map Enc.enc)] = some (Enc.enc r) := by
 refine ans_of (f := p30) rfl rfl rfl fun e hl he => ?_
 have h0_0 : e.at 0 = V.isl (a0.map Enc.enc) := he 0 _ rfl
 have h1_0 : e.at 1 = V.isl (a1.map Enc.enc) := he 1 _ rfl
 have hl_0 : e.length = 26 := hl
 clear he hl
 have h_0 := And.intro hl_0 (And.intro h0_0 h1_0)
 show W A b30 e ⟨[], 0⟩ _
 unfold F30 at hF
 by_cases c1 : (a0.length : Int) = (a1.length : Int)
 ·rw [if_pos c1] at hF
  obtain ⟨t10, gt10, hF⟩ := bS hF
  rcases t10 with _ | r11
  ·dsimp only at hF
   simp only [simprocAttr, R0, b30, h_0, eq_true c1]
   refine W.mono (l30_1 a0 a1   gt10 (Exists.intro _ ( And.intro rfl ?_))) ?_
   ·simp only [simprocAttr, R0, h_0, eq_true c1]
   rintro _ e _ ⟨rfl, k3, rfl, hl_4⟩
   cases hF
   simp only [simprocAttr, R0, hl_4, eq_true c1]
   exact fin_ret (by simp only [simprocAttr, R0, fn_out, p30, Rs.ev, take_len_self, hl_4, eq_true c1])
  ·dsimp only at hF
   cases hF
   simp only [simprocAttr, R0, b30, h_0, eq_true c1]
   refine W.mono (l30_1 a0 a1   gt10 (Exists.intro _ ( And.intro rfl ?_))) ?_
   ·simp only [simprocAttr, R0, h_0, eq_true c1]
   rintro _ e h ⟨rfl, hq⟩
   simp only [simprocAttr, RR, RB]
   exact hq
 ·rw [if_neg c1] at hF
  cases hF
  simp only [simprocAttr, R0, b30, h_0, eq_false c1]
  exact fin_ret (by simp only [simprocAttr, R0, fn_out, p30, Rs.ev, take_len_self, h_0, eq_false c1])
def F51_1_B (a0 : List (List Int)) (a1 : List (List Int)) (v5_1 : Int) (s : Unit) : Option ((Unit) ⊕ ((Unit) ⊕ Bool)) :=
 (getI a0 v5_1).bind fun x5 =>
(getI a1 v5_1).bind fun x7 =>
(F30 x5 x7).bind fun x9 =>
if x9 = true then
 some (.inl ())
else
 some (.inr (.inr false))
def F51_1_D (a0 : List (List Int)) (a1 : List (List Int)) (v5_1 : Int) (s : Unit) : Option ((Unit) ⊕ Bool) :=
 some (.inl ())
def F51 (a0 : List (List Int)) (a1 : List (List Int)) : Option Bool :=
 if (a0.length : Int) = (a1.length : Int) then
  (forR 0 (a0.length : Int) (F51_1_B a0 a1) (F51_1_D a0 a1) ()).bind fun t11 => match t11 with
   | .inl _ =>
    some true
   | .inr r12 => some r12
 else
  some false
def I51_1 (a0 : List (List Int)) (a1 : List (List Int))  (v5_1 : Int) (s : Unit) (e : Env) (h : Heap) : Prop :=
 ∃ k3 : Nat, h = ⟨[], k3⟩ ∧ e.length = 27 ∧ e.at 0 = V.isl (a0.map Enc.enc) ∧ e.at 1 = V.isl (a1.map Enc.enc) ∧ e.at 5 = V.int .i64 v5_1
def P51_1 (a0 : List (List Int)) (a1 : List (List Int))  (t : (Unit) ⊕ Bool) (x : Ex) (e : Env) (h : Heap) : Prop :=
 match t with
 | .inl _ => x = .normal ∧ ∃ k3 : Nat, h = ⟨[], k3⟩ ∧ e.length = 27
 | .inr r => x = .ret ∧ Fin p51 (Enc.enc r) .ret e h
theorem l51_1 (a0 : List (List Int)) (a1 : List (List Int))   {lo : Int} {s : Unit} {t : (Unit) ⊕ Bool} (hF : forR lo (a0.length : Int) (F51_1_B a0 a1) (F51_1_D a0 a1) s = some t) {e : Env} {h : Heap} (hI : I51_1 a0 a1  lo s e h) : W A c51_1 e h (P51_1 a0 a1  t) := by
 show W A (.block 0 (.loop false b51_1)) e h _
 rw [W_block]
 refine W_forR hF 0 (by obtain ⟨_, rfl, _⟩ := hI; rfl) (I51_1 a0 a1 ) hI ?_ ?_
 ·rintro v5_1 _ e h ⟨k3, rfl, h_2⟩ hlt hw o ho
  unfold F51_1_B at ho
  obtain ⟨x5, gx5, ho⟩ := bS ho
  obtain ⟨w6a, w6b⟩ := getI_w gx5
  obtain ⟨x7, gx7, ho⟩ := bS ho
  obtain ⟨w8a, w8b⟩ := getI_w gx7
  obtain ⟨x9, gx9, ho⟩ := bS ho
  have w10 : ans A 30 [V.isl (x5.map Enc.enc), V.isl (x7.map Enc.enc)] = some (V.bool x9) := s30 x5 x7  gx9
  cases x9 with
  | true =>
   rw [if_pos rfl] at ho
   cases ho
   simp only [simprocAttr, R0, b51_1, h_2, eq_true hlt, hw, w6a, w6b, w8a, w8b, w10]
   refine And.intro rfl (Exists.intro _ ( And.intro rfl ?_))
   simp only [simprocAttr, R0, h_2, eq_true hlt, hw, w6a, w6b, w8a, w8b, w10]
  | false =>
   rw [if_neg Bool.false_ne_true] at ho
   cases ho
   simp only [simprocAttr, R0, b51_1, h_2, eq_true hlt, hw, w6a, w6b, w8a, w8b, w10]
   intro ht; subst ht
   simp only [simprocAttr, RR, RB]
   exact And.intro rfl (fin_ret (by simp only [simprocAttr, R0, fn_out, p51, Rs.ev, take_len_self, h_2, eq_true hlt, hw, w6a, w6b, w8a, w8b, w10]))
 ·rintro v5_1 _ e h ⟨k3, rfl, h_2⟩ hge t1 ho
  unfold F51_1_D at ho
  cases ho
  simp only [simprocAttr, R0, b51_1, h_2, eq_false hge]
  intro ht; subst ht
  refine And.intro rfl (Exists.intro _ ( And.intro rfl ?_))
  simp only [simprocAttr, R0, h_2, eq_false hge]
theorem s51 (a0 : List (List Int)) (a1 : List (List Int))   {r : Bool} (hF : F51 a0 a1 = some r) : ans A 51 [V.isl (a0.map Enc.enc), V.isl (a1.map Enc.enc)] = some (Enc.enc r) := by
 refine ans_of (f := p51) rfl rfl rfl fun e hl he => ?_
 have h0_0 : e.at 0 = V.isl (a0.map Enc.enc) := he 0 _ rfl
 have h1_0 : e.at 1 = V.isl (a1.map Enc.enc) := he 1 _ rfl
 have hl_0 : e.length = 27 := hl
 clear he hl
 have h_0 := And.intro hl_0 (And.intro h0_0 h1_0)
 show W A b51 e ⟨[], 0⟩ _
 unfold F51 at hF
 by_cases c1 : (a0.length : Int) = (a1.length : Int)
 ·rw [if_pos c1] at hF
  obtain ⟨t11, gt11, hF⟩ := bS hF
  rcases t11 with _ | r12
  ·dsimp only at hF
   simp only [simprocAttr, R0, b51, h_0, eq_true c1]
   refine W.mono (l51_1 a0 a1   gt11 (Exists.intro _ ( And.intro rfl ?_))) ?_
   ·simp only [simprocAttr, R0, h_0, eq_true c1]
   rintro _ e _ ⟨rfl, k3, rfl, hl_4⟩
   cases hF
   simp only [simprocAttr, R0, hl_4, eq_true c1]
   exact fin_ret (by simp only [simprocAttr, R0, fn_out, p51, Rs.ev, take_len_self, hl_4, eq_true c1])
  ·dsimp only at hF
   cases hF
   simp only [simprocAttr, R0, b51, h_0, eq_true c1]
   refine W.mono (l51_1 a0 a1   gt11 (Exists.intro _ ( And.intro rfl ?_))) ?_
   ·simp only [simprocAttr, R0, h_0, eq_true c1]
   rintro _ e h ⟨rfl, hq⟩
   simp only [simprocAttr, RR, RB]
   exact hq
 ·rw [if_neg c1] at hF
  cases hF
  simp only [simprocAttr, R0, b51, h_0, eq_false c1]
  exact fin_ret (by simp only [simprocAttr, R0, fn_out, p51, Rs.ev, take_len_self, h_0, eq_false c1])
def F17_1_B (a0 : List (List (List Int))) (a1 : List (List (List Int))) (v5_1 : Int) (s : Unit) : Option ((Unit) ⊕ ((Unit) ⊕ Bool)) :=
 (getI a0 v5_1).bind fun x5 =>
(getI a1 v5_1).bind fun x7 =>
(F51 x5 x7).bind fun x9 =>
if x9 = true then
 some (.inl ())
else
 some (.inr (.inr false))
def F17_1_D (a0 : List (List (List Int))) (a1 : List (List (List Int))) (v5_1 : Int) (s : Unit) : Option ((Unit) ⊕ Bool) :=
 some (.inl ())
def F17 (a0 : List (List (List Int))) (a1 : List (List (List Int))) : Option Bool :=
 if (a0.length : Int) = (a1.length : Int) then
  (forR 0 (a0.length : Int) (F17_1_B a0 a1) (F17_1_D a0 a1) ()).bind fun t11 => match t11 with
   | .inl _ =>
    some true
   | .inr r12 => some r12
 else
  some false
def I17_1 (a0 : List (List (List Int))) (a1 : List (List (List Int)))  (v5_1 : Int) (s : Unit) (e : Env) (h : Heap) : Prop :=
 ∃ k3 : Nat, h = ⟨[], k3⟩ ∧ e.length = 27 ∧ e.at 0 = V.isl (a0.map Enc.enc) ∧ e.at 1 = V.isl (a1.map Enc.enc) ∧ e.at 5 = V.int .i64 v5_1
def P17_1 (a0 : List (List (List Int))) (a1 : List (List (List Int)))  (t : (Unit) ⊕ Bool) (x : Ex) (e : Env) (h : Heap) : Prop :=
 match t with
 | .inl _ => x = .normal ∧ ∃ k3 : Nat, h = ⟨[], k3⟩ ∧ e.length = 27
 | .inr r => x = .ret ∧ Fin p17 (Enc.enc r) .ret e h
theorem l17_1 (a0 : List (List (List Int))) (a1 : List (List (List Int)))   {lo : Int} {s : Unit} {t : (Unit) ⊕ Bool} (hF : forR lo (a0.length : Int) (F17_1_B a0 a1) (F17_1_D a0 a1) s = some t) {e : Env} {h : Heap} (hI : I17_1 a0 a1  lo s e h) : W A c17_1 e h (P17_1 a0 a1  t) := by
 show W A (.block 0 (.loop false b17_1)) e h _
 rw [W_block]
 refine W_forR hF 0 (by obtain ⟨_, rfl, _⟩ := hI; rfl) (I17_1 a0 a1 ) hI ?_ ?_
 ·rintro v5_1 _ e h ⟨k3, rfl, h_2⟩ hlt hw o ho
  unfold F17_1_B at ho
  obtain ⟨x5, gx5, ho⟩ := bS ho
  obtain ⟨w6a, w6b⟩ := getI_w gx5
  obtain ⟨x7, gx7, ho⟩ := bS ho
  obtain ⟨w8a, w8b⟩ := getI_w gx7
  obtain ⟨x9, gx9, ho⟩ := bS ho
  have w10 : ans A 51 [V.isl (x5.map Enc.enc), V.isl (x7.map Enc.enc)] = some (V.bool x9) := s51 x5 x7  gx9
  cases x9 with
  | true =>
   rw [if_pos rfl] at ho
   cases ho
   simp only [simprocAttr, R0, b17_1, h_2, eq_true hlt, hw, w6a, w6b, w8a, w8b, w10]
   refine And.intro rfl (Exists.intro _ ( And.intro rfl ?_))
   simp only [simprocAttr, R0, h_2, eq_true hlt, hw, w6a, w6b, w8a, w8b, w10]
  | false =>
   rw [if_neg Bool.false_ne_true] at ho
   cases ho
   simp only [simprocAttr, R0, b17_1, h_2, eq_true hlt, hw, w6a, w6b, w8a, w8b, w10]
   intro ht; subst ht
   simp only [simprocAttr, RR, RB]
   exact And.intro rfl (fin_ret (by simp only [simprocAttr, R0, fn_out, p17, Rs.ev, take_len_self, h_2, eq_true hlt, hw, w6a, w6b, w8a, w8b, w10]))
 ·rintro v5_1 _ e h ⟨k3, rfl, h_2⟩ hge t1 ho
  unfold F17_1_D at ho
  cases ho
  simp only [simprocAttr, R0, b17_1, h_2, eq_false hge]
  intro ht; subst ht
  refine And.intro rfl (Exists.intro _ ( And.intro rfl ?_))
  simp only [simprocAttr, R0, h_2, eq_false hge]
theorem s17 (a0 : List (List (List Int))) (a1 : List (List (List Int)))   {r : Bool} (hF : F17 a0 a1 = some r) : ans A 17 [V.isl (a0.map Enc.enc), V.isl (a1.map Enc.enc)] = some (Enc.enc r) := by
 refine ans_of (f := p17) rfl rfl rfl fun e hl he => ?_
 have h0_0 : e.at 0 = V.isl (a0.map Enc.enc) := he 0 _ rfl
 have h1_0 : e.at 1 = V.isl (a1.map Enc.enc) := he 1 _ rfl
 have hl_0 : e.length = 27 := hl
 clear he hl
 have h_0 := And.intro hl_0 (And.intro h0_0 h1_0)
 show W A b17 e ⟨[], 0⟩ _
 unfold F17 at hF
 by_cases c1 : (a0.length : Int) = (a1.length : Int)
 ·rw [if_pos c1] at hF
  obtain ⟨t11, gt11, hF⟩ := bS hF
  rcases t11 with _ | r12
  ·dsimp only at hF
   simp only [simprocAttr, R0, b17, h_0, eq_true c1]
   refine W.mono (l17_1 a0 a1   gt11 (Exists.intro _ ( And.intro rfl ?_))) ?_
   ·simp only [simprocAttr, R0, h_0, eq_true c1]
   rintro _ e _ ⟨rfl, k3, rfl, hl_4⟩
   cases hF
   simp only [simprocAttr, R0, hl_4, eq_true c1]
   exact fin_ret (by simp only [simprocAttr, R0, fn_out, p17, Rs.ev, take_len_self, hl_4, eq_true c1])
  ·dsimp only at hF
   cases hF
   simp only [simprocAttr, R0, b17, h_0, eq_true c1]
   refine W.mono (l17_1 a0 a1   gt11 (Exists.intro _ ( And.intro rfl ?_))) ?_
   ·simp only [simprocAttr, R0, h_0, eq_true c1]
   rintro _ e h ⟨rfl, hq⟩
   simp only [simprocAttr, RR, RB]
   exact hq
 ·rw [if_neg c1] at hF
  cases hF
  simp only [simprocAttr, R0, b17, h_0, eq_false c1]
  exact fin_ret (by simp only [simprocAttr, R0, fn_out, p17, Rs.ev, take_len_self, h_0, eq_false c1])
def F16 (a0 : GComplex) (a1 : GComplex) : Option Bool :=
 if a0.Prime = a1.Prime then
  (F30 a0.Dims a1.Dims).bind fun x2 =>
  if x2 = true then
   (F17 a0.Maps a1.Maps).bind fun x4 =>
   if x4 = true then
    some true
   else
    some false
  else
   some false
 else
  some false
theorem s16 (a0 : GComplex) (a1 : GComplex)   {r : Bool} (hF : F16 a0 a1 = some r) : ans A 16 [(eC a0), (eC a1)] = some (Enc.enc r) := by
 refine ans_of (f := p16) rfl rfl rfl fun e hl he => ?_
 have h0_0 : e.at 0 = (eC a0) := he 0 _ rfl
 have h1_0 : e.at 1 = (eC a1) := he 1 _ rfl
 have hl_0 : e.length = 22 := hl
 clear he hl
 have h_0 := And.intro hl_0 (And.intro h0_0 h1_0)
 show W A b16 e ⟨[], 0⟩ _
 unfold F16 at hF
 by_cases c1 : a0.Prime = a1.Prime
 ·rw [if_pos c1] at hF
  obtain ⟨x2, gx2, hF⟩ := bS hF
  have w3 : ans A 30 [V.isl (a0.Dims.map Enc.enc), V.isl (a1.Dims.map Enc.enc)] = some (V.bool x2) := s30 a0.Dims a1.Dims  gx2
  cases x2 with
  | true =>
   rw [if_pos rfl] at hF
   obtain ⟨x4, gx4, hF⟩ := bS hF
   have w5 : ans A 17 [V.isl (a0.Maps.map Enc.enc), V.isl (a1.Maps.map Enc.enc)] = some (V.bool x4) := s17 a0.Maps a1.Maps  gx4
   cases x4 with
   | true =>
    rw [if_pos rfl] at hF
    cases hF
    simp only [simprocAttr, R0, b16, h_0, eq_true c1, w3, w5]
    exact fin_ret (by simp only [simprocAttr, R0, fn_out, p16, Rs.ev, take_len_self, h_0, eq_true c1, w3, w5])
   | false =>
    rw [if_neg Bool.false_ne_true] at hF
    cases hF
    simp only [simprocAttr, R0, b16, h_0, eq_true c1, w3, w5]
    exact fin_ret (by simp only [simprocAttr, R0, fn_out, p16, Rs.ev, take_len_self, h_0, eq_true c1, w3, w5])
  | false =>
   rw [if_neg Bool.false_ne_true] at hF
   cases hF
   simp only [simprocAttr, R0, b16, h_0, eq_true c1, w3]
   exact fin_ret (by simp only [simprocAttr, R0, fn_out, p16, Rs.ev, take_len_self, h_0, eq_true c1, w3])
 ·rw [if_neg c1] at hF
  cases hF
  simp only [simprocAttr, R0, b16, h_0, eq_false c1]
  exact fin_ret (by simp only [simprocAttr, R0, fn_out, p16, Rs.ev, take_len_self, h_0, eq_false c1])
def F224 (a0 : GContraction) (a1 : Int) : Option Int :=
 (F11 a0.Down a1).bind fun x1 =>
 if x1 < 0 then
  some (-1)
 else
  (F11 a0.Up x1).bind fun x4 =>
  if x4 < 0 then
   some (-1)
  else
   (F11 a0.Back x4).bind fun x7 =>
   if x7 < 0 then
    some (-1)
   else
    some x7
theorem s224 (a0 : GContraction) (a1 : Int)   {r : Int} (hF : F224 a0 a1 = some r) : ans A 224 [(eK a0), V.int .i64 a1] = some (Enc.enc r) := by
 refine ans_of (f := p224) rfl rfl rfl fun e hl he => ?_
 have h0_0 : e.at 0 = (eK a0) := he 0 _ rfl
 have h1_0 : e.at 1 = V.int .i64 a1 := he 1 _ rfl
 have hl_0 : e.length = 24 := hl
 clear he hl
 have h_0 := And.intro hl_0 (And.intro h0_0 h1_0)
 show W A b224 e ⟨[], 0⟩ _
 unfold F224 at hF
 obtain ⟨x1, gx1, hF⟩ := bS hF
 have w2 : ans A 11 [V.isl (a0.Down.map Enc.enc), V.int .i64 a1] = some (V.int .i64 x1) := s11 a0.Down a1  gx1
 by_cases c3 : x1 < 0
 ·rw [if_pos c3] at hF
  cases hF
  simp only [simprocAttr, R0, b224, h_0, w2, eq_true c3]
  exact fin_ret (by simp only [simprocAttr, R0, fn_out, p224, Rs.ev, take_len_self, h_0, w2, eq_true c3])
 ·rw [if_neg c3] at hF
  obtain ⟨x4, gx4, hF⟩ := bS hF
  have w5 : ans A 11 [V.isl (a0.Up.map Enc.enc), V.int .i64 x1] = some (V.int .i64 x4) := s11 a0.Up x1  gx4
  by_cases c6 : x4 < 0
  ·rw [if_pos c6] at hF
   cases hF
   simp only [simprocAttr, R0, b224, h_0, w2, eq_false c3, w5, eq_true c6]
   exact fin_ret (by simp only [simprocAttr, R0, fn_out, p224, Rs.ev, take_len_self, h_0, w2, eq_false c3, w5, eq_true c6])
  ·rw [if_neg c6] at hF
   obtain ⟨x7, gx7, hF⟩ := bS hF
   have w8 : ans A 11 [V.isl (a0.Back.map Enc.enc), V.int .i64 x4] = some (V.int .i64 x7) := s11 a0.Back x4  gx7
   by_cases c9 : x7 < 0
   ·rw [if_pos c9] at hF
    cases hF
    simp only [simprocAttr, R0, b224, h_0, w2, eq_false c3, w5, eq_false c6, w8, eq_true c9]
    exact fin_ret (by simp only [simprocAttr, R0, fn_out, p224, Rs.ev, take_len_self, h_0, w2, eq_false c3, w5, eq_false c6, w8, eq_true c9])
   ·rw [if_neg c9] at hF
    cases hF
    simp only [simprocAttr, R0, b224, h_0, w2, eq_false c3, w5, eq_false c6, w8, eq_false c9]
    exact fin_ret (by simp only [simprocAttr, R0, fn_out, p224, Rs.ev, take_len_self, h_0, w2, eq_false c3, w5, eq_false c6, w8, eq_false c9])
def F225 (a0 : GContraction) : Option GContraction :=
 (F13 a0.Down).bind fun x1 =>
 (F13 a0.Up).bind fun x3 =>
 (F13 a0.Back).bind fun x5 =>
 some ⟨x1, x3, x5⟩
theorem s225 (a0 : GContraction)   {r : GContraction} (hF : F225 a0 = some r) : ans A 225 [(eK a0)] = some (Enc.enc r) := by
 refine ans_of (f := p225) rfl rfl rfl fun e hl he => ?_
 have h0_0 : e.at 0 = (eK a0) := he 0 _ rfl
 have hl_0 : e.length = 17 := hl
 clear he hl
 show W A b225 e ⟨[], 0⟩ _
 unfold F225 at hF
 obtain ⟨x1, gx1, hF⟩ := bS hF
 have w2 : ans A 13 [V.isl (a0.Down.map Enc.enc)] = some (V.isl (x1.map Enc.enc)) := s13 a0.Down  gx1
 obtain ⟨x3, gx3, hF⟩ := bS hF
 have w4 : ans A 13 [V.isl (a0.Up.map Enc.enc)] = some (V.isl (x3.map Enc.enc)) := s13 a0.Up  gx3
 obtain ⟨x5, gx5, hF⟩ := bS hF
 have w6 : ans A 13 [V.isl (a0.Back.map Enc.enc)] = some (V.isl (x5.map Enc.enc)) := s13 a0.Back  gx5
 cases hF
 simp only [simprocAttr, R0, b225, hl_0, h0_0, w2, w4, w6]
 exact fin_ret (by simp only [simprocAttr, R0, fn_out, p225, Rs.ev, take_len_self, hl_0, h0_0, w2, w4, w6])
def F228 (a0 : GContraction) (a1 : GContraction) : Option Bool :=
 (F17 a0.Down a1.Down).bind fun x1 =>
 if x1 = true then
  (F17 a0.Up a1.Up).bind fun x3 =>
  if x3 = true then
   (F17 a0.Back a1.Back).bind fun x5 =>
   if x5 = true then
    some true
   else
    some false
  else
   some false
 else
  some false
theorem s228 (a0 : GContraction) (a1 : GContraction)   {r : Bool} (hF : F228 a0 a1 = some r) : ans A 228 [(eK a0), (eK a1)] = some (Enc.enc r) := by
 refine ans_of (f := p228) rfl rfl rfl fun e hl he => ?_
 have h0_0 : e.at 0 = (eK a0) := he 0 _ rfl
 have h1_0 : e.at 1 = (eK a1) := he 1 _ rfl
 have hl_0 : e.length = 23 := hl
 clear he hl
 have h_0 := And.intro hl_0 (And.intro h0_0 h1_0)
 show W A b228 e ⟨[], 0⟩ _
 unfold F228 at hF
 obtain ⟨x1, gx1, hF⟩ := bS hF
 have w2 : ans A 17 [V.isl (a0.Down.map Enc.enc), V.isl (a1.Down.map Enc.enc)] = some (V.bool x1) := s17 a0.Down a1.Down  gx1
 cases x1 with
 | true =>
  rw [if_pos rfl] at hF
  obtain ⟨x3, gx3, hF⟩ := bS hF
  have w4 : ans A 17 [V.isl (a0.Up.map Enc.enc), V.isl (a1.Up.map Enc.enc)] = some (V.bool x3) := s17 a0.Up a1.Up  gx3
  cases x3 with
  | true =>
   rw [if_pos rfl] at hF
   obtain ⟨x5, gx5, hF⟩ := bS hF
   have w6 : ans A 17 [V.isl (a0.Back.map Enc.enc), V.isl (a1.Back.map Enc.enc)] = some (V.bool x5) := s17 a0.Back a1.Back  gx5
   cases x5 with
   | true =>
    rw [if_pos rfl] at hF
    cases hF
    simp only [simprocAttr, R0, b228, h_0, w2, w4, w6]
    exact fin_ret (by simp only [simprocAttr, R0, fn_out, p228, Rs.ev, take_len_self, h_0, w2, w4, w6])
   | false =>
    rw [if_neg Bool.false_ne_true] at hF
    cases hF
    simp only [simprocAttr, R0, b228, h_0, w2, w4, w6]
    exact fin_ret (by simp only [simprocAttr, R0, fn_out, p228, Rs.ev, take_len_self, h_0, w2, w4, w6])
  | false =>
   rw [if_neg Bool.false_ne_true] at hF
   cases hF
   simp only [simprocAttr, R0, b228, h_0, w2, w4]
   exact fin_ret (by simp only [simprocAttr, R0, fn_out, p228, Rs.ev, take_len_self, h_0, w2, w4])
 | false =>
  rw [if_neg Bool.false_ne_true] at hF
  cases hF
  simp only [simprocAttr, R0, b228, h_0, w2]
  exact fin_ret (by simp only [simprocAttr, R0, fn_out, p228, Rs.ev, take_len_self, h_0, w2])
def F54 (a0 : Int) (a1 : Int) (a2 : Int) : Option Bool :=
 if a1 ≤ a0 then
  some (decide (a0 ≤ a2))
 else
  some false
theorem s54 (a0 : Int) (a1 : Int) (a2 : Int)   {r : Bool} (hF : F54 a0 a1 a2 = some r) : ans A 54 [V.int .i64 a0, V.int .i64 a1, V.int .i64 a2] = some (Enc.enc r) := by
 refine ans_of (f := p54) rfl rfl rfl fun e hl he => ?_
 have h0_0 : e.at 0 = V.int .i64 a0 := he 0 _ rfl
 have h1_0 : e.at 1 = V.int .i64 a1 := he 1 _ rfl
 have h2_0 : e.at 2 = V.int .i64 a2 := he 2 _ rfl
 have hl_0 : e.length = 15 := hl
 clear he hl
 have h_0 := And.intro hl_0 (And.intro h0_0 (And.intro h1_0 h2_0))
 show W A b54 e ⟨[], 0⟩ _
 unfold F54 at hF
 by_cases c1 : a1 ≤ a0
 ·rw [if_pos c1] at hF
  cases hF
  simp only [simprocAttr, R0, b54, h_0, eq_true c1]
  exact fin_ret (by simp only [simprocAttr, R0, fn_out, p54, Rs.ev, take_len_self, h_0, eq_true c1])
 ·rw [if_neg c1] at hF
  cases hF
  simp only [simprocAttr, R0, b54, h_0, eq_false c1]
  exact fin_ret (by simp only [simprocAttr, R0, fn_out, p54, Rs.ev, take_len_self, h_0, eq_false c1])
def F78 (a0 : Int) : Option Bool :=
 if a0 = 2 then
  some true
 else
  if a0 = 3 then
   some true
  else
   if a0 = 5 then
    some true
   else
    some (decide (a0 = 7))
theorem s78 (a0 : Int)   {r : Bool} (hF : F78 a0 = some r) : ans A 78 [V.int .i64 a0] = some (Enc.enc r) := by
 refine ans_of (f := p78) rfl rfl rfl fun e hl he => ?_
 have h0_0 : e.at 0 = V.int .i64 a0 := he 0 _ rfl
 have hl_0 : e.length = 17 := hl
 clear he hl
 have h_0 := And.intro hl_0 h0_0
 show W A b78 e ⟨[], 0⟩ _
 unfold F78 at hF
 by_cases c1 : a0 = 2
 ·rw [if_pos c1] at hF
  cases hF
  simp only [simprocAttr, R0, b78, h_0, eq_true c1]
  exact fin_ret (by simp only [simprocAttr, R0, fn_out, p78, Rs.ev, take_len_self, h_0, eq_true c1])
 ·rw [if_neg c1] at hF
  by_cases c2 : a0 = 3
  ·rw [if_pos c2] at hF
   cases hF
   simp only [simprocAttr, R0, b78, h_0, eq_false c1, eq_true c2]
   exact fin_ret (by simp only [simprocAttr, R0, fn_out, p78, Rs.ev, take_len_self, h_0, eq_false c1, eq_true c2])
  ·rw [if_neg c2] at hF
   by_cases c3 : a0 = 5
   ·rw [if_pos c3] at hF
    cases hF
    simp only [simprocAttr, R0, b78, h_0, eq_false c1, eq_false c2, eq_true c3]
    exact fin_ret (by simp only [simprocAttr, R0, fn_out, p78, Rs.ev, take_len_self, h_0, eq_false c1, eq_false c2, eq_true c3])
   ·rw [if_neg c3] at hF
    cases hF
    simp only [simprocAttr, R0, b78, h_0, eq_false c1, eq_false c2, eq_false c3]
    exact fin_ret (by simp only [simprocAttr, R0, fn_out, p78, Rs.ev, take_len_self, h_0, eq_false c1, eq_false c2, eq_false c3])
def F79_2_S (a0 : Int) (a1 : List (List Int)) (a3 : Int) (v9_1 : Int) (v10_2 : Int) : Option ((Int) ⊕ ((Unit) ⊕ Bool)) :=
 (getI a1 v9_1).bind fun x11 =>
if v10_2 < (x11.length : Int) then
 (getI x11 v10_2).bind fun x14 =>
 (chk (a0 - 1)).bind fun x16 =>
 (F54 x14 0 x16).bind fun x17 =>
 if x17 = true then
  (chk (v10_2 + 1)).bind fun x19 =>
  some (.inl x19)
 else
  some (.inr (.inr false))
else
 some (.inr (.inl ()))
def F79_1_B (a0 : Int) (a1 : List (List Int)) (a3 : Int) (v9_1 : Int) (s : Unit) : Option ((Unit) ⊕ ((Unit) ⊕ Bool)) :=
 (getI a1 v9_1).bind fun x5 =>
if (x5.length : Int) = a3 then
 (loopW (F79_2_S a0 a1 a3 v9_1) 0).bind fun t20 => match t20 with
  | .inl _ =>
   some (.inl ())
  | .inr r21 => some (.inr (.inr r21))
else
 some (.inr (.inr false))
def F79_1_D (a0 : Int) (a1 : List (List Int)) (a3 : Int) (v9_1 : Int) (s : Unit) : Option ((Unit) ⊕ Bool) :=
 some (.inl ())
def F79 (a0 : Int) (a1 : List (List Int)) (a2 : Int) (a3 : Int) : Option Bool :=
 if (a1.length : Int) = a2 then
  (forR 0 (a1.length : Int) (F79_1_B a0 a1 a3) (F79_1_D a0 a1 a3) ()).bind fun t22 => match t22 with
   | .inl _ =>
    some true
   | .inr r23 => some r23
 else
  some false
def I79_2 (a0 : Int) (a1 : List (List Int)) (a3 : Int) (v9_1 : Int)  (v10_2 : Int) (e : Env) (h : Heap) : Prop :=
 ∃ k9 : Nat, h = ⟨[], k9⟩ ∧ e.length = 48 ∧ e.at 0 = V.int .i64 a0 ∧ e.at 1 = V.isl (a1.map Enc.enc) ∧ e.at 3 = V.int .i64 a3 ∧ e.at 9 = V.int .i64 v9_1 ∧ e.at 10 = V.int .i64 v10_2
def P79_2 (a0 : Int) (a1 : List (List Int)) (a3 : Int) (v9_1 : Int)  (t : (Unit) ⊕ Bool) (x : Ex) (e : Env) (h : Heap) : Prop :=
 match t with
 | .inl _ => x = .normal ∧ ∃ k9 : Nat, h = ⟨[], k9⟩ ∧ e.length = 48 ∧ e.at 0 = V.int .i64 a0 ∧ e.at 1 = V.isl (a1.map Enc.enc) ∧ e.at 3 = V.int .i64 a3 ∧ e.at 9 = V.int .i64 v9_1
 | .inr r => x = .ret ∧ Fin p79 (Enc.enc r) .ret e h
theorem l79_2 (a0 : Int) (a1 : List (List Int)) (a3 : Int) (v9_1 : Int)   {s : Int} {t : (Unit) ⊕ Bool} (hF : loopW (F79_2_S a0 a1 a3 v9_1) s = some t) {e : Env} {h : Heap} (hI : I79_2 a0 a1 a3 v9_1  s e h) : W A c79_2 e h (P79_2 a0 a1 a3 v9_1  t) := by
 show W A (.block 2 (.loop false b79_2)) e h _
 rw [W_block]
 refine W_loop hF 0 (by obtain ⟨_, rfl, _⟩ := hI; rfl) (I79_2 a0 a1 a3 v9_1 ) hI ?_
 ·rintro v10_2 e h ⟨k9, rfl, h_8⟩ o ho
  unfold F79_2_S at ho
  obtain ⟨x11, gx11, ho⟩ := bS ho
  obtain ⟨w12a, w12b⟩ := getI_w gx11
  by_cases c13 : v10_2 < (x11.length : Int)
  ·rw [if_pos c13] at ho
   obtain ⟨x14, gx14, ho⟩ := bS ho
   obtain ⟨w15a, w15b⟩ := getI_w gx14
   obtain ⟨x16, gx16, ho⟩ := bS ho
   have wx16 := chk_w gx16
   obtain ⟨x17, gx17, ho⟩ := bS ho
   have w18 : ans A 54 [V.int .i64 x14, V.int .i64 0, V.int .i64 x16] = some (V.bool x17) := s54 x14 0 x16  gx17
   cases x17 with
   | true =>
    rw [if_pos rfl] at ho
    obtain ⟨x19, gx19, ho⟩ := bS ho
    have wx19 := chk_w gx19
    cases ho
    simp only [simprocAttr, R0, b79_2, h_8, w12a, w12b, eq_true c13, w15a, w15b, wx16, w18, wx19]
    refine And.intro rfl (Exists.intro _ ( And.intro rfl ?_))
    simp only [simprocAttr, R0, h_8, w12a, w12b, eq_true c13, w15a, w15b, wx16, w18, wx19]
   | false =>
    rw [if_neg Bool.false_ne_true] at ho
    cases ho
    simp only [simprocAttr, R0, b79_2, h_8, w12a, w12b, eq_true c13, w15a, w15b, wx16, w18]
    intro ht; subst ht
    simp only [simprocAttr, RR, RB]
    exact And.intro rfl (fin_ret (by simp only [simprocAttr, R0, fn_out, p79, Rs.ev, take_len_self, h_8, w12a, w12b, eq_true c13, w15a, w15b, wx16, w18]))
  ·rw [if_neg c13] at ho
   cases ho
   simp only [simprocAttr, R0, b79_2, h_8, w12a, w12b, eq_false c13]
   intro ht; subst ht
   simp only [simprocAttr, RR, RB]
   refine And.intro rfl (Exists.intro _ ( And.intro rfl ?_))
   simp only [simprocAttr, R0, h_8, w12a, w12b, eq_false c13]
def I79_1 (a0 : Int) (a1 : List (List Int)) (a3 : Int)  (v9_1 : Int) (s : Unit) (e : Env) (h : Heap) : Prop :=
 ∃ k3 : Nat, h = ⟨[], k3⟩ ∧ e.length = 48 ∧ e.at 0 = V.int .i64 a0 ∧ e.at 1 = V.isl (a1.map Enc.enc) ∧ e.at 3 = V.int .i64 a3 ∧ e.at 9 = V.int .i64 v9_1
def P79_1 (a0 : Int) (a1 : List (List Int)) (a3 : Int)  (t : (Unit) ⊕ Bool) (x : Ex) (e : Env) (h : Heap) : Prop :=
 match t with
 | .inl _ => x = .normal ∧ ∃ k3 : Nat, h = ⟨[], k3⟩ ∧ e.length = 48
 | .inr r => x = .ret ∧ Fin p79 (Enc.enc r) .ret e h
theorem l79_1 (a0 : Int) (a1 : List (List Int)) (a3 : Int)   {lo : Int} {s : Unit} {t : (Unit) ⊕ Bool} (hF : forR lo (a1.length : Int) (F79_1_B a0 a1 a3) (F79_1_D a0 a1 a3) s = some t) {e : Env} {h : Heap} (hI : I79_1 a0 a1 a3  lo s e h) : W A c79_1 e h (P79_1 a0 a1 a3  t) := by
 show W A (.block 0 (.loop false b79_1)) e h _
 rw [W_block]
 refine W_forR hF 0 (by obtain ⟨_, rfl, _⟩ := hI; rfl) (I79_1 a0 a1 a3 ) hI ?_ ?_
 ·rintro v9_1 _ e h ⟨k3, rfl, h_2⟩ hlt hw o ho
  unfold F79_1_B at ho
  obtain ⟨x5, gx5, ho⟩ := bS ho
  obtain ⟨w6a, w6b⟩ := getI_w gx5
  by_cases c7 : (x5.length : Int) = a3
  ·rw [if_pos c7] at ho
   obtain ⟨t20, gt20, ho⟩ := bS ho
   rcases t20 with _ | r21
   ·dsimp only at ho
    simp only [simprocAttr, R0, b79_1, h_2, eq_true hlt, hw, w6a, w6b, eq_true c7]
    refine W.mono (l79_2 a0 a1 a3 v9_1   gt20 (Exists.intro _ ( And.intro rfl ?_))) ?_
    ·simp only [simprocAttr, R0, h_2, eq_true hlt, hw, w6a, w6b, eq_true c7]
    rintro _ e _ ⟨rfl, k9, rfl, h_10⟩
    cases ho
    simp only [simprocAttr, R0, h_10, eq_true hlt, hw, eq_true c7]
    refine And.intro rfl (Exists.intro _ ( And.intro rfl ?_))
    simp only [simprocAttr, R0, h_10, eq_true hlt, hw, eq_true c7]
   ·dsimp only at ho
    cases ho
    simp only [simprocAttr, R0, b79_1, h_2, eq_true hlt, hw, w6a, w6b, eq_true c7]
    refine W.mono (l79_2 a0 a1 a3 v9_1   gt20 (Exists.intro _ ( And.intro rfl ?_))) ?_
    ·simp only [simprocAttr, R0, h_2, eq_true hlt, hw, w6a, w6b, eq_true c7]
    rintro _ e h ⟨rfl, hq⟩
    simp only [simprocAttr, RR, RB]
    intro ht; subst ht
    simp only [simprocAttr, RR, RB]
    exact And.intro rfl hq
  ·rw [if_neg c7] at ho
   cases ho
   simp only [simprocAttr, R0, b79_1, h_2, eq_true hlt, hw, w6a, w6b, eq_false c7]
   intro ht; subst ht
   simp only [simprocAttr, RR, RB]
   exact And.intro rfl (fin_ret (by simp only [simprocAttr, R0, fn_out, p79, Rs.ev, take_len_self, h_2, eq_true hlt, hw, w6a, w6b, eq_false c7]))
 ·rintro v9_1 _ e h ⟨k3, rfl, h_2⟩ hge t1 ho
  unfold F79_1_D at ho
  cases ho
  simp only [simprocAttr, R0, b79_1, h_2, eq_false hge]
  intro ht; subst ht
  refine And.intro rfl (Exists.intro _ ( And.intro rfl ?_))
  simp only [simprocAttr, R0, h_2, eq_false hge]
theorem s79 (a0 : Int) (a1 : List (List Int)) (a2 : Int) (a3 : Int)   {r : Bool} (hF : F79 a0 a1 a2 a3 = some r) : ans A 79 [V.int .i64 a0, V.isl (a1.map Enc.enc), V.int .i64 a2, V.int .i64 a3] = some (Enc.enc r) := by
 refine ans_of (f := p79) rfl rfl rfl fun e hl he => ?_
 have h0_0 : e.at 0 = V.int .i64 a0 := he 0 _ rfl
 have h1_0 : e.at 1 = V.isl (a1.map Enc.enc) := he 1 _ rfl
 have h2_0 : e.at 2 = V.int .i64 a2 := he 2 _ rfl
 have h3_0 : e.at 3 = V.int .i64 a3 := he 3 _ rfl
 have hl_0 : e.length = 48 := hl
 clear he hl
 have h_0 := And.intro hl_0 (And.intro h0_0 (And.intro h1_0 (And.intro h2_0 h3_0)))
 show W A b79 e ⟨[], 0⟩ _
 unfold F79 at hF
 by_cases c1 : (a1.length : Int) = a2
 ·rw [if_pos c1] at hF
  obtain ⟨t22, gt22, hF⟩ := bS hF
  rcases t22 with _ | r23
  ·dsimp only at hF
   simp only [simprocAttr, R0, b79, h_0, eq_true c1]
   refine W.mono (l79_1 a0 a1 a3   gt22 (Exists.intro _ ( And.intro rfl ?_))) ?_
   ·simp only [simprocAttr, R0, h_0, eq_true c1]
   rintro _ e _ ⟨rfl, k3, rfl, hl_4⟩
   cases hF
   simp only [simprocAttr, R0, hl_4, eq_true c1]
   exact fin_ret (by simp only [simprocAttr, R0, fn_out, p79, Rs.ev, take_len_self, hl_4, eq_true c1])
  ·dsimp only at hF
   cases hF
   simp only [simprocAttr, R0, b79, h_0, eq_true c1]
   refine W.mono (l79_1 a0 a1 a3   gt22 (Exists.intro _ ( And.intro rfl ?_))) ?_
   ·simp only [simprocAttr, R0, h_0, eq_true c1]
   rintro _ e h ⟨rfl, hq⟩
   simp only [simprocAttr, RR, RB]
   exact hq
 ·rw [if_neg c1] at hF
  cases hF
  simp only [simprocAttr, R0, b79, h_0, eq_false c1]
  exact fin_ret (by simp only [simprocAttr, R0, fn_out, p79, Rs.ev, take_len_self, h_0, eq_false c1])
def F80_2_S (a0 : Int) (a1 : List (List Int)) (a2 : List Int) (v10_1 : Int) (s : (List Int) × Int) : Option (((List Int) × Int) ⊕ ((List Int))) :=
 match s with
 | (o0_2, v11_2) =>
  if v11_2 < ((o0_2.length : Nat) : Int) then
   (getI o0_2 v11_2).bind fun x12 =>
   (getI a2 v10_1).bind fun x14 =>
   (getI a1 v10_1).bind fun x16 =>
   (getI x16 v11_2).bind fun x18 =>
   (chk (x14 * x18)).bind fun x20 =>
   (chk (x12 + x20)).bind fun x21 =>
   (remI x21 a0).bind fun x22 =>
   (setI o0_2 v11_2 x22).bind fun l24 =>
   (chk (v11_2 + 1)).bind fun x26 =>
   some (.inl (l24, x26))
  else
   some (.inr o0_2)
def F80_1_B (a0 : Int) (a1 : List (List Int)) (a2 : List Int) (v10_1 : Int) (o0_1 : (List Int)) : Option (((List Int)) ⊕ ((List Int))) :=
 (loopW (F80_2_S a0 a1 a2 v10_1) (o0_1, 0)).bind fun zo0_2 =>
some (.inl zo0_2)
def F80_1_D (a0 : Int) (a1 : List (List Int)) (a2 : List Int) (v10_1 : Int) (o0_1 : (List Int)) : Option ((List Int)) :=
 some o0_1
def F80 (a0 : Int) (a1 : List (List Int)) (a2 : List Int) (a3 : Int) : Option (List Int) :=
 (mkL 8 a3 0).bind fun l1 =>
 (forR 0 (a2.length : Int) (F80_1_B a0 a1 a2) (F80_1_D a0 a1 a2) l1).bind fun zo0_1 =>
 some zo0_1
def I80_2 (a0 : Int) (a1 : List (List Int)) (a2 : List Int) (v10_1 : Int)  (s : (List Int) × Int) (e : Env) (h : Heap) : Prop :=
 match s with
 | (o0_2, v11_2) =>
  ∃ u8 k9 : Nat, h = ⟨[(u8, some (o0_2.map Enc.enc))], k9⟩ ∧ e.length = 49 ∧ e.at 0 = V.int .i64 a0 ∧ e.at 1 = V.isl (a1.map Enc.enc) ∧ e.at 2 = V.isl (a2.map Enc.enc) ∧ e.at 9 = V.sl 0 u8 0 o0_2.length 1 ∧ e.at 10 = V.int .i64 v10_1 ∧ e.at 11 = V.int .i64 v11_2
def P80_2 (a0 : Int) (a1 : List (List Int)) (a2 : List Int) (v10_1 : Int)  (zo0_2 : (List Int)) (x : Ex) (e : Env) (h : Heap) : Prop :=
 x = .normal ∧ ∃ u8 k9 : Nat, h = ⟨[(u8, some (zo0_2.map Enc.enc))], k9⟩ ∧ e.length = 49 ∧ e.at 0 = V.int .i64 a0 ∧ e.at 1 = V.isl (a1.map Enc.enc) ∧ e.at 2 = V.isl (a2.map Enc.enc) ∧ e.at 9 = V.sl 0 u8 0 zo0_2.length 1 ∧ e.at 10 = V.int .i64 v10_1
theorem l80_2 (a0 : Int) (a1 : List (List Int)) (a2 : List Int) (v10_1 : Int)   {s : (List Int) × Int} {t : (List Int)} (hF : loopW (F80_2_S a0 a1 a2 v10_1) s = some t) {e : Env} {h : Heap} (hI : I80_2 a0 a1 a2 v10_1  s e h) : W A c80_2 e h (P80_2 a0 a1 a2 v10_1  t) := by
 show W A (.block 2 (.loop false b80_2)) e h _
 rw [W_block]
 refine W_loop hF 1 (by rcases s with ⟨_, _⟩; obtain ⟨_, _, rfl, _⟩ := hI; rfl) (I80_2 a0 a1 a2 v10_1 ) hI ?_
 ·rintro ⟨o0_2, v11_2⟩ e h ⟨u8, k9, rfl, h_7⟩ o ho
  unfold F80_2_S at ho
  dsimp only at ho
  by_cases c11 : v11_2 < ((o0_2.length : Nat) : Int)
  ·rw [if_pos c11] at ho
   obtain ⟨x12, gx12, ho⟩ := bS ho
   obtain ⟨w13a, w13b⟩ := getI_w gx12
   have w13c := getI_lt gx12
   have w13d : List.drop (Int.toNat v11_2) (o0_2.map Enc.enc) = (V.int .i64 x12) :: List.drop ((Int.toNat v11_2) + 1) (o0_2.map Enc.enc) := drop_enc w13b
   obtain ⟨x14, gx14, ho⟩ := bS ho
   obtain ⟨w15a, w15b⟩ := getI_w gx14
   obtain ⟨x16, gx16, ho⟩ := bS ho
   obtain ⟨w17a, w17b⟩ := getI_w gx16
   obtain ⟨x18, gx18, ho⟩ := bS ho
   obtain ⟨w19a, w19b⟩ := getI_w gx18
   obtain ⟨x20, gx20, ho⟩ := bS ho
   have wx20 := chk_w gx20
   obtain ⟨x21, gx21, ho⟩ := bS ho
   have wx21 := chk_w gx21
   obtain ⟨x22, gx22, ho⟩ := bS ho
   obtain ⟨w23a, w23b⟩ := rem_w gx22
   obtain ⟨l24, gl24, ho⟩ := bS ho
   obtain ⟨w25a, w25b, w25c, w25d, w25e⟩ := setI_w gl24
   replace w25e : List.take (Int.toNat v11_2) (o0_2.map Enc.enc) ++ [V.int .i64 x22] ++ List.drop (Int.toNat v11_2 + 1) (o0_2.map Enc.enc) = List.map Enc.enc l24 := w25e
   obtain ⟨x26, gx26, ho⟩ := bS ho
   have wx26 := chk_w gx26
   cases ho
   simp only [simprocAttr, R0, b80_2, h_7, eq_true c11, w13a, w13b, w13c, w13d, w15a, w15b, w17a, w17b, w19a, w19b, wx20, wx21, eq_false w23a, w23b, w25a, w25b, w25c, w25e, wx26]
   refine And.intro rfl (Exists.intro _ ( Exists.intro _ ( And.intro rfl ?_)))
   simp only [simprocAttr, R0, h_7, eq_true c11, w13a, w13b, w13c, w13d, w15a, w15b, w17a, w17b, w19a, w19b, wx20, wx21, eq_false w23a, w23b, w25a, w25b, w25c, w25e, wx26, w25d]
  ·rw [if_neg c11] at ho
   cases ho
   simp only [simprocAttr, R0, b80_2, h_7, eq_false c11]
   intro ht; subst ht
   simp only [simprocAttr, RR, RB]
   refine And.intro rfl (Exists.intro _ ( Exists.intro _ ( And.intro rfl ?_)))
   simp only [simprocAttr, R0, h_7, eq_false c11]
def I80_1 (a0 : Int) (a1 : List (List Int)) (a2 : List Int)  (v10_1 : Int) (o0_1 : (List Int)) (e : Env) (h : Heap) : Prop :=
 ∃ u4 k5 : Nat, h = ⟨[(u4, some (o0_1.map Enc.enc))], k5⟩ ∧ e.length = 49 ∧ e.at 0 = V.int .i64 a0 ∧ e.at 1 = V.isl (a1.map Enc.enc) ∧ e.at 2 = V.isl (a2.map Enc.enc) ∧ e.at 9 = V.sl 0 u4 0 o0_1.length 1 ∧ e.at 10 = V.int .i64 v10_1
def P80_1 (a0 : Int) (a1 : List (List Int)) (a2 : List Int)  (zo0_1 : (List Int)) (x : Ex) (e : Env) (h : Heap) : Prop :=
 x = .normal ∧ ∃ u4 k5 : Nat, h = ⟨[(u4, some (zo0_1.map Enc.enc))], k5⟩ ∧ e.length = 49 ∧ e.at 9 = V.sl 0 u4 0 zo0_1.length 1
theorem l80_1 (a0 : Int) (a1 : List (List Int)) (a2 : List Int)   {lo : Int} {s : (List Int)} {t : (List Int)} (hF : forR lo (a2.length : Int) (F80_1_B a0 a1 a2) (F80_1_D a0 a1 a2) s = some t) {e : Env} {h : Heap} (hI : I80_1 a0 a1 a2  lo s e h) : W A c80_1 e h (P80_1 a0 a1 a2  t) := by
 show W A (.block 0 (.loop false b80_1)) e h _
 rw [W_block]
 refine W_forR hF 1 (by obtain ⟨_, _, rfl, _⟩ := hI; rfl) (I80_1 a0 a1 a2 ) hI ?_ ?_
 ·rintro v10_1 o0_1 e h ⟨u4, k5, rfl, h_3⟩ hlt hw o ho
  unfold F80_1_B at ho
  obtain ⟨zo0_2, gt27, ho⟩ := bS ho
  simp only [simprocAttr, R0, b80_1, h_3, eq_true hlt, hw]
  refine W.mono (l80_2 a0 a1 a2 v10_1   gt27 (Exists.intro _ ( Exists.intro _ ( And.intro rfl ?_)))) ?_
  ·simp only [simprocAttr, R0, h_3, eq_true hlt, hw]
  rintro _ e _ ⟨rfl, u8, k9, rfl, h_10⟩
  cases ho
  simp only [simprocAttr, R0, h_10, eq_true hlt, hw]
  refine And.intro rfl (Exists.intro _ ( Exists.intro _ ( And.intro rfl ?_)))
  simp only [simprocAttr, R0, h_10, eq_true hlt, hw]
 ·rintro v10_1 o0_1 e h ⟨u4, k5, rfl, h_3⟩ hge t1 ho
  unfold F80_1_D at ho
  cases ho
  simp only [simprocAttr, R0, b80_1, h_3, eq_false hge]
  intro ht; subst ht
  refine And.intro rfl (Exists.intro _ ( Exists.intro _ ( And.intro rfl ?_)))
  simp only [simprocAttr, R0, h_3, eq_false hge]
theorem s80 (a0 : Int) (a1 : List (List Int)) (a2 : List Int) (a3 : Int)   {r : List Int} (hF : F80 a0 a1 a2 a3 = some r) : ans A 80 [V.int .i64 a0, V.isl (a1.map Enc.enc), V.isl (a2.map Enc.enc), V.int .i64 a3] = some (Enc.enc r) := by
 refine ans_of (f := p80) rfl rfl rfl fun e hl he => ?_
 have h0_0 : e.at 0 = V.int .i64 a0 := he 0 _ rfl
 have h1_0 : e.at 1 = V.isl (a1.map Enc.enc) := he 1 _ rfl
 have h2_0 : e.at 2 = V.isl (a2.map Enc.enc) := he 2 _ rfl
 have h3_0 : e.at 3 = V.int .i64 a3 := he 3 _ rfl
 have hl_0 : e.length = 49 := hl
 clear he hl
 show W A b80 e ⟨[], 0⟩ _
 unfold F80 at hF
 obtain ⟨l1, gl1, hF⟩ := bS hF
 obtain ⟨w2a, w2b, w2c, w2d, w2e⟩ := mkL_w gl1
 replace w2e : (List.replicate (Int.toNat a3) [V.int .i64 0]).flatten = List.map Enc.enc l1 := w2e
 obtain ⟨zo0_1, gt28, hF⟩ := bS hF
 simp only [↓reduceIte, Nat.reduceAdd, Nat.reduceMul, Nat.reduceSub, Nat.reduceLT, Nat.reduceLeDiff, Nat.reduceEqDiff, Nat.reducePow, Int.reducePow, Int.reduceLE, Int.reduceLT, Int.reduceEq, Int.reduceToNat, reduceCtorEq, R0, b80, hl_0, h0_0, h1_0, h2_0, h3_0, w2a, w2b, w2c, w2e]
 refine W.mono (l80_1 a0 a1 a2   gt28 (Exists.intro _ ( Exists.intro _ ( And.intro rfl ?_)))) ?_
 ·simp only [↓reduceIte, Nat.reduceAdd, Nat.reduceMul, Nat.reduceSub, Nat.reduceLT, Nat.reduceLeDiff, Nat.reduceEqDiff, Nat.reducePow, Int.reducePow, Int.reduceLE, Int.reduceLT, Int.reduceEq, Int.reduceToNat, reduceCtorEq, R0, hl_0, h0_0, h1_0, h2_0, h3_0, w2a, w2b, w2c, w2e, w2d]
 rintro _ e _ ⟨rfl, u4, k5, rfl, hl_6, h9_6⟩
 have hE := Option.some.inj hF; subst hE
 simp only [↓reduceIte, Nat.reduceAdd, Nat.reduceMul, Nat.reduceSub, Nat.reduceLT, Nat.reduceLeDiff, Nat.reduceEqDiff, Nat.reducePow, Int.reducePow, Int.reduceLE, Int.reduceLT, Int.reduceEq, Int.reduceToNat, reduceCtorEq, R0, hl_6, h9_6]
 exact fin_ret (by simp only [↓reduceIte, Nat.reduceAdd, Nat.reduceMul, Nat.reduceSub, Nat.reduceLT, Nat.reduceLeDiff, Nat.reduceEqDiff, Nat.reducePow, Int.reducePow, Int.reduceLE, Int.reduceLT, Int.reduceEq, Int.reduceToNat, reduceCtorEq, R0, fn_out, p80, Rs.ev, take_len_self, hl_6, h9_6, frzs (α := Int) zo0_1, takes (α := Int) zo0_1])
def F81_1_B (a0 : List Int) (v3_1 : Int) (s : Unit) : Option ((Unit) ⊕ ((Unit) ⊕ Int)) :=
 (getI a0 v3_1).bind fun x4 =>
if x4 = 0 then
 some (.inl ())
else
 some (.inr (.inr v3_1))
def F81_1_D (a0 : List Int) (v3_1 : Int) (s : Unit) : Option ((Unit) ⊕ Int) :=
 some (.inl ())
def F81 (a0 : List Int) : Option Int :=
 (forR 0 (a0.length : Int) (F81_1_B a0) (F81_1_D a0) ()).bind fun t7 => match t7 with
  | .inl _ =>
   some (-1)
  | .inr r8 => some r8
def I81_1 (a0 : List Int)  (v3_1 : Int) (s : Unit) (e : Env) (h : Heap) : Prop :=
 ∃ k2 : Nat, h = ⟨[], k2⟩ ∧ e.length = 16 ∧ e.at 0 = V.isl (a0.map Enc.enc) ∧ e.at 3 = V.int .i64 v3_1
def P81_1 (a0 : List Int)  (t : (Unit) ⊕ Int) (x : Ex) (e : Env) (h : Heap) : Prop :=
 match t with
 | .inl _ => x = .normal ∧ ∃ k2 : Nat, h = ⟨[], k2⟩ ∧ e.length = 16
 | .inr r => x = .ret ∧ Fin p81 (Enc.enc r) .ret e h
theorem l81_1 (a0 : List Int)   {lo : Int} {s : Unit} {t : (Unit) ⊕ Int} (hF : forR lo (a0.length : Int) (F81_1_B a0) (F81_1_D a0) s = some t) {e : Env} {h : Heap} (hI : I81_1 a0  lo s e h) : W A c81_1 e h (P81_1 a0  t) := by
 show W A (.block 0 (.loop false b81_1)) e h _
 rw [W_block]
 refine W_forR hF 0 (by obtain ⟨_, rfl, _⟩ := hI; rfl) (I81_1 a0 ) hI ?_ ?_
 ·rintro v3_1 _ e h ⟨k2, rfl, h_1⟩ hlt hw o ho
  unfold F81_1_B at ho
  obtain ⟨x4, gx4, ho⟩ := bS ho
  obtain ⟨w5a, w5b⟩ := getI_w gx4
  by_cases c6 : x4 = 0
  ·rw [if_pos c6] at ho
   cases ho
   simp only [simprocAttr, R0, b81_1, h_1, eq_true hlt, hw, w5a, w5b, eq_true c6]
   refine And.intro rfl (Exists.intro _ ( And.intro rfl ?_))
   simp only [simprocAttr, R0, h_1, eq_true hlt, hw, w5a, w5b, eq_true c6]
  ·rw [if_neg c6] at ho
   cases ho
   simp only [simprocAttr, R0, b81_1, h_1, eq_true hlt, hw, w5a, w5b, eq_false c6]
   intro ht; subst ht
   simp only [simprocAttr, RR, RB]
   exact And.intro rfl (fin_ret (by simp only [simprocAttr, R0, fn_out, p81, Rs.ev, take_len_self, h_1, eq_true hlt, hw, w5a, w5b, eq_false c6]))
 ·rintro v3_1 _ e h ⟨k2, rfl, h_1⟩ hge t1 ho
  unfold F81_1_D at ho
  cases ho
  simp only [simprocAttr, R0, b81_1, h_1, eq_false hge]
  intro ht; subst ht
  refine And.intro rfl (Exists.intro _ ( And.intro rfl ?_))
  simp only [simprocAttr, R0, h_1, eq_false hge]
theorem s81 (a0 : List Int)   {r : Int} (hF : F81 a0 = some r) : ans A 81 [V.isl (a0.map Enc.enc)] = some (Enc.enc r) := by
 refine ans_of (f := p81) rfl rfl rfl fun e hl he => ?_
 have h0_0 : e.at 0 = V.isl (a0.map Enc.enc) := he 0 _ rfl
 have hl_0 : e.length = 16 := hl
 clear he hl
 have h_0 := And.intro hl_0 h0_0
 show W A b81 e ⟨[], 0⟩ _
 unfold F81 at hF
 obtain ⟨t7, gt7, hF⟩ := bS hF
 rcases t7 with _ | r8
 ·dsimp only at hF
  simp only [simprocAttr, R0, b81, h_0]
  refine W.mono (l81_1 a0   gt7 (Exists.intro _ ( And.intro rfl ?_))) ?_
  ·simp only [simprocAttr, R0, h_0]
  rintro _ e _ ⟨rfl, k2, rfl, hl_3⟩
  cases hF
  simp only [simprocAttr, R0, hl_3]
  exact fin_ret (by simp only [simprocAttr, R0, fn_out, p81, Rs.ev, take_len_self, hl_3])
 ·dsimp only at hF
  cases hF
  simp only [simprocAttr, R0, b81, h_0]
  refine W.mono (l81_1 a0   gt7 (Exists.intro _ ( And.intro rfl ?_))) ?_
  ·simp only [simprocAttr, R0, h_0]
  rintro _ e h ⟨rfl, hq⟩
  simp only [simprocAttr, RR, RB]
  exact hq
def F39_1_B (a0 : GComplex) (v3_1 : Int) (s : Unit) : Option ((Unit) ⊕ ((Unit) ⊕ Bool)) :=
 (getI a0.Dims v3_1).bind fun x10 =>
(F54 x10 0 8).bind fun x12 =>
if x12 = true then
 some (.inl ())
else
 some (.inr (.inr false))
def F39_1_D (a0 : GComplex) (v3_1 : Int) (s : Unit) : Option ((Unit) ⊕ Bool) :=
 some (.inl ())
def F39_3_S (a0 : GComplex) (v4_2 : Int) (v5_3 : Int) : Option ((Int) ⊕ ((Unit) ⊕ Bool)) :=
 (getI a0.Maps v4_2).bind fun x29 =>
if v5_3 < (x29.length : Int) then
 if 0 < v4_2 then
  (chk (v4_2 - 1)).bind fun x33 =>
  (getI a0.Maps x33).bind fun x34 =>
  (getI x29 v5_3).bind fun x36 =>
  (getI a0.Dims x33).bind fun x38 =>
  (F80 a0.Prime x34 x36 x38).bind fun x40 =>
  (F81 x40).bind fun x42 =>
  if 0 ≤ x42 then
   some (.inr (.inr false))
  else
   (chk (v5_3 + 1)).bind fun x45 =>
   some (.inl x45)
 else
  some (.inr (.inl ()))
else
 some (.inr (.inl ()))
def F39_2_B (a0 : GComplex) (v4_2 : Int) (s : Unit) : Option ((Unit) ⊕ ((Unit) ⊕ Bool)) :=
 (getI a0.Maps v4_2).bind fun x18 =>
(getI a0.Dims (v4_2 + 1)).bind fun x20 =>
(getI a0.Dims v4_2).bind fun x22 =>
(F79 a0.Prime x18 x20 x22).bind fun x24 =>
if x24 = true then
 (loopW (F39_3_S a0 v4_2) 0).bind fun t46 => match t46 with
  | .inl _ =>
   some (.inl ())
  | .inr r47 => some (.inr (.inr r47))
else
 some (.inr (.inr false))
def F39_2_D (a0 : GComplex) (v4_2 : Int) (s : Unit) : Option ((Unit) ⊕ Bool) :=
 some (.inl ())
def F39 (a0 : GComplex) : Option Bool :=
 (F78 a0.Prime).bind fun x1 =>
 if x1 = true then
  if (a0.Dims.length : Int) < 1 then
   some false
  else
   if 6 < (a0.Dims.length : Int) then
    some false
   else
    (chk ((a0.Dims.length : Int) - 1)).bind fun x5 =>
    if (a0.Maps.length : Int) = x5 then
     (forR 0 (a0.Dims.length : Int) (F39_1_B a0) (F39_1_D a0) ()).bind fun t14 => match t14 with
      | .inl _ =>
       (forR 0 (a0.Maps.length : Int) (F39_2_B a0) (F39_2_D a0) ()).bind fun t48 => match t48 with
        | .inl _ =>
         some true
        | .inr r49 => some r49
      | .inr r50 => some r50
    else
     some false
 else
  some false
def I39_1 (a0 : GComplex)  (v3_1 : Int) (s : Unit) (e : Env) (h : Heap) : Prop :=
 ∃ k8 : Nat, h = ⟨[(0, none)], k8⟩ ∧ e.length = 112 ∧ e.at 1 = V.iptr [V.int .i64 a0.Prime, V.isl (a0.Dims.map Enc.enc), V.isl (a0.Maps.map Enc.enc)] ∧ e.at 3 = V.int .i64 v3_1
def P39_1 (a0 : GComplex)  (t : (Unit) ⊕ Bool) (x : Ex) (e : Env) (h : Heap) : Prop :=
 match t with
 | .inl _ => x = .normal ∧ ∃ k8 : Nat, h = ⟨[(0, none)], k8⟩ ∧ e.length = 112 ∧ e.at 1 = V.iptr [V.int .i64 a0.Prime, V.isl (a0.Dims.map Enc.enc), V.isl (a0.Maps.map Enc.enc)]
 | .inr r => x = .ret ∧ Fin p39 (Enc.enc r) .ret e h
theorem l39_1 (a0 : GComplex)   {lo : Int} {s : Unit} {t : (Unit) ⊕ Bool} (hF : forR lo (a0.Dims.length : Int) (F39_1_B a0) (F39_1_D a0) s = some t) {e : Env} {h : Heap} (hI : I39_1 a0  lo s e h) : W A c39_1 e h (P39_1 a0  t) := by
 show W A (.block 0 (.loop false b39_1)) e h _
 rw [W_block]
 refine W_forR hF 1 (by obtain ⟨_, rfl, _⟩ := hI; rfl) (I39_1 a0 ) hI ?_ ?_
 ·rintro v3_1 _ e h ⟨k8, rfl, h_7⟩ hlt hw o ho
  unfold F39_1_B at ho
  obtain ⟨x10, gx10, ho⟩ := bS ho
  obtain ⟨w11a, w11b⟩ := getI_w gx10
  obtain ⟨x12, gx12, ho⟩ := bS ho
  have w13 : ans A 54 [V.int .i64 x10, V.int .i64 0, V.int .i64 8] = some (V.bool x12) := s54 x10 0 8  gx12
  cases x12 with
  | true =>
   rw [if_pos rfl] at ho
   cases ho
   simp only [simprocAttr, R0, b39_1, h_7, eq_true hlt, hw, w11a, w11b, w13]
   refine And.intro rfl (Exists.intro _ ( And.intro rfl ?_))
   simp only [simprocAttr, R0, h_7, eq_true hlt, hw, w11a, w11b, w13]
  | false =>
   rw [if_neg Bool.false_ne_true] at ho
   cases ho
   simp only [simprocAttr, R0, b39_1, h_7, eq_true hlt, hw, w11a, w11b, w13]
   intro ht; subst ht
   simp only [simprocAttr, RR, RB]
   exact And.intro rfl (fin_ret (by simp only [simprocAttr, R0, fn_out, p39, Rs.ev, take_len_self, h_7, eq_true hlt, hw, w11a, w11b, w13]))
 ·rintro v3_1 _ e h ⟨k8, rfl, h_7⟩ hge t1 ho
  unfold F39_1_D at ho
  cases ho
  simp only [simprocAttr, R0, b39_1, h_7, eq_false hge]
  intro ht; subst ht
  refine And.intro rfl (Exists.intro _ ( And.intro rfl ?_))
  simp only [simprocAttr, R0, h_7, eq_false hge]
def I39_3 (a0 : GComplex) (v4_2 : Int)  (v5_3 : Int) (e : Env) (h : Heap) : Prop :=
 ∃ k27 : Nat, h = ⟨[(0, none)], k27⟩ ∧ e.length = 112 ∧ e.at 1 = V.iptr [V.int .i64 a0.Prime, V.isl (a0.Dims.map Enc.enc), V.isl (a0.Maps.map Enc.enc)] ∧ e.at 4 = V.int .i64 v4_2 ∧ e.at 5 = V.int .i64 v5_3
def P39_3 (a0 : GComplex) (v4_2 : Int)  (t : (Unit) ⊕ Bool) (x : Ex) (e : Env) (h : Heap) : Prop :=
 match t with
 | .inl _ => x = .normal ∧ ∃ k27 : Nat, h = ⟨[(0, none)], k27⟩ ∧ e.length = 112 ∧ e.at 1 = V.iptr [V.int .i64 a0.Prime, V.isl (a0.Dims.map Enc.enc), V.isl (a0.Maps.map Enc.enc)] ∧ e.at 4 = V.int .i64 v4_2
 | .inr r => x = .ret ∧ Fin p39 (Enc.enc r) .ret e h
theorem l39_3 (a0 : GComplex) (v4_2 : Int)   {s : Int} {t : (Unit) ⊕ Bool} (hF : loopW (F39_3_S a0 v4_2) s = some t) {e : Env} {h : Heap} (hI : I39_3 a0 v4_2  s e h) : W A c39_3 e h (P39_3 a0 v4_2  t) := by
 show W A (.block 4 (.loop false b39_3)) e h _
 rw [W_block]
 refine W_loop hF 1 (by obtain ⟨_, rfl, _⟩ := hI; rfl) (I39_3 a0 v4_2 ) hI ?_
 ·rintro v5_3 e h ⟨k27, rfl, h_26⟩ o ho
  unfold F39_3_S at ho
  obtain ⟨x29, gx29, ho⟩ := bS ho
  obtain ⟨w30a, w30b⟩ := getI_w gx29
  by_cases c31 : v5_3 < (x29.length : Int)
  ·rw [if_pos c31] at ho
   by_cases c32 : 0 < v4_2
   ·rw [if_pos c32] at ho
    obtain ⟨x33, gx33, ho⟩ := bS ho
    have wx33 := chk_w gx33
    obtain ⟨x34, gx34, ho⟩ := bS ho
    obtain ⟨w35a, w35b⟩ := getI_w gx34
    obtain ⟨x36, gx36, ho⟩ := bS ho
    obtain ⟨w37a, w37b⟩ := getI_w gx36
    obtain ⟨x38, gx38, ho⟩ := bS ho
    obtain ⟨w39a, w39b⟩ := getI_w gx38
    obtain ⟨x40, gx40, ho⟩ := bS ho
    have w41 : ans A 80 [V.int .i64 a0.Prime, V.isl (x34.map Enc.enc), V.isl (x36.map Enc.enc), V.int .i64 x38] = some (V.isl (x40.map Enc.enc)) := s80 a0.Prime x34 x36 x38  gx40
    obtain ⟨x42, gx42, ho⟩ := bS ho
    have w43 : ans A 81 [V.isl (x40.map Enc.enc)] = some (V.int .i64 x42) := s81 x40  gx42
    by_cases c44 : 0 ≤ x42
    ·rw [if_pos c44] at ho
     cases ho
     simp only [simprocAttr, R0, b39_3, h_26, w30a, w30b, eq_true c31, eq_true c32, wx33, w35a, w35b, w37a, w37b, w39a, w39b, w41, w43, eq_true c44]
     intro ht; subst ht
     simp only [simprocAttr, RR, RB]
     exact And.intro rfl (fin_ret (by simp only [simprocAttr, R0, fn_out, p39, Rs.ev, take_len_self, h_26, w30a, w30b, eq_true c31, eq_true c32, wx33, w35a, w35b, w37a, w37b, w39a, w39b, w41, w43, eq_true c44]))
    ·rw [if_neg c44] at ho
     obtain ⟨x45, gx45, ho⟩ := bS ho
     have wx45 := chk_w gx45
     cases ho
     simp only [simprocAttr, R0, b39_3, h_26, w30a, w30b, eq_true c31, eq_true c32, wx33, w35a, w35b, w37a, w37b, w39a, w39b, w41, w43, eq_false c44, wx45]
     refine And.intro rfl (Exists.intro _ ( And.intro rfl ?_))
     simp only [simprocAttr, R0, h_26, w30a, w30b, eq_true c31, eq_true c32, wx33, w35a, w35b, w37a, w37b, w39a, w39b, w41, w43, eq_false c44, wx45]
   ·rw [if_neg c32] at ho
    cases ho
    simp only [simprocAttr, R0, b39_3, h_26, w30a, w30b, eq_true c31, eq_false c32]
    intro ht; subst ht
    simp only [simprocAttr, RR, RB]
    refine And.intro rfl (Exists.intro _ ( And.intro rfl ?_))
    simp only [simprocAttr, R0, h_26, w30a, w30b, eq_true c31, eq_false c32]
  ·rw [if_neg c31] at ho
   cases ho
   simp only [simprocAttr, R0, b39_3, h_26, w30a, w30b, eq_false c31]
   intro ht; subst ht
   simp only [simprocAttr, RR, RB]
   refine And.intro rfl (Exists.intro _ ( And.intro rfl ?_))
   simp only [simprocAttr, R0, h_26, w30a, w30b, eq_false c31]
def I39_2 (a0 : GComplex)  (v4_2 : Int) (s : Unit) (e : Env) (h : Heap) : Prop :=
 ∃ k16 : Nat, h = ⟨[(0, none)], k16⟩ ∧ e.length = 112 ∧ e.at 1 = V.iptr [V.int .i64 a0.Prime, V.isl (a0.Dims.map Enc.enc), V.isl (a0.Maps.map Enc.enc)] ∧ e.at 4 = V.int .i64 v4_2
def P39_2 (a0 : GComplex)  (t : (Unit) ⊕ Bool) (x : Ex) (e : Env) (h : Heap) : Prop :=
 match t with
 | .inl _ => x = .normal ∧ ∃ k16 : Nat, h = ⟨[(0, none)], k16⟩ ∧ e.length = 112
 | .inr r => x = .ret ∧ Fin p39 (Enc.enc r) .ret e h
theorem l39_2 (a0 : GComplex)   {lo : Int} {s : Unit} {t : (Unit) ⊕ Bool} (hF : forR lo (a0.Maps.length : Int) (F39_2_B a0) (F39_2_D a0) s = some t) {e : Env} {h : Heap} (hI : I39_2 a0  lo s e h) : W A c39_2 e h (P39_2 a0  t) := by
 show W A (.block 2 (.loop false b39_2)) e h _
 rw [W_block]
 refine W_forR hF 1 (by obtain ⟨_, rfl, _⟩ := hI; rfl) (I39_2 a0 ) hI ?_ ?_
 ·rintro v4_2 _ e h ⟨k16, rfl, h_15⟩ hlt hw o ho
  unfold F39_2_B at ho
  obtain ⟨x18, gx18, ho⟩ := bS ho
  obtain ⟨w19a, w19b⟩ := getI_w gx18
  obtain ⟨x20, gx20, ho⟩ := bS ho
  obtain ⟨w21a, w21b⟩ := getI_w gx20
  obtain ⟨x22, gx22, ho⟩ := bS ho
  obtain ⟨w23a, w23b⟩ := getI_w gx22
  obtain ⟨x24, gx24, ho⟩ := bS ho
  have w25 : ans A 79 [V.int .i64 a0.Prime, V.isl (x18.map Enc.enc), V.int .i64 x20, V.int .i64 x22] = some (V.bool x24) := s79 a0.Prime x18 x20 x22  gx24
  cases x24 with
  | true =>
   rw [if_pos rfl] at ho
   obtain ⟨t46, gt46, ho⟩ := bS ho
   rcases t46 with _ | r47
   ·dsimp only at ho
    simp only [simprocAttr, R0, b39_2, h_15, eq_true hlt, hw, w19a, w19b, w21a, w21b, w23a, w23b, w25]
    refine W.mono (l39_3 a0 v4_2   gt46 (Exists.intro _ ( And.intro rfl ?_))) ?_
    ·simp only [simprocAttr, R0, h_15, eq_true hlt, hw, w19a, w19b, w21a, w21b, w23a, w23b, w25]
    rintro _ e _ ⟨rfl, k27, rfl, h_28⟩
    cases ho
    simp only [simprocAttr, R0, h_28, eq_true hlt, hw]
    refine And.intro rfl (Exists.intro _ ( And.intro rfl ?_))
    simp only [simprocAttr, R0, h_28, eq_true hlt, hw]
   ·dsimp only at ho
    cases ho
    simp only [simprocAttr, R0, b39_2, h_15, eq_true hlt, hw, w19a, w19b, w21a, w21b, w23a, w23b, w25]
    refine W.mono (l39_3 a0 v4_2   gt46 (Exists.intro _ ( And.intro rfl ?_))) ?_
    ·simp only [simprocAttr, R0, h_15, eq_true hlt, hw, w19a, w19b, w21a, w21b, w23a, w23b, w25]
    rintro _ e h ⟨rfl, hq⟩
    simp only [simprocAttr, RR, RB]
    intro ht; subst ht
    simp only [simprocAttr, RR, RB]
    exact And.intro rfl hq
  | false =>
   rw [if_neg Bool.false_ne_true] at ho
   cases ho
   simp only [simprocAttr, R0, b39_2, h_15, eq_true hlt, hw, w19a, w19b, w21a, w21b, w23a, w23b, w25]
   intro ht; subst ht
   simp only [simprocAttr, RR, RB]
   exact And.intro rfl (fin_ret (by simp only [simprocAttr, R0, fn_out, p39, Rs.ev, take_len_self, h_15, eq_true hlt, hw, w19a, w19b, w21a, w21b, w23a, w23b, w25]))
 ·rintro v4_2 _ e h ⟨k16, rfl, h_15⟩ hge t1 ho
  unfold F39_2_D at ho
  cases ho
  simp only [simprocAttr, R0, b39_2, h_15, eq_false hge]
  intro ht; subst ht
  refine And.intro rfl (Exists.intro _ ( And.intro rfl ?_))
  simp only [simprocAttr, R0, h_15, eq_false hge]
theorem s39 (a0 : GComplex)   {r : Bool} (hF : F39 a0 = some r) : ans A 39 [(eC a0)] = some (Enc.enc r) := by
 refine ans_of (f := p39) rfl rfl rfl fun e hl he => ?_
 have h0_0 : e.at 0 = (eC a0) := he 0 _ rfl
 have hl_0 : e.length = 112 := hl
 clear he hl
 have h_0 := And.intro hl_0 h0_0
 show W A b39 e ⟨[], 0⟩ _
 unfold F39 at hF
 obtain ⟨x1, gx1, hF⟩ := bS hF
 have w2 : ans A 78 [V.int .i64 a0.Prime] = some (V.bool x1) := s78 a0.Prime  gx1
 cases x1 with
 | true =>
  rw [if_pos rfl] at hF
  by_cases c3 : (a0.Dims.length : Int) < 1
  ·rw [if_pos c3] at hF
   cases hF
   simp only [simprocAttr, R0, b39, h_0, w2, eq_true c3]
   exact fin_ret (by simp only [simprocAttr, R0, fn_out, p39, Rs.ev, take_len_self, h_0, w2, eq_true c3])
  ·rw [if_neg c3] at hF
   by_cases c4 : 6 < (a0.Dims.length : Int)
   ·rw [if_pos c4] at hF
    cases hF
    simp only [simprocAttr, R0, b39, h_0, w2, eq_false c3, eq_true c4]
    exact fin_ret (by simp only [simprocAttr, R0, fn_out, p39, Rs.ev, take_len_self, h_0, w2, eq_false c3, eq_true c4])
   ·rw [if_neg c4] at hF
    obtain ⟨x5, gx5, hF⟩ := bS hF
    have wx5 := chk_w gx5
    by_cases c6 : (a0.Maps.length : Int) = x5
    ·rw [if_pos c6] at hF
     obtain ⟨t14, gt14, hF⟩ := bS hF
     rcases t14 with _ | r50
     ·dsimp only at hF
      simp only [simprocAttr, R0, b39, h_0, w2, eq_false c3, eq_false c4, wx5, eq_true c6]
      refine W.mono (l39_1 a0   gt14 (Exists.intro _ ( And.intro rfl ?_))) ?_
      ·simp only [simprocAttr, R0, h_0, w2, eq_false c3, eq_false c4, wx5, eq_true c6]
      rintro _ e _ ⟨rfl, k8, rfl, h_9⟩
      obtain ⟨t48, gt48, hF⟩ := bS hF
      rcases t48 with _ | r49
      ·dsimp only at hF
       simp only [simprocAttr, R0, h_9, eq_false c3, eq_false c4, eq_true c6]
       refine W.mono (l39_2 a0   gt48 (Exists.intro _ ( And.intro rfl ?_))) ?_
       ·simp only [simprocAttr, R0, h_9, eq_false c3, eq_false c4, eq_true c6]
       rintro _ e _ ⟨rfl, k16, rfl, hl_17⟩
       cases hF
       simp only [simprocAttr, R0, hl_17, eq_false c3, eq_false c4, eq_true c6]
       exact fin_ret (by simp only [simprocAttr, R0, fn_out, p39, Rs.ev, take_len_self, hl_17, eq_false c3, eq_false c4, eq_true c6])
      ·dsimp only at hF
       cases hF
       simp only [simprocAttr, R0, h_9, eq_false c3, eq_false c4, eq_true c6]
       refine W.mono (l39_2 a0   gt48 (Exists.intro _ ( And.intro rfl ?_))) ?_
       ·simp only [simprocAttr, R0, h_9, eq_false c3, eq_false c4, eq_true c6]
       rintro _ e h ⟨rfl, hq⟩
       simp only [simprocAttr, RR, RB]
       exact hq
     ·dsimp only at hF
      cases hF
      simp only [simprocAttr, R0, b39, h_0, w2, eq_false c3, eq_false c4, wx5, eq_true c6]
      refine W.mono (l39_1 a0   gt14 (Exists.intro _ ( And.intro rfl ?_))) ?_
      ·simp only [simprocAttr, R0, h_0, w2, eq_false c3, eq_false c4, wx5, eq_true c6]
      rintro _ e h ⟨rfl, hq⟩
      simp only [simprocAttr, RR, RB]
      exact hq
    ·rw [if_neg c6] at hF
     cases hF
     simp only [simprocAttr, R0, b39, h_0, w2, eq_false c3, eq_false c4, wx5, eq_false c6]
     exact fin_ret (by simp only [simprocAttr, R0, fn_out, p39, Rs.ev, take_len_self, h_0, w2, eq_false c3, eq_false c4, wx5, eq_false c6])
 | false =>
  rw [if_neg Bool.false_ne_true] at hF
  cases hF
  simp only [simprocAttr, R0, b39, h_0, w2]
  exact fin_ret (by simp only [simprocAttr, R0, fn_out, p39, Rs.ev, take_len_self, h_0, w2])
def F93_2_S (a0 : Int) (a1 : List (List Int)) (a3 : Int) (v9_1 : Int) (v10_2 : Int) : Option ((Int) ⊕ ((Unit) ⊕ Bool)) :=
 (getI a1 v9_1).bind fun x11 =>
if v10_2 < (x11.length : Int) then
 (getI x11 v10_2).bind fun x14 =>
 (chk (a0 - 1)).bind fun x16 =>
 (F54 x14 0 x16).bind fun x17 =>
 if x17 = true then
  (chk (v10_2 + 1)).bind fun x19 =>
  some (.inl x19)
 else
  some (.inr (.inr false))
else
 some (.inr (.inl ()))
def F93_1_B (a0 : Int) (a1 : List (List Int)) (a3 : Int) (v9_1 : Int) (s : Unit) : Option ((Unit) ⊕ ((Unit) ⊕ Bool)) :=
 (getI a1 v9_1).bind fun x5 =>
if (x5.length : Int) = a3 then
 (loopW (F93_2_S a0 a1 a3 v9_1) 0).bind fun t20 => match t20 with
  | .inl _ =>
   some (.inl ())
  | .inr r21 => some (.inr (.inr r21))
else
 some (.inr (.inr false))
def F93_1_D (a0 : Int) (a1 : List (List Int)) (a3 : Int) (v9_1 : Int) (s : Unit) : Option ((Unit) ⊕ Bool) :=
 some (.inl ())
def F93 (a0 : Int) (a1 : List (List Int)) (a2 : Int) (a3 : Int) : Option Bool :=
 if (a1.length : Int) = a2 then
  (forR 0 (a1.length : Int) (F93_1_B a0 a1 a3) (F93_1_D a0 a1 a3) ()).bind fun t22 => match t22 with
   | .inl _ =>
    some true
   | .inr r23 => some r23
 else
  some false
def I93_2 (a0 : Int) (a1 : List (List Int)) (a3 : Int) (v9_1 : Int)  (v10_2 : Int) (e : Env) (h : Heap) : Prop :=
 ∃ k9 : Nat, h = ⟨[], k9⟩ ∧ e.length = 48 ∧ e.at 0 = V.int .i64 a0 ∧ e.at 1 = V.isl (a1.map Enc.enc) ∧ e.at 3 = V.int .i64 a3 ∧ e.at 9 = V.int .i64 v9_1 ∧ e.at 10 = V.int .i64 v10_2
def P93_2 (a0 : Int) (a1 : List (List Int)) (a3 : Int) (v9_1 : Int)  (t : (Unit) ⊕ Bool) (x : Ex) (e : Env) (h : Heap) : Prop :=
 match t with
 | .inl _ => x = .normal ∧ ∃ k9 : Nat, h = ⟨[], k9⟩ ∧ e.length = 48 ∧ e.at 0 = V.int .i64 a0 ∧ e.at 1 = V.isl (a1.map Enc.enc) ∧ e.at 3 = V.int .i64 a3 ∧ e.at 9 = V.int .i64 v9_1
 | .inr r => x = .ret ∧ Fin p93 (Enc.enc r) .ret e h
theorem l93_2 (a0 : Int) (a1 : List (List Int)) (a3 : Int) (v9_1 : Int)   {s : Int} {t : (Unit) ⊕ Bool} (hF : loopW (F93_2_S a0 a1 a3 v9_1) s = some t) {e : Env} {h : Heap} (hI : I93_2 a0 a1 a3 v9_1  s e h) : W A c93_2 e h (P93_2 a0 a1 a3 v9_1  t) := by
 show W A (.block 2 (.loop false b93_2)) e h _
 rw [W_block]
 refine W_loop hF 0 (by obtain ⟨_, rfl, _⟩ := hI; rfl) (I93_2 a0 a1 a3 v9_1 ) hI ?_
 ·rintro v10_2 e h ⟨k9, rfl, h_8⟩ o ho
  unfold F93_2_S at ho
  obtain ⟨x11, gx11, ho⟩ := bS ho
  obtain ⟨w12a, w12b⟩ := getI_w gx11
  by_cases c13 : v10_2 < (x11.length : Int)
  ·rw [if_pos c13] at ho
   obtain ⟨x14, gx14, ho⟩ := bS ho
   obtain ⟨w15a, w15b⟩ := getI_w gx14
   obtain ⟨x16, gx16, ho⟩ := bS ho
   have wx16 := chk_w gx16
   obtain ⟨x17, gx17, ho⟩ := bS ho
   have w18 : ans A 54 [V.int .i64 x14, V.int .i64 0, V.int .i64 x16] = some (V.bool x17) := s54 x14 0 x16  gx17
   cases x17 with
   | true =>
    rw [if_pos rfl] at ho
    obtain ⟨x19, gx19, ho⟩ := bS ho
    have wx19 := chk_w gx19
    cases ho
    simp only [simprocAttr, R0, b93_2, h_8, w12a, w12b, eq_true c13, w15a, w15b, wx16, w18, wx19]
    refine And.intro rfl (Exists.intro _ ( And.intro rfl ?_))
    simp only [simprocAttr, R0, h_8, w12a, w12b, eq_true c13, w15a, w15b, wx16, w18, wx19]
   | false =>
    rw [if_neg Bool.false_ne_true] at ho
    cases ho
    simp only [simprocAttr, R0, b93_2, h_8, w12a, w12b, eq_true c13, w15a, w15b, wx16, w18]
    intro ht; subst ht
    simp only [simprocAttr, RR, RB]
    exact And.intro rfl (fin_ret (by simp only [simprocAttr, R0, fn_out, p93, Rs.ev, take_len_self, h_8, w12a, w12b, eq_true c13, w15a, w15b, wx16, w18]))
  ·rw [if_neg c13] at ho
   cases ho
   simp only [simprocAttr, R0, b93_2, h_8, w12a, w12b, eq_false c13]
   intro ht; subst ht
   simp only [simprocAttr, RR, RB]
   refine And.intro rfl (Exists.intro _ ( And.intro rfl ?_))
   simp only [simprocAttr, R0, h_8, w12a, w12b, eq_false c13]
def I93_1 (a0 : Int) (a1 : List (List Int)) (a3 : Int)  (v9_1 : Int) (s : Unit) (e : Env) (h : Heap) : Prop :=
 ∃ k3 : Nat, h = ⟨[], k3⟩ ∧ e.length = 48 ∧ e.at 0 = V.int .i64 a0 ∧ e.at 1 = V.isl (a1.map Enc.enc) ∧ e.at 3 = V.int .i64 a3 ∧ e.at 9 = V.int .i64 v9_1
def P93_1 (a0 : Int) (a1 : List (List Int)) (a3 : Int)  (t : (Unit) ⊕ Bool) (x : Ex) (e : Env) (h : Heap) : Prop :=
 match t with
 | .inl _ => x = .normal ∧ ∃ k3 : Nat, h = ⟨[], k3⟩ ∧ e.length = 48
 | .inr r => x = .ret ∧ Fin p93 (Enc.enc r) .ret e h
theorem l93_1 (a0 : Int) (a1 : List (List Int)) (a3 : Int)   {lo : Int} {s : Unit} {t : (Unit) ⊕ Bool} (hF : forR lo (a1.length : Int) (F93_1_B a0 a1 a3) (F93_1_D a0 a1 a3) s = some t) {e : Env} {h : Heap} (hI : I93_1 a0 a1 a3  lo s e h) : W A c93_1 e h (P93_1 a0 a1 a3  t) := by
 show W A (.block 0 (.loop false b93_1)) e h _
 rw [W_block]
 refine W_forR hF 0 (by obtain ⟨_, rfl, _⟩ := hI; rfl) (I93_1 a0 a1 a3 ) hI ?_ ?_
 ·rintro v9_1 _ e h ⟨k3, rfl, h_2⟩ hlt hw o ho
  unfold F93_1_B at ho
  obtain ⟨x5, gx5, ho⟩ := bS ho
  obtain ⟨w6a, w6b⟩ := getI_w gx5
  by_cases c7 : (x5.length : Int) = a3
  ·rw [if_pos c7] at ho
   obtain ⟨t20, gt20, ho⟩ := bS ho
   rcases t20 with _ | r21
   ·dsimp only at ho
    simp only [simprocAttr, R0, b93_1, h_2, eq_true hlt, hw, w6a, w6b, eq_true c7]
    refine W.mono (l93_2 a0 a1 a3 v9_1   gt20 (Exists.intro _ ( And.intro rfl ?_))) ?_
    ·simp only [simprocAttr, R0, h_2, eq_true hlt, hw, w6a, w6b, eq_true c7]
    rintro _ e _ ⟨rfl, k9, rfl, h_10⟩
    cases ho
    simp only [simprocAttr, R0, h_10, eq_true hlt, hw, eq_true c7]
    refine And.intro rfl (Exists.intro _ ( And.intro rfl ?_))
    simp only [simprocAttr, R0, h_10, eq_true hlt, hw, eq_true c7]
   ·dsimp only at ho
    cases ho
    simp only [simprocAttr, R0, b93_1, h_2, eq_true hlt, hw, w6a, w6b, eq_true c7]
    refine W.mono (l93_2 a0 a1 a3 v9_1   gt20 (Exists.intro _ ( And.intro rfl ?_))) ?_
    ·simp only [simprocAttr, R0, h_2, eq_true hlt, hw, w6a, w6b, eq_true c7]
    rintro _ e h ⟨rfl, hq⟩
    simp only [simprocAttr, RR, RB]
    intro ht; subst ht
    simp only [simprocAttr, RR, RB]
    exact And.intro rfl hq
  ·rw [if_neg c7] at ho
   cases ho
   simp only [simprocAttr, R0, b93_1, h_2, eq_true hlt, hw, w6a, w6b, eq_false c7]
   intro ht; subst ht
   simp only [simprocAttr, RR, RB]
   exact And.intro rfl (fin_ret (by simp only [simprocAttr, R0, fn_out, p93, Rs.ev, take_len_self, h_2, eq_true hlt, hw, w6a, w6b, eq_false c7]))
 ·rintro v9_1 _ e h ⟨k3, rfl, h_2⟩ hge t1 ho
  unfold F93_1_D at ho
  cases ho
  simp only [simprocAttr, R0, b93_1, h_2, eq_false hge]
  intro ht; subst ht
  refine And.intro rfl (Exists.intro _ ( And.intro rfl ?_))
  simp only [simprocAttr, R0, h_2, eq_false hge]
theorem s93 (a0 : Int) (a1 : List (List Int)) (a2 : Int) (a3 : Int)   {r : Bool} (hF : F93 a0 a1 a2 a3 = some r) : ans A 93 [V.int .i64 a0, V.isl (a1.map Enc.enc), V.int .i64 a2, V.int .i64 a3] = some (Enc.enc r) := by
 refine ans_of (f := p93) rfl rfl rfl fun e hl he => ?_
 have h0_0 : e.at 0 = V.int .i64 a0 := he 0 _ rfl
 have h1_0 : e.at 1 = V.isl (a1.map Enc.enc) := he 1 _ rfl
 have h2_0 : e.at 2 = V.int .i64 a2 := he 2 _ rfl
 have h3_0 : e.at 3 = V.int .i64 a3 := he 3 _ rfl
 have hl_0 : e.length = 48 := hl
 clear he hl
 have h_0 := And.intro hl_0 (And.intro h0_0 (And.intro h1_0 (And.intro h2_0 h3_0)))
 show W A b93 e ⟨[], 0⟩ _
 unfold F93 at hF
 by_cases c1 : (a1.length : Int) = a2
 ·rw [if_pos c1] at hF
  obtain ⟨t22, gt22, hF⟩ := bS hF
  rcases t22 with _ | r23
  ·dsimp only at hF
   simp only [simprocAttr, R0, b93, h_0, eq_true c1]
   refine W.mono (l93_1 a0 a1 a3   gt22 (Exists.intro _ ( And.intro rfl ?_))) ?_
   ·simp only [simprocAttr, R0, h_0, eq_true c1]
   rintro _ e _ ⟨rfl, k3, rfl, hl_4⟩
   cases hF
   simp only [simprocAttr, R0, hl_4, eq_true c1]
   exact fin_ret (by simp only [simprocAttr, R0, fn_out, p93, Rs.ev, take_len_self, hl_4, eq_true c1])
  ·dsimp only at hF
   cases hF
   simp only [simprocAttr, R0, b93, h_0, eq_true c1]
   refine W.mono (l93_1 a0 a1 a3   gt22 (Exists.intro _ ( And.intro rfl ?_))) ?_
   ·simp only [simprocAttr, R0, h_0, eq_true c1]
   rintro _ e h ⟨rfl, hq⟩
   simp only [simprocAttr, RR, RB]
   exact hq
 ·rw [if_neg c1] at hF
  cases hF
  simp only [simprocAttr, R0, b93, h_0, eq_false c1]
  exact fin_ret (by simp only [simprocAttr, R0, fn_out, p93, Rs.ev, take_len_self, h_0, eq_false c1])
def F45_1_B (a0 : GComplex) (a1 : List (List (List Int))) (v5_1 : Int) (s : Unit) : Option ((Unit) ⊕ ((Unit) ⊕ Int)) :=
 (getI a1 v5_1).bind fun x7 =>
(getI a0.Dims (v5_1 + 1)).bind fun x9 =>
(getI a0.Dims v5_1).bind fun x11 =>
(F93 a0.Prime x7 x9 x11).bind fun x13 =>
if x13 = true then
 some (.inl ())
else
 some (.inr (.inr 2))
def F45_1_D (a0 : GComplex) (a1 : List (List (List Int))) (v5_1 : Int) (s : Unit) : Option ((Unit) ⊕ Int) :=
 some (.inl ())
def F45 (a0 : GComplex) (a1 : List (List (List Int))) : Option Int :=
 (F39 a0).bind fun x1 =>
 if x1 = true then
  if (a1.length : Int) = (a0.Maps.length : Int) then
   (forR 0 (a1.length : Int) (F45_1_B a0 a1) (F45_1_D a0 a1) ()).bind fun t15 => match t15 with
    | .inl _ =>
     some 0
    | .inr r16 => some r16
  else
   some 2
 else
  some 1
def I45_1 (a0 : GComplex) (a1 : List (List (List Int)))  (v5_1 : Int) (s : Unit) (e : Env) (h : Heap) : Prop :=
 ∃ k5 : Nat, h = ⟨[(0, none)], k5⟩ ∧ e.length = 40 ∧ e.at 1 = V.isl (a1.map Enc.enc) ∧ e.at 2 = V.iptr [V.int .i64 a0.Prime, V.isl (a0.Dims.map Enc.enc), V.isl (a0.Maps.map Enc.enc)] ∧ e.at 5 = V.int .i64 v5_1
def P45_1 (a0 : GComplex) (a1 : List (List (List Int)))  (t : (Unit) ⊕ Int) (x : Ex) (e : Env) (h : Heap) : Prop :=
 match t with
 | .inl _ => x = .normal ∧ ∃ k5 : Nat, h = ⟨[(0, none)], k5⟩ ∧ e.length = 40
 | .inr r => x = .ret ∧ Fin p45 (Enc.enc r) .ret e h
theorem l45_1 (a0 : GComplex) (a1 : List (List (List Int)))   {lo : Int} {s : Unit} {t : (Unit) ⊕ Int} (hF : forR lo (a1.length : Int) (F45_1_B a0 a1) (F45_1_D a0 a1) s = some t) {e : Env} {h : Heap} (hI : I45_1 a0 a1  lo s e h) : W A c45_1 e h (P45_1 a0 a1  t) := by
 show W A (.block 0 (.loop false b45_1)) e h _
 rw [W_block]
 refine W_forR hF 1 (by obtain ⟨_, rfl, _⟩ := hI; rfl) (I45_1 a0 a1 ) hI ?_ ?_
 ·rintro v5_1 _ e h ⟨k5, rfl, h_4⟩ hlt hw o ho
  unfold F45_1_B at ho
  obtain ⟨x7, gx7, ho⟩ := bS ho
  obtain ⟨w8a, w8b⟩ := getI_w gx7
  obtain ⟨x9, gx9, ho⟩ := bS ho
  obtain ⟨w10a, w10b⟩ := getI_w gx9
  obtain ⟨x11, gx11, ho⟩ := bS ho
  obtain ⟨w12a, w12b⟩ := getI_w gx11
  obtain ⟨x13, gx13, ho⟩ := bS ho
  have w14 : ans A 93 [V.int .i64 a0.Prime, V.isl (x7.map Enc.enc), V.int .i64 x9, V.int .i64 x11] = some (V.bool x13) := s93 a0.Prime x7 x9 x11  gx13
  cases x13 with
  | true =>
   rw [if_pos rfl] at ho
   cases ho
   simp only [simprocAttr, R0, b45_1, h_4, eq_true hlt, hw, w8a, w8b, w10a, w10b, w12a, w12b, w14]
   refine And.intro rfl (Exists.intro _ ( And.intro rfl ?_))
   simp only [simprocAttr, R0, h_4, eq_true hlt, hw, w8a, w8b, w10a, w10b, w12a, w12b, w14]
  | false =>
   rw [if_neg Bool.false_ne_true] at ho
   cases ho
   simp only [simprocAttr, R0, b45_1, h_4, eq_true hlt, hw, w8a, w8b, w10a, w10b, w12a, w12b, w14]
   intro ht; subst ht
   simp only [simprocAttr, RR, RB]
   exact And.intro rfl (fin_ret (by simp only [simprocAttr, R0, fn_out, p45, Rs.ev, take_len_self, h_4, eq_true hlt, hw, w8a, w8b, w10a, w10b, w12a, w12b, w14]))
 ·rintro v5_1 _ e h ⟨k5, rfl, h_4⟩ hge t1 ho
  unfold F45_1_D at ho
  cases ho
  simp only [simprocAttr, R0, b45_1, h_4, eq_false hge]
  intro ht; subst ht
  refine And.intro rfl (Exists.intro _ ( And.intro rfl ?_))
  simp only [simprocAttr, R0, h_4, eq_false hge]
theorem s45 (a0 : GComplex) (a1 : List (List (List Int)))   {r : Int} (hF : F45 a0 a1 = some r) : ans A 45 [(eC a0), V.isl (a1.map Enc.enc)] = some (Enc.enc r) := by
 refine ans_of (f := p45) rfl rfl rfl fun e hl he => ?_
 have h0_0 : e.at 0 = (eC a0) := he 0 _ rfl
 have h1_0 : e.at 1 = V.isl (a1.map Enc.enc) := he 1 _ rfl
 have hl_0 : e.length = 40 := hl
 clear he hl
 have h_0 := And.intro hl_0 (And.intro h0_0 h1_0)
 show W A b45 e ⟨[], 0⟩ _
 unfold F45 at hF
 obtain ⟨x1, gx1, hF⟩ := bS hF
 have w2 : ans A 39 [(eC a0)] = some (V.bool x1) := s39 a0  gx1
 cases x1 with
 | true =>
  rw [if_pos rfl] at hF
  by_cases c3 : (a1.length : Int) = (a0.Maps.length : Int)
  ·rw [if_pos c3] at hF
   obtain ⟨t15, gt15, hF⟩ := bS hF
   rcases t15 with _ | r16
   ·dsimp only at hF
    simp only [simprocAttr, R0, b45, h_0, w2, eq_true c3]
    refine W.mono (l45_1 a0 a1   gt15 (Exists.intro _ ( And.intro rfl ?_))) ?_
    ·simp only [simprocAttr, R0, h_0, w2, eq_true c3]
    rintro _ e _ ⟨rfl, k5, rfl, hl_6⟩
    cases hF
    simp only [simprocAttr, R0, hl_6, eq_true c3]
    exact fin_ret (by simp only [simprocAttr, R0, fn_out, p45, Rs.ev, take_len_self, hl_6, eq_true c3])
   ·dsimp only at hF
    cases hF
    simp only [simprocAttr, R0, b45, h_0, w2, eq_true c3]
    refine W.mono (l45_1 a0 a1   gt15 (Exists.intro _ ( And.intro rfl ?_))) ?_
    ·simp only [simprocAttr, R0, h_0, w2, eq_true c3]
    rintro _ e h ⟨rfl, hq⟩
    simp only [simprocAttr, RR, RB]
    exact hq
  ·rw [if_neg c3] at hF
   cases hF
   simp only [simprocAttr, R0, b45, h_0, w2, eq_false c3]
   exact fin_ret (by simp only [simprocAttr, R0, fn_out, p45, Rs.ev, take_len_self, h_0, w2, eq_false c3])
 | false =>
  rw [if_neg Bool.false_ne_true] at hF
  cases hF
  simp only [simprocAttr, R0, b45, h_0, w2]
  exact fin_ret (by simp only [simprocAttr, R0, fn_out, p45, Rs.ev, take_len_self, h_0, w2])
def F94 (a0 : List Int) : Option (List Int) :=
 (app 8 ([] : List Int) a0).bind fun l2 =>
 some l2
theorem s94 (a0 : List Int)   {r : List Int} (hF : F94 a0 = some r) : ans A 94 [V.isl (a0.map Enc.enc)] = some (Enc.enc r) := by
 refine ans_of (f := p94) rfl rfl rfl fun e hl he => ?_
 have h0_0 : e.at 0 = V.isl (a0.map Enc.enc) := he 0 _ rfl
 have hl_0 : e.length = 6 := hl
 clear he hl
 show W A b94 e ⟨[], 0⟩ _
 unfold F94 at hF
 obtain ⟨l2, gl2, hF⟩ := bS hF
 have w1 := fun ents key uid clk he => appendV_w (α := Int) (n := 0) (m := a0.length) (ds := List.map Enc.enc a0) gl2 (by first | rfl | simp only [List.length_nil]) (by first | rfl | simp only [List.length_nil]) rfl ents key uid clk he
 have w1l := app_len gl2
 have hE := Option.some.inj hF; subst hE
 simp only [simprocAttr, R0, b94, hl_0, h0_0, w1]
 exact fin_ret (by simp only [simprocAttr, R0, fn_out, p94, Rs.ev, take_len_self, hl_0, h0_0, w1, frzs (α := Int) l2, takes (α := Int) l2])
theorem t94 (a0 : List Int)   {r : List Int} (hF : F94 a0 = some r) : tans A 94 [1] [V.isl (a0.map Enc.enc)] = some (Enc.enc r) := by
 refine tans_of (f := p94) rfl rfl rfl fun e hl he => ?_
 have h0_0 : e.at 0 = V.isl (a0.map Enc.enc) := he 0 _ rfl
 have hl_0 : e.length = 6 := hl
 clear he hl
 show W A b94 e ⟨[], 0⟩ _
 unfold F94 at hF
 obtain ⟨l2, gl2, hF⟩ := bS hF
 have w1 := fun ents key uid clk he => appendV_w (α := Int) (n := 0) (m := a0.length) (ds := List.map Enc.enc a0) gl2 (by first | rfl | simp only [List.length_nil]) (by first | rfl | simp only [List.length_nil]) rfl ents key uid clk he
 have w1l := app_len gl2
 have hE := Option.some.inj hF; subst hE
 simp only [simprocAttr, R0, b94, hl_0, h0_0, w1]
 exact tfin_ret (by simp only [simprocAttr, R0, fn_out, p94, Rs.ev, take_len_self, hl_0, h0_0, w1, frzs (α := Int) l2, takes (α := Int) l2])
def F95_1_B (a0 : List (List Int)) (v4_1 : Int) (o0_1 : (List (List Int))) : Option (((List (List Int))) ⊕ ((List (List Int)))) :=
 (getI a0 v4_1).bind fun x5 =>
(F94 x5).bind fun x7 =>
(app 24 o0_1 [x7]).bind fun l10 =>
some (.inl l10)
def F95_1_D (a0 : List (List Int)) (v4_1 : Int) (o0_1 : (List (List Int))) : Option ((List (List Int))) :=
 some o0_1
def F95 (a0 : List (List Int)) : Option (List (List Int)) :=
 (forR 0 (a0.length : Int) (F95_1_B a0) (F95_1_D a0) ([] : (List (List Int)))).bind fun zo0_1 =>
 some zo0_1
theorem d95 (a0 : List (List Int)) {r : List (List Int)} (hF : F95 a0 = some r) : ∃ v h', res A 95 [V.isl (a0.map Enc.enc)] Heap.empty = some (v, h') ∧ ∃ K, Deep.rep h' v r K := by
 refine res_dp (f := p95) rfl rfl rfl fun e hl he => ?_
 have h0_0 : e.at 0 = V.isl (a0.map Enc.enc) := he 0 _ rfl
 have hl_0 : e.length = 21 := hl
 clear he hl
 show W A b95 e ⟨[], 0⟩ _
 unfold F95 at hF
 obtain ⟨zo0_1, gt11, hF⟩ := bS hF
 have hE := Option.some.inj hF; subst hE
 simp only [simprocAttr, R1, b95, hl_0, h0_0]
 show W A (.block 0 (.loop true b95_1)) _ _ _
 rw [W_block]
 refine W_forR gt11 _ rfl (fun i l e h => ∃ u vs K, h.ents[0]? = some (u, some vs) ∧ reps h vs l K ∧ ¬ K 0 ∧ e.length = 21 ∧ e.at 0 = V.isl (a0.map Enc.enc) ∧ e.at 3 = V.sl 0 u 0 l.length 1 ∧ e.at 4 = V.int .i64 i) ?_ ?_ ?_
 ·refine ⟨0, [], fun _ => False, rfl, fun _ x => x, fun x => x, ?_⟩
  simp only [simprocAttr, R1, hl_0, h0_0]
 ·rintro i l e ⟨E, c⟩ ⟨u, vs, K, g1, g2, g3, hl_1, h0_1, h3_1, h4_1⟩ hlt hw o ho
  unfold F95_1_B at ho
  obtain ⟨x5, gx5, ho⟩ := bS ho
  obtain ⟨w6a, w6b⟩ := getI_w gx5
  obtain ⟨x7, gx7, ho⟩ := bS ho
  have w8 := t94 x5 gx7
  obtain ⟨l10, gl10, ho⟩ := bS ho
  obtain ⟨q1, q2, rfl⟩ := app_w gl10
  have hE := Option.some.inj ho; subst hE
  have hln := g2.len
  have hE0 : 0 < E.length := (List.getElem?_eq_some_iff.1 g1).1
  have w9 : ∀ x y c', appendV 1 24 (.sl 0 u 0 l.length 1) 1 [V.sl E.length c 0 x7.length 1] ⟨E ++ [x] ++ [y], c'⟩ = _ := fun x y c' => appendV_deep (E := E ++ [x] ++ [y]) (vs := vs) (by rw [List.getElem?_append_left (by simp), List.getElem?_append_left hE0]; exact g1) hln (by simpa using q1) (by simpa using q2)
  simp only [simprocAttr, R1, b95_1, hl_1, h0_1, h3_1, h4_1, eq_true hlt, hw, w6a, w6b, w8, callM_tans, thaw_one, get_last, w9]
  have r1 := deep_round (h := ⟨E, c⟩) (h1 := ⟨E ++ [(c, some (x7.map Enc.enc))], c + 1⟩) (h2 := ⟨(E ++ [(c, some (x7.map Enc.enc))] ++ [(c + 1, some [V.sl E.length c 0 x7.length 1])]).set 0 (c + 1 + 1, some (vs ++ [V.sl E.length c 0 x7.length 1])), c + 1 + 1 + 1⟩) g2
   (int_row (l := x7) (K := fun k => k = E.length) (get_last _ _) fun k => Iff.rfl) (fun k q => by show E.length ≤ k; omega) (fun k q => List.getElem?_append_left q) (fun k p q => set_app_new (fun e => by subst e; exact q.elim g3 (fun q => by omega)) p) (by simp)
  refine And.intro rfl ⟨_, _, _, set_app_key (by simp), r1, fun q => q.elim g3 (fun q => by omega), ?_⟩
  simp only [simprocAttr, R1, hl_1, h0_1, h3_1, h4_1, eq_true hlt, hw, w6a, w6b, w8, List.length_append]
 ·rintro i l e ⟨E, c⟩ ⟨u, vs, K, g1, g2, g3, hl_1, h0_1, h3_1, h4_1⟩ hge t1 ho
  unfold F95_1_D at ho
  have hE := Option.some.inj ho; subst hE
  simp only [simprocAttr, R1, b95_1, hl_1, h0_1, h3_1, h4_1, eq_false hge]
  intro ht; subst ht
  refine And.intro (fun _ => trivial) ⟨_, by simp only [simprocAttr, R1, fn_out, p95, Rs.ev, hl_1], fun k => k = 0 ∨ K k, .inr ⟨0, u, vs, K, rfl, g1, g2, g3, fun k => Iff.rfl⟩⟩
theorem x95 (a0 : List (List Int)) {r : List (List Int)} (hF : F95 a0 = some r) : tans A 95 [1, 1] [V.isl (a0.map Enc.enc)] = some (Enc.enc r) := tans_of_deep (α := List (List Int)) (by decide) (d95 a0 hF)
def F55_1_B (a0 : GComplex) (v4_1 : Int) (s : (List (List (List Int))) × Int × (List Int)) : Option (((List (List (List Int))) × Int × (List Int)) ⊕ ((List (List (List Int))) × Int × (List Int))) :=
 match s with
 | (o2_1, q3_0_1, q3_1_1) =>
  (getI a0.Maps v4_1).bind fun x7 =>
  (F95 x7).bind fun x9 =>
  (app 24 o2_1 [x9]).bind fun l12 =>
  some (.inl (l12, q3_0_1, q3_1_1))
def F55_1_D (a0 : GComplex) (v4_1 : Int) (s : (List (List (List Int))) × Int × (List Int)) : Option ((List (List (List Int))) × Int × (List Int)) :=
 match s with
 | (o2_1, q3_0_1, q3_1_1) =>
  some (o2_1, q3_0_1, q3_1_1)
def F55 (a0 : GComplex) : Option GComplex :=
 (F94 a0.Dims).bind fun x1 =>
 (forR 0 (a0.Maps.length : Int) (F55_1_B a0) (F55_1_D a0) ([], a0.Prime, x1)).bind fun t13 => match t13 with
  | (zo2_1, zq3_0_1, zq3_1_1) =>
   some ⟨zq3_0_1, zq3_1_1, zo2_1⟩
theorem d55 (x : GComplex) {r : GComplex} (hF : F55 x = some r) : ∃ v h', res A 55 [(eC x)] Heap.empty = some (v, h') ∧ ∃ m K, v = V.agg [V.int .i64 r.Prime, V.isl (r.Dims.map Enc.enc), m] ∧ Deep.rep h' m r.Maps K := by
 refine res_dp (f := p55) rfl rfl rfl fun e hl he => ?_
 have h0_0 : e.at 0 = (eC x) := he 0 _ rfl
 have hl_0 : e.length = 31 := hl
 clear he hl
 show W A b55 e ⟨[], 0⟩ _
 unfold F55 at hF
 obtain ⟨x1, gx1, hF⟩ := bS hF
 have w1 : ans A 94 [V.isl (x.Dims.map Enc.enc)] = some (V.isl (x1.map Enc.enc)) := s94 x.Dims gx1
 obtain ⟨t13, gt13, hF⟩ := bS hF
 simp only [simprocAttr, R0, b55, hl_0, h0_0, w1]
 show W A (.block 0 (.loop true b55_1)) _ _ _
 rw [W_block]
 refine W_forR gt13 _ rfl (fun i s e h => s.2 = (x.Prime, x1) ∧ ∃ u vs K, h.ents[1]? = some (1, some [V.int .i64 0, V.nils, V.nils]) ∧ h.ents[2]? = some (u, some vs) ∧ h.ents[3]? = some (3, some [V.int .i64 x.Prime, V.isl (x1.map Enc.enc), V.sl 2 u 0 s.1.length 1]) ∧ reps h vs s.1 K ∧ (∀ k, K k → 4 ≤ k) ∧ e.length = 31 ∧ e.at 1 = V.iptr [V.int .i64 x.Prime, V.isl (x.Dims.map Enc.enc), V.isl (x.Maps.map Enc.enc)] ∧ e.at 2 = V.ptr 1 1 0 ∧ e.at 3 = V.ptr 3 3 0 ∧ e.at 4 = V.int .i64 i) ?_ ?_ ?_
 ·refine ⟨rfl, 2, [], fun _ => False, rfl, rfl, rfl, fun _ x => x, fun _ x => x.elim, ?_⟩
  simp only [simprocAttr, R0, hl_0, h0_0]
 ·rintro i ⟨l, q⟩ e ⟨E, c⟩ ⟨rfl, u, vs, K, g1, g2, g3, g4, g5, h_1⟩ hlt hw o ho
  unfold F55_1_B at ho
  simp only at ho g3
  obtain ⟨x5, gx5, ho⟩ := bS ho
  obtain ⟨w6a, w6b⟩ := getI_w gx5
  obtain ⟨x7, gx7, ho⟩ := bS ho
  have w8 := x95 x5 gx7
  obtain ⟨l10, gl10, ho⟩ := bS ho
  obtain ⟨q1, q2, rfl⟩ := app_w gl10
  cases ho
  have hln := g4.len
  have hE0 : 3 < E.length := (List.getElem?_eq_some_iff.1 g3).1
  obtain ⟨v, ⟨E1, c1⟩, t1, t2, t3, t4⟩ := thaw_deep (α := List (List Int)) (by decide) x7 ⟨E, c⟩
  have t1' : thaw 16 [1, 1] (V.isl (x7.map Enc.enc)) ⟨E, c⟩ = some (v, ⟨E1, c1⟩) := t1
  simp only at t2 t3 t4 g1 g2 g3
  have m1 := (t4 1 (by omega)).trans g1
  have m2 := (t4 2 (by omega)).trans g2
  have m3 := (t4 3 (by omega)).trans g3
  have n1 : ∀ y z, (((E1 ++ [y]).set 2 z))[1]? = _ := fun y z => (set_app_new (by decide) (by omega)).trans m1
  have n3 : ∀ y z, (((E1 ++ [y]).set 2 z))[3]? = _ := fun y z => (set_app_new (by decide) (by omega)).trans m3
  obtain ⟨v1, v2⟩ := rep_one t2
  have w9 : ∀ y c', appendV 1 24 (.sl 2 u 0 l.length 1) 1 [v] ⟨E1 ++ [y], c'⟩ = _ := fun y c' => appendV_deep (E := E1 ++ [y]) (vs := vs) (by rw [List.getElem?_append_left (by omega)]; exact m2) hln (by simpa using q1) (by simpa using q2)
  simp only [simprocAttr, R0, b55_1, h_1, eq_true hlt, hw, w6a, w6b, w8, callM_tans, t1', v1, v2, m1, m2, m3, get_last, w9, n1, n3, g1, g2, g3]
  have r1 := deep_round (h := ⟨E, c⟩) (h1 := ⟨E1, c1⟩) (h2 := ⟨((E1 ++ [(c1, some [v])]).set 2 (c1 + 1, some (vs ++ [v]))).set 3 (3, some [V.int .i64 x.Prime, V.isl (x1.map Enc.enc), V.sl 2 (c1 + 1) 0 (l.length + 1) 1]), c1 + 1 + 1⟩) (K := K) g4
   t2 (fun k q => q.1) t4 (fun k p q => by
    have hk : 4 ≤ k := q.elim (g5 _) (fun q => by omega)
    rw [set_ne (by omega)]
    exact set_app_new (by omega) p) t3
  refine And.intro rfl (And.intro rfl ⟨c1 + 1, vs ++ [v], fun k => K k ∨ (E.length ≤ k ∧ k < E1.length), ?_, ?_, ?_, r1, fun k q => q.elim (g5 _) (fun q => by omega), ?_⟩)
  rotate_left
  ·exact (set_ne (by decide)).trans (set_app_key (by simp; omega))
  ·simp only [List.length_append, List.length_cons, List.length_nil, Nat.zero_add]
   exact set_app_key (by simp; omega)
  ·simp only [simprocAttr, R0, h_1, eq_true hlt, hw, w6a, w6b, w8]
  ·exact (set_ne (by decide)).trans (n1 _ _)
 ·rintro i ⟨l, q⟩ e ⟨E, c⟩ ⟨rfl, u, vs, K, g1, g2, g3, g4, g5, h_1⟩ hge t1 ho
  unfold F55_1_D at ho
  cases ho
  simp only at hF g1 g2 g3
  simp only [simprocAttr, R0, b55_1, h_1, eq_false hge, g1, g2, g3]
  intro ht; subst ht
  cases hF
  have hE0 : 3 < E.length := (List.getElem?_eq_some_iff.1 g3).1
  refine And.intro (fun _ => trivial) ⟨_, by simp only [simprocAttr, R0, fn_out, p55, Rs.ev, h_1, set_app_key (show 1 < E.length by omega)]; rfl, _, _, rfl, rep_at (α := List (List Int)) (K := K) ?_ (g4.frame fun k q => set_ne (by have := g5 k q; omega)) (fun q => by have := g5 _ q; omega)⟩
  exact (set_ne (by decide)).trans g2
theorem x55 (x : GComplex) {r : GComplex} (hF : F55 x = some r) : tans A 55 [1, 1, 1] [(eC x)] = some (V.agg [V.int .i64 r.Prime, V.iptr [V.isl (r.Dims.map Enc.enc)], V.isl (r.Maps.map Enc.enc)]) := by
 obtain ⟨v, h', h1, m, K, rfl, h2⟩ := d55 x hF
 exact tans_agg h1 h2
def F46_3_B (p : Int) (ws : List Int) (j : Int) (row : List Int) : Option (List Int ⊕ List Int) :=
 (getI row j).bind fun v => (getI ws j).bind fun w => (chk (v + w)).bind fun q => (remI q p).bind fun z => (setI row j z).bind fun r => some (.inl r)
def F46_3_D (j : Int) (row : List Int) : Option (List Int) := some row
def F46_2_B (p : Int) (k : Int) (mk : List (List Int)) (i : Int) (ms : List (List (List Int))) : Option (List (List (List Int)) ⊕ List (List (List Int))) :=
 (getI ms k).bind fun t => (getI t i).bind fun row => (getI mk i).bind fun ws => (forR 0 (row.length : Int) (F46_3_B p ws) F46_3_D row).bind fun r =>
 (setI t i r).bind fun t' => (setI ms k t').bind fun ms' => some (.inl ms')
def F46_2_D (i : Int) (ms : List (List (List Int))) : Option (List (List (List Int))) := some ms
def F46_1_B (p : Int) (maps : List (List (List Int))) (k : Int) (ms : List (List (List Int))) : Option (List (List (List Int)) ⊕ List (List (List Int))) :=
 (getI maps k).bind fun mk => (forR 0 (mk.length : Int) (F46_2_B p k mk) F46_2_D ms).bind fun ms' => some (.inl ms')
def F46_1_D (k : Int) (ms : List (List (List Int))) : Option (List (List (List Int))) := some ms
def F46 (x : GComplex) (maps : List (List (List Int))) : Option GComplex :=
 (F55 x).bind fun o => (forR 0 (maps.length : Int) (F46_1_B x.Prime maps) F46_1_D o.Maps).bind fun ms => some ⟨o.Prime, o.Dims, ms⟩
theorem d46 (x : GComplex) (maps : List (List (List Int))) {r : GComplex} (hF : F46 x maps = some r) : ∃ v h', res A 46 [(eC x), V.isl (maps.map Enc.enc)] Heap.empty = some (v, h') ∧ ∃ m K, v = V.agg [V.int .i64 r.Prime, V.isl (r.Dims.map Enc.enc), m] ∧ Deep.rep h' m r.Maps K := by
 refine res_dp (f := p46) rfl rfl rfl fun e hl he => ?_
 have h0_0 : e.at 0 = (eC x) := he 0 _ rfl
 have h1_0 : e.at 1 = V.isl (maps.map Enc.enc) := he 1 _ rfl
 have hl_0 : e.length = 63 := hl
 clear he hl
 show W A b46 e ⟨[], 0⟩ _
 unfold F46 at hF
 obtain ⟨o, go, hF⟩ := bS hF
 obtain ⟨ms, gt, hF⟩ := bS hF
 have hE := Option.some.inj hF; subst hE
 have w1 := x55 x go
 obtain ⟨m, ⟨E1, c1⟩, t1, t2, t3, t4⟩ := thaw_agg o.Prime o.Dims o.Maps ⟨[(0, none), (1, some [V.int .i64 0, V.nils, V.nils])], 2⟩
 simp only [simprocAttr, R0, b46, hl_0, h0_0, h1_0, w1, callM_tans, t1, get_last, set_last]
 simp only [List.length_cons, List.length_nil, Nat.zero_add, Nat.reduceAdd] at t2 t3 t4
 have m1 : E1[1]? = some (1, some [V.int .i64 0, V.nils, V.nils]) := t4 1 (by decide)
 show W A (.block 0 (.loop true b46_1)) _ _ _
 rw [W_block]
 refine W_forR gt _ rfl (fun k ms e h => h.ents[1]? = some (1, some [V.int .i64 0, V.nils, V.nils]) ∧ h.ents[E1.length]? = some (c1, some [V.int .i64 o.Prime, V.isl (o.Dims.map Enc.enc), m]) ∧ Deep.rep h m ms (fun k => 2 ≤ k ∧ k < E1.length) ∧ e.length = 63 ∧ e.at 1 = V.isl (maps.map Enc.enc) ∧ e.at 2 = V.iptr [V.int .i64 x.Prime, V.isl (x.Dims.map Enc.enc), V.isl (x.Maps.map Enc.enc)] ∧ e.at 4 = V.ptr 1 1 0 ∧ e.at 5 = V.ptr E1.length c1 0 ∧ e.at 6 = V.int .i64 k) ?_ ?_ ?_
 ·refine ⟨by rw [List.getElem?_append_left (by omega)]; exact m1, get_last _ _, Deep.frame t2 fun k q => List.getElem?_append_left q.2, ?_⟩
  simp only [simprocAttr, R0, hl_0, h0_0, h1_0]
 ·clear t1 t2 t4 m1 hl_0 h0_0 h1_0 w1 gt
  rintro k ms e ⟨E, c⟩ ⟨g1, g2, g3, hl_1, h1_1, h2_1, h4_1, h5_1, h6_1⟩ hlt hw oo ho
  unfold F46_1_B at ho
  obtain ⟨mk, gk, ho⟩ := bS ho
  obtain ⟨ka, kb⟩ := getI_w gk
  obtain ⟨ms', gt2, ho⟩ := bS ho
  have hE := Option.some.inj ho; subst hE
  simp only at g1 g2
  simp only [simprocAttr, R0, b46_1, hl_1, h1_1, h2_1, h4_1, h5_1, h6_1, eq_true hlt, hw]
  refine W.mono (Q := fun x' e h => x' = .normal ∧ h.ents[1]? = some (1, some [V.int .i64 0, V.nils, V.nils]) ∧ h.ents[E1.length]? = some (c1, some [V.int .i64 o.Prime, V.isl (o.Dims.map Enc.enc), m]) ∧ Deep.rep h m ms' (fun k => 2 ≤ k ∧ k < E1.length) ∧ e.length = 63 ∧ e.at 1 = V.isl (maps.map Enc.enc) ∧ e.at 2 = V.iptr [V.int .i64 x.Prime, V.isl (x.Dims.map Enc.enc), V.isl (x.Maps.map Enc.enc)] ∧ e.at 4 = V.ptr 1 1 0 ∧ e.at 5 = V.ptr E1.length c1 0 ∧ e.at 6 = V.int .i64 k) ?_ ?_
  rotate_left
  ·rintro _ e ⟨E2, c2⟩ ⟨rfl, q1, q2, q3, hl_2, h1_2, h2_2, h4_2, h5_2, h6_2⟩
   simp only [simprocAttr, R0, hl_2, h1_2, h2_2, h4_2, h5_2, h6_2, hw]
   refine And.intro rfl ⟨q1, q2, q3, ?_⟩
   simp only [simprocAttr, R0, hl_2, h1_2, h2_2, h4_2, h5_2, h6_2, hw]
  show W A (.block 2 (.loop true b46_2)) _ _ _
  rw [W_block]
  refine W_forR gt2 _ rfl (fun i ms e h => h.ents[1]? = some (1, some [V.int .i64 0, V.nils, V.nils]) ∧ h.ents[E1.length]? = some (c1, some [V.int .i64 o.Prime, V.isl (o.Dims.map Enc.enc), m]) ∧ Deep.rep h m ms (fun k => 2 ≤ k ∧ k < E1.length) ∧ e.length = 63 ∧ e.at 1 = V.isl (maps.map Enc.enc) ∧ e.at 2 = V.iptr [V.int .i64 x.Prime, V.isl (x.Dims.map Enc.enc), V.isl (x.Maps.map Enc.enc)] ∧ e.at 4 = V.ptr 1 1 0 ∧ e.at 5 = V.ptr E1.length c1 0 ∧ e.at 6 = V.int .i64 k ∧ e.at 7 = V.int .i64 i) ?_ ?_ ?_
  ·refine ⟨g1, g2, g3, ?_⟩
   simp only [simprocAttr, R0, hl_1, h1_1, h2_1, h4_1, h5_1, h6_1]
  ·clear g1 g2 g3 hl_1 h1_1 h2_1 h4_1 h5_1 h6_1 gt2
   rintro i ms e ⟨E, c⟩ ⟨g1, g2, g3, hl_1, h1_1, h2_1, h4_1, h5_1, h6_1, h7_1⟩ hlt2 hw2 oo ho
   unfold F46_2_B at ho
   obtain ⟨t, gt, ho⟩ := bS ho
   obtain ⟨ta, tb⟩ := getI_w gt
   have tc := getI_lt gt
   obtain ⟨row, gr, ho⟩ := bS ho
   obtain ⟨ra, rb⟩ := getI_w gr
   have rc := getI_lt gr
   obtain ⟨ws, gw, ho⟩ := bS ho
   obtain ⟨wa, wb⟩ := getI_w gw
   obtain ⟨row', gl, ho⟩ := bS ho
   obtain ⟨t', gt', ho⟩ := bS ho
   obtain ⟨ms2, gm', ho⟩ := bS ho
   have hE := Option.some.inj ho; subst hE
   obtain ⟨key, uid, vs, x1, K1, hm, a1, a2, a3, a4, a5, a6⟩ := rep_focus g3 tb
   obtain ⟨key2, uid2, vs2, x2, K2, hx1, b1, b2, b3, b4, b5, b6⟩ := rep_focus a4 rb
   have o1 := ofCells_drop a2
   have o2 := ofCells_drop b2
   simp only at g1 g2 a1 b1
   simp only [simprocAttr, R0, b46_2, hl_1, h1_1, h2_1, h4_1, h5_1, h6_1, h7_1, eq_true hlt2, hw2, ka, kb, g2, hm, eq_true tc, a1, o1, hx1, ra, eq_true rc, b1, o2]
   have n1 : ¬ K2 1 := fun q => by have := a5 _ (b5 _ q); omega
   have nN : ¬ K2 E1.length := fun q => by have := a5 _ (b5 _ q); omega
   have st : t' = t.set i.toNat row' := setI_eq gt'
   have sm : ms2 = ms.set k.toNat t' := setI_eq gm'
   refine W.mono (Q := fun x' e h => x' = .normal ∧ Deep.rep h x2 row' K2 ∧ (∀ k, ¬ K2 k → h.ents[k]? = E[k]?) ∧ e.length = 63 ∧ e.at 1 = V.isl (maps.map Enc.enc) ∧ e.at 2 = V.iptr [V.int .i64 x.Prime, V.isl (x.Dims.map Enc.enc), V.isl (x.Maps.map Enc.enc)] ∧ e.at 4 = V.ptr 1 1 0 ∧ e.at 5 = V.ptr E1.length c1 0 ∧ e.at 6 = V.int .i64 k ∧ e.at 7 = V.int .i64 i) ?_ ?_
   rotate_left
   ·rintro _ e ⟨E2, c2⟩ ⟨rfl, q1, q2, hl_2, h1_2, h2_2, h4_2, h5_2, h6_2, h7_2⟩
    simp only at q2
    have r1 : Deep.rep ⟨E2, c2⟩ x1 t' K1 := by rw [st]; exact b6 _ _ q1 fun k _ nk => q2 k nk
    have r2 : Deep.rep ⟨E2, c2⟩ m ms2 (fun k => 2 ≤ k ∧ k < E1.length) := by rw [sm]; exact a6 _ _ r1 fun k _ nk => q2 k fun p => nk (b5 k p)
    simp only [simprocAttr, R0, hl_2, h1_2, h2_2, h4_2, h5_2, h6_2, h7_2, hw2]
    rw [← hm]
    refine And.intro rfl ⟨(q2 1 n1).trans g1, (q2 _ nN).trans g2, r2, ?_⟩
    simp only [simprocAttr, R0, hl_2, h1_2, h2_2, h4_2, h5_2, h6_2, h7_2, hw2]
   show W A (.block 4 (.loop true b46_3)) _ _ _
   rw [W_block]
   refine W_forR gl _ rfl (fun j rw e h => Deep.rep h x2 rw K2 ∧ (∀ k, ¬ K2 k → h.ents[k]? = E[k]?) ∧ rw.length = row.length ∧ e.length = 63 ∧ e.at 1 = V.isl (maps.map Enc.enc) ∧ e.at 2 = V.iptr [V.int .i64 x.Prime, V.isl (x.Dims.map Enc.enc), V.isl (x.Maps.map Enc.enc)] ∧ e.at 4 = V.ptr 1 1 0 ∧ e.at 5 = V.ptr E1.length c1 0 ∧ e.at 6 = V.int .i64 k ∧ e.at 7 = V.int .i64 i ∧ e.at 8 = x2 ∧ e.at 9 = V.int .i64 j) ?_ ?_ ?_
   ·refine ⟨b4, fun _ _ => rfl, rfl, ?_⟩
    simp only [simprocAttr, R0, hl_1, h1_1, h2_1, h4_1, h5_1, h6_1, h7_1]
   ·clear hl_1 h1_1 h2_1 h4_1 h5_1 h6_1 h7_1
    rintro j rw' e ⟨E3, c3⟩ ⟨q1, q2, q3, hl_1, h1_1, h2_1, h4_1, h5_1, h6_1, h7_1, h8_1, h9_1⟩ hlt3 hw3 oo ho
    unfold F46_3_B at ho
    obtain ⟨v, gv, ho⟩ := bS ho
    obtain ⟨va, vb⟩ := getI_w gv
    obtain ⟨w, gww, ho⟩ := bS ho
    obtain ⟨wwa, wwb⟩ := getI_w gww
    obtain ⟨q, gq, ho⟩ := bS ho
    have wq := chk_w gq
    obtain ⟨z, gz, ho⟩ := bS ho
    obtain ⟨wz0, wz⟩ := rem_w gz
    obtain ⟨rw2, gs, ho⟩ := bS ho
    obtain ⟨s1, s2, s3, s4, s5⟩ := setI_w gs
    have hE := Option.some.inj ho; subst hE
    rcases row_int q1 with ⟨_, rfl, _⟩ | ⟨key3, uid3, hx2, d1, d2⟩
    ·exact absurd vb (by simp)
    simp only at d1 q2
    have o3 : ofCells none (List.drop j.toNat (List.map Enc.enc rw')) = some (V.int .i64 v) := ofCells_drop (by rw [List.getElem?_map, vb]; rfl)
    have s5' : List.take j.toNat (List.map Enc.enc rw') ++ [V.int .i64 z] ++ List.drop (j.toNat + 1) (List.map Enc.enc rw') = List.map Enc.enc rw2 := s5
    rw [q3] at s3
    simp only [simprocAttr, R0, b46_3, hl_1, h1_1, h2_1, h4_1, h5_1, h6_1, h7_1, h8_1, h9_1, eq_true hlt3, hw3, hx2, q3, d1, va, vb, ka, kb, wa, wb, wwa, wwb, wq, wz0, wz, o3, s3, s5']
    have hk3 : key3 < E3.length := (List.getElem?_eq_some_iff.1 d1).1
    have hsl : rw2.length = row.length := by rw [s4]; exact q3
    refine And.intro rfl ⟨?_, fun k nk => ?_, hsl, ?_⟩
    ·rw [← hsl]; exact int_row (set_app_key hk3) d2
    ·exact (set_ne (fun e => nk ((d2 k).2 e))).trans (q2 k nk)
    ·simp only [simprocAttr, R0, hl_1, h1_1, h2_1, h4_1, h5_1, h6_1, h7_1, h8_1, h9_1, hw3, hx2, q3]
   ·clear hl_1 h1_1 h2_1 h4_1 h5_1 h6_1 h7_1
    rintro j rw' e ⟨E3, c3⟩ ⟨q1, q2, q3, hl_1, h1_1, h2_1, h4_1, h5_1, h6_1, h7_1, h8_1, h9_1⟩ hge t1 ho
    have hE := Option.some.inj ho; subst hE
    have hlen := rep_len q1
    simp only [simprocAttr, R0, b46_3, hl_1, h1_1, h2_1, h4_1, h5_1, h6_1, h7_1, h8_1, h9_1, hlen, q3, eq_false hge]
    intro ht; subst ht
    exact ⟨q1, q2⟩
  ·clear g1 g2 g3 hl_1 h1_1 h2_1 h4_1 h5_1 h6_1
   rintro i ms e ⟨E, c⟩ ⟨g1, g2, g3, hl_1, h1_1, h2_1, h4_1, h5_1, h6_1, h7_1⟩ hge t1 ho
   have hE := Option.some.inj ho; subst hE
   simp only [simprocAttr, R0, b46_2, hl_1, h1_1, h2_1, h4_1, h5_1, h6_1, h7_1, eq_false hge, ka, kb]
   intro ht; subst ht
   exact ⟨g1, g2, g3⟩
 ·clear t1 t2 t4 m1 hl_0 h0_0 h1_0 w1
  rintro k ms e ⟨E, c⟩ ⟨g1, g2, g3, hl_1, h1_1, h2_1, h4_1, h5_1, h6_1⟩ hge t1 ho
  have hE := Option.some.inj ho; subst hE
  simp only at g1 g2
  simp only [simprocAttr, R0, b46_1, hl_1, h1_1, h2_1, h4_1, h5_1, h6_1, eq_false hge, g1, g2]
  intro ht; subst ht
  have hE0 : 1 < E.length := (List.getElem?_eq_some_iff.1 g1).1
  refine And.intro (fun _ => trivial) ⟨_, by simp only [simprocAttr, R0, fn_out, p46, Rs.ev, hl_1, h4_1, set_app_key hE0], _, _, rfl, Deep.frame g3 fun k q => set_ne (by omega)⟩
theorem s46 (x : GComplex) (maps : List (List (List Int))) {r : GComplex} (hF : F46 x maps = some r) : ans A 46 [(eC x), V.isl (maps.map Enc.enc)] = some (Enc.enc r) := by
 obtain ⟨v, h', h1, m, K, rfl, h2⟩ := d46 x maps hF
 exact ans_agg h1 h2
def F272 (a0 : Int) (a1 : Int) : Option (List Int) :=
 (mkL 8 a0 0).bind fun l1 =>
 (getI l1 a1).bind fun x3 =>
 (setI l1 a1 1).bind fun l5 =>
 some l5
theorem s272 (a0 : Int) (a1 : Int)   {r : List Int} (hF : F272 a0 a1 = some r) : ans A 272 [V.int .i64 a0, V.int .i64 a1] = some (Enc.enc r) := by
 refine ans_of (f := p272) rfl rfl rfl fun e hl he => ?_
 have h0_0 : e.at 0 = V.int .i64 a0 := he 0 _ rfl
 have h1_0 : e.at 1 = V.int .i64 a1 := he 1 _ rfl
 have hl_0 : e.length = 12 := hl
 clear he hl
 show W A b272 e ⟨[], 0⟩ _
 unfold F272 at hF
 obtain ⟨l1, gl1, hF⟩ := bS hF
 obtain ⟨w2a, w2b, w2c, w2d, w2e⟩ := mkL_w gl1
 replace w2e : (List.replicate (Int.toNat a0) [V.int .i64 0]).flatten = List.map Enc.enc l1 := w2e
 obtain ⟨x3, gx3, hF⟩ := bS hF
 obtain ⟨w4a, w4b⟩ := getI_w gx3
 have w4c := getI_lt gx3
 replace w4c : a1 < (((Int.toNat a0) : Nat) : Int) := by first | exact w4c | (simp only [w2d] at w4c ⊢; exact w4c)
 have w4d : List.drop (Int.toNat a1) (l1.map Enc.enc) = (V.int .i64 x3) :: List.drop ((Int.toNat a1) + 1) (l1.map Enc.enc) := drop_enc w4b
 obtain ⟨l5, gl5, hF⟩ := bS hF
 obtain ⟨w6a, w6b, w6c, w6d, w6e⟩ := setI_w gl5
 replace w6e : List.take (Int.toNat a1) (l1.map Enc.enc) ++ [V.int .i64 1] ++ List.drop (Int.toNat a1 + 1) (l1.map Enc.enc) = List.map Enc.enc l5 := w6e
 have hE := Option.some.inj hF; subst hE
 simp only [↓reduceIte, Nat.reduceAdd, Nat.reduceMul, Nat.reduceSub, Nat.reduceLT, Nat.reduceLeDiff, Nat.reduceEqDiff, Nat.reducePow, Int.reducePow, Int.reduceLE, Int.reduceLT, Int.reduceEq, Int.reduceToNat, reduceCtorEq, R0, b272, hl_0, h0_0, h1_0, w2a, w2b, w2c, w2e, w4a, w4b, w4c, w4d, w6a, w6b, w6c, w6e]
 exact fin_ret (by simp only [↓reduceIte, Nat.reduceAdd, Nat.reduceMul, Nat.reduceSub, Nat.reduceLT, Nat.reduceLeDiff, Nat.reduceEqDiff, Nat.reducePow, Int.reducePow, Int.reduceLE, Int.reduceLT, Int.reduceEq, Int.reduceToNat, reduceCtorEq, R0, fn_out, p272, Rs.ev, take_len_self, hl_0, h0_0, h1_0, w2a, w2b, w2c, w2e, w4a, w4b, w4c, w4d, w6a, w6b, w6c, w6e, frzs (α := Int) l5, takes (α := Int) l5, take_len (α := Int) (l := l5) (n := (Int.toNat a0)) (by first | rfl | simp only [w2d, w6d]), w2d, w6d])
def F99 (a0 : GComplex) (a1 : Int) : Option Int :=
 (chk ((a0.Dims.length : Int) - 1)).bind fun x1 =>
 (F54 a1 0 x1).bind fun x2 =>
 if x2 = true then
  (getI a0.Dims a1).bind fun x4 =>
  some x4
 else
  some 0
theorem s99 (a0 : GComplex) (a1 : Int)   {r : Int} (hF : F99 a0 a1 = some r) : ans A 99 [(eC a0), V.int .i64 a1] = some (Enc.enc r) := by
 refine ans_of (f := p99) rfl rfl rfl fun e hl he => ?_
 have h0_0 : e.at 0 = (eC a0) := he 0 _ rfl
 have h1_0 : e.at 1 = V.int .i64 a1 := he 1 _ rfl
 have hl_0 : e.length = 17 := hl
 clear he hl
 have h_0 := And.intro hl_0 (And.intro h0_0 h1_0)
 show W A b99 e ⟨[], 0⟩ _
 unfold F99 at hF
 obtain ⟨x1, gx1, hF⟩ := bS hF
 have wx1 := chk_w gx1
 obtain ⟨x2, gx2, hF⟩ := bS hF
 have w3 : ans A 54 [V.int .i64 a1, V.int .i64 0, V.int .i64 x1] = some (V.bool x2) := s54 a1 0 x1  gx2
 cases x2 with
 | true =>
  rw [if_pos rfl] at hF
  obtain ⟨x4, gx4, hF⟩ := bS hF
  obtain ⟨w5a, w5b⟩ := getI_w gx4
  cases hF
  simp only [simprocAttr, R0, b99, h_0, wx1, w3, w5a, w5b]
  exact fin_ret (by simp only [simprocAttr, R0, fn_out, p99, Rs.ev, take_len_self, h_0, wx1, w3, w5a, w5b])
 | false =>
  rw [if_neg Bool.false_ne_true] at hF
  cases hF
  simp only [simprocAttr, R0, b99, h_0, wx1, w3]
  exact fin_ret (by simp only [simprocAttr, R0, fn_out, p99, Rs.ev, take_len_self, h_0, wx1, w3])
def F76_1_S (a0 : GComplex) (a1 : Int) (s : (List (List Int)) × Int) : Option (((List (List Int)) × Int) ⊕ ((List (List Int)))) :=
 match s with
 | (o1_1, v6_1) =>
  (F99 a0 a1).bind fun x11 =>
  if v6_1 < x11 then
   (app 24 o1_1 ([([] : List Int)])).bind fun l15 =>
   (chk (v6_1 + 1)).bind fun x16 =>
   some (.inl (l15, x16))
  else
   some (.inr o1_1)
def F76 (a0 : GComplex) (a1 : Int) : Option (List (List Int)) :=
 (chk ((a0.Dims.length : Int) - 1)).bind fun x1 =>
 (F54 a1 1 x1).bind fun x2 =>
 if x2 = true then
  (chk (a1 - 1)).bind fun x4 =>
  (getI a0.Maps x4).bind fun x5 =>
  some x5
 else
  (loopW (F76_1_S a0 a1) ([], 0)).bind fun zo1_1 =>
  some zo1_1
def I76_1 (a0 : GComplex) (a1 : Int)  (s : (List (List Int)) × Int) (e : Env) (h : Heap) : Prop :=
 match s with
 | (o1_1, v6_1) =>
  ∃ u8 k9 : Nat, h = ⟨[(0, none), (u8, some (o1_1.map Enc.enc))], k9⟩ ∧ e.length = 32 ∧ e.at 1 = V.int .i64 a1 ∧ e.at 2 = V.iptr [V.int .i64 a0.Prime, V.isl (a0.Dims.map Enc.enc), V.isl (a0.Maps.map Enc.enc)] ∧ e.at 5 = V.sl 1 u8 0 o1_1.length 1 ∧ e.at 6 = V.int .i64 v6_1
def P76_1 (a0 : GComplex) (a1 : Int)  (zo1_1 : (List (List Int))) (x : Ex) (e : Env) (h : Heap) : Prop :=
 x = .normal ∧ ∃ u8 k9 : Nat, h = ⟨[(0, none), (u8, some (zo1_1.map Enc.enc))], k9⟩ ∧ e.length = 32 ∧ e.at 5 = V.sl 1 u8 0 zo1_1.length 1
theorem l76_1 (a0 : GComplex) (a1 : Int)   {s : (List (List Int)) × Int} {t : (List (List Int))} (hF : loopW (F76_1_S a0 a1) s = some t) {e : Env} {h : Heap} (hI : I76_1 a0 a1  s e h) : W A c76_1 e h (P76_1 a0 a1  t) := by
 show W A (.block 0 (.loop false b76_1)) e h _
 rw [W_block]
 refine W_loop hF 2 (by rcases s with ⟨_, _⟩; obtain ⟨_, _, rfl, _⟩ := hI; rfl) (I76_1 a0 a1 ) hI ?_
 ·rintro ⟨o1_1, v6_1⟩ e h ⟨u8, k9, rfl, h_7⟩ o ho
  unfold F76_1_S at ho
  dsimp only at ho
  obtain ⟨x11, gx11, ho⟩ := bS ho
  have w12 : ans A 99 [(eC a0), V.int .i64 a1] = some (V.int .i64 x11) := s99 a0 a1  gx11
  by_cases c13 : v6_1 < x11
  ·rw [if_pos c13] at ho
   obtain ⟨l15, gl15, ho⟩ := bS ho
   have w14 := fun a b c d e => appendV_w (α := List Int) (n := o1_1.length) (m := 1) (ds := [V.isl []]) gl15 (by first | rfl | simp) (by first | rfl | simp) rfl a b c d e
   have w14l := app_len gl15
   obtain ⟨x16, gx16, ho⟩ := bS ho
   have wx16 := chk_w gx16
   cases ho
   simp only [simprocAttr, R0, b76_1, h_7, w12, eq_true c13, w14, wx16]
   refine And.intro rfl (Exists.intro _ ( Exists.intro _ ( And.intro rfl ?_)))
   simp only [simprocAttr, R0, h_7, w12, eq_true c13, w14, wx16]
  ·rw [if_neg c13] at ho
   cases ho
   simp only [simprocAttr, R0, b76_1, h_7, w12, eq_false c13]
   intro ht; subst ht
   simp only [simprocAttr, RR, RB]
   refine And.intro rfl (Exists.intro _ ( Exists.intro _ ( And.intro rfl ?_)))
   simp only [simprocAttr, R0, h_7, w12, eq_false c13]
theorem s76 (a0 : GComplex) (a1 : Int)   {r : List (List Int)} (hF : F76 a0 a1 = some r) : ans A 76 [(eC a0), V.int .i64 a1] = some (Enc.enc r) := by
 refine ans_of (f := p76) rfl rfl rfl fun e hl he => ?_
 have h0_0 : e.at 0 = (eC a0) := he 0 _ rfl
 have h1_0 : e.at 1 = V.int .i64 a1 := he 1 _ rfl
 have hl_0 : e.length = 32 := hl
 clear he hl
 have h_0 := And.intro hl_0 (And.intro h0_0 h1_0)
 show W A b76 e ⟨[], 0⟩ _
 unfold F76 at hF
 obtain ⟨x1, gx1, hF⟩ := bS hF
 have wx1 := chk_w gx1
 obtain ⟨x2, gx2, hF⟩ := bS hF
 have w3 : ans A 54 [V.int .i64 a1, V.int .i64 1, V.int .i64 x1] = some (V.bool x2) := s54 a1 1 x1  gx2
 cases x2 with
 | true =>
  rw [if_pos rfl] at hF
  obtain ⟨x4, gx4, hF⟩ := bS hF
  have wx4 := chk_w gx4
  obtain ⟨x5, gx5, hF⟩ := bS hF
  obtain ⟨w6a, w6b⟩ := getI_w gx5
  have hE := Option.some.inj hF; subst hE
  simp only [simprocAttr, R0, b76, h_0, wx1, w3, wx4, w6a, w6b]
  exact fin_ret (by simp only [simprocAttr, R0, fn_out, p76, Rs.ev, take_len_self, h_0, wx1, w3, wx4, w6a, w6b])
 | false =>
  rw [if_neg Bool.false_ne_true] at hF
  obtain ⟨zo1_1, gt17, hF⟩ := bS hF
  simp only [simprocAttr, R0, b76, h_0, wx1, w3]
  refine W.mono (l76_1 a0 a1   gt17 (Exists.intro _ ( Exists.intro _ ( And.intro rfl ?_)))) ?_
  ·simp only [simprocAttr, R0, h_0, wx1, w3]
  rintro _ e _ ⟨rfl, u8, k9, rfl, h_10⟩
  have hE := Option.some.inj hF; subst hE
  simp only [simprocAttr, R0, h_10]
  exact fin_ret (by simp only [simprocAttr, R0, fn_out, p76, Rs.ev, take_len_self, h_10, frzs (α := List Int) zo1_1, takes (α := List Int) zo1_1])
def F273 (a0 : GComplex) (a1 : Int) (a2 : List Int) : Option (List Int) :=
 if a1 = 0 then
  some []
 else
  (F76 a0 a1).bind fun x2 =>
  (chk (a1 - 1)).bind fun x4 =>
  (F99 a0 x4).bind fun x5 =>
  (F80 a0.Prime x2 a2 x5).bind fun x7 =>
  some x7
theorem s273 (a0 : GComplex) (a1 : Int) (a2 : List Int)   {r : List Int} (hF : F273 a0 a1 a2 = some r) : ans A 273 [(eC a0), V.int .i64 a1, V.isl (a2.map Enc.enc)] = some (Enc.enc r) := by
 refine ans_of (f := p273) rfl rfl rfl fun e hl he => ?_
 have h0_0 : e.at 0 = (eC a0) := he 0 _ rfl
 have h1_0 : e.at 1 = V.int .i64 a1 := he 1 _ rfl
 have h2_0 : e.at 2 = V.isl (a2.map Enc.enc) := he 2 _ rfl
 have hl_0 : e.length = 21 := hl
 clear he hl
 have h_0 := And.intro hl_0 (And.intro h0_0 (And.intro h1_0 h2_0))
 show W A b273 e ⟨[], 0⟩ _
 unfold F273 at hF
 by_cases c1 : a1 = 0
 ·rw [if_pos c1] at hF
  cases hF
  simp only [simprocAttr, R0, b273, h_0, eq_true c1]
  exact fin_ret (by simp only [simprocAttr, R0, fn_out, p273, Rs.ev, take_len_self, h_0, eq_true c1])
 ·rw [if_neg c1] at hF
  obtain ⟨x2, gx2, hF⟩ := bS hF
  have w3 : ans A 76 [(eC a0), V.int .i64 a1] = some (V.isl (x2.map Enc.enc)) := s76 a0 a1  gx2
  obtain ⟨x4, gx4, hF⟩ := bS hF
  have wx4 := chk_w gx4
  obtain ⟨x5, gx5, hF⟩ := bS hF
  have w6 : ans A 99 [(eC a0), V.int .i64 x4] = some (V.int .i64 x5) := s99 a0 x4  gx5
  obtain ⟨x7, gx7, hF⟩ := bS hF
  have w8 : ans A 80 [V.int .i64 a0.Prime, V.isl (x2.map Enc.enc), V.isl (a2.map Enc.enc), V.int .i64 x5] = some (V.isl (x7.map Enc.enc)) := s80 a0.Prime x2 a2 x5  gx7
  cases hF
  simp only [simprocAttr, R0, b273, h_0, eq_false c1, w3, wx4, w6, w8]
  exact fin_ret (by simp only [simprocAttr, R0, fn_out, p273, Rs.ev, take_len_self, h_0, eq_false c1, w3, wx4, w6, w8])
def F127 (a0 : Int) (a1 : Int) : Option Int :=
 (remI a1 a0).bind fun x1 =>
 (chk (x1 + a0)).bind fun x3 =>
 (remI x3 a0).bind fun x4 =>
 some x4
theorem s127 (a0 : Int) (a1 : Int)   {r : Int} (hF : F127 a0 a1 = some r) : ans A 127 [V.int .i64 a0, V.int .i64 a1] = some (Enc.enc r) := by
 refine ans_of (f := p127) rfl rfl rfl fun e hl he => ?_
 have h0_0 : e.at 0 = V.int .i64 a0 := he 0 _ rfl
 have h1_0 : e.at 1 = V.int .i64 a1 := he 1 _ rfl
 have hl_0 : e.length = 12 := hl
 clear he hl
 show W A b127 e ⟨[], 0⟩ _
 unfold F127 at hF
 obtain ⟨x1, gx1, hF⟩ := bS hF
 obtain ⟨w2a, w2b⟩ := rem_w gx1
 obtain ⟨x3, gx3, hF⟩ := bS hF
 have wx3 := chk_w gx3
 obtain ⟨x4, gx4, hF⟩ := bS hF
 obtain ⟨w5a, w5b⟩ := rem_w gx4
 cases hF
 simp only [simprocAttr, R0, b127, hl_0, h0_0, h1_0, eq_false w2a, w2b, wx3, eq_false w5a, w5b]
 exact fin_ret (by simp only [simprocAttr, R0, fn_out, p127, Rs.ev, take_len_self, hl_0, h0_0, h1_0, eq_false w2a, w2b, wx3, eq_false w5a, w5b])
def F136_1_B (a0 : Int) (a1 : List Int) (a2 : List Int) (a3 : Int) (v10_1 : Int) (o0_1 : (List Int)) : Option (((List Int)) ⊕ ((List Int))) :=
 (getI a1 v10_1).bind fun x5 =>
(getI a2 v10_1).bind fun x7 =>
(chk (a3 * x7)).bind fun x9 =>
(chk (x5 - x9)).bind fun x10 =>
(F127 a0 x10).bind fun x11 =>
(app 8 o0_1 [x11]).bind fun l14 =>
some (.inl l14)
def F136_1_D (a0 : Int) (a1 : List Int) (a2 : List Int) (a3 : Int) (v10_1 : Int) (o0_1 : (List Int)) : Option ((List Int)) :=
 some o0_1
def F136 (a0 : Int) (a1 : List Int) (a2 : List Int) (a3 : Int) : Option (List Int) :=
 (forR 0 (a1.length : Int) (F136_1_B a0 a1 a2 a3) (F136_1_D a0 a1 a2 a3) ([] : (List Int))).bind fun zo0_1 =>
 some zo0_1
def I136_1 (a0 : Int) (a1 : List Int) (a2 : List Int) (a3 : Int)  (v10_1 : Int) (o0_1 : (List Int)) (e : Env) (h : Heap) : Prop :=
 ∃ u2 k3 : Nat, h = ⟨[(u2, some (o0_1.map Enc.enc))], k3⟩ ∧ e.length = 35 ∧ e.at 0 = V.int .i64 a0 ∧ e.at 1 = V.isl (a1.map Enc.enc) ∧ e.at 2 = V.isl (a2.map Enc.enc) ∧ e.at 3 = V.int .i64 a3 ∧ e.at 9 = V.sl 0 u2 0 o0_1.length 1 ∧ e.at 10 = V.int .i64 v10_1
def P136_1 (a0 : Int) (a1 : List Int) (a2 : List Int) (a3 : Int)  (zo0_1 : (List Int)) (x : Ex) (e : Env) (h : Heap) : Prop :=
 x = .normal ∧ ∃ u2 k3 : Nat, h = ⟨[(u2, some (zo0_1.map Enc.enc))], k3⟩ ∧ e.length = 35 ∧ e.at 9 = V.sl 0 u2 0 zo0_1.length 1
theorem l136_1 (a0 : Int) (a1 : List Int) (a2 : List Int) (a3 : Int)   {lo : Int} {s : (List Int)} {t : (List Int)} (hF : forR lo (a1.length : Int) (F136_1_B a0 a1 a2 a3) (F136_1_D a0 a1 a2 a3) s = some t) {e : Env} {h : Heap} (hI : I136_1 a0 a1 a2 a3  lo s e h) : W A c136_1 e h (P136_1 a0 a1 a2 a3  t) := by
 show W A (.block 0 (.loop false b136_1)) e h _
 rw [W_block]
 refine W_forR hF 1 (by obtain ⟨_, _, rfl, _⟩ := hI; rfl) (I136_1 a0 a1 a2 a3 ) hI ?_ ?_
 ·rintro v10_1 o0_1 e h ⟨u2, k3, rfl, h_1⟩ hlt hw o ho
  unfold F136_1_B at ho
  obtain ⟨x5, gx5, ho⟩ := bS ho
  obtain ⟨w6a, w6b⟩ := getI_w gx5
  obtain ⟨x7, gx7, ho⟩ := bS ho
  obtain ⟨w8a, w8b⟩ := getI_w gx7
  obtain ⟨x9, gx9, ho⟩ := bS ho
  have wx9 := chk_w gx9
  obtain ⟨x10, gx10, ho⟩ := bS ho
  have wx10 := chk_w gx10
  obtain ⟨x11, gx11, ho⟩ := bS ho
  have w12 : ans A 127 [V.int .i64 a0, V.int .i64 x10] = some (V.int .i64 x11) := s127 a0 x10  gx11
  obtain ⟨l14, gl14, ho⟩ := bS ho
  have w13 := fun a b c d e => appendV_w (α := Int) (n := o0_1.length) (m := 1) (ds := [V.int .i64 x11]) gl14 (by first | rfl | simp) (by first | rfl | simp) rfl a b c d e
  have w13l := app_len gl14
  cases ho
  simp only [simprocAttr, R0, b136_1, h_1, eq_true hlt, hw, w6a, w6b, w8a, w8b, wx9, wx10, w12, w13]
  refine And.intro rfl (Exists.intro _ ( Exists.intro _ ( And.intro rfl ?_)))
  simp only [simprocAttr, R0, h_1, eq_true hlt, hw, w6a, w6b, w8a, w8b, wx9, wx10, w12, w13]
 ·rintro v10_1 o0_1 e h ⟨u2, k3, rfl, h_1⟩ hge t1 ho
  unfold F136_1_D at ho
  cases ho
  simp only [simprocAttr, R0, b136_1, h_1, eq_false hge]
  intro ht; subst ht
  refine And.intro rfl (Exists.intro _ ( Exists.intro _ ( And.intro rfl ?_)))
  simp only [simprocAttr, R0, h_1, eq_false hge]
theorem t136 (a0 : Int) (a1 : List Int) (a2 : List Int) (a3 : Int)   {r : List Int} (hF : F136 a0 a1 a2 a3 = some r) : tans A 136 [1] [V.int .i64 a0, V.isl (a1.map Enc.enc), V.isl (a2.map Enc.enc), V.int .i64 a3] = some (Enc.enc r) := by
 refine tans_of (f := p136) rfl rfl rfl fun e hl he => ?_
 have h0_0 : e.at 0 = V.int .i64 a0 := he 0 _ rfl
 have h1_0 : e.at 1 = V.isl (a1.map Enc.enc) := he 1 _ rfl
 have h2_0 : e.at 2 = V.isl (a2.map Enc.enc) := he 2 _ rfl
 have h3_0 : e.at 3 = V.int .i64 a3 := he 3 _ rfl
 have hl_0 : e.length = 35 := hl
 clear he hl
 show W A b136 e ⟨[], 0⟩ _
 unfold F136 at hF
 obtain ⟨zo0_1, gt15, hF⟩ := bS hF
 simp only [simprocAttr, R0, b136, hl_0, h0_0, h1_0, h2_0, h3_0]
 refine W.mono (l136_1 a0 a1 a2 a3   gt15 (Exists.intro _ ( Exists.intro _ ( And.intro rfl ?_)))) ?_
 ·simp only [simprocAttr, R0, hl_0, h0_0, h1_0, h2_0, h3_0]
 rintro _ e _ ⟨rfl, u2, k3, rfl, h_4⟩
 have hE := Option.some.inj hF; subst hE
 simp only [simprocAttr, R0, h_4]
 exact tfin_ret (by simp only [simprocAttr, R0, fn_out, p136, Rs.ev, take_len_self, h_4, frzs (α := Int) zo0_1, takes (α := Int) zo0_1])
def F134_1_B (a0 : Int) (a1 : List (List Int)) (v8_1 : Int) (v7_1 : (List Int)) : Option (((List Int)) ⊕ ((List Int))) :=
 (getI a1 v8_1).bind fun x6 =>
(F81 x6).bind fun x8 =>
(getI v7_1 x8).bind fun x10 =>
(F136 a0 v7_1 x6 x10).bind fun x12 =>
some (.inl x12)
def F134_1_D (a0 : Int) (a1 : List (List Int)) (v8_1 : Int) (v7_1 : (List Int)) : Option ((List Int)) :=
 some v7_1
def F134 (a0 : Int) (a1 : List (List Int)) (a2 : List Int) : Option (List Int) :=
 (F94 a2).bind fun x1 =>
 (forR 0 (a1.length : Int) (F134_1_B a0 a1) (F134_1_D a0 a1) x1).bind fun zv7_1 =>
 some zv7_1
theorem d134 (a0 : Int) (a1 : List (List Int)) (a2 : List Int) {r : List Int} (hF : F134 a0 a1 a2 = some r) : ∃ v h', res A 134 [V.int .i64 a0, V.isl (a1.map Enc.enc), V.isl (a2.map Enc.enc)] Heap.empty = some (v, h') ∧ ∃ K, Deep.rep h' v r K := by
 refine res_dp (f := p134) rfl rfl rfl fun e hl he => ?_
 have h0_0 : e.at 0 = V.int .i64 a0 := he 0 _ rfl
 have h1_0 : e.at 1 = V.isl (a1.map Enc.enc) := he 1 _ rfl
 have h2_0 : e.at 2 = V.isl (a2.map Enc.enc) := he 2 _ rfl
 have hl_0 : e.length = 33 := hl
 clear he hl
 show W A b134 e ⟨[], 0⟩ _
 unfold F134 at hF
 obtain ⟨o, go, hF⟩ := bS hF
 have wo : tans A 94 [1] [V.isl (a2.map Enc.enc)] = some (V.isl (o.map Enc.enc)) := t94 a2 go
 obtain ⟨t, gt, hF⟩ := bS hF
 cases hF
 simp only [simprocAttr, R1, b134, hl_0, h0_0, h1_0, h2_0, wo, callM_tans, thaw_one]
 show W A (.block 0 (.loop true b134_1)) _ _ _
 rw [W_block]
 refine W_forR gt _ rfl (fun i q e h => ∃ k u, h.ents[k]? = some (u, some (q.map Enc.enc)) ∧ e.length = 33 ∧ e.at 0 = V.int .i64 a0 ∧ e.at 1 = V.isl (a1.map Enc.enc) ∧ e.at 7 = V.sl k u 0 q.length 1 ∧ e.at 8 = V.int .i64 i) ?_ ?_ ?_
 ·refine ⟨0, 0, rfl, ?_⟩
  simp only [simprocAttr, R1, hl_0, h0_0, h1_0, h2_0]
 ·clear hl_0 h0_0 h1_0 h2_0
  rintro i q e ⟨E, c⟩ ⟨k, u, g1, h_1⟩ hlt hw s' ho
  unfold F134_1_B at ho
  simp only at g1
  obtain ⟨x6, gx6, ho⟩ := bS ho
  obtain ⟨x6a, x6b⟩ := getI_w gx6
  obtain ⟨x8, gx8, ho⟩ := bS ho
  have w8 : ans A 81 [V.isl (x6.map Enc.enc)] = some (V.int .i64 x8) := s81 x6 gx8
  obtain ⟨x10, gx10, ho⟩ := bS ho
  obtain ⟨x10a, x10b⟩ := getI_w gx10
  have x10c := getI_lt gx10
  obtain ⟨x12, gx12, ho⟩ := bS ho
  have w12 : tans A 136 [1] [V.int .i64 a0, V.isl (q.map Enc.enc), V.isl (x6.map Enc.enc), V.int .i64 x10] = some (V.isl (x12.map Enc.enc)) := t136 a0 q x6 x10 gx12
  cases ho
  have wfz : frz ⟨E, c⟩ 16 (V.sl k u 0 q.length 1) = some (V.isl (q.map Enc.enc)) := frz_row g1
  have wbr := bare_one (α := Int) x12
  have o10 : ofCells none (List.drop x8.toNat (q.map Enc.enc)) = some (V.int .i64 x10) := ofCells_drop (by rw [List.getElem?_map, x10b]; rfl)
  simp only [simprocAttr, R1, b134_1, h_1, eq_true hlt, hw, x6a, x6b, w8, x10a, eq_true x10c, g1, o10, wfz, w12, wbr, callM_tans, thaw_one]
  refine And.intro rfl ⟨_, _, get_last _ _, ?_⟩
  simp only [simprocAttr, R1, h_1, hw]
 ·clear hl_0 h0_0 h1_0 h2_0
  rintro i q e ⟨E, c⟩ ⟨k, u, g1, h_1⟩ hge t1 ho
  unfold F134_1_D at ho
  cases ho
  simp only at g1
  simp only [simprocAttr, R1, b134_1, h_1, eq_false hge]
  intro ht; subst ht
  refine And.intro (fun _ => trivial) ⟨_, ?_, fun x => x = k, int_row (l := q) g1 fun x => Iff.rfl⟩
  simp only [simprocAttr, R1, fn_out, p134, Rs.ev, h_1]
theorem t134 (a0 : Int) (a1 : List (List Int)) (a2 : List Int) {r : List Int} (hF : F134 a0 a1 a2 = some r) : tans A 134 [1] [V.int .i64 a0, V.isl (a1.map Enc.enc), V.isl (a2.map Enc.enc)] = some (Enc.enc r) := tans_of_deep (α := List Int) (by decide) (d134 a0 a1 a2 hF)
def F135_1_B (a0 : Int) (a1 : Int) (v5_1 : Int) (s : Unit) : Option ((Unit) ⊕ ((Unit) ⊕ Int)) :=
 (F127 a0 a1).bind fun x4 =>
(chk (v5_1 * x4)).bind fun x6 =>
(remI x6 a0).bind fun x7 =>
if x7 = 1 then
 some (.inr (.inr v5_1))
else
 some (.inl ())
def F135_1_D (a0 : Int) (a1 : Int) (v5_1 : Int) (s : Unit) : Option ((Unit) ⊕ Int) :=
 some (.inl ())
def F135 (a0 : Int) (a1 : Int) : Option Int :=
 (forR 1 a0 (F135_1_B a0 a1) (F135_1_D a0 a1) ()).bind fun t10 => match t10 with
  | .inl _ =>
   some 0
  | .inr r11 => some r11
def I135_1 (a0 : Int) (a1 : Int)  (v5_1 : Int) (s : Unit) (e : Env) (h : Heap) : Prop :=
 ∃ k2 : Nat, h = ⟨[], k2⟩ ∧ e.length = 20 ∧ e.at 0 = V.int .i64 a0 ∧ e.at 1 = V.int .i64 a1 ∧ e.at 5 = V.int .i64 v5_1
def P135_1 (a0 : Int) (a1 : Int)  (t : (Unit) ⊕ Int) (x : Ex) (e : Env) (h : Heap) : Prop :=
 match t with
 | .inl _ => x = .normal ∧ ∃ k2 : Nat, h = ⟨[], k2⟩ ∧ e.length = 20
 | .inr r => x = .ret ∧ Fin p135 (Enc.enc r) .ret e h
theorem l135_1 (a0 : Int) (a1 : Int)   {lo : Int} {s : Unit} {t : (Unit) ⊕ Int} (hF : forR lo a0 (F135_1_B a0 a1) (F135_1_D a0 a1) s = some t) {e : Env} {h : Heap} (hI : I135_1 a0 a1  lo s e h) : W A c135_1 e h (P135_1 a0 a1  t) := by
 show W A (.block 0 (.loop false b135_1)) e h _
 rw [W_block]
 refine W_forR hF 0 (by obtain ⟨_, rfl, _⟩ := hI; rfl) (I135_1 a0 a1 ) hI ?_ ?_
 ·rintro v5_1 _ e h ⟨k2, rfl, h_1⟩ hlt hw o ho
  unfold F135_1_B at ho
  obtain ⟨x4, gx4, ho⟩ := bS ho
  have w5 : ans A 127 [V.int .i64 a0, V.int .i64 a1] = some (V.int .i64 x4) := s127 a0 a1  gx4
  obtain ⟨x6, gx6, ho⟩ := bS ho
  have wx6 := chk_w gx6
  obtain ⟨x7, gx7, ho⟩ := bS ho
  obtain ⟨w8a, w8b⟩ := rem_w gx7
  by_cases c9 : x7 = 1
  ·rw [if_pos c9] at ho
   cases ho
   simp only [simprocAttr, R0, b135_1, h_1, eq_true hlt, hw, w5, wx6, eq_false w8a, w8b, eq_true c9]
   intro ht; subst ht
   simp only [simprocAttr, RR, RB]
   exact And.intro rfl (fin_ret (by simp only [simprocAttr, R0, fn_out, p135, Rs.ev, take_len_self, h_1, eq_true hlt, hw, w5, wx6, eq_false w8a, w8b, eq_true c9]))
  ·rw [if_neg c9] at ho
   cases ho
   simp only [simprocAttr, R0, b135_1, h_1, eq_true hlt, hw, w5, wx6, eq_false w8a, w8b, eq_false c9]
   refine And.intro rfl (Exists.intro _ ( And.intro rfl ?_))
   simp only [simprocAttr, R0, h_1, eq_true hlt, hw, w5, wx6, eq_false w8a, w8b, eq_false c9]
 ·rintro v5_1 _ e h ⟨k2, rfl, h_1⟩ hge t1 ho
  unfold F135_1_D at ho
  cases ho
  simp only [simprocAttr, R0, b135_1, h_1, eq_false hge]
  intro ht; subst ht
  refine And.intro rfl (Exists.intro _ ( And.intro rfl ?_))
  simp only [simprocAttr, R0, h_1, eq_false hge]
theorem s135 (a0 : Int) (a1 : Int)   {r : Int} (hF : F135 a0 a1 = some r) : ans A 135 [V.int .i64 a0, V.int .i64 a1] = some (Enc.enc r) := by
 refine ans_of (f := p135) rfl rfl rfl fun e hl he => ?_
 have h0_0 : e.at 0 = V.int .i64 a0 := he 0 _ rfl
 have h1_0 : e.at 1 = V.int .i64 a1 := he 1 _ rfl
 have hl_0 : e.length = 20 := hl
 clear he hl
 have h_0 := And.intro hl_0 (And.intro h0_0 h1_0)
 show W A b135 e ⟨[], 0⟩ _
 unfold F135 at hF
 obtain ⟨t10, gt10, hF⟩ := bS hF
 rcases t10 with _ | r11
 ·dsimp only at hF
  simp only [simprocAttr, R0, b135, h_0]
  refine W.mono (l135_1 a0 a1   gt10 (Exists.intro _ ( And.intro rfl ?_))) ?_
  ·simp only [simprocAttr, R0, h_0]
  rintro _ e _ ⟨rfl, k2, rfl, hl_3⟩
  cases hF
  simp only [simprocAttr, R0, hl_3]
  exact fin_ret (by simp only [simprocAttr, R0, fn_out, p135, Rs.ev, take_len_self, hl_3])
 ·dsimp only at hF
  cases hF
  simp only [simprocAttr, R0, b135, h_0]
  refine W.mono (l135_1 a0 a1   gt10 (Exists.intro _ ( And.intro rfl ?_))) ?_
  ·simp only [simprocAttr, R0, h_0]
  rintro _ e h ⟨rfl, hq⟩
  simp only [simprocAttr, RR, RB]
  exact hq
def F131_2_B (p b : Int) (k : Int) (row : List Int) : Option (List Int ⊕ List Int) := (getI row k).bind fun x => (chk (x * b)).bind fun m => (remI m p).bind fun z => (setI row k z).bind fun r => some (.inl r)
def F131_2_D (k : Int) (row : List Int) : Option (List Int) := some row
def F131_3_C (out : List (List Int)) (at_ : Int) (k : Int) (put : Bool) : Option Bool := if put = true then some false else (getI out k).bind fun o => (F81 o).bind fun ld => some (decide (at_ < ld))
def F131_3_B (p : Int) (out : List (List Int)) (own : List Int) (at_ : Int) (k : Int) (s : List (List Int) × Bool) : Option ((List (List Int) × Bool) ⊕ (List (List Int) × Bool)) :=
 (F131_3_C out at_ k s.2).bind fun c => (if c = true then (app 24 s.1 [own]).bind fun n => some (n, true) else some s).bind fun s2 =>
 (getI out k).bind fun o => (getI o at_).bind fun y => (F136 p o own y).bind fun q => (app 24 s2.1 [q]).bind fun n => some (.inl (n, s2.2))
def F131_3_D (k : Int) (s : List (List Int) × Bool) : Option (List (List Int) × Bool) := some s
def F131_1_B (p : Int) (rows : List (List Int)) (i : Int) (out : List (List Int)) : Option (List (List Int) ⊕ List (List Int)) :=
 (getI rows i).bind fun row => (F134 p out row).bind fun own => (F81 own).bind fun at_ => if at_ < 0 then some (.inl out) else
 (getI own at_).bind fun x => (F135 p x).bind fun inv => (forR 0 (own.length : Int) (F131_2_B p inv) F131_2_D own).bind fun own' =>
 (forR 0 (out.length : Int) (F131_3_B p out own' at_) F131_3_D ([], false)).bind fun s => if s.2 = true then some (.inl s.1) else (app 24 s.1 [own']).bind fun n => some (.inl n)
def F131_1_D (i : Int) (out : List (List Int)) : Option (List (List Int)) := some out
def F131 (p : Int) (rows : List (List Int)) : Option (List (List Int)) := forR 0 (rows.length : Int) (F131_1_B p rows) F131_1_D []
theorem d131 (p : Int) (rows : List (List Int)) {r : List (List Int)} (hF : F131 p rows = some r) : ∃ v h', res A 131 [V.int .i64 p, V.isl (rows.map Enc.enc)] Heap.empty = some (v, h') ∧
  ∃ k u vs, v = V.sl k u 0 r.length 1 ∧ h'.ents[k]? = some (u, some vs) ∧ Rws h'.ents (fun _ => True) vs r := by
 refine res_dp (f := p131) rfl rfl rfl fun e hl he => ?_
 have h0_0 : e.at 0 = V.int .i64 p := he 0 _ rfl
 have h1_0 : e.at 1 = V.isl (rows.map Enc.enc) := he 1 _ rfl
 have hl_0 : e.length = 102 := hl
 clear he hl
 show W A b131 e ⟨[], 0⟩ _
 unfold F131 at hF
 simp only [simprocAttr, R1, b131, hl_0, h0_0, h1_0]
 show W A (.block 0 (.loop true b131_1)) _ _ _
 rw [W_block]
 refine W_forR hF _ rfl (fun i out e h => ∃ ko uo vs, h.ents[ko]? = some (uo, some vs) ∧ Rws h.ents (fun _ => True) vs out ∧ e.length = 102 ∧ e.at 0 = V.int .i64 p ∧ e.at 1 = V.isl (rows.map Enc.enc) ∧ e.at 5 = V.sl ko uo 0 out.length 1 ∧ e.at 6 = V.int .i64 i) ?_ ?_ ?_
 ·refine ⟨0, 0, [], rfl, .nil, ?_⟩
  simp only [simprocAttr, R1, hl_0, h0_0, h1_0]
 ·clear hl_0 h0_0 h1_0
  rintro i out e ⟨E, c⟩ ⟨ko, uo, vs, g1, g2, hl_1, h0_1, h1_1, h5_1, h6_1⟩ hlt hw s' ho
  unfold F131_1_B at ho
  simp only at g1 g2
  have hko : ko < E.length := (List.getElem?_eq_some_iff.1 g1).1
  obtain ⟨row, gr, ho⟩ := bS ho
  obtain ⟨ra, rb⟩ := getI_w gr
  obtain ⟨own, gown, ho⟩ := bS ho
  have wown : tans A 134 [1] [V.int .i64 p, V.isl (out.map Enc.enc), V.isl (row.map Enc.enc)] = some (V.isl (own.map Enc.enc)) := t134 p out row gown
  obtain ⟨at_, gat, ho⟩ := bS ho
  have wat : ans A 81 [V.isl (own.map Enc.enc)] = some (V.int .i64 at_) := s81 own gat
  have wfo := g2.fz c g1
  have wbr := bare_one (α := Int) own
  have wfr : ∀ z : List Int, ∀ c', frz ⟨E ++ [(c, some (z.map Enc.enc))], c'⟩ 16 (V.sl E.length c 0 z.length 1) = some (V.isl (z.map Enc.enc)) := fun z c' => frz_row (get_last _ _)
  have wfr0 := wfr own
  by_cases hat : at_ < 0
  ·rw [if_pos hat] at ho
   have hE := Option.some.inj ho; subst hE
   simp only [simprocAttr, R1, b131_1, hl_1, h0_1, h1_1, h5_1, h6_1, eq_true hlt, hw, ra, rb, wfo, wown, wbr, callM_tans, thaw_one, wfr0, wat, eq_true hat]
   refine And.intro rfl ⟨ko, uo, vs, (List.getElem?_append_left hko).trans g1, g2.frame fun k hk _ => ⟨List.getElem?_append_left hk, trivial⟩, ?_⟩
   simp only [simprocAttr, R1, hl_1, h0_1, h1_1, h5_1, h6_1, hw]
  ·rw [if_neg hat] at ho
   obtain ⟨x, gx, ho⟩ := bS ho
   obtain ⟨xa, xb⟩ := getI_w gx
   have xc := getI_lt gx
   obtain ⟨inv, ginv, ho⟩ := bS ho
   have winv : ans A 135 [V.int .i64 p, V.int .i64 x] = some (V.int .i64 inv) := s135 p x ginv
   obtain ⟨own', gown', ho⟩ := bS ho
   obtain ⟨s, gs, ho⟩ := bS ho
   have ox : ofCells none (List.drop at_.toNat (own.map Enc.enc)) = some (V.int .i64 x) := ofCells_drop (by rw [List.getElem?_map, xb]; rfl)
   simp only [simprocAttr, R1, b131_1, hl_1, h0_1, h1_1, h5_1, h6_1, eq_true hlt, hw, ra, rb, wfo, wown, wbr, callM_tans, thaw_one, wfr0, wat, eq_false hat, xa, eq_true xc, get_last, ox, winv]
   show W A (.block 2 (.loop true b131_2)) _ _ _
   rw [W_block]
   refine W_forR gown' _ rfl (fun k q e h => q.length = own.length ∧ h = ⟨E ++ [(c, some (q.map Enc.enc))], c + 1⟩ ∧ e.length = 102 ∧ e.at 0 = V.int .i64 p ∧ e.at 1 = V.isl (rows.map Enc.enc) ∧ e.at 5 = V.sl ko uo 0 out.length 1 ∧ e.at 6 = V.int .i64 i ∧ e.at 7 = V.sl E.length c 0 own.length 1 ∧ e.at 8 = V.int .i64 at_ ∧ e.at 9 = V.int .i64 inv ∧ e.at 10 = V.int .i64 k) ?_ ?_ ?_
   ·refine ⟨rfl, rfl, ?_⟩
    simp only [simprocAttr, R1, hl_1, h0_1, h1_1, h5_1, h6_1]
   ·clear hl_1 h0_1 h1_1 h5_1 h6_1
    rintro k q e h ⟨hq, rfl, hl_1, h0_1, h1_1, h5_1, h6_1, h7_1, h8_1, h9_1, h10_1⟩ hlt2 hw2 s2 ho2
    unfold F131_2_B at ho2
    obtain ⟨x3, gx3, ho2⟩ := bS ho2
    obtain ⟨x3a, x3b⟩ := getI_w gx3
    obtain ⟨m3, gm3, ho2⟩ := bS ho2
    have wm3 := chk_w gm3
    obtain ⟨z3, gz3, ho2⟩ := bS ho2
    obtain ⟨wz30, wz3⟩ := rem_w gz3
    obtain ⟨q2, gq2, ho2⟩ := bS ho2
    obtain ⟨s31, s32, s33, s34, s35⟩ := setI_w gq2
    have hE := Option.some.inj ho2; subst hE
    have o3 : ofCells none (List.drop k.toNat (q.map Enc.enc)) = some (V.int .i64 x3) := ofCells_drop (by rw [List.getElem?_map, x3b]; rfl)
    have hk3 : k < (own.length : Int) := hlt2
    have s35' : List.take k.toNat (q.map Enc.enc) ++ [V.int .i64 z3] ++ List.drop (k.toNat + 1) (q.map Enc.enc) = List.map Enc.enc q2 := s35
    simp only [simprocAttr, R1, b131_2, hl_1, h0_1, h1_1, h5_1, h6_1, h7_1, h8_1, h9_1, h10_1, hw2, eq_true hlt2, get_last, set_last, x3a, o3, wm3, wz30, wz3, s33, s35']
    refine And.intro rfl ⟨by omega, rfl, ?_⟩
    simp only [simprocAttr, R1, hl_1, h0_1, h1_1, h5_1, h6_1, h7_1, h8_1, h9_1, h10_1, hw2]
   ·clear hl_1 h0_1 h1_1 h5_1 h6_1
    rintro k q e h ⟨hq, rfl, hl_1, h0_1, h1_1, h5_1, h6_1, h7_1, h8_1, h9_1, h10_1⟩ hge2 t2 ho2
    unfold F131_2_D at ho2
    have hE := Option.some.inj ho2; subst hE
    simp only [simprocAttr, R1, b131_2, hl_1, h0_1, h1_1, h5_1, h6_1, h7_1, h8_1, h9_1, h10_1, eq_false hge2, le1]
    intro ht; subst ht
    show W A (.block 4 (.loop true b131_3)) _ _ _
    rw [W_block]
    refine W_forR gs _ rfl (fun k s e h => ∃ un vn, h.ents[E.length + 1]? = some (un, some vn) ∧ Rws h.ents (fun k => k ≠ E.length + 1) vn s.1 ∧ h.ents[E.length]? = some (c, some (q.map Enc.enc)) ∧ (∀ k, k < E.length → h.ents[k]? = E[k]?) ∧ e.length = 102 ∧ e.at 0 = V.int .i64 p ∧ e.at 1 = V.isl (rows.map Enc.enc) ∧ e.at 5 = V.sl ko uo 0 out.length 1 ∧ e.at 6 = V.int .i64 i ∧ e.at 7 = V.sl E.length c 0 q.length 1 ∧ e.at 8 = V.int .i64 at_ ∧ e.at 11 = V.sl (E.length + 1) un 0 s.1.length 1 ∧ e.at 12 = V.bool s.2 ∧ e.at 13 = V.int .i64 k) ?_ ?_ ?_
    ·refine ⟨c + 1, [], ge2b .., .nil, ge2a .., fun k hk => by rw [List.append_assoc]; exact List.getElem?_append_left hk, ?_⟩
     simp only [simprocAttr, R1, hl_1, h0_1, h1_1, h5_1, h6_1, h7_1, h8_1, h9_1, h10_1, hq]
    ·clear hl_1 h0_1 h1_1 h5_1 h6_1 h7_1 h8_1 h9_1 h10_1
     rintro k ⟨nx, put⟩ e ⟨E3, c3⟩ ⟨un, vn, f1, f2, f3, f4, hl_1, h0_1, h1_1, h5_1, h6_1, h7_1, h8_1, h11_1, h12_1, h13_1⟩ hlt3 hw3 s3 ho3
     unfold F131_3_B at ho3
     simp only at f1 f2 f3 f4 h11_1 h12_1 ho3
     obtain ⟨cnd, gcnd, ho3⟩ := bS ho3
     obtain ⟨st, gst, ho3⟩ := bS ho3
     obtain ⟨o, go, ho3⟩ := bS ho3
     obtain ⟨oa, ob⟩ := getI_w go
     have oc := getI_lt go
     obtain ⟨y, gy, ho3⟩ := bS ho3
     obtain ⟨ya, yb⟩ := getI_w gy
     have yc := getI_lt gy
     obtain ⟨qq, gqq, ho3⟩ := bS ho3
     have wqq : tans A 136 [1] [V.int .i64 p, V.isl (o.map Enc.enc), V.isl (q.map Enc.enc), V.int .i64 y] = some (V.isl (qq.map Enc.enc)) := t136 p o q y gqq
     have wbq := bare_one (α := Int) qq
     obtain ⟨nn, gnn, ho3⟩ := bS ho3
     have hE := Option.some.inj ho3; subst hE
     have hN1 : E.length + 1 < E3.length := (List.getElem?_eq_some_iff.1 f1).1
     have k1 : E3[ko]? = some (uo, some vs) := (f4 ko hko).trans g1
     obtain ⟨v, v1, v2⟩ := g2.get ob
     have ov := ofCells_drop v1
     have oy : ofCells none (List.drop at_.toNat (o.map Enc.enc)) = some (V.int .i64 y) := ofCells_drop (by rw [List.getElem?_map, yb]; rfl)
     have v3 : RRep E3 (fun k => k < E.length) v o := v2.frame fun k hk _ => ⟨f4 k hk, hk⟩
     -- in any memory that keeps the rows
     have step : ∀ (E4 : List (Nat × Option (List V))) (c4 un4 : Nat) (vn4 : List V), E4[E.length + 1]? = some (un4, some vn4) → Rws E4 (fun k => k ≠ E.length + 1) vn4 st.1 → E4[E.length]? = some (c, some (q.map Enc.enc)) → (∀ k, k < E.length → E4[k]? = E[k]?) →
       E4[ko]? = some (uo, some vs) ∧ frz ⟨E4, c4⟩ 16 v = some (V.isl (o.map Enc.enc)) ∧ frz ⟨E4, c4⟩ 16 (V.sl E.length c 0 q.length 1) = some (V.isl (q.map Enc.enc)) ∧
       appendV 1 24 (.sl (E.length + 1) un4 0 st.1.length 1) 1 [V.sl E4.length c4 0 qq.length 1] ⟨E4 ++ [(c4, some (qq.map Enc.enc))] ++ [(c4 + 1, some [V.sl E4.length c4 0 qq.length 1])], c4 + 1 + 1⟩ = some (.sl (E.length + 1) (c4 + 1 + 1) 0 (st.1.length + 1) 1, ⟨(E4 ++ [(c4, some (qq.map Enc.enc))] ++ [(c4 + 1, some [V.sl E4.length c4 0 qq.length 1])]).set (E.length + 1) (c4 + 1 + 1, some (vn4 ++ [V.sl E4.length c4 0 qq.length 1])), c4 + 1 + 1 + 1⟩) ∧
       RRep E4 (fun k => k < E.length) v o ∧
       (((E4 ++ [(c4, some (qq.map Enc.enc))] ++ [(c4 + 1, some [V.sl E4.length c4 0 qq.length 1])]).set (E.length + 1) (c4 + 1 + 1, some (vn4 ++ [V.sl E4.length c4 0 qq.length 1])))[E.length + 1]? = some (c4 + 1 + 1, some (vn4 ++ [V.sl E4.length c4 0 qq.length 1])) ∧
       Rws ((E4 ++ [(c4, some (qq.map Enc.enc))] ++ [(c4 + 1, some [V.sl E4.length c4 0 qq.length 1])]).set (E.length + 1) (c4 + 1 + 1, some (vn4 ++ [V.sl E4.length c4 0 qq.length 1]))) (fun k => k ≠ E.length + 1) (vn4 ++ [V.sl E4.length c4 0 qq.length 1]) nn ∧
       ((E4 ++ [(c4, some (qq.map Enc.enc))] ++ [(c4 + 1, some [V.sl E4.length c4 0 qq.length 1])]).set (E.length + 1) (c4 + 1 + 1, some (vn4 ++ [V.sl E4.length c4 0 qq.length 1])))[E.length]? = some (c, some (q.map Enc.enc)) ∧
       (∀ k, k < E.length → ((E4 ++ [(c4, some (qq.map Enc.enc))] ++ [(c4 + 1, some [V.sl E4.length c4 0 qq.length 1])]).set (E.length + 1) (c4 + 1 + 1, some (vn4 ++ [V.sl E4.length c4 0 qq.length 1])))[k]? = E[k]?) ∧ nn.length = st.1.length + 1) := by
      intro E4 c4 un4 vn4 a1 a2 a3 a4
      have hN4 : E.length + 1 < E4.length := (List.getElem?_eq_some_iff.1 a1).1
      obtain ⟨p1, p2, rfl⟩ := app_w gnn
      have pre : ∀ x y (k : Nat), k < E4.length → (E4 ++ [x] ++ [y])[k]? = E4[k]? := fun x y k hk => by rw [List.append_assoc]; exact List.getElem?_append_left hk
      refine ⟨(a4 ko hko).trans g1, (v2.frame (B' := fun _ => True) fun k hk _ => ⟨a4 k hk, trivial⟩).fz c4 10, frz_row a3, appendV_deep (E := E4 ++ [(c4, some (qq.map Enc.enc))] ++ [(c4 + 1, some [V.sl E4.length c4 0 qq.length 1])]) ((pre _ _ _ hN4).trans a1) a2.len (by simpa using p1) (by simpa using p2), v2.frame fun k hk _ => ⟨a4 k hk, hk⟩, set_app_key (by simp; omega), ?_, ?_, fun k hk => ?_, by simp⟩
      ·exact (a2.frame fun k hk hne => ⟨(set_ne hne).trans (pre _ _ k hk), hne⟩).snoc ⟨_, _, rfl, (set_ne (by omega)).trans (ge2a ..), by omega⟩
      ·exact (set_ne (by omega)).trans ((pre _ _ _ (by omega)).trans a3)
      ·exact (set_ne (by omega)).trans ((pre _ _ k (by omega)).trans (a4 k hk))
     have hoc : k < (out.length : Int) := oc
     cases put with
     | true =>
      unfold F131_3_C at gcnd
      rw [if_pos rfl] at gcnd
      cases gcnd
      rw [if_neg Bool.false_ne_true] at gst
      cases gst
      obtain ⟨b1, b2, b3, b4, b5, b6, b7, b8, b9, b10⟩ := step E3 c3 un vn f1 f2 f3 f4
      simp only at b4 b10
      obtain ⟨kv, uv, rfl, w2, w3⟩ := b5
      simp only [simprocAttr, R1, b131_3, hl_1, h0_1, h1_1, h5_1, h6_1, h7_1, h8_1, h11_1, h12_1, h13_1, hw3, eq_true hlt3, oa, k1, ov, ya, eq_true yc, oy, w2, b2, b3, wqq, wbq, callM_tans, thaw_one, le1, get_last, ge2a, ge2b, b4]
      refine And.intro rfl ⟨_, _, b6, b7, b8, b9, ?_⟩
      simp only [simprocAttr, R1, hl_1, h0_1, h1_1, h5_1, h6_1, h7_1, h8_1, h11_1, h12_1, h13_1, hw3, b10]
     | false =>
      unfold F131_3_C at gcnd
      rw [if_neg Bool.false_ne_true, go, Option.bind_some] at gcnd
      obtain ⟨ld, gld, gcnd⟩ := bS gcnd
      have wld : ans A 81 [V.isl (o.map Enc.enc)] = some (V.int .i64 ld) := s81 o gld
      have hE := Option.some.inj gcnd; subst hE
      have wfv := (v2.frame (E' := E3) (B' := fun _ => True) fun k hk _ => ⟨f4 k hk, trivial⟩).fz c3 10
      by_cases hld : at_ < ld
      ·rw [if_pos (by simpa using hld)] at gst
       obtain ⟨n1, gn1, gst⟩ := bS gst
       obtain ⟨p1, p2, rfl⟩ := app_w gn1
       have hE := Option.some.inj gst; subst hE
       have wap : appendV 1 24 (.sl (E.length + 1) un 0 nx.length 1) 1 [V.sl E.length c 0 q.length 1] ⟨E3 ++ [(c3, some [V.sl E.length c 0 q.length 1])], c3 + 1⟩ = _ := appendV_deep (E := E3 ++ [(c3, some [V.sl E.length c 0 q.length 1])]) (by rw [List.getElem?_append_left hN1]; exact f1) f2.len (by simpa using p1) (by simpa using p2)
       have r1 : Rws ((E3 ++ [(c3, some [V.sl E.length c 0 q.length 1])]).set (E.length + 1) (c3 + 1, some (vn ++ [V.sl E.length c 0 q.length 1]))) (fun k => k ≠ E.length + 1) (vn ++ [V.sl E.length c 0 q.length 1]) (nx ++ [q]) :=
        (f2.frame fun k hk hne => ⟨(set_ne hne).trans (List.getElem?_append_left hk), hne⟩).snoc ⟨_, _, rfl, (set_ne (by omega)).trans ((List.getElem?_append_left (by omega)).trans f3), by omega⟩
       have hln : (nx ++ [q]).length = nx.length + 1 := by simp
       obtain ⟨b1, b2, b3, b4, b5, b6, b7, b8, b9, b10⟩ := step ((E3 ++ [(c3, some [V.sl E.length c 0 q.length 1])]).set (E.length + 1) (c3 + 1, some (vn ++ [V.sl E.length c 0 q.length 1]))) (c3 + 1 + 1) (c3 + 1) (vn ++ [V.sl E.length c 0 q.length 1]) (set_app_key (by simp; omega)) r1 ((set_ne (by omega)).trans ((List.getElem?_append_left (by omega)).trans f3)) (fun k hk => (set_ne (by omega)).trans ((List.getElem?_append_left (by omega)).trans (f4 k hk)))
       have hlb : ((E3 ++ [(c3, some [V.sl E.length c 0 q.length 1])]).set (E.length + 1) (c3 + 1, some (vn ++ [V.sl E.length c 0 q.length 1]))).length = E3.length + 1 := by simp
       have hge := fun y z => ge2b ((E3 ++ [(c3, some [V.sl E.length c 0 q.length 1])]).set (E.length + 1) (c3 + 1, some (vn ++ [V.sl E.length c 0 q.length 1]))) y z
       simp only [hlb] at hge
       simp only [hln, hlb] at b4 b6 b7 b8 b9 b10
       obtain ⟨kv, uv, rfl, w2, w3⟩ := b5
       simp only [simprocAttr, R1, b131_3, hl_1, h0_1, h1_1, h5_1, h6_1, h7_1, h8_1, h11_1, h12_1, h13_1, hw3, eq_true hlt3, oa, k1, ov, wfv, wld, eq_true hld, ya, eq_true yc, oy, w2, b1, b2, b3, wap, wqq, wbq, callM_tans, thaw_one, le1, hlb, hge, get_last, ge2a, ge2b, b4]
       refine And.intro rfl ⟨_, _, b6, b7, b8, b9, ?_⟩
       simp only [simprocAttr, R1, hl_1, h0_1, h1_1, h5_1, h6_1, h7_1, h8_1, h11_1, h12_1, h13_1, hw3, b10]
      ·rw [if_neg (by simpa using hld)] at gst
       have hE := Option.some.inj gst; subst hE
       obtain ⟨b1, b2, b3, b4, b5, b6, b7, b8, b9, b10⟩ := step E3 c3 un vn f1 f2 f3 f4
       simp only at b4 b10
       obtain ⟨kv, uv, rfl, w2, w3⟩ := b5
       simp only [simprocAttr, R1, b131_3, hl_1, h0_1, h1_1, h5_1, h6_1, h7_1, h8_1, h11_1, h12_1, h13_1, hw3, eq_true hlt3, oa, k1, ov, wfv, wld, eq_false hld, ya, eq_true yc, oy, w2, b2, b3, wqq, wbq, callM_tans, thaw_one, le1, get_last, ge2a, ge2b, b4]
       refine And.intro rfl ⟨_, _, b6, b7, b8, b9, ?_⟩
       simp only [simprocAttr, R1, hl_1, h0_1, h1_1, h5_1, h6_1, h7_1, h8_1, h11_1, h12_1, h13_1, hw3, b10]
    ·clear hl_1 h0_1 h1_1 h5_1 h6_1 h7_1 h8_1 h9_1 h10_1
     rintro k ⟨nx, put⟩ e ⟨E3, c3⟩ ⟨un, vn, f1, f2, f3, f4, hl_1, h0_1, h1_1, h5_1, h6_1, h7_1, h8_1, h11_1, h12_1, h13_1⟩ hge3 t3 ho3
     unfold F131_3_D at ho3
     have hE := Option.some.inj ho3; subst hE
     simp only at f1 f2 f3 f4 h11_1 h12_1
     have hN1 : E.length + 1 < E3.length := (List.getElem?_eq_some_iff.1 f1).1
     cases put with
     | true =>
      simp only [simprocAttr, R1, b131_3, hl_1, h0_1, h1_1, h5_1, h6_1, h7_1, h8_1, h11_1, h12_1, h13_1, eq_false hge3, hw]
      intro ht; subst ht
      simp only [if_true] at ho
      have hE := Option.some.inj ho; subst hE
      refine And.intro rfl ⟨E.length + 1, un, vn, f1, f2.frame fun k hk _ => ⟨rfl, trivial⟩, ?_⟩
      simp only [simprocAttr, R1, hl_1, h0_1, h1_1, h5_1, h6_1, h7_1, h8_1, h11_1, h12_1, h13_1]
     | false =>
      simp only [simprocAttr, R1, b131_3, hl_1, h0_1, h1_1, h5_1, h6_1, h7_1, h8_1, h11_1, h12_1, h13_1, eq_false hge3, hw, le1, get_last]
      intro ht; subst ht
      rw [if_neg Bool.false_ne_true] at ho
      obtain ⟨n1, gn1, ho⟩ := bS ho
      obtain ⟨p1, p2, rfl⟩ := app_w gn1
      have hE := Option.some.inj ho; subst hE
      have wap : appendV 1 24 (.sl (E.length + 1) un 0 nx.length 1) 1 [V.sl E.length c 0 q.length 1] ⟨E3 ++ [(c3, some [V.sl E.length c 0 q.length 1])], c3 + 1⟩ = _ := appendV_deep (E := E3 ++ [(c3, some [V.sl E.length c 0 q.length 1])]) (by rw [List.getElem?_append_left hN1]; exact f1) f2.len (by simpa using p1) (by simpa using p2)
      have r1 : Rws ((E3 ++ [(c3, some [V.sl E.length c 0 q.length 1])]).set (E.length + 1) (c3 + 1, some (vn ++ [V.sl E.length c 0 q.length 1]))) (fun k => k ≠ E.length + 1) (vn ++ [V.sl E.length c 0 q.length 1]) (nx ++ [q]) :=
       (f2.frame fun k hk hne => ⟨(set_ne hne).trans (List.getElem?_append_left hk), hne⟩).snoc ⟨_, _, rfl, (set_ne (by omega)).trans ((List.getElem?_append_left (by omega)).trans f3), by omega⟩
      simp only [simprocAttr, R1, b131_3, hl_1, h0_1, h1_1, h5_1, h6_1, h7_1, h8_1, h11_1, h12_1, h13_1, eq_false hge3, hw, le1, get_last, wap]
      refine And.intro rfl ⟨E.length + 1, c3 + 1, _, set_app_key (by simp; omega), r1.frame fun k hk _ => ⟨rfl, trivial⟩, ?_⟩
      simp only [simprocAttr, R1, hl_1, h0_1, h1_1, h5_1, h6_1, h7_1, h8_1, h11_1, h12_1, h13_1, List.length_append]
 ·clear hl_0 h0_0 h1_0
  rintro i out e ⟨E, c⟩ ⟨ko, uo, vs, g1, g2, hl_1, h0_1, h1_1, h5_1, h6_1⟩ hge t1 ho
  unfold F131_1_D at ho
  have hE := Option.some.inj ho; subst hE
  simp only at g1 g2
  simp only [simprocAttr, R1, b131_1, hl_1, h0_1, h1_1, h5_1, h6_1, eq_false hge]
  intro ht; subst ht
  refine And.intro (fun _ => trivial) ⟨_, ?_, ko, uo, vs, rfl, g1, g2⟩
  simp only [simprocAttr, R1, fn_out, p131, Rs.ev, hl_1, h5_1]
theorem s131 (p : Int) (rows : List (List Int)) {r : List (List Int)} (hF : F131 p rows = some r) : ans A 131 [V.int .i64 p, V.isl (rows.map Enc.enc)] = some (Enc.enc r) := by
 obtain ⟨_, h', h1, k, u, vs, rfl, h2, h3⟩ := d131 p rows hF
 have := h3.fz h'.clk h2
 unfold ans
 rw [h1]
 exact this
def F122_1_B (a0 : Int) (a1 : Int) (a2 : List (List Int)) (v9_1 : Int) (s : (List (List Int)) × Int) : Option (((List (List Int)) × Int) ⊕ ((List (List Int)) × Int)) :=
 match s with
 | (o0_1, v8_1) =>
  (mkL 8 a1 0).bind fun l5 =>
  (getI l5 v9_1).bind fun x7 =>
  (setI l5 v9_1 1).bind fun l9 =>
  (getI a2 v9_1).bind fun x11 =>
  (F94 x11).bind fun x13 =>
  (app 8 x13 l9).bind fun l16 =>
  (app 24 o0_1 [l16]).bind fun l18 =>
  some (.inl (l18, (x11.length : Int)))
def F122_1_D (a0 : Int) (a1 : Int) (a2 : List (List Int)) (v9_1 : Int) (s : (List (List Int)) × Int) : Option ((List (List Int)) × Int) :=
 match s with
 | (o0_1, v8_1) =>
  some (o0_1, v8_1)
def F122_2_B (zv8_1 : Int) (x20 : List (List Int)) (v13_2 : Int) (o1_2 : (List (List Int))) : Option (((List (List Int))) ⊕ ((List (List Int)))) :=
 (getI x20 v13_2).bind fun x26 =>
(F81 x26).bind fun x28 =>
if zv8_1 ≤ x28 then
 (slI x26 zv8_1 (x26.length : Int)).bind fun l31 =>
 (F94 l31).bind fun x33 =>
 (app 24 o1_2 [x33]).bind fun l36 =>
 some (.inl l36)
else
 some (.inl o1_2)
def F122_2_D (zv8_1 : Int) (x20 : List (List Int)) (v13_2 : Int) (o1_2 : (List (List Int))) : Option ((List (List Int))) :=
 some o1_2
def F122 (a0 : Int) (a1 : Int) (a2 : List (List Int)) : Option (List (List Int)) :=
 (forR 0 a1 (F122_1_B a0 a1 a2) (F122_1_D a0 a1 a2) ([], 0)).bind fun t19 => match t19 with
  | (zo0_1, zv8_1) =>
   (F131 a0 zo0_1).bind fun x20 =>
   (forR 0 (x20.length : Int) (F122_2_B zv8_1 x20) (F122_2_D zv8_1 x20) ([] : (List (List Int)))).bind fun zo1_2 =>
   some zo1_2
def I122_1 (a0 : Int) (a1 : Int) (a2 : List (List Int))  (v9_1 : Int) (s : (List (List Int)) × Int) (e : Env) (h : Heap) : Prop :=
 match s with
 | (o0_1, v8_1) =>
  ∃ u2 k3 : Nat, h = ⟨[(u2, some (o0_1.map Enc.enc))], k3⟩ ∧ e.length = 68 ∧ e.at 0 = V.int .i64 a0 ∧ e.at 1 = V.int .i64 a1 ∧ e.at 2 = V.isl (a2.map Enc.enc) ∧ e.at 7 = V.sl 0 u2 0 o0_1.length 1 ∧ e.at 8 = V.int .i64 v8_1 ∧ e.at 9 = V.int .i64 v9_1
def P122_1 (a0 : Int) (a1 : Int) (a2 : List (List Int))  (t : (List (List Int)) × Int) (x : Ex) (e : Env) (h : Heap) : Prop :=
 match t with
 | (zo0_1, zv8_1) =>
  x = .normal ∧ ∃ u2 k3 : Nat, h = ⟨[(u2, some (zo0_1.map Enc.enc))], k3⟩ ∧ e.length = 68 ∧ e.at 0 = V.int .i64 a0 ∧ e.at 7 = V.sl 0 u2 0 zo0_1.length 1 ∧ e.at 8 = V.int .i64 zv8_1
theorem l122_1 (a0 : Int) (a1 : Int) (a2 : List (List Int))   {lo : Int} {s : (List (List Int)) × Int} {t : (List (List Int)) × Int} (hF : forR lo a1 (F122_1_B a0 a1 a2) (F122_1_D a0 a1 a2) s = some t) {e : Env} {h : Heap} (hI : I122_1 a0 a1 a2  lo s e h) : W A c122_1 e h (P122_1 a0 a1 a2  t) := by
 show W A (.block 0 (.loop false b122_1)) e h _
 rw [W_block]
 refine W_forR hF 1 (by rcases s with ⟨_, _⟩; obtain ⟨_, _, rfl, _⟩ := hI; rfl) (I122_1 a0 a1 a2 ) hI ?_ ?_
 ·rintro v9_1 ⟨o0_1, v8_1⟩ e h ⟨u2, k3, rfl, hl_1, h0_1, h1_1, h2_1, h7_1, h8_1, h9_1⟩ hlt hw o ho
  unfold F122_1_B at ho
  dsimp only at ho
  obtain ⟨l5, gl5, ho⟩ := bS ho
  obtain ⟨w6a, w6b, w6c, w6d, w6e⟩ := mkL_w gl5
  replace w6e : (List.replicate (Int.toNat a1) [V.int .i64 0]).flatten = List.map Enc.enc l5 := w6e
  obtain ⟨x7, gx7, ho⟩ := bS ho
  obtain ⟨w8a, w8b⟩ := getI_w gx7
  have w8c := getI_lt gx7
  replace w8c : v9_1 < (((Int.toNat a1) : Nat) : Int) := by first | exact w8c | (simp only [w6d] at w8c ⊢; exact w8c)
  have w8d : List.drop (Int.toNat v9_1) (l5.map Enc.enc) = (V.int .i64 x7) :: List.drop ((Int.toNat v9_1) + 1) (l5.map Enc.enc) := drop_enc w8b
  obtain ⟨l9, gl9, ho⟩ := bS ho
  obtain ⟨w10a, w10b, w10c, w10d, w10e⟩ := setI_w gl9
  replace w10e : List.take (Int.toNat v9_1) (l5.map Enc.enc) ++ [V.int .i64 1] ++ List.drop (Int.toNat v9_1 + 1) (l5.map Enc.enc) = List.map Enc.enc l9 := w10e
  obtain ⟨x11, gx11, ho⟩ := bS ho
  obtain ⟨w12a, w12b⟩ := getI_w gx11
  obtain ⟨x13, gx13, ho⟩ := bS ho
  have w14 : tans A 94 [1] [V.isl (x11.map Enc.enc)] = some (V.isl (x13.map Enc.enc)) := t94 x11  gx13
  have w14t := thaw_one (α := Int) x13
  obtain ⟨l16, gl16, ho⟩ := bS ho
  have w15 := fun ents key uid clk he => appendV_w (α := Int) (n := x13.length) (m := (Int.toNat a1)) (ds := List.map Enc.enc l9) gl16 (by first | rfl | simp only [w6d, w10d]) (by first | rfl | simp only [w6d, w10d]) rfl ents key uid clk he
  have w15l := app_len gl16
  obtain ⟨l18, gl18, ho⟩ := bS ho
  have w17 := fun ents key uid clk he => appendV_w (α := List Int) (n := o0_1.length) (m := 1) (ds := [V.isl (l16.map Enc.enc)]) gl18 (by first | rfl | simp only [w6d, w10d]) (by first | rfl | simp only [w6d, w10d]) rfl ents key uid clk he
  have w17l := app_len gl18
  have hE := Option.some.inj ho; subst hE
  simp only [↓reduceIte, Nat.reduceAdd, Nat.reduceMul, Nat.reduceSub, Nat.reduceLT, Nat.reduceLeDiff, Nat.reduceEqDiff, Nat.reducePow, Int.reducePow, Int.reduceLE, Int.reduceLT, Int.reduceEq, Int.reduceToNat, reduceCtorEq, R0, b122_1, hl_1, h0_1, h1_1, h2_1, h7_1, h8_1, h9_1, eq_true hlt, hw, w6a, w6b, w6c, w6e, w8a, w8b, w8c, w8d, w10a, w10b, w10c, w10e, w12a, w12b, w14, w14t, take_len (α := Int) (l := l9) (n := (Int.toNat a1)) (by first | rfl | simp only [w6d, w10d]), eq_true (le_of_len (l := l9) (n := (Int.toNat a1)) (by first | rfl | simp only [w6d, w10d])), w15, takes (α := Int) l16, w17]
  refine And.intro rfl (Exists.intro _ ( Exists.intro _ ( And.intro rfl ?_)))
  simp only [↓reduceIte, Nat.reduceAdd, Nat.reduceMul, Nat.reduceSub, Nat.reduceLT, Nat.reduceLeDiff, Nat.reduceEqDiff, Nat.reducePow, Int.reducePow, Int.reduceLE, Int.reduceLT, Int.reduceEq, Int.reduceToNat, reduceCtorEq, R0, hl_1, h0_1, h1_1, h2_1, h7_1, h8_1, h9_1, eq_true hlt, hw, w6a, w6b, w6c, w6e, w8a, w8b, w8c, w8d, w10a, w10b, w10c, w10e, w12a, w12b, w14, w14t, take_len (α := Int) (l := l9) (n := (Int.toNat a1)) (by first | rfl | simp only [w6d, w10d]), eq_true (le_of_len (l := l9) (n := (Int.toNat a1)) (by first | rfl | simp only [w6d, w10d])), w15, takes (α := Int) l16, w17, w6d, w10d]
 ·rintro v9_1 ⟨o0_1, v8_1⟩ e h ⟨u2, k3, rfl, hl_1, h0_1, h1_1, h2_1, h7_1, h8_1, h9_1⟩ hge t1 ho
  unfold F122_1_D at ho
  dsimp only at ho
  have hE := Option.some.inj ho; subst hE
  simp only [↓reduceIte, Nat.reduceAdd, Nat.reduceMul, Nat.reduceSub, Nat.reduceLT, Nat.reduceLeDiff, Nat.reduceEqDiff, Nat.reducePow, Int.reducePow, Int.reduceLE, Int.reduceLT, Int.reduceEq, Int.reduceToNat, reduceCtorEq, R0, b122_1, hl_1, h0_1, h1_1, h2_1, h7_1, h8_1, h9_1, eq_false hge]
  intro ht; subst ht
  refine And.intro rfl (Exists.intro _ ( Exists.intro _ ( And.intro rfl ?_)))
  simp only [↓reduceIte, Nat.reduceAdd, Nat.reduceMul, Nat.reduceSub, Nat.reduceLT, Nat.reduceLeDiff, Nat.reduceEqDiff, Nat.reducePow, Int.reducePow, Int.reduceLE, Int.reduceLT, Int.reduceEq, Int.reduceToNat, reduceCtorEq, R0, hl_1, h0_1, h1_1, h2_1, h7_1, h8_1, h9_1, eq_false hge]
def I122_2 (zv8_1 : Int) (x20 : List (List Int))  (v13_2 : Int) (o1_2 : (List (List Int))) (e : Env) (h : Heap) : Prop :=
 ∃ u23 k24 : Nat, h = ⟨[(0, none), (u23, some (o1_2.map Enc.enc))], k24⟩ ∧ e.length = 68 ∧ e.at 8 = V.int .i64 zv8_1 ∧ e.at 11 = V.isl (x20.map Enc.enc) ∧ e.at 12 = V.sl 1 u23 0 o1_2.length 1 ∧ e.at 13 = V.int .i64 v13_2
def P122_2 (zv8_1 : Int) (x20 : List (List Int))  (zo1_2 : (List (List Int))) (x : Ex) (e : Env) (h : Heap) : Prop :=
 x = .normal ∧ ∃ u23 k24 : Nat, h = ⟨[(0, none), (u23, some (zo1_2.map Enc.enc))], k24⟩ ∧ e.length = 68 ∧ e.at 12 = V.sl 1 u23 0 zo1_2.length 1
theorem l122_2 (zv8_1 : Int) (x20 : List (List Int))   {lo : Int} {s : (List (List Int))} {t : (List (List Int))} (hF : forR lo (x20.length : Int) (F122_2_B zv8_1 x20) (F122_2_D zv8_1 x20) s = some t) {e : Env} {h : Heap} (hI : I122_2 zv8_1 x20  lo s e h) : W A c122_2 e h (P122_2 zv8_1 x20  t) := by
 show W A (.block 2 (.loop false b122_2)) e h _
 rw [W_block]
 refine W_forR hF 2 (by obtain ⟨_, _, rfl, _⟩ := hI; rfl) (I122_2 zv8_1 x20 ) hI ?_ ?_
 ·rintro v13_2 o1_2 e h ⟨u23, k24, rfl, h_22⟩ hlt hw o ho
  unfold F122_2_B at ho
  obtain ⟨x26, gx26, ho⟩ := bS ho
  obtain ⟨w27a, w27b⟩ := getI_w gx26
  obtain ⟨x28, gx28, ho⟩ := bS ho
  have w29 : ans A 81 [V.isl (x26.map Enc.enc)] = some (V.int .i64 x28) := s81 x26  gx28
  by_cases c30 : zv8_1 ≤ x28
  ·rw [if_pos c30] at ho
   obtain ⟨l31, gl31, ho⟩ := bS ho
   have w32 : sliceV 1 (V.isl (x26.map Enc.enc)) (some (V.int .i64 zv8_1)) none = some (V.isl (l31.map Enc.enc)) := sliceV_w (α := Int) One.one gl31 (.inr rfl) (.inl ⟨rfl, rfl⟩)
   obtain ⟨x33, gx33, ho⟩ := bS ho
   have w34 : ans A 94 [V.isl (l31.map Enc.enc)] = some (V.isl (x33.map Enc.enc)) := s94 l31  gx33
   obtain ⟨l36, gl36, ho⟩ := bS ho
   have w35 := fun a b c d e => appendV_w (α := List Int) (n := o1_2.length) (m := 1) (ds := [V.isl (x33.map Enc.enc)]) gl36 (by first | rfl | simp) (by first | rfl | simp) rfl a b c d e
   have w35l := app_len gl36
   cases ho
   simp only [simprocAttr, R0, b122_2, h_22, eq_true hlt, hw, w27a, w27b, w29, eq_true c30, w32, w34, w35]
   refine And.intro rfl (Exists.intro _ ( Exists.intro _ ( And.intro rfl ?_)))
   simp only [simprocAttr, R0, h_22, eq_true hlt, hw, w27a, w27b, w29, eq_true c30, w32, w34, w35]
  ·rw [if_neg c30] at ho
   cases ho
   simp only [simprocAttr, R0, b122_2, h_22, eq_true hlt, hw, w27a, w27b, w29, eq_false c30]
   refine And.intro rfl (Exists.intro _ ( Exists.intro _ ( And.intro rfl ?_)))
   simp only [simprocAttr, R0, h_22, eq_true hlt, hw, w27a, w27b, w29, eq_false c30]
 ·rintro v13_2 o1_2 e h ⟨u23, k24, rfl, h_22⟩ hge t1 ho
  unfold F122_2_D at ho
  cases ho
  simp only [simprocAttr, R0, b122_2, h_22, eq_false hge]
  intro ht; subst ht
  refine And.intro rfl (Exists.intro _ ( Exists.intro _ ( And.intro rfl ?_)))
  simp only [simprocAttr, R0, h_22, eq_false hge]
theorem s122 (a0 : Int) (a1 : Int) (a2 : List (List Int))   {r : List (List Int)} (hF : F122 a0 a1 a2 = some r) : ans A 122 [V.int .i64 a0, V.int .i64 a1, V.isl (a2.map Enc.enc)] = some (Enc.enc r) := by
 refine ans_of (f := p122) rfl rfl rfl fun e hl he => ?_
 have h0_0 : e.at 0 = V.int .i64 a0 := he 0 _ rfl
 have h1_0 : e.at 1 = V.int .i64 a1 := he 1 _ rfl
 have h2_0 : e.at 2 = V.isl (a2.map Enc.enc) := he 2 _ rfl
 have hl_0 : e.length = 68 := hl
 clear he hl
 show W A b122 e ⟨[], 0⟩ _
 unfold F122 at hF
 obtain ⟨⟨zo0_1, zv8_1⟩, gt19, hF⟩ := bS hF
 dsimp only at hF
 simp only [simprocAttr, R0, b122, hl_0, h0_0, h1_0, h2_0]
 refine W.mono (l122_1 a0 a1 a2   gt19 (Exists.intro _ ( Exists.intro _ ( And.intro rfl ?_)))) ?_
 ·simp only [simprocAttr, R0, hl_0, h0_0, h1_0, h2_0]
 rintro _ e _ ⟨rfl, u2, k3, rfl, h_4⟩
 obtain ⟨x20, gx20, hF⟩ := bS hF
 have w21 : ans A 131 [V.int .i64 a0, V.isl (zo0_1.map Enc.enc)] = some (V.isl (x20.map Enc.enc)) := s131 a0 zo0_1  gx20
 obtain ⟨zo1_2, gt37, hF⟩ := bS hF
 simp only [simprocAttr, R0, h_4, takes (α := List Int) zo0_1, w21]
 refine W.mono (l122_2 zv8_1 x20   gt37 (Exists.intro _ ( Exists.intro _ ( And.intro rfl ?_)))) ?_
 ·simp only [simprocAttr, R0, h_4, takes (α := List Int) zo0_1, w21]
 rintro _ e _ ⟨rfl, u23, k24, rfl, h_25⟩
 have hE := Option.some.inj hF; subst hE
 simp only [simprocAttr, R0, h_25]
 exact fin_ret (by simp only [simprocAttr, R0, fn_out, p122, Rs.ev, take_len_self, h_25, frzs (α := List Int) zo1_2, takes (α := List Int) zo1_2])
def F98 (a0 : GComplex) (a1 : Int) : Option (List (List Int)) :=
 (F99 a0 a1).bind fun x1 =>
 (F76 a0 a1).bind fun x3 =>
 (F122 a0.Prime x1 x3).bind fun x5 =>
 some x5
theorem s98 (a0 : GComplex) (a1 : Int)   {r : List (List Int)} (hF : F98 a0 a1 = some r) : ans A 98 [(eC a0), V.int .i64 a1] = some (Enc.enc r) := by
 refine ans_of (f := p98) rfl rfl rfl fun e hl he => ?_
 have h0_0 : e.at 0 = (eC a0) := he 0 _ rfl
 have h1_0 : e.at 1 = V.int .i64 a1 := he 1 _ rfl
 have hl_0 : e.length = 14 := hl
 clear he hl
 show W A b98 e ⟨[], 0⟩ _
 unfold F98 at hF
 obtain ⟨x1, gx1, hF⟩ := bS hF
 have w2 : ans A 99 [(eC a0), V.int .i64 a1] = some (V.int .i64 x1) := s99 a0 a1  gx1
 obtain ⟨x3, gx3, hF⟩ := bS hF
 have w4 : ans A 76 [(eC a0), V.int .i64 a1] = some (V.isl (x3.map Enc.enc)) := s76 a0 a1  gx3
 obtain ⟨x5, gx5, hF⟩ := bS hF
 have w6 : ans A 122 [V.int .i64 a0.Prime, V.int .i64 x1, V.isl (x3.map Enc.enc)] = some (V.isl (x5.map Enc.enc)) := s122 a0.Prime x1 x3  gx5
 cases hF
 simp only [simprocAttr, R0, b98, hl_0, h0_0, h1_0, w2, w4, w6]
 exact fin_ret (by simp only [simprocAttr, R0, fn_out, p98, Rs.ev, take_len_self, hl_0, h0_0, h1_0, w2, w4, w6])
def F251 (a0 : GComplex) (a1 : Int) : Option (List (List Int)) :=
 (chk (a1 + 1)).bind fun x1 =>
 (F76 a0 x1).bind fun x2 =>
 (F131 a0.Prime x2).bind fun x4 =>
 some x4
theorem s251 (a0 : GComplex) (a1 : Int)   {r : List (List Int)} (hF : F251 a0 a1 = some r) : ans A 251 [(eC a0), V.int .i64 a1] = some (Enc.enc r) := by
 refine ans_of (f := p251) rfl rfl rfl fun e hl he => ?_
 have h0_0 : e.at 0 = (eC a0) := he 0 _ rfl
 have h1_0 : e.at 1 = V.int .i64 a1 := he 1 _ rfl
 have hl_0 : e.length = 12 := hl
 clear he hl
 show W A b251 e ⟨[], 0⟩ _
 unfold F251 at hF
 obtain ⟨x1, gx1, hF⟩ := bS hF
 have wx1 := chk_w gx1
 obtain ⟨x2, gx2, hF⟩ := bS hF
 have w3 : ans A 76 [(eC a0), V.int .i64 x1] = some (V.isl (x2.map Enc.enc)) := s76 a0 x1  gx2
 obtain ⟨x4, gx4, hF⟩ := bS hF
 have w5 : ans A 131 [V.int .i64 a0.Prime, V.isl (x2.map Enc.enc)] = some (V.isl (x4.map Enc.enc)) := s131 a0.Prime x2  gx4
 cases hF
 simp only [simprocAttr, R0, b251, hl_0, h0_0, h1_0, wx1, w3, w5]
 exact fin_ret (by simp only [simprocAttr, R0, fn_out, p251, Rs.ev, take_len_self, hl_0, h0_0, h1_0, wx1, w3, w5])
def F283 (a0 : GComplex) (a1 : Int) : Option Int :=
 (F98 a0 a1).bind fun x1 =>
 (F251 a0 a1).bind fun x3 =>
 (chk ((x1.length : Int) - (x3.length : Int))).bind fun x5 =>
 some x5
theorem s283 (a0 : GComplex) (a1 : Int)   {r : Int} (hF : F283 a0 a1 = some r) : ans A 283 [(eC a0), V.int .i64 a1] = some (Enc.enc r) := by
 refine ans_of (f := p283) rfl rfl rfl fun e hl he => ?_
 have h0_0 : e.at 0 = (eC a0) := he 0 _ rfl
 have h1_0 : e.at 1 = V.int .i64 a1 := he 1 _ rfl
 have hl_0 : e.length = 14 := hl
 clear he hl
 show W A b283 e ⟨[], 0⟩ _
 unfold F283 at hF
 obtain ⟨x1, gx1, hF⟩ := bS hF
 have w2 : ans A 98 [(eC a0), V.int .i64 a1] = some (V.isl (x1.map Enc.enc)) := s98 a0 a1  gx1
 obtain ⟨x3, gx3, hF⟩ := bS hF
 have w4 : ans A 251 [(eC a0), V.int .i64 a1] = some (V.isl (x3.map Enc.enc)) := s251 a0 a1  gx3
 obtain ⟨x5, gx5, hF⟩ := bS hF
 have wx5 := chk_w gx5
 cases hF
 simp only [simprocAttr, R0, b283, hl_0, h0_0, h1_0, w2, w4, wx5]
 exact fin_ret (by simp only [simprocAttr, R0, fn_out, p283, Rs.ev, take_len_self, hl_0, h0_0, h1_0, w2, w4, wx5])
def F282_1_B (a0 : GComplex) (a1 : GContraction) (v5_1 : Int) (s : Unit) : Option ((Unit) ⊕ ((Unit) ⊕ Bool)) :=
 (F283 a0 v5_1).bind fun x7 =>
(getI a1.Down v5_1).bind fun x9 =>
(getI a0.Dims v5_1).bind fun x11 =>
(F93 a0.Prime x9 x11 x7).bind fun x13 =>
if x13 = true then
 (getI a1.Up v5_1).bind fun x15 =>
 (F93 a0.Prime x15 x7 x11).bind fun x17 =>
 if x17 = true then
  (getI a1.Back v5_1).bind fun x19 =>
  (F99 a0 (v5_1 + 1)).bind fun x21 =>
  (F93 a0.Prime x19 x11 x21).bind fun x23 =>
  if x23 = true then
   some (.inl ())
  else
   some (.inr (.inr false))
 else
  some (.inr (.inr false))
else
 some (.inr (.inr false))
def F282_1_D (a0 : GComplex) (a1 : GContraction) (v5_1 : Int) (s : Unit) : Option ((Unit) ⊕ Bool) :=
 some (.inl ())
def F282 (a0 : GComplex) (a1 : GContraction) : Option Bool :=
 if (a1.Down.length : Int) = (a0.Dims.length : Int) then
  if (a1.Up.length : Int) = (a0.Dims.length : Int) then
   if (a1.Back.length : Int) = (a0.Dims.length : Int) then
    (forR 0 (a0.Dims.length : Int) (F282_1_B a0 a1) (F282_1_D a0 a1) ()).bind fun t25 => match t25 with
     | .inl _ =>
      some true
     | .inr r26 => some r26
   else
    some false
  else
   some false
 else
  some false
def I282_1 (a0 : GComplex) (a1 : GContraction)  (v5_1 : Int) (s : Unit) (e : Env) (h : Heap) : Prop :=
 ∃ k5 : Nat, h = ⟨[(0, none), (0, none)], k5⟩ ∧ e.length = 94 ∧ e.at 2 = V.iptr [V.int .i64 a0.Prime, V.isl (a0.Dims.map Enc.enc), V.isl (a0.Maps.map Enc.enc)] ∧ e.at 3 = V.iptr [V.isl (a1.Down.map Enc.enc), V.isl (a1.Up.map Enc.enc), V.isl (a1.Back.map Enc.enc)] ∧ e.at 5 = V.int .i64 v5_1
def P282_1 (a0 : GComplex) (a1 : GContraction)  (t : (Unit) ⊕ Bool) (x : Ex) (e : Env) (h : Heap) : Prop :=
 match t with
 | .inl _ => x = .normal ∧ ∃ k5 : Nat, h = ⟨[(0, none), (0, none)], k5⟩ ∧ e.length = 94
 | .inr r => x = .ret ∧ Fin p282 (Enc.enc r) .ret e h
theorem l282_1 (a0 : GComplex) (a1 : GContraction)   {lo : Int} {s : Unit} {t : (Unit) ⊕ Bool} (hF : forR lo (a0.Dims.length : Int) (F282_1_B a0 a1) (F282_1_D a0 a1) s = some t) {e : Env} {h : Heap} (hI : I282_1 a0 a1  lo s e h) : W A c282_1 e h (P282_1 a0 a1  t) := by
 show W A (.block 0 (.loop false b282_1)) e h _
 rw [W_block]
 refine W_forR hF 2 (by obtain ⟨_, rfl, _⟩ := hI; rfl) (I282_1 a0 a1 ) hI ?_ ?_
 ·rintro v5_1 _ e h ⟨k5, rfl, h_4⟩ hlt hw o ho
  unfold F282_1_B at ho
  obtain ⟨x7, gx7, ho⟩ := bS ho
  have w8 : ans A 283 [(eC a0), V.int .i64 v5_1] = some (V.int .i64 x7) := s283 a0 v5_1  gx7
  obtain ⟨x9, gx9, ho⟩ := bS ho
  obtain ⟨w10a, w10b⟩ := getI_w gx9
  obtain ⟨x11, gx11, ho⟩ := bS ho
  obtain ⟨w12a, w12b⟩ := getI_w gx11
  obtain ⟨x13, gx13, ho⟩ := bS ho
  have w14 : ans A 93 [V.int .i64 a0.Prime, V.isl (x9.map Enc.enc), V.int .i64 x11, V.int .i64 x7] = some (V.bool x13) := s93 a0.Prime x9 x11 x7  gx13
  cases x13 with
  | true =>
   rw [if_pos rfl] at ho
   obtain ⟨x15, gx15, ho⟩ := bS ho
   obtain ⟨w16a, w16b⟩ := getI_w gx15
   obtain ⟨x17, gx17, ho⟩ := bS ho
   have w18 : ans A 93 [V.int .i64 a0.Prime, V.isl (x15.map Enc.enc), V.int .i64 x7, V.int .i64 x11] = some (V.bool x17) := s93 a0.Prime x15 x7 x11  gx17
   cases x17 with
   | true =>
    rw [if_pos rfl] at ho
    obtain ⟨x19, gx19, ho⟩ := bS ho
    obtain ⟨w20a, w20b⟩ := getI_w gx19
    obtain ⟨x21, gx21, ho⟩ := bS ho
    have w22 : ans A 99 [(eC a0), V.int .i64 (v5_1 + 1)] = some (V.int .i64 x21) := s99 a0 (v5_1 + 1)  gx21
    obtain ⟨x23, gx23, ho⟩ := bS ho
    have w24 : ans A 93 [V.int .i64 a0.Prime, V.isl (x19.map Enc.enc), V.int .i64 x11, V.int .i64 x21] = some (V.bool x23) := s93 a0.Prime x19 x11 x21  gx23
    cases x23 with
    | true =>
     rw [if_pos rfl] at ho
     cases ho
     simp only [simprocAttr, R0, b282_1, h_4, eq_true hlt, hw, w8, w10a, w10b, w12a, w12b, w14, w16a, w16b, w18, w20a, w20b, w22, w24]
     refine And.intro rfl (Exists.intro _ ( And.intro rfl ?_))
     simp only [simprocAttr, R0, h_4, eq_true hlt, hw, w8, w10a, w10b, w12a, w12b, w14, w16a, w16b, w18, w20a, w20b, w22, w24]
    | false =>
     rw [if_neg Bool.false_ne_true] at ho
     cases ho
     simp only [simprocAttr, R0, b282_1, h_4, eq_true hlt, hw, w8, w10a, w10b, w12a, w12b, w14, w16a, w16b, w18, w20a, w20b, w22, w24]
     intro ht; subst ht
     simp only [simprocAttr, RR, RB]
     exact And.intro rfl (fin_ret (by simp only [simprocAttr, R0, fn_out, p282, Rs.ev, take_len_self, h_4, eq_true hlt, hw, w8, w10a, w10b, w12a, w12b, w14, w16a, w16b, w18, w20a, w20b, w22, w24]))
   | false =>
    rw [if_neg Bool.false_ne_true] at ho
    cases ho
    simp only [simprocAttr, R0, b282_1, h_4, eq_true hlt, hw, w8, w10a, w10b, w12a, w12b, w14, w16a, w16b, w18]
    intro ht; subst ht
    simp only [simprocAttr, RR, RB]
    exact And.intro rfl (fin_ret (by simp only [simprocAttr, R0, fn_out, p282, Rs.ev, take_len_self, h_4, eq_true hlt, hw, w8, w10a, w10b, w12a, w12b, w14, w16a, w16b, w18]))
  | false =>
   rw [if_neg Bool.false_ne_true] at ho
   cases ho
   simp only [simprocAttr, R0, b282_1, h_4, eq_true hlt, hw, w8, w10a, w10b, w12a, w12b, w14]
   intro ht; subst ht
   simp only [simprocAttr, RR, RB]
   exact And.intro rfl (fin_ret (by simp only [simprocAttr, R0, fn_out, p282, Rs.ev, take_len_self, h_4, eq_true hlt, hw, w8, w10a, w10b, w12a, w12b, w14]))
 ·rintro v5_1 _ e h ⟨k5, rfl, h_4⟩ hge t1 ho
  unfold F282_1_D at ho
  cases ho
  simp only [simprocAttr, R0, b282_1, h_4, eq_false hge]
  intro ht; subst ht
  refine And.intro rfl (Exists.intro _ ( And.intro rfl ?_))
  simp only [simprocAttr, R0, h_4, eq_false hge]
theorem s282 (a0 : GComplex) (a1 : GContraction)   {r : Bool} (hF : F282 a0 a1 = some r) : ans A 282 [(eC a0), (eK a1)] = some (Enc.enc r) := by
 refine ans_of (f := p282) rfl rfl rfl fun e hl he => ?_
 have h0_0 : e.at 0 = (eC a0) := he 0 _ rfl
 have h1_0 : e.at 1 = (eK a1) := he 1 _ rfl
 have hl_0 : e.length = 94 := hl
 clear he hl
 have h_0 := And.intro hl_0 (And.intro h0_0 h1_0)
 show W A b282 e ⟨[], 0⟩ _
 unfold F282 at hF
 by_cases c1 : (a1.Down.length : Int) = (a0.Dims.length : Int)
 ·rw [if_pos c1] at hF
  by_cases c2 : (a1.Up.length : Int) = (a0.Dims.length : Int)
  ·rw [if_pos c2] at hF
   by_cases c3 : (a1.Back.length : Int) = (a0.Dims.length : Int)
   ·rw [if_pos c3] at hF
    obtain ⟨t25, gt25, hF⟩ := bS hF
    rcases t25 with _ | r26
    ·dsimp only at hF
     simp only [simprocAttr, R0, b282, h_0, eq_true c1, eq_true c2, eq_true c3]
     refine W.mono (l282_1 a0 a1   gt25 (Exists.intro _ ( And.intro rfl ?_))) ?_
     ·simp only [simprocAttr, R0, h_0, eq_true c1, eq_true c2, eq_true c3]
     rintro _ e _ ⟨rfl, k5, rfl, hl_6⟩
     cases hF
     simp only [simprocAttr, R0, hl_6, eq_true c1, eq_true c2, eq_true c3]
     exact fin_ret (by simp only [simprocAttr, R0, fn_out, p282, Rs.ev, take_len_self, hl_6, eq_true c1, eq_true c2, eq_true c3])
    ·dsimp only at hF
     cases hF
     simp only [simprocAttr, R0, b282, h_0, eq_true c1, eq_true c2, eq_true c3]
     refine W.mono (l282_1 a0 a1   gt25 (Exists.intro _ ( And.intro rfl ?_))) ?_
     ·simp only [simprocAttr, R0, h_0, eq_true c1, eq_true c2, eq_true c3]
     rintro _ e h ⟨rfl, hq⟩
     simp only [simprocAttr, RR, RB]
     exact hq
   ·rw [if_neg c3] at hF
    cases hF
    simp only [simprocAttr, R0, b282, h_0, eq_true c1, eq_true c2, eq_false c3]
    exact fin_ret (by simp only [simprocAttr, R0, fn_out, p282, Rs.ev, take_len_self, h_0, eq_true c1, eq_true c2, eq_false c3])
  ·rw [if_neg c2] at hF
   cases hF
   simp only [simprocAttr, R0, b282, h_0, eq_true c1, eq_false c2]
   exact fin_ret (by simp only [simprocAttr, R0, fn_out, p282, Rs.ev, take_len_self, h_0, eq_true c1, eq_false c2])
 ·rw [if_neg c1] at hF
  cases hF
  simp only [simprocAttr, R0, b282, h_0, eq_false c1]
  exact fin_ret (by simp only [simprocAttr, R0, fn_out, p282, Rs.ev, take_len_self, h_0, eq_false c1])
def F284 (a0 : GComplex) (a1 : GContraction) (a2 : Int) (a3 : List Int) : Option (List Int) :=
 (getI a1.Up a2).bind fun x1 =>
 (F99 a0 a2).bind fun x3 =>
 (F80 a0.Prime x1 a3 x3).bind fun x5 =>
 some x5
theorem s284 (a0 : GComplex) (a1 : GContraction) (a2 : Int) (a3 : List Int)   {r : List Int} (hF : F284 a0 a1 a2 a3 = some r) : ans A 284 [(eC a0), (eK a1), V.int .i64 a2, V.isl (a3.map Enc.enc)] = some (Enc.enc r) := by
 refine ans_of (f := p284) rfl rfl rfl fun e hl he => ?_
 have h0_0 : e.at 0 = (eC a0) := he 0 _ rfl
 have h1_0 : e.at 1 = (eK a1) := he 1 _ rfl
 have h2_0 : e.at 2 = V.int .i64 a2 := he 2 _ rfl
 have h3_0 : e.at 3 = V.isl (a3.map Enc.enc) := he 3 _ rfl
 have hl_0 : e.length = 21 := hl
 clear he hl
 show W A b284 e ⟨[], 0⟩ _
 unfold F284 at hF
 obtain ⟨x1, gx1, hF⟩ := bS hF
 obtain ⟨w2a, w2b⟩ := getI_w gx1
 obtain ⟨x3, gx3, hF⟩ := bS hF
 have w4 : ans A 99 [(eC a0), V.int .i64 a2] = some (V.int .i64 x3) := s99 a0 a2  gx3
 obtain ⟨x5, gx5, hF⟩ := bS hF
 have w6 : ans A 80 [V.int .i64 a0.Prime, V.isl (x1.map Enc.enc), V.isl (a3.map Enc.enc), V.int .i64 x3] = some (V.isl (x5.map Enc.enc)) := s80 a0.Prime x1 a3 x3  gx5
 cases hF
 simp only [simprocAttr, R0, b284, hl_0, h0_0, h1_0, h2_0, h3_0, w2a, w2b, w4, w6]
 exact fin_ret (by simp only [simprocAttr, R0, fn_out, p284, Rs.ev, take_len_self, hl_0, h0_0, h1_0, h2_0, h3_0, w2a, w2b, w4, w6])
def F285_1_B (a0 : List Int) (v3_1 : Int) (s : Unit) : Option ((Unit) ⊕ ((Unit) ⊕ Bool)) :=
 (getI a0 v3_1).bind fun x4 =>
if x4 = 0 then
 some (.inl ())
else
 some (.inr (.inr false))
def F285_1_D (a0 : List Int) (v3_1 : Int) (s : Unit) : Option ((Unit) ⊕ Bool) :=
 some (.inl ())
def F285 (a0 : List Int) : Option Bool :=
 (forR 0 (a0.length : Int) (F285_1_B a0) (F285_1_D a0) ()).bind fun t7 => match t7 with
  | .inl _ =>
   some true
  | .inr r8 => some r8
def I285_1 (a0 : List Int)  (v3_1 : Int) (s : Unit) (e : Env) (h : Heap) : Prop :=
 ∃ k2 : Nat, h = ⟨[], k2⟩ ∧ e.length = 15 ∧ e.at 0 = V.isl (a0.map Enc.enc) ∧ e.at 3 = V.int .i64 v3_1
def P285_1 (a0 : List Int)  (t : (Unit) ⊕ Bool) (x : Ex) (e : Env) (h : Heap) : Prop :=
 match t with
 | .inl _ => x = .normal ∧ ∃ k2 : Nat, h = ⟨[], k2⟩ ∧ e.length = 15
 | .inr r => x = .ret ∧ Fin p285 (Enc.enc r) .ret e h
theorem l285_1 (a0 : List Int)   {lo : Int} {s : Unit} {t : (Unit) ⊕ Bool} (hF : forR lo (a0.length : Int) (F285_1_B a0) (F285_1_D a0) s = some t) {e : Env} {h : Heap} (hI : I285_1 a0  lo s e h) : W A c285_1 e h (P285_1 a0  t) := by
 show W A (.block 0 (.loop false b285_1)) e h _
 rw [W_block]
 refine W_forR hF 0 (by obtain ⟨_, rfl, _⟩ := hI; rfl) (I285_1 a0 ) hI ?_ ?_
 ·rintro v3_1 _ e h ⟨k2, rfl, h_1⟩ hlt hw o ho
  unfold F285_1_B at ho
  obtain ⟨x4, gx4, ho⟩ := bS ho
  obtain ⟨w5a, w5b⟩ := getI_w gx4
  by_cases c6 : x4 = 0
  ·rw [if_pos c6] at ho
   cases ho
   simp only [simprocAttr, R0, b285_1, h_1, eq_true hlt, hw, w5a, w5b, eq_true c6]
   refine And.intro rfl (Exists.intro _ ( And.intro rfl ?_))
   simp only [simprocAttr, R0, h_1, eq_true hlt, hw, w5a, w5b, eq_true c6]
  ·rw [if_neg c6] at ho
   cases ho
   simp only [simprocAttr, R0, b285_1, h_1, eq_true hlt, hw, w5a, w5b, eq_false c6]
   intro ht; subst ht
   simp only [simprocAttr, RR, RB]
   exact And.intro rfl (fin_ret (by simp only [simprocAttr, R0, fn_out, p285, Rs.ev, take_len_self, h_1, eq_true hlt, hw, w5a, w5b, eq_false c6]))
 ·rintro v3_1 _ e h ⟨k2, rfl, h_1⟩ hge t1 ho
  unfold F285_1_D at ho
  cases ho
  simp only [simprocAttr, R0, b285_1, h_1, eq_false hge]
  intro ht; subst ht
  refine And.intro rfl (Exists.intro _ ( And.intro rfl ?_))
  simp only [simprocAttr, R0, h_1, eq_false hge]
theorem s285 (a0 : List Int)   {r : Bool} (hF : F285 a0 = some r) : ans A 285 [V.isl (a0.map Enc.enc)] = some (Enc.enc r) := by
 refine ans_of (f := p285) rfl rfl rfl fun e hl he => ?_
 have h0_0 : e.at 0 = V.isl (a0.map Enc.enc) := he 0 _ rfl
 have hl_0 : e.length = 15 := hl
 clear he hl
 have h_0 := And.intro hl_0 h0_0
 show W A b285 e ⟨[], 0⟩ _
 unfold F285 at hF
 obtain ⟨t7, gt7, hF⟩ := bS hF
 rcases t7 with _ | r8
 ·dsimp only at hF
  simp only [simprocAttr, R0, b285, h_0]
  refine W.mono (l285_1 a0   gt7 (Exists.intro _ ( And.intro rfl ?_))) ?_
  ·simp only [simprocAttr, R0, h_0]
  rintro _ e _ ⟨rfl, k2, rfl, hl_3⟩
  cases hF
  simp only [simprocAttr, R0, hl_3]
  exact fin_ret (by simp only [simprocAttr, R0, fn_out, p285, Rs.ev, take_len_self, hl_3])
 ·dsimp only at hF
  cases hF
  simp only [simprocAttr, R0, b285, h_0]
  refine W.mono (l285_1 a0   gt7 (Exists.intro _ ( And.intro rfl ?_))) ?_
  ·simp only [simprocAttr, R0, h_0]
  rintro _ e h ⟨rfl, hq⟩
  simp only [simprocAttr, RR, RB]
  exact hq
def F286 (a0 : GComplex) (a1 : GContraction) (a2 : Int) (a3 : List Int) : Option (List Int) :=
 (getI a1.Down a2).bind fun x1 =>
 (F283 a0 a2).bind fun x3 =>
 (F80 a0.Prime x1 a3 x3).bind fun x5 =>
 some x5
theorem s286 (a0 : GComplex) (a1 : GContraction) (a2 : Int) (a3 : List Int)   {r : List Int} (hF : F286 a0 a1 a2 a3 = some r) : ans A 286 [(eC a0), (eK a1), V.int .i64 a2, V.isl (a3.map Enc.enc)] = some (Enc.enc r) := by
 refine ans_of (f := p286) rfl rfl rfl fun e hl he => ?_
 have h0_0 : e.at 0 = (eC a0) := he 0 _ rfl
 have h1_0 : e.at 1 = (eK a1) := he 1 _ rfl
 have h2_0 : e.at 2 = V.int .i64 a2 := he 2 _ rfl
 have h3_0 : e.at 3 = V.isl (a3.map Enc.enc) := he 3 _ rfl
 have hl_0 : e.length = 21 := hl
 clear he hl
 show W A b286 e ⟨[], 0⟩ _
 unfold F286 at hF
 obtain ⟨x1, gx1, hF⟩ := bS hF
 obtain ⟨w2a, w2b⟩ := getI_w gx1
 obtain ⟨x3, gx3, hF⟩ := bS hF
 have w4 : ans A 283 [(eC a0), V.int .i64 a2] = some (V.int .i64 x3) := s283 a0 a2  gx3
 obtain ⟨x5, gx5, hF⟩ := bS hF
 have w6 : ans A 80 [V.int .i64 a0.Prime, V.isl (x1.map Enc.enc), V.isl (a3.map Enc.enc), V.int .i64 x3] = some (V.isl (x5.map Enc.enc)) := s80 a0.Prime x1 a3 x3  gx5
 cases hF
 simp only [simprocAttr, R0, b286, hl_0, h0_0, h1_0, h2_0, h3_0, w2a, w2b, w4, w6]
 exact fin_ret (by simp only [simprocAttr, R0, fn_out, p286, Rs.ev, take_len_self, hl_0, h0_0, h1_0, h2_0, h3_0, w2a, w2b, w4, w6])
def F287_1_B (a0 : List Int) (a1 : List Int) (v5_1 : Int) (s : Unit) : Option ((Unit) ⊕ ((Unit) ⊕ Bool)) :=
 (getI a0 v5_1).bind fun x5 =>
(getI a1 v5_1).bind fun x7 =>
if x5 = x7 then
 some (.inl ())
else
 some (.inr (.inr false))
def F287_1_D (a0 : List Int) (a1 : List Int) (v5_1 : Int) (s : Unit) : Option ((Unit) ⊕ Bool) :=
 some (.inl ())
def F287 (a0 : List Int) (a1 : List Int) : Option Bool :=
 if (a0.length : Int) = (a1.length : Int) then
  (forR 0 (a0.length : Int) (F287_1_B a0 a1) (F287_1_D a0 a1) ()).bind fun t10 => match t10 with
   | .inl _ =>
    some true
   | .inr r11 => some r11
 else
  some false
def I287_1 (a0 : List Int) (a1 : List Int)  (v5_1 : Int) (s : Unit) (e : Env) (h : Heap) : Prop :=
 ∃ k3 : Nat, h = ⟨[], k3⟩ ∧ e.length = 26 ∧ e.at 0 = V.isl (a0.map Enc.enc) ∧ e.at 1 = V.isl (a1.map Enc.enc) ∧ e.at 5 = V.int .i64 v5_1
def P287_1 (a0 : List Int) (a1 : List Int)  (t : (Unit) ⊕ Bool) (x : Ex) (e : Env) (h : Heap) : Prop :=
 match t with
 | .inl _ => x = .normal ∧ ∃ k3 : Nat, h = ⟨[], k3⟩ ∧ e.length = 26
 | .inr r => x = .ret ∧ Fin p287 (Enc.enc r) .ret e h
theorem l287_1 (a0 : List Int) (a1 : List Int)   {lo : Int} {s : Unit} {t : (Unit) ⊕ Bool} (hF : forR lo (a0.length : Int) (F287_1_B a0 a1) (F287_1_D a0 a1) s = some t) {e : Env} {h : Heap} (hI : I287_1 a0 a1  lo s e h) : W A c287_1 e h (P287_1 a0 a1  t) := by
 show W A (.block 0 (.loop false b287_1)) e h _
 rw [W_block]
 refine W_forR hF 0 (by obtain ⟨_, rfl, _⟩ := hI; rfl) (I287_1 a0 a1 ) hI ?_ ?_
 ·rintro v5_1 _ e h ⟨k3, rfl, h_2⟩ hlt hw o ho
  unfold F287_1_B at ho
  obtain ⟨x5, gx5, ho⟩ := bS ho
  obtain ⟨w6a, w6b⟩ := getI_w gx5
  obtain ⟨x7, gx7, ho⟩ := bS ho
  obtain ⟨w8a, w8b⟩ := getI_w gx7
  by_cases c9 : x5 = x7
  ·rw [if_pos c9] at ho
   cases ho
   simp only [simprocAttr, R0, b287_1, h_2, eq_true hlt, hw, w6a, w6b, w8a, w8b, eq_true c9]
   refine And.intro rfl (Exists.intro _ ( And.intro rfl ?_))
   simp only [simprocAttr, R0, h_2, eq_true hlt, hw, w6a, w6b, w8a, w8b, eq_true c9]
  ·rw [if_neg c9] at ho
   cases ho
   simp only [simprocAttr, R0, b287_1, h_2, eq_true hlt, hw, w6a, w6b, w8a, w8b, eq_false c9]
   intro ht; subst ht
   simp only [simprocAttr, RR, RB]
   exact And.intro rfl (fin_ret (by simp only [simprocAttr, R0, fn_out, p287, Rs.ev, take_len_self, h_2, eq_true hlt, hw, w6a, w6b, w8a, w8b, eq_false c9]))
 ·rintro v5_1 _ e h ⟨k3, rfl, h_2⟩ hge t1 ho
  unfold F287_1_D at ho
  cases ho
  simp only [simprocAttr, R0, b287_1, h_2, eq_false hge]
  intro ht; subst ht
  refine And.intro rfl (Exists.intro _ ( And.intro rfl ?_))
  simp only [simprocAttr, R0, h_2, eq_false hge]
theorem s287 (a0 : List Int) (a1 : List Int)   {r : Bool} (hF : F287 a0 a1 = some r) : ans A 287 [V.isl (a0.map Enc.enc), V.isl (a1.map Enc.enc)] = some (Enc.enc r) := by
 refine ans_of (f := p287) rfl rfl rfl fun e hl he => ?_
 have h0_0 : e.at 0 = V.isl (a0.map Enc.enc) := he 0 _ rfl
 have h1_0 : e.at 1 = V.isl (a1.map Enc.enc) := he 1 _ rfl
 have hl_0 : e.length = 26 := hl
 clear he hl
 have h_0 := And.intro hl_0 (And.intro h0_0 h1_0)
 show W A b287 e ⟨[], 0⟩ _
 unfold F287 at hF
 by_cases c1 : (a0.length : Int) = (a1.length : Int)
 ·rw [if_pos c1] at hF
  obtain ⟨t10, gt10, hF⟩ := bS hF
  rcases t10 with _ | r11
  ·dsimp only at hF
   simp only [simprocAttr, R0, b287, h_0, eq_true c1]
   refine W.mono (l287_1 a0 a1   gt10 (Exists.intro _ ( And.intro rfl ?_))) ?_
   ·simp only [simprocAttr, R0, h_0, eq_true c1]
   rintro _ e _ ⟨rfl, k3, rfl, hl_4⟩
   cases hF
   simp only [simprocAttr, R0, hl_4, eq_true c1]
   exact fin_ret (by simp only [simprocAttr, R0, fn_out, p287, Rs.ev, take_len_self, hl_4, eq_true c1])
  ·dsimp only at hF
   cases hF
   simp only [simprocAttr, R0, b287, h_0, eq_true c1]
   refine W.mono (l287_1 a0 a1   gt10 (Exists.intro _ ( And.intro rfl ?_))) ?_
   ·simp only [simprocAttr, R0, h_0, eq_true c1]
   rintro _ e h ⟨rfl, hq⟩
   simp only [simprocAttr, RR, RB]
   exact hq
 ·rw [if_neg c1] at hF
  cases hF
  simp only [simprocAttr, R0, b287, h_0, eq_false c1]
  exact fin_ret (by simp only [simprocAttr, R0, fn_out, p287, Rs.ev, take_len_self, h_0, eq_false c1])
def F288 (a0 : GComplex) (a1 : GContraction) (a2 : Int) (a3 : List Int) : Option (List Int) :=
 (getI a1.Back a2).bind fun x1 =>
 (chk (a2 + 1)).bind fun x3 =>
 (F99 a0 x3).bind fun x4 =>
 (F80 a0.Prime x1 a3 x4).bind fun x6 =>
 some x6
theorem s288 (a0 : GComplex) (a1 : GContraction) (a2 : Int) (a3 : List Int)   {r : List Int} (hF : F288 a0 a1 a2 a3 = some r) : ans A 288 [(eC a0), (eK a1), V.int .i64 a2, V.isl (a3.map Enc.enc)] = some (Enc.enc r) := by
 refine ans_of (f := p288) rfl rfl rfl fun e hl he => ?_
 have h0_0 : e.at 0 = (eC a0) := he 0 _ rfl
 have h1_0 : e.at 1 = (eK a1) := he 1 _ rfl
 have h2_0 : e.at 2 = V.int .i64 a2 := he 2 _ rfl
 have h3_0 : e.at 3 = V.isl (a3.map Enc.enc) := he 3 _ rfl
 have hl_0 : e.length = 22 := hl
 clear he hl
 show W A b288 e ⟨[], 0⟩ _
 unfold F288 at hF
 obtain ⟨x1, gx1, hF⟩ := bS hF
 obtain ⟨w2a, w2b⟩ := getI_w gx1
 obtain ⟨x3, gx3, hF⟩ := bS hF
 have wx3 := chk_w gx3
 obtain ⟨x4, gx4, hF⟩ := bS hF
 have w5 : ans A 99 [(eC a0), V.int .i64 x3] = some (V.int .i64 x4) := s99 a0 x3  gx4
 obtain ⟨x6, gx6, hF⟩ := bS hF
 have w7 : ans A 80 [V.int .i64 a0.Prime, V.isl (x1.map Enc.enc), V.isl (a3.map Enc.enc), V.int .i64 x4] = some (V.isl (x6.map Enc.enc)) := s80 a0.Prime x1 a3 x4  gx6
 cases hF
 simp only [simprocAttr, R0, b288, hl_0, h0_0, h1_0, h2_0, h3_0, w2a, w2b, wx3, w5, w7]
 exact fin_ret (by simp only [simprocAttr, R0, fn_out, p288, Rs.ev, take_len_self, hl_0, h0_0, h1_0, h2_0, h3_0, w2a, w2b, wx3, w5, w7])
def F312_1_B (a0 : Int) (a1 : List Int) (a2 : List Int) (a3 : List Int) (a4 : List Int) (v11_1 : Int) (s : Unit) : Option ((Unit) ⊕ ((Unit) ⊕ Bool)) :=
 (getI a1 v11_1).bind fun x4 =>
(getI a2 v11_1).bind fun x6 =>
(chk (x4 - x6)).bind fun x8 =>
(getI a3 v11_1).bind fun x9 =>
(chk (x8 - x9)).bind fun x11 =>
(getI a4 v11_1).bind fun x12 =>
(chk (x11 - x12)).bind fun x14 =>
(F127 a0 x14).bind fun x15 =>
if x15 = 0 then
 some (.inl ())
else
 some (.inr (.inr false))
def F312_1_D (a0 : Int) (a1 : List Int) (a2 : List Int) (a3 : List Int) (a4 : List Int) (v11_1 : Int) (s : Unit) : Option ((Unit) ⊕ Bool) :=
 some (.inl ())
def F312 (a0 : Int) (a1 : List Int) (a2 : List Int) (a3 : List Int) (a4 : List Int) : Option Bool :=
 (forR 0 (a1.length : Int) (F312_1_B a0 a1 a2 a3 a4) (F312_1_D a0 a1 a2 a3 a4) ()).bind fun t18 => match t18 with
  | .inl _ =>
   some true
  | .inr r19 => some r19
def I312_1 (a0 : Int) (a1 : List Int) (a2 : List Int) (a3 : List Int) (a4 : List Int)  (v11_1 : Int) (s : Unit) (e : Env) (h : Heap) : Prop :=
 ∃ k2 : Nat, h = ⟨[], k2⟩ ∧ e.length = 40 ∧ e.at 0 = V.int .i64 a0 ∧ e.at 1 = V.isl (a1.map Enc.enc) ∧ e.at 2 = V.isl (a2.map Enc.enc) ∧ e.at 3 = V.isl (a3.map Enc.enc) ∧ e.at 4 = V.isl (a4.map Enc.enc) ∧ e.at 11 = V.int .i64 v11_1
def P312_1 (a0 : Int) (a1 : List Int) (a2 : List Int) (a3 : List Int) (a4 : List Int)  (t : (Unit) ⊕ Bool) (x : Ex) (e : Env) (h : Heap) : Prop :=
 match t with
 | .inl _ => x = .normal ∧ ∃ k2 : Nat, h = ⟨[], k2⟩ ∧ e.length = 40
 | .inr r => x = .ret ∧ Fin p312 (Enc.enc r) .ret e h
theorem l312_1 (a0 : Int) (a1 : List Int) (a2 : List Int) (a3 : List Int) (a4 : List Int)   {lo : Int} {s : Unit} {t : (Unit) ⊕ Bool} (hF : forR lo (a1.length : Int) (F312_1_B a0 a1 a2 a3 a4) (F312_1_D a0 a1 a2 a3 a4) s = some t) {e : Env} {h : Heap} (hI : I312_1 a0 a1 a2 a3 a4  lo s e h) : W A c312_1 e h (P312_1 a0 a1 a2 a3 a4  t) := by
 show W A (.block 0 (.loop false b312_1)) e h _
 rw [W_block]
 refine W_forR hF 0 (by obtain ⟨_, rfl, _⟩ := hI; rfl) (I312_1 a0 a1 a2 a3 a4 ) hI ?_ ?_
 ·rintro v11_1 _ e h ⟨k2, rfl, h_1⟩ hlt hw o ho
  unfold F312_1_B at ho
  obtain ⟨x4, gx4, ho⟩ := bS ho
  obtain ⟨w5a, w5b⟩ := getI_w gx4
  obtain ⟨x6, gx6, ho⟩ := bS ho
  obtain ⟨w7a, w7b⟩ := getI_w gx6
  obtain ⟨x8, gx8, ho⟩ := bS ho
  have wx8 := chk_w gx8
  obtain ⟨x9, gx9, ho⟩ := bS ho
  obtain ⟨w10a, w10b⟩ := getI_w gx9
  obtain ⟨x11, gx11, ho⟩ := bS ho
  have wx11 := chk_w gx11
  obtain ⟨x12, gx12, ho⟩ := bS ho
  obtain ⟨w13a, w13b⟩ := getI_w gx12
  obtain ⟨x14, gx14, ho⟩ := bS ho
  have wx14 := chk_w gx14
  obtain ⟨x15, gx15, ho⟩ := bS ho
  have w16 : ans A 127 [V.int .i64 a0, V.int .i64 x14] = some (V.int .i64 x15) := s127 a0 x14  gx15
  by_cases c17 : x15 = 0
  ·rw [if_pos c17] at ho
   cases ho
   simp only [simprocAttr, R0, b312_1, h_1, eq_true hlt, hw, w5a, w5b, w7a, w7b, wx8, w10a, w10b, wx11, w13a, w13b, wx14, w16, eq_true c17]
   refine And.intro rfl (Exists.intro _ ( And.intro rfl ?_))
   simp only [simprocAttr, R0, h_1, eq_true hlt, hw, w5a, w5b, w7a, w7b, wx8, w10a, w10b, wx11, w13a, w13b, wx14, w16, eq_true c17]
  ·rw [if_neg c17] at ho
   cases ho
   simp only [simprocAttr, R0, b312_1, h_1, eq_true hlt, hw, w5a, w5b, w7a, w7b, wx8, w10a, w10b, wx11, w13a, w13b, wx14, w16, eq_false c17]
   intro ht; subst ht
   simp only [simprocAttr, RR, RB]
   exact And.intro rfl (fin_ret (by simp only [simprocAttr, R0, fn_out, p312, Rs.ev, take_len_self, h_1, eq_true hlt, hw, w5a, w5b, w7a, w7b, wx8, w10a, w10b, wx11, w13a, w13b, wx14, w16, eq_false c17]))
 ·rintro v11_1 _ e h ⟨k2, rfl, h_1⟩ hge t1 ho
  unfold F312_1_D at ho
  cases ho
  simp only [simprocAttr, R0, b312_1, h_1, eq_false hge]
  intro ht; subst ht
  refine And.intro rfl (Exists.intro _ ( And.intro rfl ?_))
  simp only [simprocAttr, R0, h_1, eq_false hge]
theorem s312 (a0 : Int) (a1 : List Int) (a2 : List Int) (a3 : List Int) (a4 : List Int)   {r : Bool} (hF : F312 a0 a1 a2 a3 a4 = some r) : ans A 312 [V.int .i64 a0, V.isl (a1.map Enc.enc), V.isl (a2.map Enc.enc), V.isl (a3.map Enc.enc), V.isl (a4.map Enc.enc)] = some (Enc.enc r) := by
 refine ans_of (f := p312) rfl rfl rfl fun e hl he => ?_
 have h0_0 : e.at 0 = V.int .i64 a0 := he 0 _ rfl
 have h1_0 : e.at 1 = V.isl (a1.map Enc.enc) := he 1 _ rfl
 have h2_0 : e.at 2 = V.isl (a2.map Enc.enc) := he 2 _ rfl
 have h3_0 : e.at 3 = V.isl (a3.map Enc.enc) := he 3 _ rfl
 have h4_0 : e.at 4 = V.isl (a4.map Enc.enc) := he 4 _ rfl
 have hl_0 : e.length = 40 := hl
 clear he hl
 have h_0 := And.intro hl_0 (And.intro h0_0 (And.intro h1_0 (And.intro h2_0 (And.intro h3_0 h4_0))))
 show W A b312 e ⟨[], 0⟩ _
 unfold F312 at hF
 obtain ⟨t18, gt18, hF⟩ := bS hF
 rcases t18 with _ | r19
 ·dsimp only at hF
  simp only [simprocAttr, R0, b312, h_0]
  refine W.mono (l312_1 a0 a1 a2 a3 a4   gt18 (Exists.intro _ ( And.intro rfl ?_))) ?_
  ·simp only [simprocAttr, R0, h_0]
  rintro _ e _ ⟨rfl, k2, rfl, hl_3⟩
  cases hF
  simp only [simprocAttr, R0, hl_3]
  exact fin_ret (by simp only [simprocAttr, R0, fn_out, p312, Rs.ev, take_len_self, hl_3])
 ·dsimp only at hF
  cases hF
  simp only [simprocAttr, R0, b312, h_0]
  refine W.mono (l312_1 a0 a1 a2 a3 a4   gt18 (Exists.intro _ ( And.intro rfl ?_))) ?_
  ·simp only [simprocAttr, R0, h_0]
  rintro _ e h ⟨rfl, hq⟩
  simp only [simprocAttr, RR, RB]
  exact hq
def F289 (a0 : GComplex) (a1 : GContraction) (a2 : Int) (a3 : List Int) : Option Bool :=
 (F286 a0 a1 a2 a3).bind fun x1 =>
 (F288 a0 a1 a2 a3).bind fun x3 =>
 (F273 a0 a2 a3).bind fun x5 =>
 (mkL 8 (a3.length : Int) 0).bind fun l7 =>
 (mkL 8 (a3.length : Int) 0).bind fun l9 =>
 (chk (a2 + 1)).bind fun x11 =>
 if x11 < (a0.Dims.length : Int) then
  (F273 a0 x11 x3).bind fun x13 =>
  (F286 a0 a1 x11 x3).bind fun x15 =>
  (F285 x15).bind fun x17 =>
  if x17 = true then
   (F288 a0 a1 x11 x3).bind fun x19 =>
   (F285 x19).bind fun x21 =>
   if x21 = true then
    if 0 < a2 then
     (chk (a2 - 1)).bind fun x24 =>
     (F288 a0 a1 x24 x5).bind fun x25 =>
     (F286 a0 a1 x24 x5).bind fun x27 =>
     (F285 x27).bind fun x29 =>
     if x29 = true then
      (F284 a0 a1 a2 x1).bind fun x31 =>
      (F312 a0.Prime a3 x31 x13 x25).bind fun x33 =>
      some x33
     else
      some false
    else
     (F284 a0 a1 a2 x1).bind fun x35 =>
     (F312 a0.Prime a3 x35 x13 l9).bind fun x37 =>
     some x37
   else
    some false
  else
   some false
 else
  if 0 < a2 then
   (chk (a2 - 1)).bind fun x40 =>
   (F288 a0 a1 x40 x5).bind fun x41 =>
   (F286 a0 a1 x40 x5).bind fun x43 =>
   (F285 x43).bind fun x45 =>
   if x45 = true then
    (F284 a0 a1 a2 x1).bind fun x47 =>
    (F312 a0.Prime a3 x47 l7 x41).bind fun x49 =>
    some x49
   else
    some false
  else
   (F284 a0 a1 a2 x1).bind fun x51 =>
   (F312 a0.Prime a3 x51 l7 l9).bind fun x53 =>
   some x53
set_option maxHeartbeats 8000000 in
theorem s289 (a0 : GComplex) (a1 : GContraction) (a2 : Int) (a3 : List Int)   {r : Bool} (hF : F289 a0 a1 a2 a3 = some r) : ans A 289 [(eC a0), (eK a1), V.int .i64 a2, V.isl (a3.map Enc.enc)] = some (Enc.enc r) := by
 refine ans_of (f := p289) rfl rfl rfl fun e hl he => ?_
 have h0_0 : e.at 0 = (eC a0) := he 0 _ rfl
 have h1_0 : e.at 1 = (eK a1) := he 1 _ rfl
 have h2_0 : e.at 2 = V.int .i64 a2 := he 2 _ rfl
 have h3_0 : e.at 3 = V.isl (a3.map Enc.enc) := he 3 _ rfl
 have hl_0 : e.length = 90 := hl
 clear he hl
 show W A b289 e ⟨[], 0⟩ _
 unfold F289 at hF
 obtain ⟨x1, gx1, hF⟩ := bS hF
 have w2 : ans A 286 [(eC a0), (eK a1), V.int .i64 a2, V.isl (a3.map Enc.enc)] = some (V.isl (x1.map Enc.enc)) := s286 a0 a1 a2 a3  gx1
 obtain ⟨x3, gx3, hF⟩ := bS hF
 have w4 : ans A 288 [(eC a0), (eK a1), V.int .i64 a2, V.isl (a3.map Enc.enc)] = some (V.isl (x3.map Enc.enc)) := s288 a0 a1 a2 a3  gx3
 obtain ⟨x5, gx5, hF⟩ := bS hF
 have w6 : ans A 273 [(eC a0), V.int .i64 a2, V.isl (a3.map Enc.enc)] = some (V.isl (x5.map Enc.enc)) := s273 a0 a2 a3  gx5
 obtain ⟨l7, gl7, hF⟩ := bS hF
 obtain ⟨w8a, w8b, w8c, w8d, w8e⟩ := mkL_w gl7
 replace w8e : (List.replicate (Int.toNat (a3.length : Int)) [V.int .i64 0]).flatten = List.map Enc.enc l7 := w8e
 obtain ⟨l9, gl9, hF⟩ := bS hF
 obtain ⟨w10a, w10b, w10c, w10d, w10e⟩ := mkL_w gl9
 replace w10e : (List.replicate (Int.toNat (a3.length : Int)) [V.int .i64 0]).flatten = List.map Enc.enc l9 := w10e
 have hq : l7 = l9 := Option.some.inj (gl7.symm.trans gl9)
 subst hq
 have w8f : ((a3.length : Int).toNat ≤ l7.length) = True := eq_true (by omega)
 have w8g : List.take (a3.length : Int).toNat (l7.map Enc.enc) = List.map Enc.enc l7 := List.take_of_length_le (by rw [List.length_map]; omega)
 obtain ⟨x11, gx11, hF⟩ := bS hF
 have wx11 := chk_w gx11
 by_cases c12 : x11 < (a0.Dims.length : Int)
 ·rw [if_pos c12] at hF
  obtain ⟨x13, gx13, hF⟩ := bS hF
  have w14 : ans A 273 [(eC a0), V.int .i64 x11, V.isl (x3.map Enc.enc)] = some (V.isl (x13.map Enc.enc)) := s273 a0 x11 x3  gx13
  obtain ⟨x15, gx15, hF⟩ := bS hF
  have w16 : ans A 286 [(eC a0), (eK a1), V.int .i64 x11, V.isl (x3.map Enc.enc)] = some (V.isl (x15.map Enc.enc)) := s286 a0 a1 x11 x3  gx15
  obtain ⟨x17, gx17, hF⟩ := bS hF
  have w18 : ans A 285 [V.isl (x15.map Enc.enc)] = some (V.bool x17) := s285 x15  gx17
  cases x17 with
  | true =>
   rw [if_pos rfl] at hF
   obtain ⟨x19, gx19, hF⟩ := bS hF
   have w20 : ans A 288 [(eC a0), (eK a1), V.int .i64 x11, V.isl (x3.map Enc.enc)] = some (V.isl (x19.map Enc.enc)) := s288 a0 a1 x11 x3  gx19
   obtain ⟨x21, gx21, hF⟩ := bS hF
   have w22 : ans A 285 [V.isl (x19.map Enc.enc)] = some (V.bool x21) := s285 x19  gx21
   cases x21 with
   | true =>
    rw [if_pos rfl] at hF
    by_cases c23 : 0 < a2
    ·rw [if_pos c23] at hF
     obtain ⟨x24, gx24, hF⟩ := bS hF
     have wx24 := chk_w gx24
     obtain ⟨x25, gx25, hF⟩ := bS hF
     have w26 : ans A 288 [(eC a0), (eK a1), V.int .i64 x24, V.isl (x5.map Enc.enc)] = some (V.isl (x25.map Enc.enc)) := s288 a0 a1 x24 x5  gx25
     obtain ⟨x27, gx27, hF⟩ := bS hF
     have w28 : ans A 286 [(eC a0), (eK a1), V.int .i64 x24, V.isl (x5.map Enc.enc)] = some (V.isl (x27.map Enc.enc)) := s286 a0 a1 x24 x5  gx27
     obtain ⟨x29, gx29, hF⟩ := bS hF
     have w30 : ans A 285 [V.isl (x27.map Enc.enc)] = some (V.bool x29) := s285 x27  gx29
     cases x29 with
     | true =>
      rw [if_pos rfl] at hF
      obtain ⟨x31, gx31, hF⟩ := bS hF
      have w32 : ans A 284 [(eC a0), (eK a1), V.int .i64 a2, V.isl (x1.map Enc.enc)] = some (V.isl (x31.map Enc.enc)) := s284 a0 a1 a2 x1  gx31
      obtain ⟨x33, gx33, hF⟩ := bS hF
      have w34 : ans A 312 [V.int .i64 a0.Prime, V.isl (a3.map Enc.enc), V.isl (x31.map Enc.enc), V.isl (x13.map Enc.enc), V.isl (x25.map Enc.enc)] = some (V.bool x33) := s312 a0.Prime a3 x31 x13 x25  gx33
      have hE := Option.some.inj hF; subst hE
      simp only [↓reduceIte, Nat.reduceAdd, Nat.reduceMul, Nat.reduceSub, Nat.reduceLT, Nat.reduceLeDiff, Nat.reduceEqDiff, Nat.reducePow, Int.reducePow, Int.reduceLE, Int.reduceLT, Int.reduceEq, Int.reduceToNat, reduceCtorEq, R0, b289, hl_0, h0_0, h1_0, h2_0, h3_0, w2, w4, w6, w8f, w8g, w8a, w8b, w8c, w8e, wx11, eq_true c12, w14, w16, w18, w20, w22, eq_true c23, wx24, w26, w28, w30, w32, w34]
      exact fin_ret (by simp only [↓reduceIte, Nat.reduceAdd, Nat.reduceMul, Nat.reduceSub, Nat.reduceLT, Nat.reduceLeDiff, Nat.reduceEqDiff, Nat.reducePow, Int.reducePow, Int.reduceLE, Int.reduceLT, Int.reduceEq, Int.reduceToNat, reduceCtorEq, R0, fn_out, p289, Rs.ev, take_len_self, hl_0, h0_0, h1_0, h2_0, h3_0, w2, w4, w6, w8f, w8g, w8a, w8b, w8c, w8e, wx11, eq_true c12, w14, w16, w18, w20, w22, eq_true c23, wx24, w26, w28, w30, w32, w34, w8d, w10d])
     | false =>
      rw [if_neg Bool.false_ne_true] at hF
      have hE := Option.some.inj hF; subst hE
      simp only [↓reduceIte, Nat.reduceAdd, Nat.reduceMul, Nat.reduceSub, Nat.reduceLT, Nat.reduceLeDiff, Nat.reduceEqDiff, Nat.reducePow, Int.reducePow, Int.reduceLE, Int.reduceLT, Int.reduceEq, Int.reduceToNat, reduceCtorEq, R0, b289, hl_0, h0_0, h1_0, h2_0, h3_0, w2, w4, w6, w8f, w8g, w8a, w8b, w8c, w8e, wx11, eq_true c12, w14, w16, w18, w20, w22, eq_true c23, wx24, w26, w28, w30]
      exact fin_ret (by simp only [↓reduceIte, Nat.reduceAdd, Nat.reduceMul, Nat.reduceSub, Nat.reduceLT, Nat.reduceLeDiff, Nat.reduceEqDiff, Nat.reducePow, Int.reducePow, Int.reduceLE, Int.reduceLT, Int.reduceEq, Int.reduceToNat, reduceCtorEq, R0, fn_out, p289, Rs.ev, take_len_self, hl_0, h0_0, h1_0, h2_0, h3_0, w2, w4, w6, w8f, w8g, w8a, w8b, w8c, w8e, wx11, eq_true c12, w14, w16, w18, w20, w22, eq_true c23, wx24, w26, w28, w30, w8d, w10d])
    ·rw [if_neg c23] at hF
     obtain ⟨x35, gx35, hF⟩ := bS hF
     have w36 : ans A 284 [(eC a0), (eK a1), V.int .i64 a2, V.isl (x1.map Enc.enc)] = some (V.isl (x35.map Enc.enc)) := s284 a0 a1 a2 x1  gx35
     obtain ⟨x37, gx37, hF⟩ := bS hF
     have w38 : ans A 312 [V.int .i64 a0.Prime, V.isl (a3.map Enc.enc), V.isl (x35.map Enc.enc), V.isl (x13.map Enc.enc), V.isl (l7.map Enc.enc)] = some (V.bool x37) := s312 a0.Prime a3 x35 x13 l7  gx37
     have hE := Option.some.inj hF; subst hE
     simp only [↓reduceIte, Nat.reduceAdd, Nat.reduceMul, Nat.reduceSub, Nat.reduceLT, Nat.reduceLeDiff, Nat.reduceEqDiff, Nat.reducePow, Int.reducePow, Int.reduceLE, Int.reduceLT, Int.reduceEq, Int.reduceToNat, reduceCtorEq, R0, b289, hl_0, h0_0, h1_0, h2_0, h3_0, w2, w4, w6, w8f, w8g, w8a, w8b, w8c, w8e, wx11, eq_true c12, w14, w16, w18, w20, w22, eq_false c23, w36, frzs (α := Int) l7, take_len (α := Int) (l := l7) (n := (Int.toNat (a3.length : Int))) (by first | rfl | simp only [w8d, w10d]), le_of_len (α := Int) (l := l7) (n := (Int.toNat (a3.length : Int))) (by first | rfl | simp only [w8d, w10d]), w38]
     exact fin_ret (by simp only [↓reduceIte, Nat.reduceAdd, Nat.reduceMul, Nat.reduceSub, Nat.reduceLT, Nat.reduceLeDiff, Nat.reduceEqDiff, Nat.reducePow, Int.reducePow, Int.reduceLE, Int.reduceLT, Int.reduceEq, Int.reduceToNat, reduceCtorEq, R0, fn_out, p289, Rs.ev, take_len_self, hl_0, h0_0, h1_0, h2_0, h3_0, w2, w4, w6, w8f, w8g, w8a, w8b, w8c, w8e, wx11, eq_true c12, w14, w16, w18, w20, w22, eq_false c23, w36, frzs (α := Int) l7, take_len (α := Int) (l := l7) (n := (Int.toNat (a3.length : Int))) (by first | rfl | simp only [w8d, w10d]), le_of_len (α := Int) (l := l7) (n := (Int.toNat (a3.length : Int))) (by first | rfl | simp only [w8d, w10d]), w38, w8d, w10d])
   | false =>
    rw [if_neg Bool.false_ne_true] at hF
    have hE := Option.some.inj hF; subst hE
    simp only [↓reduceIte, Nat.reduceAdd, Nat.reduceMul, Nat.reduceSub, Nat.reduceLT, Nat.reduceLeDiff, Nat.reduceEqDiff, Nat.reducePow, Int.reducePow, Int.reduceLE, Int.reduceLT, Int.reduceEq, Int.reduceToNat, reduceCtorEq, R0, b289, hl_0, h0_0, h1_0, h2_0, h3_0, w2, w4, w6, w8f, w8g, w8a, w8b, w8c, w8e, wx11, eq_true c12, w14, w16, w18, w20, w22]
    exact fin_ret (by simp only [↓reduceIte, Nat.reduceAdd, Nat.reduceMul, Nat.reduceSub, Nat.reduceLT, Nat.reduceLeDiff, Nat.reduceEqDiff, Nat.reducePow, Int.reducePow, Int.reduceLE, Int.reduceLT, Int.reduceEq, Int.reduceToNat, reduceCtorEq, R0, fn_out, p289, Rs.ev, take_len_self, hl_0, h0_0, h1_0, h2_0, h3_0, w2, w4, w6, w8f, w8g, w8a, w8b, w8c, w8e, wx11, eq_true c12, w14, w16, w18, w20, w22, w8d, w10d])
  | false =>
   rw [if_neg Bool.false_ne_true] at hF
   have hE := Option.some.inj hF; subst hE
   simp only [↓reduceIte, Nat.reduceAdd, Nat.reduceMul, Nat.reduceSub, Nat.reduceLT, Nat.reduceLeDiff, Nat.reduceEqDiff, Nat.reducePow, Int.reducePow, Int.reduceLE, Int.reduceLT, Int.reduceEq, Int.reduceToNat, reduceCtorEq, R0, b289, hl_0, h0_0, h1_0, h2_0, h3_0, w2, w4, w6, w8f, w8g, w8a, w8b, w8c, w8e, wx11, eq_true c12, w14, w16, w18]
   exact fin_ret (by simp only [↓reduceIte, Nat.reduceAdd, Nat.reduceMul, Nat.reduceSub, Nat.reduceLT, Nat.reduceLeDiff, Nat.reduceEqDiff, Nat.reducePow, Int.reducePow, Int.reduceLE, Int.reduceLT, Int.reduceEq, Int.reduceToNat, reduceCtorEq, R0, fn_out, p289, Rs.ev, take_len_self, hl_0, h0_0, h1_0, h2_0, h3_0, w2, w4, w6, w8f, w8g, w8a, w8b, w8c, w8e, wx11, eq_true c12, w14, w16, w18, w8d, w10d])
 ·rw [if_neg c12] at hF
  by_cases c39 : 0 < a2
  ·rw [if_pos c39] at hF
   obtain ⟨x40, gx40, hF⟩ := bS hF
   have wx40 := chk_w gx40
   obtain ⟨x41, gx41, hF⟩ := bS hF
   have w42 : ans A 288 [(eC a0), (eK a1), V.int .i64 x40, V.isl (x5.map Enc.enc)] = some (V.isl (x41.map Enc.enc)) := s288 a0 a1 x40 x5  gx41
   obtain ⟨x43, gx43, hF⟩ := bS hF
   have w44 : ans A 286 [(eC a0), (eK a1), V.int .i64 x40, V.isl (x5.map Enc.enc)] = some (V.isl (x43.map Enc.enc)) := s286 a0 a1 x40 x5  gx43
   obtain ⟨x45, gx45, hF⟩ := bS hF
   have w46 : ans A 285 [V.isl (x43.map Enc.enc)] = some (V.bool x45) := s285 x43  gx45
   cases x45 with
   | true =>
    rw [if_pos rfl] at hF
    obtain ⟨x47, gx47, hF⟩ := bS hF
    have w48 : ans A 284 [(eC a0), (eK a1), V.int .i64 a2, V.isl (x1.map Enc.enc)] = some (V.isl (x47.map Enc.enc)) := s284 a0 a1 a2 x1  gx47
    obtain ⟨x49, gx49, hF⟩ := bS hF
    have w50 : ans A 312 [V.int .i64 a0.Prime, V.isl (a3.map Enc.enc), V.isl (x47.map Enc.enc), V.isl (l7.map Enc.enc), V.isl (x41.map Enc.enc)] = some (V.bool x49) := s312 a0.Prime a3 x47 l7 x41  gx49
    have hE := Option.some.inj hF; subst hE
    simp only [↓reduceIte, Nat.reduceAdd, Nat.reduceMul, Nat.reduceSub, Nat.reduceLT, Nat.reduceLeDiff, Nat.reduceEqDiff, Nat.reducePow, Int.reducePow, Int.reduceLE, Int.reduceLT, Int.reduceEq, Int.reduceToNat, reduceCtorEq, R0, b289, hl_0, h0_0, h1_0, h2_0, h3_0, w2, w4, w6, w8f, w8g, w8a, w8b, w8c, w8e, wx11, eq_false c12, eq_true c39, wx40, w42, w44, w46, w48, frzs (α := Int) l7, take_len (α := Int) (l := l7) (n := (Int.toNat (a3.length : Int))) (by first | rfl | simp only [w8d, w10d]), le_of_len (α := Int) (l := l7) (n := (Int.toNat (a3.length : Int))) (by first | rfl | simp only [w8d, w10d]), w50]
    exact fin_ret (by simp only [↓reduceIte, Nat.reduceAdd, Nat.reduceMul, Nat.reduceSub, Nat.reduceLT, Nat.reduceLeDiff, Nat.reduceEqDiff, Nat.reducePow, Int.reducePow, Int.reduceLE, Int.reduceLT, Int.reduceEq, Int.reduceToNat, reduceCtorEq, R0, fn_out, p289, Rs.ev, take_len_self, hl_0, h0_0, h1_0, h2_0, h3_0, w2, w4, w6, w8f, w8g, w8a, w8b, w8c, w8e, wx11, eq_false c12, eq_true c39, wx40, w42, w44, w46, w48, frzs (α := Int) l7, take_len (α := Int) (l := l7) (n := (Int.toNat (a3.length : Int))) (by first | rfl | simp only [w8d, w10d]), le_of_len (α := Int) (l := l7) (n := (Int.toNat (a3.length : Int))) (by first | rfl | simp only [w8d, w10d]), w50, w8d, w10d])
   | false =>
    rw [if_neg Bool.false_ne_true] at hF
    have hE := Option.some.inj hF; subst hE
    simp only [↓reduceIte, Nat.reduceAdd, Nat.reduceMul, Nat.reduceSub, Nat.reduceLT, Nat.reduceLeDiff, Nat.reduceEqDiff, Nat.reducePow, Int.reducePow, Int.reduceLE, Int.reduceLT, Int.reduceEq, Int.reduceToNat, reduceCtorEq, R0, b289, hl_0, h0_0, h1_0, h2_0, h3_0, w2, w4, w6, w8f, w8g, w8a, w8b, w8c, w8e, wx11, eq_false c12, eq_true c39, wx40, w42, w44, w46]
    exact fin_ret (by simp only [↓reduceIte, Nat.reduceAdd, Nat.reduceMul, Nat.reduceSub, Nat.reduceLT, Nat.reduceLeDiff, Nat.reduceEqDiff, Nat.reducePow, Int.reducePow, Int.reduceLE, Int.reduceLT, Int.reduceEq, Int.reduceToNat, reduceCtorEq, R0, fn_out, p289, Rs.ev, take_len_self, hl_0, h0_0, h1_0, h2_0, h3_0, w2, w4, w6, w8f, w8g, w8a, w8b, w8c, w8e, wx11, eq_false c12, eq_true c39, wx40, w42, w44, w46, w8d, w10d])
  ·rw [if_neg c39] at hF
   obtain ⟨x51, gx51, hF⟩ := bS hF
   have w52 : ans A 284 [(eC a0), (eK a1), V.int .i64 a2, V.isl (x1.map Enc.enc)] = some (V.isl (x51.map Enc.enc)) := s284 a0 a1 a2 x1  gx51
   obtain ⟨x53, gx53, hF⟩ := bS hF
   have w54 : ans A 312 [V.int .i64 a0.Prime, V.isl (a3.map Enc.enc), V.isl (x51.map Enc.enc), V.isl (l7.map Enc.enc), V.isl (l7.map Enc.enc)] = some (V.bool x53) := s312 a0.Prime a3 x51 l7 l7  gx53
   have hE := Option.some.inj hF; subst hE
   simp only [↓reduceIte, Nat.reduceAdd, Nat.reduceMul, Nat.reduceSub, Nat.reduceLT, Nat.reduceLeDiff, Nat.reduceEqDiff, Nat.reducePow, Int.reducePow, Int.reduceLE, Int.reduceLT, Int.reduceEq, Int.reduceToNat, reduceCtorEq, R0, b289, hl_0, h0_0, h1_0, h2_0, h3_0, w2, w4, w6, w8f, w8g, w8a, w8b, w8c, w8e, wx11, eq_false c12, eq_false c39, w52, frzs (α := Int) l7, take_len (α := Int) (l := l7) (n := (Int.toNat (a3.length : Int))) (by first | rfl | simp only [w8d, w10d]), le_of_len (α := Int) (l := l7) (n := (Int.toNat (a3.length : Int))) (by first | rfl | simp only [w8d, w10d]), frzs (α := Int) l7, take_len (α := Int) (l := l7) (n := (Int.toNat (a3.length : Int))) (by first | rfl | simp only [w8d, w10d]), le_of_len (α := Int) (l := l7) (n := (Int.toNat (a3.length : Int))) (by first | rfl | simp only [w8d, w10d]), w54]
   exact fin_ret (by simp only [↓reduceIte, Nat.reduceAdd, Nat.reduceMul, Nat.reduceSub, Nat.reduceLT, Nat.reduceLeDiff, Nat.reduceEqDiff, Nat.reducePow, Int.reducePow, Int.reduceLE, Int.reduceLT, Int.reduceEq, Int.reduceToNat, reduceCtorEq, R0, fn_out, p289, Rs.ev, take_len_self, hl_0, h0_0, h1_0, h2_0, h3_0, w2, w4, w6, w8f, w8g, w8a, w8b, w8c, w8e, wx11, eq_false c12, eq_false c39, w52, frzs (α := Int) l7, take_len (α := Int) (l := l7) (n := (Int.toNat (a3.length : Int))) (by first | rfl | simp only [w8d, w10d]), le_of_len (α := Int) (l := l7) (n := (Int.toNat (a3.length : Int))) (by first | rfl | simp only [w8d, w10d]), frzs (α := Int) l7, take_len (α := Int) (l := l7) (n := (Int.toNat (a3.length : Int))) (by first | rfl | simp only [w8d, w10d]), le_of_len (α := Int) (l := l7) (n := (Int.toNat (a3.length : Int))) (by first | rfl | simp only [w8d, w10d]), w54, w8d, w10d])
def F249_2_S (a0 : GComplex) (a1 : GContraction) (v5_1 : Int) (v6_2 : Int) : Option ((Int) ⊕ ((Unit) ⊕ Bool)) :=
 (F283 a0 v5_1).bind fun x9 =>
if v6_2 < x9 then
 (F272 x9 v6_2).bind fun x12 =>
 (F284 a0 a1 v5_1 x12).bind fun x14 =>
 (F273 a0 v5_1 x14).bind fun x16 =>
 (F285 x16).bind fun x18 =>
 if x18 = true then
  (F286 a0 a1 v5_1 x14).bind fun x20 =>
  (F287 x20 x12).bind fun x22 =>
  if x22 = true then
   (F288 a0 a1 v5_1 x14).bind fun x24 =>
   (F285 x24).bind fun x26 =>
   if x26 = true then
    (chk (v6_2 + 1)).bind fun x28 =>
    some (.inl x28)
   else
    some (.inr (.inr false))
  else
   some (.inr (.inr false))
 else
  some (.inr (.inr false))
else
 some (.inr (.inl ()))
def F249_3_S (a0 : GComplex) (a1 : GContraction) (v5_1 : Int) (v9_3 : Int) : Option ((Int) ⊕ ((Unit) ⊕ Bool)) :=
 (getI a0.Dims v5_1).bind fun x33 =>
if v9_3 < x33 then
 (F272 x33 v9_3).bind fun x36 =>
 (F289 a0 a1 v5_1 x36).bind fun x38 =>
 if x38 = true then
  (chk (v9_3 + 1)).bind fun x40 =>
  some (.inl x40)
 else
  some (.inr (.inr false))
else
 some (.inr (.inl ()))
def F249_1_B (a0 : GComplex) (a1 : GContraction) (v5_1 : Int) (s : Unit) : Option ((Unit) ⊕ ((Unit) ⊕ Bool)) :=
 (loopW (F249_2_S a0 a1 v5_1) 0).bind fun t29 => match t29 with
 | .inl _ =>
  (loopW (F249_3_S a0 a1 v5_1) 0).bind fun t41 => match t41 with
   | .inl _ =>
    some (.inl ())
   | .inr r42 => some (.inr (.inr r42))
 | .inr r43 => some (.inr (.inr r43))
def F249_1_D (a0 : GComplex) (a1 : GContraction) (v5_1 : Int) (s : Unit) : Option ((Unit) ⊕ Bool) :=
 some (.inl ())
def F249 (a0 : GComplex) (a1 : GContraction) : Option Bool :=
 (F282 a0 a1).bind fun x1 =>
 if x1 = true then
  (forR 0 (a0.Dims.length : Int) (F249_1_B a0 a1) (F249_1_D a0 a1) ()).bind fun t44 => match t44 with
   | .inl _ =>
    some true
   | .inr r45 => some r45
 else
  some false
def I249_2 (a0 : GComplex) (a1 : GContraction) (v5_1 : Int)  (v6_2 : Int) (e : Env) (h : Heap) : Prop :=
 ∃ k7 : Nat, h = ⟨[(0, none), (0, none)], k7⟩ ∧ e.length = 84 ∧ e.at 2 = V.iptr [V.int .i64 a0.Prime, V.isl (a0.Dims.map Enc.enc), V.isl (a0.Maps.map Enc.enc)] ∧ e.at 3 = V.iptr [V.isl (a1.Down.map Enc.enc), V.isl (a1.Up.map Enc.enc), V.isl (a1.Back.map Enc.enc)] ∧ e.at 5 = V.int .i64 v5_1 ∧ e.at 6 = V.int .i64 v6_2
def P249_2 (a0 : GComplex) (a1 : GContraction) (v5_1 : Int)  (t : (Unit) ⊕ Bool) (x : Ex) (e : Env) (h : Heap) : Prop :=
 match t with
 | .inl _ => x = .normal ∧ ∃ k7 : Nat, h = ⟨[(0, none), (0, none)], k7⟩ ∧ e.length = 84 ∧ e.at 2 = V.iptr [V.int .i64 a0.Prime, V.isl (a0.Dims.map Enc.enc), V.isl (a0.Maps.map Enc.enc)] ∧ e.at 3 = V.iptr [V.isl (a1.Down.map Enc.enc), V.isl (a1.Up.map Enc.enc), V.isl (a1.Back.map Enc.enc)] ∧ e.at 5 = V.int .i64 v5_1
 | .inr r => x = .ret ∧ Fin p249 (Enc.enc r) .ret e h
theorem l249_2 (a0 : GComplex) (a1 : GContraction) (v5_1 : Int)   {s : Int} {t : (Unit) ⊕ Bool} (hF : loopW (F249_2_S a0 a1 v5_1) s = some t) {e : Env} {h : Heap} (hI : I249_2 a0 a1 v5_1  s e h) : W A c249_2 e h (P249_2 a0 a1 v5_1  t) := by
 show W A (.block 2 (.loop false b249_2)) e h _
 rw [W_block]
 refine W_loop hF 2 (by obtain ⟨_, rfl, _⟩ := hI; rfl) (I249_2 a0 a1 v5_1 ) hI ?_
 ·rintro v6_2 e h ⟨k7, rfl, h_6⟩ o ho
  unfold F249_2_S at ho
  obtain ⟨x9, gx9, ho⟩ := bS ho
  have w10 : ans A 283 [(eC a0), V.int .i64 v5_1] = some (V.int .i64 x9) := s283 a0 v5_1  gx9
  by_cases c11 : v6_2 < x9
  ·rw [if_pos c11] at ho
   obtain ⟨x12, gx12, ho⟩ := bS ho
   have w13 : ans A 272 [V.int .i64 x9, V.int .i64 v6_2] = some (V.isl (x12.map Enc.enc)) := s272 x9 v6_2  gx12
   obtain ⟨x14, gx14, ho⟩ := bS ho
   have w15 : ans A 284 [(eC a0), (eK a1), V.int .i64 v5_1, V.isl (x12.map Enc.enc)] = some (V.isl (x14.map Enc.enc)) := s284 a0 a1 v5_1 x12  gx14
   obtain ⟨x16, gx16, ho⟩ := bS ho
   have w17 : ans A 273 [(eC a0), V.int .i64 v5_1, V.isl (x14.map Enc.enc)] = some (V.isl (x16.map Enc.enc)) := s273 a0 v5_1 x14  gx16
   obtain ⟨x18, gx18, ho⟩ := bS ho
   have w19 : ans A 285 [V.isl (x16.map Enc.enc)] = some (V.bool x18) := s285 x16  gx18
   cases x18 with
   | true =>
    rw [if_pos rfl] at ho
    obtain ⟨x20, gx20, ho⟩ := bS ho
    have w21 : ans A 286 [(eC a0), (eK a1), V.int .i64 v5_1, V.isl (x14.map Enc.enc)] = some (V.isl (x20.map Enc.enc)) := s286 a0 a1 v5_1 x14  gx20
    obtain ⟨x22, gx22, ho⟩ := bS ho
    have w23 : ans A 287 [V.isl (x20.map Enc.enc), V.isl (x12.map Enc.enc)] = some (V.bool x22) := s287 x20 x12  gx22
    cases x22 with
    | true =>
     rw [if_pos rfl] at ho
     obtain ⟨x24, gx24, ho⟩ := bS ho
     have w25 : ans A 288 [(eC a0), (eK a1), V.int .i64 v5_1, V.isl (x14.map Enc.enc)] = some (V.isl (x24.map Enc.enc)) := s288 a0 a1 v5_1 x14  gx24
     obtain ⟨x26, gx26, ho⟩ := bS ho
     have w27 : ans A 285 [V.isl (x24.map Enc.enc)] = some (V.bool x26) := s285 x24  gx26
     cases x26 with
     | true =>
      rw [if_pos rfl] at ho
      obtain ⟨x28, gx28, ho⟩ := bS ho
      have wx28 := chk_w gx28
      cases ho
      simp only [simprocAttr, R0, b249_2, h_6, w10, eq_true c11, w13, w15, w17, w19, w21, w23, w25, w27, wx28]
      refine And.intro rfl (Exists.intro _ ( And.intro rfl ?_))
      simp only [simprocAttr, R0, h_6, w10, eq_true c11, w13, w15, w17, w19, w21, w23, w25, w27, wx28]
     | false =>
      rw [if_neg Bool.false_ne_true] at ho
      cases ho
      simp only [simprocAttr, R0, b249_2, h_6, w10, eq_true c11, w13, w15, w17, w19, w21, w23, w25, w27]
      intro ht; subst ht
      simp only [simprocAttr, RR, RB]
      exact And.intro rfl (fin_ret (by simp only [simprocAttr, R0, fn_out, p249, Rs.ev, take_len_self, h_6, w10, eq_true c11, w13, w15, w17, w19, w21, w23, w25, w27]))
    | false =>
     rw [if_neg Bool.false_ne_true] at ho
     cases ho
     simp only [simprocAttr, R0, b249_2, h_6, w10, eq_true c11, w13, w15, w17, w19, w21, w23]
     intro ht; subst ht
     simp only [simprocAttr, RR, RB]
     exact And.intro rfl (fin_ret (by simp only [simprocAttr, R0, fn_out, p249, Rs.ev, take_len_self, h_6, w10, eq_true c11, w13, w15, w17, w19, w21, w23]))
   | false =>
    rw [if_neg Bool.false_ne_true] at ho
    cases ho
    simp only [simprocAttr, R0, b249_2, h_6, w10, eq_true c11, w13, w15, w17, w19]
    intro ht; subst ht
    simp only [simprocAttr, RR, RB]
    exact And.intro rfl (fin_ret (by simp only [simprocAttr, R0, fn_out, p249, Rs.ev, take_len_self, h_6, w10, eq_true c11, w13, w15, w17, w19]))
  ·rw [if_neg c11] at ho
   cases ho
   simp only [simprocAttr, R0, b249_2, h_6, w10, eq_false c11]
   intro ht; subst ht
   simp only [simprocAttr, RR, RB]
   refine And.intro rfl (Exists.intro _ ( And.intro rfl ?_))
   simp only [simprocAttr, R0, h_6, w10, eq_false c11]
def I249_3 (a0 : GComplex) (a1 : GContraction) (v5_1 : Int)  (v9_3 : Int) (e : Env) (h : Heap) : Prop :=
 ∃ k31 : Nat, h = ⟨[(0, none), (0, none)], k31⟩ ∧ e.length = 84 ∧ e.at 2 = V.iptr [V.int .i64 a0.Prime, V.isl (a0.Dims.map Enc.enc), V.isl (a0.Maps.map Enc.enc)] ∧ e.at 3 = V.iptr [V.isl (a1.Down.map Enc.enc), V.isl (a1.Up.map Enc.enc), V.isl (a1.Back.map Enc.enc)] ∧ e.at 5 = V.int .i64 v5_1 ∧ e.at 9 = V.int .i64 v9_3
def P249_3 (a0 : GComplex) (a1 : GContraction) (v5_1 : Int)  (t : (Unit) ⊕ Bool) (x : Ex) (e : Env) (h : Heap) : Prop :=
 match t with
 | .inl _ => x = .normal ∧ ∃ k31 : Nat, h = ⟨[(0, none), (0, none)], k31⟩ ∧ e.length = 84 ∧ e.at 2 = V.iptr [V.int .i64 a0.Prime, V.isl (a0.Dims.map Enc.enc), V.isl (a0.Maps.map Enc.enc)] ∧ e.at 3 = V.iptr [V.isl (a1.Down.map Enc.enc), V.isl (a1.Up.map Enc.enc), V.isl (a1.Back.map Enc.enc)] ∧ e.at 5 = V.int .i64 v5_1
 | .inr r => x = .ret ∧ Fin p249 (Enc.enc r) .ret e h
theorem l249_3 (a0 : GComplex) (a1 : GContraction) (v5_1 : Int)   {s : Int} {t : (Unit) ⊕ Bool} (hF : loopW (F249_3_S a0 a1 v5_1) s = some t) {e : Env} {h : Heap} (hI : I249_3 a0 a1 v5_1  s e h) : W A c249_3 e h (P249_3 a0 a1 v5_1  t) := by
 show W A (.block 4 (.loop false b249_3)) e h _
 rw [W_block]
 refine W_loop hF 2 (by obtain ⟨_, rfl, _⟩ := hI; rfl) (I249_3 a0 a1 v5_1 ) hI ?_
 ·rintro v9_3 e h ⟨k31, rfl, h_30⟩ o ho
  unfold F249_3_S at ho
  obtain ⟨x33, gx33, ho⟩ := bS ho
  obtain ⟨w34a, w34b⟩ := getI_w gx33
  by_cases c35 : v9_3 < x33
  ·rw [if_pos c35] at ho
   obtain ⟨x36, gx36, ho⟩ := bS ho
   have w37 : ans A 272 [V.int .i64 x33, V.int .i64 v9_3] = some (V.isl (x36.map Enc.enc)) := s272 x33 v9_3  gx36
   obtain ⟨x38, gx38, ho⟩ := bS ho
   have w39 : ans A 289 [(eC a0), (eK a1), V.int .i64 v5_1, V.isl (x36.map Enc.enc)] = some (V.bool x38) := s289 a0 a1 v5_1 x36  gx38
   cases x38 with
   | true =>
    rw [if_pos rfl] at ho
    obtain ⟨x40, gx40, ho⟩ := bS ho
    have wx40 := chk_w gx40
    cases ho
    simp only [simprocAttr, R0, b249_3, h_30, w34a, w34b, eq_true c35, w37, w39, wx40]
    refine And.intro rfl (Exists.intro _ ( And.intro rfl ?_))
    simp only [simprocAttr, R0, h_30, w34a, w34b, eq_true c35, w37, w39, wx40]
   | false =>
    rw [if_neg Bool.false_ne_true] at ho
    cases ho
    simp only [simprocAttr, R0, b249_3, h_30, w34a, w34b, eq_true c35, w37, w39]
    intro ht; subst ht
    simp only [simprocAttr, RR, RB]
    exact And.intro rfl (fin_ret (by simp only [simprocAttr, R0, fn_out, p249, Rs.ev, take_len_self, h_30, w34a, w34b, eq_true c35, w37, w39]))
  ·rw [if_neg c35] at ho
   cases ho
   simp only [simprocAttr, R0, b249_3, h_30, w34a, w34b, eq_false c35]
   intro ht; subst ht
   simp only [simprocAttr, RR, RB]
   refine And.intro rfl (Exists.intro _ ( And.intro rfl ?_))
   simp only [simprocAttr, R0, h_30, w34a, w34b, eq_false c35]
def I249_1 (a0 : GComplex) (a1 : GContraction)  (v5_1 : Int) (s : Unit) (e : Env) (h : Heap) : Prop :=
 ∃ k4 : Nat, h = ⟨[(0, none), (0, none)], k4⟩ ∧ e.length = 84 ∧ e.at 2 = V.iptr [V.int .i64 a0.Prime, V.isl (a0.Dims.map Enc.enc), V.isl (a0.Maps.map Enc.enc)] ∧ e.at 3 = V.iptr [V.isl (a1.Down.map Enc.enc), V.isl (a1.Up.map Enc.enc), V.isl (a1.Back.map Enc.enc)] ∧ e.at 5 = V.int .i64 v5_1
def P249_1 (a0 : GComplex) (a1 : GContraction)  (t : (Unit) ⊕ Bool) (x : Ex) (e : Env) (h : Heap) : Prop :=
 match t with
 | .inl _ => x = .normal ∧ ∃ k4 : Nat, h = ⟨[(0, none), (0, none)], k4⟩ ∧ e.length = 84
 | .inr r => x = .ret ∧ Fin p249 (Enc.enc r) .ret e h
theorem l249_1 (a0 : GComplex) (a1 : GContraction)   {lo : Int} {s : Unit} {t : (Unit) ⊕ Bool} (hF : forR lo (a0.Dims.length : Int) (F249_1_B a0 a1) (F249_1_D a0 a1) s = some t) {e : Env} {h : Heap} (hI : I249_1 a0 a1  lo s e h) : W A c249_1 e h (P249_1 a0 a1  t) := by
 show W A (.block 0 (.loop false b249_1)) e h _
 rw [W_block]
 refine W_forR hF 2 (by obtain ⟨_, rfl, _⟩ := hI; rfl) (I249_1 a0 a1 ) hI ?_ ?_
 ·rintro v5_1 _ e h ⟨k4, rfl, h_3⟩ hlt hw o ho
  unfold F249_1_B at ho
  obtain ⟨t29, gt29, ho⟩ := bS ho
  rcases t29 with _ | r43
  ·dsimp only at ho
   simp only [simprocAttr, R0, b249_1, h_3, eq_true hlt, hw]
   refine W.mono (l249_2 a0 a1 v5_1   gt29 (Exists.intro _ ( And.intro rfl ?_))) ?_
   ·simp only [simprocAttr, R0, h_3, eq_true hlt, hw]
   rintro _ e _ ⟨rfl, k7, rfl, h_8⟩
   obtain ⟨t41, gt41, ho⟩ := bS ho
   rcases t41 with _ | r42
   ·dsimp only at ho
    simp only [simprocAttr, R0, h_8, eq_true hlt, hw]
    refine W.mono (l249_3 a0 a1 v5_1   gt41 (Exists.intro _ ( And.intro rfl ?_))) ?_
    ·simp only [simprocAttr, R0, h_8, eq_true hlt, hw]
    rintro _ e _ ⟨rfl, k31, rfl, h_32⟩
    cases ho
    simp only [simprocAttr, R0, h_32, eq_true hlt, hw]
    refine And.intro rfl (Exists.intro _ ( And.intro rfl ?_))
    simp only [simprocAttr, R0, h_32, eq_true hlt, hw]
   ·dsimp only at ho
    cases ho
    simp only [simprocAttr, R0, h_8, eq_true hlt, hw]
    refine W.mono (l249_3 a0 a1 v5_1   gt41 (Exists.intro _ ( And.intro rfl ?_))) ?_
    ·simp only [simprocAttr, R0, h_8, eq_true hlt, hw]
    rintro _ e h ⟨rfl, hq⟩
    simp only [simprocAttr, RR, RB]
    intro ht; subst ht
    simp only [simprocAttr, RR, RB]
    exact And.intro rfl hq
  ·dsimp only at ho
   cases ho
   simp only [simprocAttr, R0, b249_1, h_3, eq_true hlt, hw]
   refine W.mono (l249_2 a0 a1 v5_1   gt29 (Exists.intro _ ( And.intro rfl ?_))) ?_
   ·simp only [simprocAttr, R0, h_3, eq_true hlt, hw]
   rintro _ e h ⟨rfl, hq⟩
   simp only [simprocAttr, RR, RB]
   intro ht; subst ht
   simp only [simprocAttr, RR, RB]
   exact And.intro rfl hq
 ·rintro v5_1 _ e h ⟨k4, rfl, h_3⟩ hge t1 ho
  unfold F249_1_D at ho
  cases ho
  simp only [simprocAttr, R0, b249_1, h_3, eq_false hge]
  intro ht; subst ht
  refine And.intro rfl (Exists.intro _ ( And.intro rfl ?_))
  simp only [simprocAttr, R0, h_3, eq_false hge]
theorem s249 (a0 : GComplex) (a1 : GContraction)   {r : Bool} (hF : F249 a0 a1 = some r) : ans A 249 [(eC a0), (eK a1)] = some (Enc.enc r) := by
 refine ans_of (f := p249) rfl rfl rfl fun e hl he => ?_
 have h0_0 : e.at 0 = (eC a0) := he 0 _ rfl
 have h1_0 : e.at 1 = (eK a1) := he 1 _ rfl
 have hl_0 : e.length = 84 := hl
 clear he hl
 have h_0 := And.intro hl_0 (And.intro h0_0 h1_0)
 show W A b249 e ⟨[], 0⟩ _
 unfold F249 at hF
 obtain ⟨x1, gx1, hF⟩ := bS hF
 have w2 : ans A 282 [(eC a0), (eK a1)] = some (V.bool x1) := s282 a0 a1  gx1
 cases x1 with
 | true =>
  rw [if_pos rfl] at hF
  obtain ⟨t44, gt44, hF⟩ := bS hF
  rcases t44 with _ | r45
  ·dsimp only at hF
   simp only [simprocAttr, R0, b249, h_0, w2]
   refine W.mono (l249_1 a0 a1   gt44 (Exists.intro _ ( And.intro rfl ?_))) ?_
   ·simp only [simprocAttr, R0, h_0, w2]
   rintro _ e _ ⟨rfl, k4, rfl, hl_5⟩
   cases hF
   simp only [simprocAttr, R0, hl_5]
   exact fin_ret (by simp only [simprocAttr, R0, fn_out, p249, Rs.ev, take_len_self, hl_5])
  ·dsimp only at hF
   cases hF
   simp only [simprocAttr, R0, b249, h_0, w2]
   refine W.mono (l249_1 a0 a1   gt44 (Exists.intro _ ( And.intro rfl ?_))) ?_
   ·simp only [simprocAttr, R0, h_0, w2]
   rintro _ e h ⟨rfl, hq⟩
   simp only [simprocAttr, RR, RB]
   exact hq
 | false =>
  rw [if_neg Bool.false_ne_true] at hF
  cases hF
  simp only [simprocAttr, R0, b249, h_0, w2]
  exact fin_ret (by simp only [simprocAttr, R0, fn_out, p249, Rs.ev, take_len_self, h_0, w2])
def F351 (a0 : GComplex) (a1 : GContraction) (a2 : List (List (List Int))) : Option Int :=
 (F45 a0 a2).bind fun x1 =>
 if x1 = 0 then
  (F249 a0 a1).bind fun x4 =>
  if x4 = true then
   (F46 a0 a2).bind fun x6 =>
   (F39 x6).bind fun x8 =>
   if x8 = true then
    some x1
   else
    some 5
  else
   some 2
 else
  some x1
theorem s351 (a0 : GComplex) (a1 : GContraction) (a2 : List (List (List Int)))   {r : Int} (hF : F351 a0 a1 a2 = some r) : ans A 351 [(eC a0), (eK a1), V.isl (a2.map Enc.enc)] = some (Enc.enc r) := by
 refine ans_of (f := p351) rfl rfl rfl fun e hl he => ?_
 have h0_0 : e.at 0 = (eC a0) := he 0 _ rfl
 have h1_0 : e.at 1 = (eK a1) := he 1 _ rfl
 have h2_0 : e.at 2 = V.isl (a2.map Enc.enc) := he 2 _ rfl
 have hl_0 : e.length = 29 := hl
 clear he hl
 have h_0 := And.intro hl_0 (And.intro h0_0 (And.intro h1_0 h2_0))
 show W A b351 e ⟨[], 0⟩ _
 unfold F351 at hF
 obtain ⟨x1, gx1, hF⟩ := bS hF
 have w2 : ans A 45 [(eC a0), V.isl (a2.map Enc.enc)] = some (V.int .i64 x1) := s45 a0 a2  gx1
 by_cases c3 : x1 = 0
 ·rw [if_pos c3] at hF
  obtain ⟨x4, gx4, hF⟩ := bS hF
  have w5 : ans A 249 [(eC a0), (eK a1)] = some (V.bool x4) := s249 a0 a1  gx4
  cases x4 with
  | true =>
   rw [if_pos rfl] at hF
   obtain ⟨x6, gx6, hF⟩ := bS hF
   have w7 : ans A 46 [(eC a0), V.isl (a2.map Enc.enc)] = some ((eC x6)) := s46 a0 a2  gx6
   obtain ⟨x8, gx8, hF⟩ := bS hF
   have w9 : ans A 39 [(eC x6)] = some (V.bool x8) := s39 x6  gx8
   cases x8 with
   | true =>
    rw [if_pos rfl] at hF
    cases hF
    simp only [simprocAttr, R0, b351, h_0, w2, eq_true c3, w5, w7, w9]
    exact fin_ret (by simp only [simprocAttr, R0, fn_out, p351, Rs.ev, take_len_self, h_0, w2, eq_true c3, w5, w7, w9])
   | false =>
    rw [if_neg Bool.false_ne_true] at hF
    cases hF
    simp only [simprocAttr, R0, b351, h_0, w2, eq_true c3, w5, w7, w9]
    exact fin_ret (by simp only [simprocAttr, R0, fn_out, p351, Rs.ev, take_len_self, h_0, w2, eq_true c3, w5, w7, w9])
  | false =>
   rw [if_neg Bool.false_ne_true] at hF
   cases hF
   simp only [simprocAttr, R0, b351, h_0, w2, eq_true c3, w5]
   exact fin_ret (by simp only [simprocAttr, R0, fn_out, p351, Rs.ev, take_len_self, h_0, w2, eq_true c3, w5])
 ·rw [if_neg c3] at hF
  cases hF
  simp only [simprocAttr, R0, b351, h_0, w2, eq_false c3]
  exact fin_ret (by simp only [simprocAttr, R0, fn_out, p351, Rs.ev, take_len_self, h_0, w2, eq_false c3])
def F357 (a0 : GComplex) (a1 : GContraction) (a2 : List (List (List Int))) (a3 : Int) (a4 : List Int) : Option (List Int) :=
 (chk (a3 + 1)).bind fun x1 =>
 if (a0.Dims.length : Int) ≤ x1 then
  (mkL 8 (a4.length : Int) 0).bind fun l3 =>
  some l3
 else
  (getI a2 a3).bind fun x5 =>
  (F288 a0 a1 a3 a4).bind fun x7 =>
  (F99 a0 a3).bind fun x9 =>
  (F80 a0.Prime x5 x7 x9).bind fun x11 =>
  some x11
theorem s357 (a0 : GComplex) (a1 : GContraction) (a2 : List (List (List Int))) (a3 : Int) (a4 : List Int)   {r : List Int} (hF : F357 a0 a1 a2 a3 a4 = some r) : ans A 357 [(eC a0), (eK a1), V.isl (a2.map Enc.enc), V.int .i64 a3, V.isl (a4.map Enc.enc)] = some (Enc.enc r) := by
 refine ans_of (f := p357) rfl rfl rfl fun e hl he => ?_
 have h0_0 : e.at 0 = (eC a0) := he 0 _ rfl
 have h1_0 : e.at 1 = (eK a1) := he 1 _ rfl
 have h2_0 : e.at 2 = V.isl (a2.map Enc.enc) := he 2 _ rfl
 have h3_0 : e.at 3 = V.int .i64 a3 := he 3 _ rfl
 have h4_0 : e.at 4 = V.isl (a4.map Enc.enc) := he 4 _ rfl
 have hl_0 : e.length = 35 := hl
 clear he hl
 show W A b357 e ⟨[], 0⟩ _
 unfold F357 at hF
 obtain ⟨x1, gx1, hF⟩ := bS hF
 have wx1 := chk_w gx1
 by_cases c2 : (a0.Dims.length : Int) ≤ x1
 ·rw [if_pos c2] at hF
  obtain ⟨l3, gl3, hF⟩ := bS hF
  obtain ⟨w4a, w4b, w4c, w4d, w4e⟩ := mkL_w gl3
  replace w4e : (List.replicate (Int.toNat (a4.length : Int)) [V.int .i64 0]).flatten = List.map Enc.enc l3 := w4e
  have hE := Option.some.inj hF; subst hE
  simp only [↓reduceIte, Nat.reduceAdd, Nat.reduceMul, Nat.reduceSub, Nat.reduceLT, Nat.reduceLeDiff, Nat.reduceEqDiff, Nat.reducePow, Int.reducePow, Int.reduceLE, Int.reduceLT, Int.reduceEq, Int.reduceToNat, reduceCtorEq, R0, b357, hl_0, h0_0, h1_0, h2_0, h3_0, h4_0, wx1, eq_true c2, w4a, w4b, w4c, w4e]
  exact fin_ret (by simp only [↓reduceIte, Nat.reduceAdd, Nat.reduceMul, Nat.reduceSub, Nat.reduceLT, Nat.reduceLeDiff, Nat.reduceEqDiff, Nat.reducePow, Int.reducePow, Int.reduceLE, Int.reduceLT, Int.reduceEq, Int.reduceToNat, reduceCtorEq, R0, fn_out, p357, Rs.ev, take_len_self, hl_0, h0_0, h1_0, h2_0, h3_0, h4_0, wx1, eq_true c2, w4a, w4b, w4c, w4e, frzs (α := Int) l3, takes (α := Int) l3, take_len (α := Int) (l := l3) (n := (Int.toNat (a4.length : Int))) (by first | rfl | simp only [w4d]), w4d])
 ·rw [if_neg c2] at hF
  obtain ⟨x5, gx5, hF⟩ := bS hF
  obtain ⟨w6a, w6b⟩ := getI_w gx5
  obtain ⟨x7, gx7, hF⟩ := bS hF
  have w8 : ans A 288 [(eC a0), (eK a1), V.int .i64 a3, V.isl (a4.map Enc.enc)] = some (V.isl (x7.map Enc.enc)) := s288 a0 a1 a3 a4  gx7
  obtain ⟨x9, gx9, hF⟩ := bS hF
  have w10 : ans A 99 [(eC a0), V.int .i64 a3] = some (V.int .i64 x9) := s99 a0 a3  gx9
  obtain ⟨x11, gx11, hF⟩ := bS hF
  have w12 : ans A 80 [V.int .i64 a0.Prime, V.isl (x5.map Enc.enc), V.isl (x7.map Enc.enc), V.int .i64 x9] = some (V.isl (x11.map Enc.enc)) := s80 a0.Prime x5 x7 x9  gx11
  have hE := Option.some.inj hF; subst hE
  simp only [↓reduceIte, Nat.reduceAdd, Nat.reduceMul, Nat.reduceSub, Nat.reduceLT, Nat.reduceLeDiff, Nat.reduceEqDiff, Nat.reducePow, Int.reducePow, Int.reduceLE, Int.reduceLT, Int.reduceEq, Int.reduceToNat, reduceCtorEq, R0, b357, hl_0, h0_0, h1_0, h2_0, h3_0, h4_0, wx1, eq_false c2, w6a, w6b, w8, w10, w12]
  exact fin_ret (by simp only [↓reduceIte, Nat.reduceAdd, Nat.reduceMul, Nat.reduceSub, Nat.reduceLT, Nat.reduceLeDiff, Nat.reduceEqDiff, Nat.reducePow, Int.reducePow, Int.reduceLE, Int.reduceLT, Int.reduceEq, Int.reduceToNat, reduceCtorEq, R0, fn_out, p357, Rs.ev, take_len_self, hl_0, h0_0, h1_0, h2_0, h3_0, h4_0, wx1, eq_false c2, w6a, w6b, w8, w10, w12])
end
end Rv
