/- What the abstract code answers: typed functions, part 1. -/
import Derived.Test.YtnioomfbbmjpaaaLpp
namespace Rv
set_option linter.unusedVariables false
set_option linter.unusedSimpArgs false
set_option maxRecDepth 100000
noncomputable section
abbrev eC (x : GComplex) : V := V.agg [V.int .i64 x.Prime, V.isl (x.Dims.map Enc.enc), V.isl (x.Maps.map Enc.enc)]
abbrev eF (x : GFiltered) : V := V.agg [V.int .i64 x.Complex.Prime, V.isl (x.Complex.Dims.map Enc.enc), V.isl (x.Complex.Maps.map Enc.enc), V.isl (x.Levels.map Enc.enc)]
theorem R1 : type_of% (And.intro RR (And.intro RB (And.intro RZ (And.intro @ii_eq @nn_eq)))) := And.intro RR (And.intro RB (And.intro RZ (And.intro @ii_eq @nn_eq)))
theorem R0 : type_of% (And.intro R1 RE) := And.intro R1 RE
def F30_1_B (a0 : List Int) (a1 : List Int) (v5_1 : Int) (s : Unit) : Option ((Unit) ⊕ ((Unit) ⊕ Bool)) :=
  (getI a0 v5_1).bind fun x5 =>
(getI a1 v5_1).bind fun x7 =>
if x5 = x7 then
  some (.inl ())
else
  some (.inr (.inr false))
def F30_1_D (a0 : List Int) (a1 : List Int) (v5_1 : Int) (s : Unit) : Option ((Unit) ⊕ Bool) :=
  some (.inl ())
def F30 (a0 : List Int) (a1 : List Int) : Option Bool :=
  if (a0.length : Int) = (a1.length : Int) then
    (forR 0 (a0.length : Int) (F30_1_B a0 a1) (F30_1_D a0 a1) ()).bind fun t10 => match t10 with
      | .inl _ =>
        some true
      | .inr r11 => some r11
  else
    some false
def I30_1 (a0 : List Int) (a1 : List Int)  (v5_1 : Int) (s : Unit) (e : Env) (h : Heap) : Prop :=
  ∃ k3 : Nat, h = ⟨[], k3⟩ ∧ e.length = 26 ∧ e.at 0 = V.isl (a0.map Enc.enc) ∧ e.at 1 = V.isl (a1.map Enc.enc) ∧ e.at 5 = V.int .i64 v5_1
def P30_1 (a0 : List Int) (a1 : List Int)  (t : (Unit) ⊕ Bool) (x : Ex) (e : Env) (h : Heap) : Prop :=
  match t with
  | .inl _ => x = .normal ∧ ∃ k3 : Nat, h = ⟨[], k3⟩ ∧ e.length = 26
  | .inr r => x = .ret ∧ Fin p30 (Enc.enc r) .ret e h
theorem l30_1 (a0 : List Int) (a1 : List Int)   {lo : Int} {s : Unit} {t : (Unit) ⊕ Bool} (hF : forR lo (a0.length : Int) (F30_1_B a0 a1) (F30_1_D a0 a1) s = some t) {e : Env} {h : Heap} (hI : I30_1 a0 a1  lo s e h) : W A c30_1 e h (P30_1 a0 a1  t) := by
  show W A (.block 0 (.loop false b30_1)) e h _
  rw [W_block]
  refine W_forR hF 0 (by obtain ⟨_, rfl, _⟩ := hI; rfl) (I30_1 a0 a1 ) hI ?_ ?_
  · rintro v5_1 _ e h ⟨k3, rfl, h_2⟩ hlt hw o ho
    unfold F30_1_B at ho
    obtain ⟨x5, gx5, ho⟩ := bS ho
    obtain ⟨w6a, w6b⟩ := getI_w gx5
    obtain ⟨x7, gx7, ho⟩ := bS ho
    obtain ⟨w8a, w8b⟩ := getI_w gx7
    by_cases c9 : x5 = x7
    · rw [if_pos c9] at ho
      cases ho
      simp only [simprocAttr, R0, opEv, fillV, mapO, mapS, b30_1, h_2, eq_true hlt, hw, w6a, w6b, w8a, w8b, eq_true c9]
      refine And.intro rfl (Exists.intro _ ( And.intro rfl ?_))
      simp only [simprocAttr, R0, h_2, eq_true hlt, hw, w6a, w6b, w8a, w8b, eq_true c9]
    · rw [if_neg c9] at ho
      cases ho
      simp only [simprocAttr, R0, opEv, fillV, mapO, mapS, b30_1, h_2, eq_true hlt, hw, w6a, w6b, w8a, w8b, eq_false c9]
      intro ht; subst ht
      simp only [simprocAttr, RR, RB]
      exact And.intro rfl (fin_ret (by simp only [simprocAttr, R0, fn_out, p30, Rs.ev, mapO, mapS, take_len_self, h_2, eq_true hlt, hw, w6a, w6b, w8a, w8b, eq_false c9]))
  · rintro v5_1 _ e h ⟨k3, rfl, h_2⟩ hge t1 ho
    unfold F30_1_D at ho
    cases ho
    simp only [simprocAttr, R0, opEv, fillV, mapO, mapS, b30_1, h_2, eq_false hge]
    intro ht; subst ht
    refine And.intro rfl (Exists.intro _ ( And.intro rfl ?_))
    simp only [simprocAttr, R0, h_2, eq_false hge]
theorem s30 (a0 : List Int) (a1 : List Int)   {r : Bool} (hF : F30 a0 a1 = some r) : ans A 30 [V.isl (a0.map Enc.enc), V.isl (a1.map Enc.enc)] = some (Enc.enc r) := by
  refine ans_of (f := p30) rfl rfl rfl fun e hl he => ?_
  have h0_0 : e.at 0 = V.isl (a0.map Enc.enc) := he 0 _ rfl
  have h1_0 : e.at 1 = V.isl (a1.map Enc.enc) := he 1 _ rfl
  have hl_0 : e.length = 26 := hl
  clear he hl
  have h_0 := And.intro hl_0 (And.intro h0_0 h1_0)
  show W A b30 e ⟨[], 0⟩ _
  unfold F30 at hF
  by_cases c1 : (a0.length : Int) = (a1.length : Int)
  · rw [if_pos c1] at hF
    obtain ⟨t10, gt10, hF⟩ := bS hF
    rcases t10 with _ | r11
    · dsimp only at hF
      simp only [simprocAttr, R0, opEv, fillV, mapO, mapS, b30, h_0, eq_true c1]
      refine W.mono (l30_1 a0 a1   gt10 (Exists.intro _ ( And.intro rfl ?_))) ?_
      · simp only [simprocAttr, R0, h_0, eq_true c1]
      rintro _ e _ ⟨rfl, k3, rfl, hl_4⟩
      cases hF
      simp only [simprocAttr, R0, opEv, fillV, mapO, mapS, hl_4, eq_true c1]
      exact fin_ret (by simp only [simprocAttr, R0, fn_out, p30, Rs.ev, mapO, mapS, take_len_self, hl_4, eq_true c1])
    · dsimp only at hF
      cases hF
      simp only [simprocAttr, R0, opEv, fillV, mapO, mapS, b30, h_0, eq_true c1]
      refine W.mono (l30_1 a0 a1   gt10 (Exists.intro _ ( And.intro rfl ?_))) ?_
      · simp only [simprocAttr, R0, h_0, eq_true c1]
      rintro _ e h ⟨rfl, hq⟩
      simp only [simprocAttr, RR, RB]
      exact hq
  · rw [if_neg c1] at hF
    cases hF
    simp only [simprocAttr, R0, opEv, fillV, mapO, mapS, b30, h_0, eq_false c1]
    exact fin_ret (by simp only [simprocAttr, R0, fn_out, p30, Rs.ev, mapO, mapS, take_len_self, h_0, eq_false c1])
def F51_1_B (a0 : List (List Int)) (a1 : List (List Int)) (v5_1 : Int) (s : Unit) : Option ((Unit) ⊕ ((Unit) ⊕ Bool)) :=
  (getI a0 v5_1).bind fun x5 =>
(getI a1 v5_1).bind fun x7 =>
(F30 x5 x7).bind fun x9 =>
if x9 = true then
  some (.inl ())
else
  some (.inr (.inr false))
def F51_1_D (a0 : List (List Int)) (a1 : List (List Int)) (v5_1 : Int) (s : Unit) : Option ((Unit) ⊕ Bool) :=
  some (.inl ())
def F51 (a0 : List (List Int)) (a1 : List (List Int)) : Option Bool :=
  if (a0.length : Int) = (a1.length : Int) then
    (forR 0 (a0.length : Int) (F51_1_B a0 a1) (F51_1_D a0 a1) ()).bind fun t11 => match t11 with
      | .inl _ =>
        some true
      | .inr r12 => some r12
  else
    some false
def I51_1 (a0 : List (List Int)) (a1 : List (List Int))  (v5_1 : Int) (s : Unit) (e : Env) (h : Heap) : Prop :=
  ∃ k3 : Nat, h = ⟨[], k3⟩ ∧ e.length = 27 ∧ e.at 0 = V.isl (a0.map Enc.enc) ∧ e.at 1 = V.isl (a1.map Enc.enc) ∧ e.at 5 = V.int .i64 v5_1
def P51_1 (a0 : List (List Int)) (a1 : List (List Int))  (t : (Unit) ⊕ Bool) (x : Ex) (e : Env) (h : Heap) : Prop :=
  match t with
  | .inl _ => x = .normal ∧ ∃ k3 : Nat, h = ⟨[], k3⟩ ∧ e.length = 27
  | .inr r => x = .ret ∧ Fin p51 (Enc.enc r) .ret e h
theorem l51_1 (a0 : List (List Int)) (a1 : List (List Int))   {lo : Int} {s : Unit} {t : (Unit) ⊕ Bool} (hF : forR lo (a0.length : Int) (F51_1_B a0 a1) (F51_1_D a0 a1) s = some t) {e : Env} {h : Heap} (hI : I51_1 a0 a1  lo s e h) : W A c51_1 e h (P51_1 a0 a1  t) := by
  show W A (.block 0 (.loop false b51_1)) e h _
  rw [W_block]
  refine W_forR hF 0 (by obtain ⟨_, rfl, _⟩ := hI; rfl) (I51_1 a0 a1 ) hI ?_ ?_
  · rintro v5_1 _ e h ⟨k3, rfl, h_2⟩ hlt hw o ho
    unfold F51_1_B at ho
    obtain ⟨x5, gx5, ho⟩ := bS ho
    obtain ⟨w6a, w6b⟩ := getI_w gx5
    obtain ⟨x7, gx7, ho⟩ := bS ho
    obtain ⟨w8a, w8b⟩ := getI_w gx7
    obtain ⟨x9, gx9, ho⟩ := bS ho
    have w10 : ans A 30 [V.isl (x5.map Enc.enc), V.isl (x7.map Enc.enc)] = some (V.bool x9) := s30 x5 x7  gx9
    cases x9 with
    | true =>
      rw [if_pos rfl] at ho
      cases ho
      simp only [simprocAttr, R0, opEv, fillV, mapO, mapS, b51_1, h_2, eq_true hlt, hw, w6a, w6b, w8a, w8b, w10]
      refine And.intro rfl (Exists.intro _ ( And.intro rfl ?_))
      simp only [simprocAttr, R0, h_2, eq_true hlt, hw, w6a, w6b, w8a, w8b, w10]
    | false =>
      rw [if_neg Bool.false_ne_true] at ho
      cases ho
      simp only [simprocAttr, R0, opEv, fillV, mapO, mapS, b51_1, h_2, eq_true hlt, hw, w6a, w6b, w8a, w8b, w10]
      intro ht; subst ht
      simp only [simprocAttr, RR, RB]
      exact And.intro rfl (fin_ret (by simp only [simprocAttr, R0, fn_out, p51, Rs.ev, mapO, mapS, take_len_self, h_2, eq_true hlt, hw, w6a, w6b, w8a, w8b, w10]))
  · rintro v5_1 _ e h ⟨k3, rfl, h_2⟩ hge t1 ho
    unfold F51_1_D at ho
    cases ho
    simp only [simprocAttr, R0, opEv, fillV, mapO, mapS, b51_1, h_2, eq_false hge]
    intro ht; subst ht
    refine And.intro rfl (Exists.intro _ ( And.intro rfl ?_))
    simp only [simprocAttr, R0, h_2, eq_false hge]
theorem s51 (a0 : List (List Int)) (a1 : List (List Int))   {r : Bool} (hF : F51 a0 a1 = some r) : ans A 51 [V.isl (a0.map Enc.enc), V.isl (a1.map Enc.enc)] = some (Enc.enc r) := by
  refine ans_of (f := p51) rfl rfl rfl fun e hl he => ?_
  have h0_0 : e.at 0 = V.isl (a0.map Enc.enc) := he 0 _ rfl
  have h1_0 : e.at 1 = V.isl (a1.map Enc.enc) := he 1 _ rfl
  have hl_0 : e.length = 27 := hl
  clear he hl
  have h_0 := And.intro hl_0 (And.intro h0_0 h1_0)
  show W A b51 e ⟨[], 0⟩ _
  unfold F51 at hF
  by_cases c1 : (a0.length : Int) = (a1.length : Int)
  · rw [if_pos c1] at hF
    obtain ⟨t11, gt11, hF⟩ := bS hF
    rcases t11 with _ | r12
    · dsimp only at hF
      simp only [simprocAttr, R0, opEv, fillV, mapO, mapS, b51, h_0, eq_true c1]
      refine W.mono (l51_1 a0 a1   gt11 (Exists.intro _ ( And.intro rfl ?_))) ?_
      · simp only [simprocAttr, R0, h_0, eq_true c1]
      rintro _ e _ ⟨rfl, k3, rfl, hl_4⟩
      cases hF
      simp only [simprocAttr, R0, opEv, fillV, mapO, mapS, hl_4, eq_true c1]
      exact fin_ret (by simp only [simprocAttr, R0, fn_out, p51, Rs.ev, mapO, mapS, take_len_self, hl_4, eq_true c1])
    · dsimp only at hF
      cases hF
      simp only [simprocAttr, R0, opEv, fillV, mapO, mapS, b51, h_0, eq_true c1]
      refine W.mono (l51_1 a0 a1   gt11 (Exists.intro _ ( And.intro rfl ?_))) ?_
      · simp only [simprocAttr, R0, h_0, eq_true c1]
      rintro _ e h ⟨rfl, hq⟩
      simp only [simprocAttr, RR, RB]
      exact hq
  · rw [if_neg c1] at hF
    cases hF
    simp only [simprocAttr, R0, opEv, fillV, mapO, mapS, b51, h_0, eq_false c1]
    exact fin_ret (by simp only [simprocAttr, R0, fn_out, p51, Rs.ev, mapO, mapS, take_len_self, h_0, eq_false c1])
def F17_1_B (a0 : List (List (List Int))) (a1 : List (List (List Int))) (v5_1 : Int) (s : Unit) : Option ((Unit) ⊕ ((Unit) ⊕ Bool)) :=
  (getI a0 v5_1).bind fun x5 =>
(getI a1 v5_1).bind fun x7 =>
(F51 x5 x7).bind fun x9 =>
if x9 = true then
  some (.inl ())
else
  some (.inr (.inr false))
def F17_1_D (a0 : List (List (List Int))) (a1 : List (List (List Int))) (v5_1 : Int) (s : Unit) : Option ((Unit) ⊕ Bool) :=
  some (.inl ())
def F17 (a0 : List (List (List Int))) (a1 : List (List (List Int))) : Option Bool :=
  if (a0.length : Int) = (a1.length : Int) then
    (forR 0 (a0.length : Int) (F17_1_B a0 a1) (F17_1_D a0 a1) ()).bind fun t11 => match t11 with
      | .inl _ =>
        some true
      | .inr r12 => some r12
  else
    some false
def I17_1 (a0 : List (List (List Int))) (a1 : List (List (List Int)))  (v5_1 : Int) (s : Unit) (e : Env) (h : Heap) : Prop :=
  ∃ k3 : Nat, h = ⟨[], k3⟩ ∧ e.length = 27 ∧ e.at 0 = V.isl (a0.map Enc.enc) ∧ e.at 1 = V.isl (a1.map Enc.enc) ∧ e.at 5 = V.int .i64 v5_1
def P17_1 (a0 : List (List (List Int))) (a1 : List (List (List Int)))  (t : (Unit) ⊕ Bool) (x : Ex) (e : Env) (h : Heap) : Prop :=
  match t with
  | .inl _ => x = .normal ∧ ∃ k3 : Nat, h = ⟨[], k3⟩ ∧ e.length = 27
  | .inr r => x = .ret ∧ Fin p17 (Enc.enc r) .ret e h
theorem l17_1 (a0 : List (List (List Int))) (a1 : List (List (List Int)))   {lo : Int} {s : Unit} {t : (Unit) ⊕ Bool} (hF : forR lo (a0.length : Int) (F17_1_B a0 a1) (F17_1_D a0 a1) s = some t) {e : Env} {h : Heap} (hI : I17_1 a0 a1  lo s e h) : W A c17_1 e h (P17_1 a0 a1  t) := by
  show W A (.block 0 (.loop false b17_1)) e h _
  rw [W_block]
  refine W_forR hF 0 (by obtain ⟨_, rfl, _⟩ := hI; rfl) (I17_1 a0 a1 ) hI ?_ ?_
  · rintro v5_1 _ e h ⟨k3, rfl, h_2⟩ hlt hw o ho
    unfold F17_1_B at ho
    obtain ⟨x5, gx5, ho⟩ := bS ho
    obtain ⟨w6a, w6b⟩ := getI_w gx5
    obtain ⟨x7, gx7, ho⟩ := bS ho
    obtain ⟨w8a, w8b⟩ := getI_w gx7
    obtain ⟨x9, gx9, ho⟩ := bS ho
    have w10 : ans A 51 [V.isl (x5.map Enc.enc), V.isl (x7.map Enc.enc)] = some (V.bool x9) := s51 x5 x7  gx9
    cases x9 with
    | true =>
      rw [if_pos rfl] at ho
      cases ho
      simp only [simprocAttr, R0, opEv, fillV, mapO, mapS, b17_1, h_2, eq_true hlt, hw, w6a, w6b, w8a, w8b, w10]
      refine And.intro rfl (Exists.intro _ ( And.intro rfl ?_))
      simp only [simprocAttr, R0, h_2, eq_true hlt, hw, w6a, w6b, w8a, w8b, w10]
    | false =>
      rw [if_neg Bool.false_ne_true] at ho
      cases ho
      simp only [simprocAttr, R0, opEv, fillV, mapO, mapS, b17_1, h_2, eq_true hlt, hw, w6a, w6b, w8a, w8b, w10]
      intro ht; subst ht
      simp only [simprocAttr, RR, RB]
      exact And.intro rfl (fin_ret (by simp only [simprocAttr, R0, fn_out, p17, Rs.ev, mapO, mapS, take_len_self, h_2, eq_true hlt, hw, w6a, w6b, w8a, w8b, w10]))
  · rintro v5_1 _ e h ⟨k3, rfl, h_2⟩ hge t1 ho
    unfold F17_1_D at ho
    cases ho
    simp only [simprocAttr, R0, opEv, fillV, mapO, mapS, b17_1, h_2, eq_false hge]
    intro ht; subst ht
    refine And.intro rfl (Exists.intro _ ( And.intro rfl ?_))
    simp only [simprocAttr, R0, h_2, eq_false hge]
theorem s17 (a0 : List (List (List Int))) (a1 : List (List (List Int)))   {r : Bool} (hF : F17 a0 a1 = some r) : ans A 17 [V.isl (a0.map Enc.enc), V.isl (a1.map Enc.enc)] = some (Enc.enc r) := by
  refine ans_of (f := p17) rfl rfl rfl fun e hl he => ?_
  have h0_0 : e.at 0 = V.isl (a0.map Enc.enc) := he 0 _ rfl
  have h1_0 : e.at 1 = V.isl (a1.map Enc.enc) := he 1 _ rfl
  have hl_0 : e.length = 27 := hl
  clear he hl
  have h_0 := And.intro hl_0 (And.intro h0_0 h1_0)
  show W A b17 e ⟨[], 0⟩ _
  unfold F17 at hF
  by_cases c1 : (a0.length : Int) = (a1.length : Int)
  · rw [if_pos c1] at hF
    obtain ⟨t11, gt11, hF⟩ := bS hF
    rcases t11 with _ | r12
    · dsimp only at hF
      simp only [simprocAttr, R0, opEv, fillV, mapO, mapS, b17, h_0, eq_true c1]
      refine W.mono (l17_1 a0 a1   gt11 (Exists.intro _ ( And.intro rfl ?_))) ?_
      · simp only [simprocAttr, R0, h_0, eq_true c1]
      rintro _ e _ ⟨rfl, k3, rfl, hl_4⟩
      cases hF
      simp only [simprocAttr, R0, opEv, fillV, mapO, mapS, hl_4, eq_true c1]
      exact fin_ret (by simp only [simprocAttr, R0, fn_out, p17, Rs.ev, mapO, mapS, take_len_self, hl_4, eq_true c1])
    · dsimp only at hF
      cases hF
      simp only [simprocAttr, R0, opEv, fillV, mapO, mapS, b17, h_0, eq_true c1]
      refine W.mono (l17_1 a0 a1   gt11 (Exists.intro _ ( And.intro rfl ?_))) ?_
      · simp only [simprocAttr, R0, h_0, eq_true c1]
      rintro _ e h ⟨rfl, hq⟩
      simp only [simprocAttr, RR, RB]
      exact hq
  · rw [if_neg c1] at hF
    cases hF
    simp only [simprocAttr, R0, opEv, fillV, mapO, mapS, b17, h_0, eq_false c1]
    exact fin_ret (by simp only [simprocAttr, R0, fn_out, p17, Rs.ev, mapO, mapS, take_len_self, h_0, eq_false c1])
def F16 (a0 : GComplex) (a1 : GComplex) : Option Bool :=
  if a0.Prime = a1.Prime then
    (F30 a0.Dims a1.Dims).bind fun x2 =>
    if x2 = true then
      (F17 a0.Maps a1.Maps).bind fun x4 =>
      if x4 = true then
        some true
      else
        some false
    else
      some false
  else
    some false
theorem s16 (a0 : GComplex) (a1 : GComplex)   {r : Bool} (hF : F16 a0 a1 = some r) : ans A 16 [(eC a0), (eC a1)] = some (Enc.enc r) := by
  refine ans_of (f := p16) rfl rfl rfl fun e hl he => ?_
  have h0_0 : e.at 0 = (eC a0) := he 0 _ rfl
  have h1_0 : e.at 1 = (eC a1) := he 1 _ rfl
  have hl_0 : e.length = 22 := hl
  clear he hl
  have h_0 := And.intro hl_0 (And.intro h0_0 h1_0)
  show W A b16 e ⟨[], 0⟩ _
  unfold F16 at hF
  by_cases c1 : a0.Prime = a1.Prime
  · rw [if_pos c1] at hF
    obtain ⟨x2, gx2, hF⟩ := bS hF
    have w3 : ans A 30 [V.isl (a0.Dims.map Enc.enc), V.isl (a1.Dims.map Enc.enc)] = some (V.bool x2) := s30 a0.Dims a1.Dims  gx2
    cases x2 with
    | true =>
      rw [if_pos rfl] at hF
      obtain ⟨x4, gx4, hF⟩ := bS hF
      have w5 : ans A 17 [V.isl (a0.Maps.map Enc.enc), V.isl (a1.Maps.map Enc.enc)] = some (V.bool x4) := s17 a0.Maps a1.Maps  gx4
      cases x4 with
      | true =>
        rw [if_pos rfl] at hF
        cases hF
        simp only [simprocAttr, R0, opEv, fillV, mapO, mapS, b16, h_0, eq_true c1, w3, w5]
        exact fin_ret (by simp only [simprocAttr, R0, fn_out, p16, Rs.ev, mapO, mapS, take_len_self, h_0, eq_true c1, w3, w5])
      | false =>
        rw [if_neg Bool.false_ne_true] at hF
        cases hF
        simp only [simprocAttr, R0, opEv, fillV, mapO, mapS, b16, h_0, eq_true c1, w3, w5]
        exact fin_ret (by simp only [simprocAttr, R0, fn_out, p16, Rs.ev, mapO, mapS, take_len_self, h_0, eq_true c1, w3, w5])
    | false =>
      rw [if_neg Bool.false_ne_true] at hF
      cases hF
      simp only [simprocAttr, R0, opEv, fillV, mapO, mapS, b16, h_0, eq_true c1, w3]
      exact fin_ret (by simp only [simprocAttr, R0, fn_out, p16, Rs.ev, mapO, mapS, take_len_self, h_0, eq_true c1, w3])
  · rw [if_neg c1] at hF
    cases hF
    simp only [simprocAttr, R0, opEv, fillV, mapO, mapS, b16, h_0, eq_false c1]
    exact fin_ret (by simp only [simprocAttr, R0, fn_out, p16, Rs.ev, mapO, mapS, take_len_self, h_0, eq_false c1])
def F25 (a0 : GFiltered) (a1 : GFiltered) : Option Bool :=
  (F16 a0.Complex a1.Complex).bind fun x1 =>
  if x1 = true then
    (F51 a0.Levels a1.Levels).bind fun x3 =>
    if x3 = true then
      some true
    else
      some false
  else
    some false
theorem s25 (a0 : GFiltered) (a1 : GFiltered)   {r : Bool} (hF : F25 a0 a1 = some r) : ans A 25 [(eF a0), (eF a1)] = some (Enc.enc r) := by
  refine ans_of (f := p25) rfl rfl rfl fun e hl he => ?_
  have h0_0 : e.at 0 = (eF a0) := he 0 _ rfl
  have h1_0 : e.at 1 = (eF a1) := he 1 _ rfl
  have hl_0 : e.length = 17 := hl
  clear he hl
  have h_0 := And.intro hl_0 (And.intro h0_0 h1_0)
  show W A b25 e ⟨[], 0⟩ _
  unfold F25 at hF
  obtain ⟨x1, gx1, hF⟩ := bS hF
  have w2 : ans A 16 [(eC a0.Complex), (eC a1.Complex)] = some (V.bool x1) := s16 a0.Complex a1.Complex  gx1
  cases x1 with
  | true =>
    rw [if_pos rfl] at hF
    obtain ⟨x3, gx3, hF⟩ := bS hF
    have w4 : ans A 51 [V.isl (a0.Levels.map Enc.enc), V.isl (a1.Levels.map Enc.enc)] = some (V.bool x3) := s51 a0.Levels a1.Levels  gx3
    cases x3 with
    | true =>
      rw [if_pos rfl] at hF
      cases hF
      simp only [simprocAttr, R0, opEv, fillV, mapO, mapS, b25, h_0, w2, w4]
      exact fin_ret (by simp only [simprocAttr, R0, fn_out, p25, Rs.ev, mapO, mapS, take_len_self, h_0, w2, w4])
    | false =>
      rw [if_neg Bool.false_ne_true] at hF
      cases hF
      simp only [simprocAttr, R0, opEv, fillV, mapO, mapS, b25, h_0, w2, w4]
      exact fin_ret (by simp only [simprocAttr, R0, fn_out, p25, Rs.ev, mapO, mapS, take_len_self, h_0, w2, w4])
  | false =>
    rw [if_neg Bool.false_ne_true] at hF
    cases hF
    simp only [simprocAttr, R0, opEv, fillV, mapO, mapS, b25, h_0, w2]
    exact fin_ret (by simp only [simprocAttr, R0, fn_out, p25, Rs.ev, mapO, mapS, take_len_self, h_0, w2])
def F43 (a0 : List Int) (a1 : Int) : Option Int :=
  (chk (a1 - (a0.length : Int))).bind fun x1 =>
  if x1 < 0 then
    some (-1)
  else
    some x1
theorem s43 (a0 : List Int) (a1 : Int)   {r : Int} (hF : F43 a0 a1 = some r) : ans A 43 [V.isl (a0.map Enc.enc), V.int .i64 a1] = some (Enc.enc r) := by
  refine ans_of (f := p43) rfl rfl rfl fun e hl he => ?_
  have h0_0 : e.at 0 = V.isl (a0.map Enc.enc) := he 0 _ rfl
  have h1_0 : e.at 1 = V.int .i64 a1 := he 1 _ rfl
  have hl_0 : e.length = 12 := hl
  clear he hl
  have h_0 := And.intro hl_0 (And.intro h0_0 h1_0)
  show W A b43 e ⟨[], 0⟩ _
  unfold F43 at hF
  obtain ⟨x1, gx1, hF⟩ := bS hF
  have wx1 := chk_w gx1
  by_cases c2 : x1 < 0
  · rw [if_pos c2] at hF
    cases hF
    simp only [simprocAttr, R0, opEv, fillV, mapO, mapS, b43, h_0, wx1, eq_true c2]
    exact fin_ret (by simp only [simprocAttr, R0, fn_out, p43, Rs.ev, mapO, mapS, take_len_self, h_0, wx1, eq_true c2])
  · rw [if_neg c2] at hF
    cases hF
    simp only [simprocAttr, R0, opEv, fillV, mapO, mapS, b43, h_0, wx1, eq_false c2]
    exact fin_ret (by simp only [simprocAttr, R0, fn_out, p43, Rs.ev, mapO, mapS, take_len_self, h_0, wx1, eq_false c2])
def F44_1_B (a0 : List (List Int)) (v5_1 : Int) (v1_1 : Int) : Option ((Int) ⊕ ((Int) ⊕ Int)) :=
  (getI a0 v5_1).bind fun x6 =>
(F43 x6 v1_1).bind fun x8 =>
if x8 < 0 then
  some (.inr (.inr (-1)))
else
  some (.inl x8)
def F44_1_D (a0 : List (List Int)) (v5_1 : Int) (v1_1 : Int) : Option ((Int) ⊕ Int) :=
  some (.inl v1_1)
def F44 (a0 : List (List Int)) (a1 : Int) : Option Int :=
  (chk (a1 - (a0.length : Int))).bind fun x1 =>
  if x1 < 0 then
    some (-1)
  else
    (forR 0 (a0.length : Int) (F44_1_B a0) (F44_1_D a0) x1).bind fun t11 => match t11 with
      | .inl zv1_1 =>
        some zv1_1
      | .inr r12 => some r12
def I44_1 (a0 : List (List Int))  (v5_1 : Int) (v1_1 : Int) (e : Env) (h : Heap) : Prop :=
  ∃ k4 : Nat, h = ⟨[], k4⟩ ∧ e.length = 27 ∧ e.at 0 = V.isl (a0.map Enc.enc) ∧ e.at 1 = V.int .i64 v1_1 ∧ e.at 5 = V.int .i64 v5_1
def P44_1 (a0 : List (List Int))  (t : (Int) ⊕ Int) (x : Ex) (e : Env) (h : Heap) : Prop :=
  match t with
  | .inl zv1_1 => x = .normal ∧ ∃ k4 : Nat, h = ⟨[], k4⟩ ∧ e.length = 27 ∧ e.at 1 = V.int .i64 zv1_1
  | .inr r => x = .ret ∧ Fin p44 (Enc.enc r) .ret e h
theorem l44_1 (a0 : List (List Int))   {lo : Int} {s : Int} {t : (Int) ⊕ Int} (hF : forR lo (a0.length : Int) (F44_1_B a0) (F44_1_D a0) s = some t) {e : Env} {h : Heap} (hI : I44_1 a0  lo s e h) : W A c44_1 e h (P44_1 a0  t) := by
  show W A (.block 0 (.loop false b44_1)) e h _
  rw [W_block]
  refine W_forR hF 0 (by obtain ⟨_, rfl, _⟩ := hI; rfl) (I44_1 a0 ) hI ?_ ?_
  · rintro v5_1 v1_1 e h ⟨k4, rfl, h_3⟩ hlt hw o ho
    unfold F44_1_B at ho
    obtain ⟨x6, gx6, ho⟩ := bS ho
    obtain ⟨w7a, w7b⟩ := getI_w gx6
    obtain ⟨x8, gx8, ho⟩ := bS ho
    have w9 : ans A 43 [V.isl (x6.map Enc.enc), V.int .i64 v1_1] = some (V.int .i64 x8) := s43 x6 v1_1  gx8
    by_cases c10 : x8 < 0
    · rw [if_pos c10] at ho
      cases ho
      simp only [simprocAttr, R0, opEv, fillV, mapO, mapS, b44_1, h_3, eq_true hlt, hw, w7a, w7b, w9, eq_true c10]
      intro ht; subst ht
      simp only [simprocAttr, RR, RB]
      exact And.intro rfl (fin_ret (by simp only [simprocAttr, R0, fn_out, p44, Rs.ev, mapO, mapS, take_len_self, h_3, eq_true hlt, hw, w7a, w7b, w9, eq_true c10]))
    · rw [if_neg c10] at ho
      cases ho
      simp only [simprocAttr, R0, opEv, fillV, mapO, mapS, b44_1, h_3, eq_true hlt, hw, w7a, w7b, w9, eq_false c10]
      refine And.intro rfl (Exists.intro _ ( And.intro rfl ?_))
      simp only [simprocAttr, R0, h_3, eq_true hlt, hw, w7a, w7b, w9, eq_false c10]
  · rintro v5_1 v1_1 e h ⟨k4, rfl, h_3⟩ hge t1 ho
    unfold F44_1_D at ho
    cases ho
    simp only [simprocAttr, R0, opEv, fillV, mapO, mapS, b44_1, h_3, eq_false hge]
    intro ht; subst ht
    refine And.intro rfl (Exists.intro _ ( And.intro rfl ?_))
    simp only [simprocAttr, R0, h_3, eq_false hge]
theorem s44 (a0 : List (List Int)) (a1 : Int)   {r : Int} (hF : F44 a0 a1 = some r) : ans A 44 [V.isl (a0.map Enc.enc), V.int .i64 a1] = some (Enc.enc r) := by
  refine ans_of (f := p44) rfl rfl rfl fun e hl he => ?_
  have h0_0 : e.at 0 = V.isl (a0.map Enc.enc) := he 0 _ rfl
  have h1_0 : e.at 1 = V.int .i64 a1 := he 1 _ rfl
  have hl_0 : e.length = 27 := hl
  clear he hl
  have h_0 := And.intro hl_0 (And.intro h0_0 h1_0)
  show W A b44 e ⟨[], 0⟩ _
  unfold F44 at hF
  obtain ⟨x1, gx1, hF⟩ := bS hF
  have wx1 := chk_w gx1
  by_cases c2 : x1 < 0
  · rw [if_pos c2] at hF
    cases hF
    simp only [simprocAttr, R0, opEv, fillV, mapO, mapS, b44, h_0, wx1, eq_true c2]
    exact fin_ret (by simp only [simprocAttr, R0, fn_out, p44, Rs.ev, mapO, mapS, take_len_self, h_0, wx1, eq_true c2])
  · rw [if_neg c2] at hF
    obtain ⟨t11, gt11, hF⟩ := bS hF
    rcases t11 with zv1_1 | r12
    · dsimp only at hF
      simp only [simprocAttr, R0, opEv, fillV, mapO, mapS, b44, h_0, wx1, eq_false c2]
      refine W.mono (l44_1 a0   gt11 (Exists.intro _ ( And.intro rfl ?_))) ?_
      · simp only [simprocAttr, R0, h_0, wx1, eq_false c2]
      rintro _ e _ ⟨rfl, k4, rfl, h_5⟩
      cases hF
      simp only [simprocAttr, R0, opEv, fillV, mapO, mapS, h_5, eq_false c2]
      exact fin_ret (by simp only [simprocAttr, R0, fn_out, p44, Rs.ev, mapO, mapS, take_len_self, h_5, eq_false c2])
    · dsimp only at hF
      cases hF
      simp only [simprocAttr, R0, opEv, fillV, mapO, mapS, b44, h_0, wx1, eq_false c2]
      refine W.mono (l44_1 a0   gt11 (Exists.intro _ ( And.intro rfl ?_))) ?_
      · simp only [simprocAttr, R0, h_0, wx1, eq_false c2]
      rintro _ e h ⟨rfl, hq⟩
      simp only [simprocAttr, RR, RB]
      exact hq
def F11_1_B (a0 : List (List (List Int))) (v5_1 : Int) (v1_1 : Int) : Option ((Int) ⊕ ((Int) ⊕ Int)) :=
  (getI a0 v5_1).bind fun x6 =>
(F44 x6 v1_1).bind fun x8 =>
if x8 < 0 then
  some (.inr (.inr (-1)))
else
  some (.inl x8)
def F11_1_D (a0 : List (List (List Int))) (v5_1 : Int) (v1_1 : Int) : Option ((Int) ⊕ Int) :=
  some (.inl v1_1)
def F11 (a0 : List (List (List Int))) (a1 : Int) : Option Int :=
  (chk (a1 - (a0.length : Int))).bind fun x1 =>
  if x1 < 0 then
    some (-1)
  else
    (forR 0 (a0.length : Int) (F11_1_B a0) (F11_1_D a0) x1).bind fun t11 => match t11 with
      | .inl zv1_1 =>
        some zv1_1
      | .inr r12 => some r12
def I11_1 (a0 : List (List (List Int)))  (v5_1 : Int) (v1_1 : Int) (e : Env) (h : Heap) : Prop :=
  ∃ k4 : Nat, h = ⟨[], k4⟩ ∧ e.length = 27 ∧ e.at 0 = V.isl (a0.map Enc.enc) ∧ e.at 1 = V.int .i64 v1_1 ∧ e.at 5 = V.int .i64 v5_1
def P11_1 (a0 : List (List (List Int)))  (t : (Int) ⊕ Int) (x : Ex) (e : Env) (h : Heap) : Prop :=
  match t with
  | .inl zv1_1 => x = .normal ∧ ∃ k4 : Nat, h = ⟨[], k4⟩ ∧ e.length = 27 ∧ e.at 1 = V.int .i64 zv1_1
  | .inr r => x = .ret ∧ Fin p11 (Enc.enc r) .ret e h
theorem l11_1 (a0 : List (List (List Int)))   {lo : Int} {s : Int} {t : (Int) ⊕ Int} (hF : forR lo (a0.length : Int) (F11_1_B a0) (F11_1_D a0) s = some t) {e : Env} {h : Heap} (hI : I11_1 a0  lo s e h) : W A c11_1 e h (P11_1 a0  t) := by
  show W A (.block 0 (.loop false b11_1)) e h _
  rw [W_block]
  refine W_forR hF 0 (by obtain ⟨_, rfl, _⟩ := hI; rfl) (I11_1 a0 ) hI ?_ ?_
  · rintro v5_1 v1_1 e h ⟨k4, rfl, h_3⟩ hlt hw o ho
    unfold F11_1_B at ho
    obtain ⟨x6, gx6, ho⟩ := bS ho
    obtain ⟨w7a, w7b⟩ := getI_w gx6
    obtain ⟨x8, gx8, ho⟩ := bS ho
    have w9 : ans A 44 [V.isl (x6.map Enc.enc), V.int .i64 v1_1] = some (V.int .i64 x8) := s44 x6 v1_1  gx8
    by_cases c10 : x8 < 0
    · rw [if_pos c10] at ho
      cases ho
      simp only [simprocAttr, R0, opEv, fillV, mapO, mapS, b11_1, h_3, eq_true hlt, hw, w7a, w7b, w9, eq_true c10]
      intro ht; subst ht
      simp only [simprocAttr, RR, RB]
      exact And.intro rfl (fin_ret (by simp only [simprocAttr, R0, fn_out, p11, Rs.ev, mapO, mapS, take_len_self, h_3, eq_true hlt, hw, w7a, w7b, w9, eq_true c10]))
    · rw [if_neg c10] at ho
      cases ho
      simp only [simprocAttr, R0, opEv, fillV, mapO, mapS, b11_1, h_3, eq_true hlt, hw, w7a, w7b, w9, eq_false c10]
      refine And.intro rfl (Exists.intro _ ( And.intro rfl ?_))
      simp only [simprocAttr, R0, h_3, eq_true hlt, hw, w7a, w7b, w9, eq_false c10]
  · rintro v5_1 v1_1 e h ⟨k4, rfl, h_3⟩ hge t1 ho
    unfold F11_1_D at ho
    cases ho
    simp only [simprocAttr, R0, opEv, fillV, mapO, mapS, b11_1, h_3, eq_false hge]
    intro ht; subst ht
    refine And.intro rfl (Exists.intro _ ( And.intro rfl ?_))
    simp only [simprocAttr, R0, h_3, eq_false hge]
theorem s11 (a0 : List (List (List Int))) (a1 : Int)   {r : Int} (hF : F11 a0 a1 = some r) : ans A 11 [V.isl (a0.map Enc.enc), V.int .i64 a1] = some (Enc.enc r) := by
  refine ans_of (f := p11) rfl rfl rfl fun e hl he => ?_
  have h0_0 : e.at 0 = V.isl (a0.map Enc.enc) := he 0 _ rfl
  have h1_0 : e.at 1 = V.int .i64 a1 := he 1 _ rfl
  have hl_0 : e.length = 27 := hl
  clear he hl
  have h_0 := And.intro hl_0 (And.intro h0_0 h1_0)
  show W A b11 e ⟨[], 0⟩ _
  unfold F11 at hF
  obtain ⟨x1, gx1, hF⟩ := bS hF
  have wx1 := chk_w gx1
  by_cases c2 : x1 < 0
  · rw [if_pos c2] at hF
    cases hF
    simp only [simprocAttr, R0, opEv, fillV, mapO, mapS, b11, h_0, wx1, eq_true c2]
    exact fin_ret (by simp only [simprocAttr, R0, fn_out, p11, Rs.ev, mapO, mapS, take_len_self, h_0, wx1, eq_true c2])
  · rw [if_neg c2] at hF
    obtain ⟨t11, gt11, hF⟩ := bS hF
    rcases t11 with zv1_1 | r12
    · dsimp only at hF
      simp only [simprocAttr, R0, opEv, fillV, mapO, mapS, b11, h_0, wx1, eq_false c2]
      refine W.mono (l11_1 a0   gt11 (Exists.intro _ ( And.intro rfl ?_))) ?_
      · simp only [simprocAttr, R0, h_0, wx1, eq_false c2]
      rintro _ e _ ⟨rfl, k4, rfl, h_5⟩
      cases hF
      simp only [simprocAttr, R0, opEv, fillV, mapO, mapS, h_5, eq_false c2]
      exact fin_ret (by simp only [simprocAttr, R0, fn_out, p11, Rs.ev, mapO, mapS, take_len_self, h_5, eq_false c2])
    · dsimp only at hF
      cases hF
      simp only [simprocAttr, R0, opEv, fillV, mapO, mapS, b11, h_0, wx1, eq_false c2]
      refine W.mono (l11_1 a0   gt11 (Exists.intro _ ( And.intro rfl ?_))) ?_
      · simp only [simprocAttr, R0, h_0, wx1, eq_false c2]
      rintro _ e h ⟨rfl, hq⟩
      simp only [simprocAttr, RR, RB]
      exact hq
def F10 (a0 : GComplex) (a1 : Int) : Option Int :=
  (F43 a0.Dims a1).bind fun x1 =>
  if x1 < 0 then
    some (-1)
  else
    (F11 a0.Maps x1).bind fun x4 =>
    if x4 < 0 then
      some (-1)
    else
      some x4
theorem s10 (a0 : GComplex) (a1 : Int)   {r : Int} (hF : F10 a0 a1 = some r) : ans A 10 [(eC a0), V.int .i64 a1] = some (Enc.enc r) := by
  refine ans_of (f := p10) rfl rfl rfl fun e hl he => ?_
  have h0_0 : e.at 0 = (eC a0) := he 0 _ rfl
  have h1_0 : e.at 1 = V.int .i64 a1 := he 1 _ rfl
  have hl_0 : e.length = 18 := hl
  clear he hl
  have h_0 := And.intro hl_0 (And.intro h0_0 h1_0)
  show W A b10 e ⟨[], 0⟩ _
  unfold F10 at hF
  obtain ⟨x1, gx1, hF⟩ := bS hF
  have w2 : ans A 43 [V.isl (a0.Dims.map Enc.enc), V.int .i64 a1] = some (V.int .i64 x1) := s43 a0.Dims a1  gx1
  by_cases c3 : x1 < 0
  · rw [if_pos c3] at hF
    cases hF
    simp only [simprocAttr, R0, opEv, fillV, mapO, mapS, b10, h_0, w2, eq_true c3]
    exact fin_ret (by simp only [simprocAttr, R0, fn_out, p10, Rs.ev, mapO, mapS, take_len_self, h_0, w2, eq_true c3])
  · rw [if_neg c3] at hF
    obtain ⟨x4, gx4, hF⟩ := bS hF
    have w5 : ans A 11 [V.isl (a0.Maps.map Enc.enc), V.int .i64 x1] = some (V.int .i64 x4) := s11 a0.Maps x1  gx4
    by_cases c6 : x4 < 0
    · rw [if_pos c6] at hF
      cases hF
      simp only [simprocAttr, R0, opEv, fillV, mapO, mapS, b10, h_0, w2, eq_false c3, w5, eq_true c6]
      exact fin_ret (by simp only [simprocAttr, R0, fn_out, p10, Rs.ev, mapO, mapS, take_len_self, h_0, w2, eq_false c3, w5, eq_true c6])
    · rw [if_neg c6] at hF
      cases hF
      simp only [simprocAttr, R0, opEv, fillV, mapO, mapS, b10, h_0, w2, eq_false c3, w5, eq_false c6]
      exact fin_ret (by simp only [simprocAttr, R0, fn_out, p10, Rs.ev, mapO, mapS, take_len_self, h_0, w2, eq_false c3, w5, eq_false c6])
def F37 (a0 : GFiltered) (a1 : Int) : Option Int :=
  (F10 a0.Complex a1).bind fun x1 =>
  if x1 < 0 then
    some (-1)
  else
    (F44 a0.Levels x1).bind fun x4 =>
    if x4 < 0 then
      some (-1)
    else
      some x4
theorem s37 (a0 : GFiltered) (a1 : Int)   {r : Int} (hF : F37 a0 a1 = some r) : ans A 37 [(eF a0), V.int .i64 a1] = some (Enc.enc r) := by
  refine ans_of (f := p37) rfl rfl rfl fun e hl he => ?_
  have h0_0 : e.at 0 = (eF a0) := he 0 _ rfl
  have h1_0 : e.at 1 = V.int .i64 a1 := he 1 _ rfl
  have hl_0 : e.length = 18 := hl
  clear he hl
  have h_0 := And.intro hl_0 (And.intro h0_0 h1_0)
  show W A b37 e ⟨[], 0⟩ _
  unfold F37 at hF
  obtain ⟨x1, gx1, hF⟩ := bS hF
  have w2 : ans A 10 [(eC a0.Complex), V.int .i64 a1] = some (V.int .i64 x1) := s10 a0.Complex a1  gx1
  by_cases c3 : x1 < 0
  · rw [if_pos c3] at hF
    cases hF
    simp only [simprocAttr, R0, opEv, fillV, mapO, mapS, b37, h_0, w2, eq_true c3]
    exact fin_ret (by simp only [simprocAttr, R0, fn_out, p37, Rs.ev, mapO, mapS, take_len_self, h_0, w2, eq_true c3])
  · rw [if_neg c3] at hF
    obtain ⟨x4, gx4, hF⟩ := bS hF
    have w5 : ans A 44 [V.isl (a0.Levels.map Enc.enc), V.int .i64 x1] = some (V.int .i64 x4) := s44 a0.Levels x1  gx4
    by_cases c6 : x4 < 0
    · rw [if_pos c6] at hF
      cases hF
      simp only [simprocAttr, R0, opEv, fillV, mapO, mapS, b37, h_0, w2, eq_false c3, w5, eq_true c6]
      exact fin_ret (by simp only [simprocAttr, R0, fn_out, p37, Rs.ev, mapO, mapS, take_len_self, h_0, w2, eq_false c3, w5, eq_true c6])
    · rw [if_neg c6] at hF
      cases hF
      simp only [simprocAttr, R0, opEv, fillV, mapO, mapS, b37, h_0, w2, eq_false c3, w5, eq_false c6]
      exact fin_ret (by simp only [simprocAttr, R0, fn_out, p37, Rs.ev, mapO, mapS, take_len_self, h_0, w2, eq_false c3, w5, eq_false c6])
def F47_1_B (a0 : List Int) (v4_1 : Int) (o0_1 : (List Int)) : Option (((List Int)) ⊕ ((List Int))) :=
  (getI a0 v4_1).bind fun x7 =>
(getI o0_1 v4_1).bind fun x9 =>
(setI o0_1 v4_1 x7).bind fun l11 =>
some (.inl l11)
def F47_1_D (a0 : List Int) (v4_1 : Int) (o0_1 : (List Int)) : Option ((List Int)) :=
  some o0_1
def F47 (a0 : List Int) : Option (List Int) :=
  (mkL 8 (a0.length : Int) 0).bind fun l1 =>
  (forR 0 (a0.length : Int) (F47_1_B a0) (F47_1_D a0) l1).bind fun zo0_1 =>
  some zo0_1
def I47_1 (a0 : List Int)  (v4_1 : Int) (o0_1 : (List Int)) (e : Env) (h : Heap) : Prop :=
  ∃ u4 k5 : Nat, h = ⟨[(u4, some (o0_1.map Enc.enc))], k5⟩ ∧ e.length = 22 ∧ e.at 0 = V.isl (a0.map Enc.enc) ∧ e.at 3 = V.sl 0 u4 0 o0_1.length 1 ∧ e.at 4 = V.int .i64 v4_1
def P47_1 (a0 : List Int)  (zo0_1 : (List Int)) (x : Ex) (e : Env) (h : Heap) : Prop :=
  x = .normal ∧ ∃ u4 k5 : Nat, h = ⟨[(u4, some (zo0_1.map Enc.enc))], k5⟩ ∧ e.length = 22 ∧ e.at 3 = V.sl 0 u4 0 zo0_1.length 1
theorem l47_1 (a0 : List Int)   {lo : Int} {s : (List Int)} {t : (List Int)} (hF : forR lo (a0.length : Int) (F47_1_B a0) (F47_1_D a0) s = some t) {e : Env} {h : Heap} (hI : I47_1 a0  lo s e h) : W A c47_1 e h (P47_1 a0  t) := by
  show W A (.block 0 (.loop false b47_1)) e h _
  rw [W_block]
  refine W_forR hF 1 (by obtain ⟨_, _, rfl, _⟩ := hI; rfl) (I47_1 a0 ) hI ?_ ?_
  · rintro v4_1 o0_1 e h ⟨u4, k5, rfl, h_3⟩ hlt hw o ho
    unfold F47_1_B at ho
    obtain ⟨x7, gx7, ho⟩ := bS ho
    obtain ⟨w8a, w8b⟩ := getI_w gx7
    obtain ⟨x9, gx9, ho⟩ := bS ho
    obtain ⟨w10a, w10b⟩ := getI_w gx9
    have w10c := getI_lt gx9
    have w10d : List.drop (Int.toNat v4_1) (o0_1.map Enc.enc) = (V.int .i64 x9) :: List.drop ((Int.toNat v4_1) + 1) (o0_1.map Enc.enc) := drop_enc w10b
    obtain ⟨l11, gl11, ho⟩ := bS ho
    obtain ⟨w12a, w12b, w12c, w12d, w12e⟩ := setI_w gl11
    replace w12e : List.take (Int.toNat v4_1) (o0_1.map Enc.enc) ++ [V.int .i64 x7] ++ List.drop (Int.toNat v4_1 + 1) (o0_1.map Enc.enc) = List.map Enc.enc l11 := w12e
    cases ho
    simp only [simprocAttr, R0, opEv, fillV, mapO, mapS, b47_1, h_3, eq_true hlt, hw, w8a, w8b, w10a, w10b, w10c, w10d, w12a, w12b, w12c, w12e]
    refine And.intro rfl (Exists.intro _ ( Exists.intro _ ( And.intro rfl ?_)))
    simp only [simprocAttr, R0, h_3, eq_true hlt, hw, w8a, w8b, w10a, w10b, w10c, w10d, w12a, w12b, w12c, w12e, w12d]
  · rintro v4_1 o0_1 e h ⟨u4, k5, rfl, h_3⟩ hge t1 ho
    unfold F47_1_D at ho
    cases ho
    simp only [simprocAttr, R0, opEv, fillV, mapO, mapS, b47_1, h_3, eq_false hge]
    intro ht; subst ht
    refine And.intro rfl (Exists.intro _ ( Exists.intro _ ( And.intro rfl ?_)))
    simp only [simprocAttr, R0, h_3, eq_false hge]
theorem t47 (a0 : List Int)   {r : List Int} (hF : F47 a0 = some r) : tans A 47 [1] [V.isl (a0.map Enc.enc)] = some (Enc.enc r) := by
  refine tans_of (f := p47) rfl rfl rfl fun e hl he => ?_
  have h0_0 : e.at 0 = V.isl (a0.map Enc.enc) := he 0 _ rfl
  have hl_0 : e.length = 22 := hl
  clear he hl
  show W A b47 e ⟨[], 0⟩ _
  unfold F47 at hF
  obtain ⟨l1, gl1, hF⟩ := bS hF
  obtain ⟨w2a, w2b, w2c, w2d, w2e⟩ := mkL_w gl1
  replace w2e : (List.replicate (Int.toNat (a0.length : Int)) [V.int .i64 0]).flatten = List.map Enc.enc l1 := w2e
  obtain ⟨zo0_1, gt13, hF⟩ := bS hF
  simp only [↓reduceIte, Nat.reduceAdd, Nat.reduceMul, Nat.reduceSub, Nat.reduceLT, Nat.reduceLeDiff, Nat.reduceEqDiff, Nat.reducePow, Int.reducePow, Int.reduceLE, Int.reduceLT, Int.reduceEq, Int.reduceToNat, reduceCtorEq, R0, opEv, fillV, mapO, mapS, b47, hl_0, h0_0, w2a, w2b, w2c, w2e]
  refine W.mono (l47_1 a0   gt13 (Exists.intro _ ( Exists.intro _ ( And.intro rfl ?_)))) ?_
  · simp only [↓reduceIte, Nat.reduceAdd, Nat.reduceMul, Nat.reduceSub, Nat.reduceLT, Nat.reduceLeDiff, Nat.reduceEqDiff, Nat.reducePow, Int.reducePow, Int.reduceLE, Int.reduceLT, Int.reduceEq, Int.reduceToNat, reduceCtorEq, R0, hl_0, h0_0, w2a, w2b, w2c, w2e, w2d]
  rintro _ e _ ⟨rfl, u4, k5, rfl, hl_6, h3_6⟩
  have hE := Option.some.inj hF; subst hE
  simp only [↓reduceIte, Nat.reduceAdd, Nat.reduceMul, Nat.reduceSub, Nat.reduceLT, Nat.reduceLeDiff, Nat.reduceEqDiff, Nat.reducePow, Int.reducePow, Int.reduceLE, Int.reduceLT, Int.reduceEq, Int.reduceToNat, reduceCtorEq, R0, opEv, fillV, mapO, mapS, hl_6, h3_6]
  exact tfin_ret (by simp only [↓reduceIte, Nat.reduceAdd, Nat.reduceMul, Nat.reduceSub, Nat.reduceLT, Nat.reduceLeDiff, Nat.reduceEqDiff, Nat.reducePow, Int.reducePow, Int.reduceLE, Int.reduceLT, Int.reduceEq, Int.reduceToNat, reduceCtorEq, R0, fn_out, p47, Rs.ev, mapO, mapS, take_len_self, hl_6, h3_6, frzs (α := Int) zo0_1, takes (α := Int) zo0_1])
def F48_1_B (a0 : List (List Int)) (v4_1 : Int) (o0_1 : (List (List Int))) : Option (((List (List Int))) ⊕ ((List (List Int)))) :=
  (getI a0 v4_1).bind fun x7 =>
(F47 x7).bind fun x9 =>
(getI o0_1 v4_1).bind fun x11 =>
(setI o0_1 v4_1 x9).bind fun l13 =>
some (.inl l13)
def F48_1_D (a0 : List (List Int)) (v4_1 : Int) (o0_1 : (List (List Int))) : Option ((List (List Int))) :=
  some o0_1
def F48 (a0 : List (List Int)) : Option (List (List Int)) :=
  (mkL 24 (a0.length : Int) ([] : List Int)).bind fun l1 =>
  (forR 0 (a0.length : Int) (F48_1_B a0) (F48_1_D a0) l1).bind fun zo0_1 =>
  some zo0_1
theorem d48 (a0 : List (List Int)) {r : List (List Int)} (hF : F48 a0 = some r) : ∃ v h', res A 48 [V.isl (a0.map Enc.enc)] Heap.empty = some (v, h') ∧ ∃ K, Deep.rep h' v r K := by
  refine res_dp (f := p48) rfl rfl rfl fun e hl he => ?_
  have h0_0 : e.at 0 = V.isl (a0.map Enc.enc) := he 0 _ rfl
  have hl_0 : e.length = 23 := hl
  clear he hl
  show W A b48 e ⟨[], 0⟩ _
  unfold F48 at hF
  obtain ⟨l1, gl1, hF⟩ := bS hF
  obtain ⟨zo, gt, hF⟩ := bS hF
  have hE := Option.some.inj hF; subst hE
  obtain ⟨w1a, w1b, w1c, w1d⟩ := mkL_deep gl1
  simp only [Int.toNat_natCast] at w1d
  have w1e : (List.replicate (Int.toNat (a0.length : Int)) [V.nils]).flatten = List.replicate a0.length V.nils := by rw [Int.toNat_natCast, List.flatten_replicate_singleton]
  subst w1d
  simp only [↓reduceIte, Nat.reduceAdd, Nat.reduceMul, Nat.reduceSub, Nat.reduceLT, Nat.reduceLeDiff, Nat.reduceEqDiff, Nat.reducePow, Int.reducePow, Int.reduceLE, Int.reduceLT, Int.reduceEq, Int.reduceToNat, reduceCtorEq, R1, opEv, fillV, mapO, mapS, b48, hl_0, h0_0, w1a, w1b, w1c, w1e, Int.toNat_natCast]
  show W A (.block 0 (.loop true b48_1)) _ _ _
  rw [W_block]
  refine W_forR gt _ rfl (fun i l e h => ∃ vs K, h.ents[0]? = some (0, some vs) ∧ reps h vs l K ∧ ¬ K 0 ∧ l.length = a0.length ∧ e.length = 23 ∧ e.at 0 = V.isl (a0.map Enc.enc) ∧ e.at 3 = V.sl 0 0 0 a0.length 1 ∧ e.at 4 = V.int .i64 i) ?_ ?_ ?_
  · refine ⟨_, fun _ => False, rfl, by rw [List.flatten_replicate_singleton]; exact reps_nils _ _, fun x => x, by simp, ?_⟩
    simp only [↓reduceIte, Nat.reduceAdd, Nat.reduceMul, Nat.reduceSub, Nat.reduceLT, Nat.reduceLeDiff, Nat.reduceEqDiff, Nat.reducePow, Int.reducePow, Int.reduceLE, Int.reduceLT, Int.reduceEq, Int.reduceToNat, reduceCtorEq, R1, hl_0, h0_0]
  · rintro i l e ⟨E, c⟩ ⟨vs, K, g1, g2, g3, g4, hl_1, h0_1, h3_1, h4_1⟩ hlt hw o ho
    unfold F48_1_B at ho
    obtain ⟨x7, gx7, ho⟩ := bS ho
    obtain ⟨w6a, w6b⟩ := getI_w gx7
    obtain ⟨x9, gx9, ho⟩ := bS ho
    have w8 := t47 x7 gx9
    obtain ⟨x11, gx11, ho⟩ := bS ho
    obtain ⟨l13, gl13, ho⟩ := bS ho
    have sm : l13 = l.set i.toNat x9 := setI_eq gl13
    have hE := Option.some.inj ho; subst hE
    have hil : i.toNat < l.length := by omega
    have hln := g2.len
    have hE0 : 0 < E.length := (List.getElem?_eq_some_iff.1 g1).1
    obtain ⟨x, K1, K2, f1, f2, f3, f4, f5⟩ := g2.focus hil
    have p0 : ∀ y, (E ++ [y])[0]? = some (0, some vs) := fun y => (List.getElem?_append_left hE0).trans g1
    have hs : List.take i.toNat vs ++ [V.sl E.length c 0 x9.length 1] ++ List.drop (i.toNat + 1) vs = vs.set i.toNat (V.sl E.length c 0 x9.length 1) := by
      rw [List.set_eq_take_append_cons_drop, if_pos (by omega)]; simp
    have hle : i.toNat + 1 ≤ vs.length := by omega
    simp only [↓reduceIte, Nat.reduceAdd, Nat.reduceMul, Nat.reduceSub, Nat.reduceLT, Nat.reduceLeDiff, Nat.reduceEqDiff, Nat.reducePow, Int.reducePow, Int.reduceLE, Int.reduceLT, Int.reduceEq, Int.reduceToNat, reduceCtorEq, R1, opEv, fillV, mapO, mapS, b48_1, hl_1, h0_1, h3_1, h4_1, eq_true hlt, hw, w6a, w6b, w8, callM_tans, thaw_one, p0, hs, hle]
    have r1 := f5 ⟨(E ++ [(c, some (x9.map Enc.enc))]).set 0 (0, some (vs.set i.toNat (V.sl E.length c 0 x9.length 1))), c + 1⟩ (V.sl E.length c 0 x9.length 1) x9 (fun k => k = E.length) (fun k => k = E.length ∨ K2 k)
      (int_row ((set_ne (by omega)).trans (get_last _ _)) fun k => Iff.rfl)
      (fun k q => set_app_new (fun e => g3 (e ▸ (f4 k).2 (.inr q))) (g2.bd ((f4 k).2 (.inr q))))
      (fun k q q2 => by have := g2.bd ((f4 k).2 (.inr q2)); simp only at this; omega) (fun k => Iff.rfl)
    refine And.intro rfl ⟨_, fun k => k = E.length ∨ K2 k, set_app_key (by simp), by rw [sm]; exact r1, fun q => q.elim (fun q => by omega) (fun q => g3 ((f4 0).2 (.inr q))), by rw [sm, List.length_set]; exact g4, ?_⟩
    simp only [↓reduceIte, Nat.reduceAdd, Nat.reduceMul, Nat.reduceSub, Nat.reduceLT, Nat.reduceLeDiff, Nat.reduceEqDiff, Nat.reducePow, Int.reducePow, Int.reduceLE, Int.reduceLT, Int.reduceEq, Int.reduceToNat, reduceCtorEq, R1, hl_1, h0_1, h3_1, h4_1, hw]
  · rintro i l e ⟨E, c⟩ ⟨vs, K, g1, g2, g3, g4, hl_1, h0_1, h3_1, h4_1⟩ hge t1 ho
    unfold F48_1_D at ho
    have hE := Option.some.inj ho; subst hE
    simp only [↓reduceIte, Nat.reduceAdd, Nat.reduceMul, Nat.reduceSub, Nat.reduceLT, Nat.reduceLeDiff, Nat.reduceEqDiff, Nat.reducePow, Int.reducePow, Int.reduceLE, Int.reduceLT, Int.reduceEq, Int.reduceToNat, reduceCtorEq, R1, opEv, fillV, mapO, mapS, b48_1, hl_1, h0_1, h3_1, h4_1, eq_false hge]
    intro ht; subst ht
    refine And.intro (fun _ => trivial) ⟨_, by simp only [↓reduceIte, Nat.reduceAdd, Nat.reduceMul, Nat.reduceSub, Nat.reduceLT, Nat.reduceLeDiff, Nat.reduceEqDiff, Nat.reducePow, Int.reducePow, Int.reduceLE, Int.reduceLT, Int.reduceEq, Int.reduceToNat, reduceCtorEq, R1, fn_out, p48, Rs.ev, mapO, mapS, hl_1]; rfl, fun k => k = 0 ∨ K k, .inr ⟨0, 0, vs, K, by rw [g4], g1, g2, g3, fun k => Iff.rfl⟩⟩
theorem x48 (a0 : List (List Int)) {r : List (List Int)} (hF : F48 a0 = some r) : tans A 48 [1, 1] [V.isl (a0.map Enc.enc)] = some (Enc.enc r) := tans_of_deep (α := List (List Int)) (by decide) (d48 a0 hF)
def F13_1_B (a0 : List (List (List Int))) (v4_1 : Int) (o0_1 : (List (List (List Int)))) : Option (((List (List (List Int)))) ⊕ ((List (List (List Int))))) :=
  (getI a0 v4_1).bind fun x7 =>
(F48 x7).bind fun x9 =>
(getI o0_1 v4_1).bind fun x11 =>
(setI o0_1 v4_1 x9).bind fun l13 =>
some (.inl l13)
def F13_1_D (a0 : List (List (List Int))) (v4_1 : Int) (o0_1 : (List (List (List Int)))) : Option ((List (List (List Int)))) :=
  some o0_1
def F13 (a0 : List (List (List Int))) : Option (List (List (List Int))) :=
  (mkL 24 (a0.length : Int) ([] : List (List Int))).bind fun l1 =>
  (forR 0 (a0.length : Int) (F13_1_B a0) (F13_1_D a0) l1).bind fun zo0_1 =>
  some zo0_1
theorem d13 (a0 : List (List (List Int))) {r : List (List (List Int))} (hF : F13 a0 = some r) : ∃ v h', res A 13 [V.isl (a0.map Enc.enc)] Heap.empty = some (v, h') ∧ ∃ K, Deep.rep h' v r K := by
  refine res_dp (f := p13) rfl rfl rfl fun e hl he => ?_
  have h0_0 : e.at 0 = V.isl (a0.map Enc.enc) := he 0 _ rfl
  have hl_0 : e.length = 23 := hl
  clear he hl
  show W A b13 e ⟨[], 0⟩ _
  unfold F13 at hF
  obtain ⟨l1, gl1, hF⟩ := bS hF
  obtain ⟨zo, gt, hF⟩ := bS hF
  have hE := Option.some.inj hF; subst hE
  obtain ⟨w1a, w1b, w1c, w1d⟩ := mkL_deep gl1
  simp only [Int.toNat_natCast] at w1d
  have w1e : (List.replicate (Int.toNat (a0.length : Int)) [V.nils]).flatten = List.replicate a0.length V.nils := by rw [Int.toNat_natCast, List.flatten_replicate_singleton]
  subst w1d
  simp only [↓reduceIte, Nat.reduceAdd, Nat.reduceMul, Nat.reduceSub, Nat.reduceLT, Nat.reduceLeDiff, Nat.reduceEqDiff, Nat.reducePow, Int.reducePow, Int.reduceLE, Int.reduceLT, Int.reduceEq, Int.reduceToNat, reduceCtorEq, R1, opEv, fillV, mapO, mapS, b13, hl_0, h0_0, w1a, w1b, w1c, w1e, Int.toNat_natCast]
  show W A (.block 0 (.loop true b13_1)) _ _ _
  rw [W_block]
  refine W_forR gt _ rfl (fun i l e h => ∃ vs K, h.ents[0]? = some (0, some vs) ∧ reps h vs l K ∧ ¬ K 0 ∧ l.length = a0.length ∧ e.length = 23 ∧ e.at 0 = V.isl (a0.map Enc.enc) ∧ e.at 3 = V.sl 0 0 0 a0.length 1 ∧ e.at 4 = V.int .i64 i) ?_ ?_ ?_
  · refine ⟨_, fun _ => False, rfl, by rw [List.flatten_replicate_singleton]; exact reps_nils _ _, fun x => x, by simp, ?_⟩
    simp only [↓reduceIte, Nat.reduceAdd, Nat.reduceMul, Nat.reduceSub, Nat.reduceLT, Nat.reduceLeDiff, Nat.reduceEqDiff, Nat.reducePow, Int.reducePow, Int.reduceLE, Int.reduceLT, Int.reduceEq, Int.reduceToNat, reduceCtorEq, R1, hl_0, h0_0]
  · rintro i l e ⟨E, c⟩ ⟨vs, K, g1, g2, g3, g4, hl_1, h0_1, h3_1, h4_1⟩ hlt hw o ho
    unfold F13_1_B at ho
    obtain ⟨x7, gx7, ho⟩ := bS ho
    obtain ⟨w6a, w6b⟩ := getI_w gx7
    obtain ⟨x9, gx9, ho⟩ := bS ho
    have w8 := x48 x7 gx9
    obtain ⟨x11, gx11, ho⟩ := bS ho
    obtain ⟨l13, gl13, ho⟩ := bS ho
    have sm : l13 = l.set i.toNat x9 := setI_eq gl13
    have hE := Option.some.inj ho; subst hE
    have hil : i.toNat < l.length := by omega
    have hln := g2.len
    have hE0 : 0 < E.length := (List.getElem?_eq_some_iff.1 g1).1
    obtain ⟨x, K1, K2, f1, f2, f3, f4, f5⟩ := g2.focus hil
    obtain ⟨v, ⟨E1, c1⟩, t1, t2, t3, t4⟩ := thaw_deep (α := List (List Int)) (by decide) x9 ⟨E, c⟩
    have t1' : thaw 16 [1, 1] (V.isl (x9.map Enc.enc)) ⟨E, c⟩ = some (v, ⟨E1, c1⟩) := t1
    obtain ⟨v1, v2⟩ := rep_one t2
    simp only at t2 t3 t4 g1
    have p0 : E1[0]? = some (0, some vs) := (t4 0 hE0).trans g1
    have hs : List.take i.toNat vs ++ [v] ++ List.drop (i.toNat + 1) vs = vs.set i.toNat (v) := by
      rw [List.set_eq_take_append_cons_drop, if_pos (by omega)]; simp
    have hle : i.toNat + 1 ≤ vs.length := by omega
    simp only [↓reduceIte, Nat.reduceAdd, Nat.reduceMul, Nat.reduceSub, Nat.reduceLT, Nat.reduceLeDiff, Nat.reduceEqDiff, Nat.reducePow, Int.reducePow, Int.reduceLE, Int.reduceLT, Int.reduceEq, Int.reduceToNat, reduceCtorEq, R1, opEv, fillV, mapO, mapS, b13_1, hl_1, h0_1, h3_1, h4_1, eq_true hlt, hw, w6a, w6b, w8, callM_tans, t1', v1, v2, p0, hs, hle]
    have r1 := f5 ⟨E1.set 0 (0, some (vs.set i.toNat v)), c1⟩ v x9 (fun k => E.length ≤ k ∧ k < E1.length) (fun k => (E.length ≤ k ∧ k < E1.length) ∨ K2 k)
      (Deep.frame t2 fun k q => set_ne (by omega))
      (fun k q => (set_ne (E := E1) (key := 0) (k := k) (fun e : k = 0 => g3 (e ▸ (f4 k).2 (.inr q)))).trans (t4 k (g2.bd ((f4 k).2 (.inr q)))))
      (fun k q q2 => by have := g2.bd ((f4 k).2 (.inr q2)); simp only at this; omega) (fun k => Iff.rfl)
    refine And.intro rfl ⟨_, fun k => (E.length ≤ k ∧ k < E1.length) ∨ K2 k, set_app_key (by omega), by rw [sm]; exact r1, fun q => q.elim (fun q => by omega) (fun q => g3 ((f4 0).2 (.inr q))), by rw [sm, List.length_set]; exact g4, ?_⟩
    simp only [↓reduceIte, Nat.reduceAdd, Nat.reduceMul, Nat.reduceSub, Nat.reduceLT, Nat.reduceLeDiff, Nat.reduceEqDiff, Nat.reducePow, Int.reducePow, Int.reduceLE, Int.reduceLT, Int.reduceEq, Int.reduceToNat, reduceCtorEq, R1, hl_1, h0_1, h3_1, h4_1, hw]
  · rintro i l e ⟨E, c⟩ ⟨vs, K, g1, g2, g3, g4, hl_1, h0_1, h3_1, h4_1⟩ hge t1 ho
    unfold F13_1_D at ho
    have hE := Option.some.inj ho; subst hE
    simp only [↓reduceIte, Nat.reduceAdd, Nat.reduceMul, Nat.reduceSub, Nat.reduceLT, Nat.reduceLeDiff, Nat.reduceEqDiff, Nat.reducePow, Int.reducePow, Int.reduceLE, Int.reduceLT, Int.reduceEq, Int.reduceToNat, reduceCtorEq, R1, opEv, fillV, mapO, mapS, b13_1, hl_1, h0_1, h3_1, h4_1, eq_false hge]
    intro ht; subst ht
    refine And.intro (fun _ => trivial) ⟨_, by simp only [↓reduceIte, Nat.reduceAdd, Nat.reduceMul, Nat.reduceSub, Nat.reduceLT, Nat.reduceLeDiff, Nat.reduceEqDiff, Nat.reducePow, Int.reducePow, Int.reduceLE, Int.reduceLT, Int.reduceEq, Int.reduceToNat, reduceCtorEq, R1, fn_out, p13, Rs.ev, mapO, mapS, hl_1]; rfl, fun k => k = 0 ∨ K k, .inr ⟨0, 0, vs, K, by rw [g4], g1, g2, g3, fun k => Iff.rfl⟩⟩
theorem x13 (a0 : List (List (List Int))) {r : List (List (List Int))} (hF : F13 a0 = some r) : tans A 13 [1, 1, 1] [V.isl (a0.map Enc.enc)] = some (Enc.enc r) := tans_of_deep (α := List (List (List Int))) (by decide) (d13 a0 hF)
def F12 (a0 : GComplex) : Option GComplex :=
  (F47 a0.Dims).bind fun x1 =>
  (F13 a0.Maps).bind fun x3 =>
  some ⟨a0.Prime, x1, x3⟩
theorem d12 (x : GComplex) {r : GComplex} (hF : F12 x = some r) : ∃ v h', res A 12 [(eC x)] Heap.empty = some (v, h') ∧ ∃ dv mv, ∃ K1 K2 : Ks, v = V.agg [V.int .i64 r.Prime, dv, mv] ∧ Deep.rep h' dv r.Dims K1 ∧ Deep.rep h' mv r.Maps K2 ∧ ∀ k, K1 k → ¬ K2 k := by
  refine res_dp (f := p12) rfl rfl rfl fun e hl he => ?_
  have h0_0 : e.at 0 = (eC x) := he 0 _ rfl
  have hl_0 : e.length = 16 := hl
  clear he hl
  show W A b12 e ⟨[], 0⟩ _
  unfold F12 at hF
  obtain ⟨d, gd, hF⟩ := bS hF
  have w1 := t47 x.Dims gd
  obtain ⟨ms, gm, hF⟩ := bS hF
  have w2 := x13 x.Maps gm
  cases hF
  obtain ⟨mv, ⟨E1, c1⟩, t1, t2, t3, t4⟩ := thaw_deep (α := List (List (List Int))) (by decide) ms ⟨[(0, none), (1, some [V.int .i64 0, V.nils, V.nils]), (2, some [V.int .i64 x.Prime, V.sl 3 3 0 d.length 1, V.nils]), (3, some (d.map Enc.enc))], 4⟩
  have t1' : thaw 16 [1, 1, 1] (V.isl (ms.map Enc.enc)) ⟨[(0, none), (1, some [V.int .i64 0, V.nils, V.nils]), (2, some [V.int .i64 x.Prime, V.sl 3 3 0 d.length 1, V.nils]), (3, some (d.map Enc.enc))], 4⟩ = some (mv, ⟨E1, c1⟩) := t1
  obtain ⟨v1, v2⟩ := rep_one t2
  simp only [List.length_cons, List.length_nil, Nat.zero_add, Nat.reduceAdd] at t2 t3 t4
  have m1 : E1[1]? = some (1, some [V.int .i64 0, V.nils, V.nils]) := t4 1 (by decide)
  have m2 : E1[2]? = some (2, some [V.int .i64 x.Prime, V.sl 3 3 0 d.length 1, V.nils]) := t4 2 (by decide)
  have m3 : E1[3]? = some (3, some (d.map Enc.enc)) := t4 3 (by decide)
  have n1 : ∀ z, (E1.set 2 z)[1]? = _ := fun z => (set_ne (by decide)).trans m1
  have n2 : ∀ z, (E1.set 2 z)[2]? = some z := fun z => set_app_key (by omega)
  simp only [simprocAttr, R0, opEv, fillV, mapO, mapS, b12, hl_0, h0_0, w1, w2, callM_tans, thaw_one, t1', v1, v2, m1, m2, n1, n2]
  refine And.intro (fun _ => trivial) ⟨_, by simp only [simprocAttr, R0, fn_out, p12, Rs.ev, mapO, mapS, hl_0, set_app_key (show 1 < (E1.set 2 (2, some [V.int .i64 x.Prime, V.sl 3 3 0 d.length 1, mv])).length by simp; omega)], V.sl 3 3 0 d.length 1, mv, fun k => k = 3, _, rfl, int_row ((set_ne (by decide)).trans ((set_ne (by decide)).trans m3)) (fun k => Iff.rfl), Deep.frame t2 fun k q => (set_ne (by omega)).trans (set_ne (by omega)), fun k q => by omega⟩
theorem x12 (x : GComplex) {r : GComplex} (hF : F12 x = some r) : tans A 12 [1, 1, 1] [(eC x)] = some ((eC r)) := by
  obtain ⟨v, h', h1, dv, mv, K1, K2, rfl, h2, h3, h4⟩ := d12 x hF
  exact tans_agg2 h1 h2 h3 h4
def F40 (a0 : GFiltered) : Option GFiltered :=
  (F12 a0.Complex).bind fun x1 =>
  (F48 a0.Levels).bind fun x3 =>
  some ⟨x1, x3⟩
theorem d40 (x : GFiltered) {r : GFiltered} (hF : F40 x = some r) : ∃ v h', res A 40 [(eF x)] Heap.empty = some (v, h') ∧ ∃ K, Deep.rep h' v r K := by
  refine res_dp (f := p40) rfl rfl rfl fun e hl he => ?_
  have h0_0 : e.at 0 = (eF x) := he 0 _ rfl
  have hl_0 : e.length = 13 := hl
  clear he hl
  show W A b40 e ⟨[], 0⟩ _
  unfold F40 at hF
  obtain ⟨o, go, hF⟩ := bS hF
  obtain ⟨lv, gl, hF⟩ := bS hF
  cases hF
  have w1 := x12 x.Complex go
  have w2 := x48 x.Levels gl
  obtain ⟨_, ⟨E1, c1⟩, t1, ⟨_, rfl, t2⟩, t3, t4⟩ := thaw_deep (α := GComplex) (by decide) o ⟨[(0, none), (1, some [V.int .i64 0, V.nils, V.nils, V.nils]), (2, some [V.int .i64 0, V.nils, V.nils, V.nils])], 3⟩
  obtain ⟨dv, m, K1, K2, rfl, t5, t6, t7, t8⟩ := rec3_un t2
  simp only [List.length_cons, List.length_nil, Nat.zero_add, Nat.reduceAdd] at t3 t4 t8
  have t1' : thaw 16 [1, 1, 1] ((eC o)) ⟨[(0, none), (1, some [V.int .i64 0, V.nils, V.nils, V.nils]), (2, some [V.int .i64 0, V.nils, V.nils, V.nils])], 3⟩ = some (V.agg [V.int .i64 o.Prime, dv, m], ⟨E1, c1⟩) := t1
  have b1 : ∀ k, K1 k → 3 ≤ k ∧ k < E1.length := fun k q => (t8 k).2 (.inl q)
  have b2 : ∀ k, K2 k → 3 ≤ k ∧ k < E1.length := fun k q => (t8 k).2 (.inr q)
  have m1 : E1[1]? = some (1, some [V.int .i64 0, V.nils, V.nils, V.nils]) := t4 1 (by decide)
  have m2 : E1[2]? = some (2, some [V.int .i64 0, V.nils, V.nils, V.nils]) := t4 2 (by decide)
  obtain ⟨lw, ⟨E2, c2⟩, K3, u1, u2, u3, u4, u5⟩ := thawD (α := List (List Int)) (by decide) lv ⟨E1.set 2 (2, some [V.int .i64 o.Prime, dv, m, V.nils]), c1⟩
  obtain ⟨v1, v2⟩ := rep_one u2
  simp only [List.length_set] at u3 u4 u5
  have u1' : thaw 16 [1, 1] (V.isl (lv.map Enc.enc)) ⟨E1.set 2 (2, some [V.int .i64 o.Prime, dv, m, V.nils]), c1⟩ = some (lw, ⟨E2, c2⟩) := u1
  have n2 : ∀ z, (E1.set 2 z)[2]? = some z := fun z => set_app_key (by omega)
  have n3 : E2[2]? = some (2, some [V.int .i64 o.Prime, dv, m, V.nils]) := (u5 2 (by omega)).trans (n2 _)
  have n4 : ∀ z, (E2.set 2 z)[2]? = some z := fun z => set_app_key (by omega)
  have n5 : E2[1]? = some (1, some [V.int .i64 0, V.nils, V.nils, V.nils]) := (u5 1 (by omega)).trans ((set_ne (by decide)).trans m1)
  have n6 : ∀ z, (E2.set 2 z)[1]? = some (1, some [V.int .i64 0, V.nils, V.nils, V.nils]) := fun z => (set_ne (by decide)).trans n5
  simp only [simprocAttr, R0, opEv, fillV, mapO, mapS, b40, hl_0, h0_0, w1, w2, callM_tans, t1', u1', v1, v2, m1, m2, n2, n3, n4, n5, n6]
  have f1 : ∀ y z c, Deep.rep ⟨(E2.set 2 y).set 1 z, c⟩ dv o.Dims K1 := fun y z c => Deep.frame t5 fun k q => by
    have := b1 k q
    rw [set_ne (by omega), set_ne (by omega), u5 k (by omega), set_ne (by omega)]
  have f2 : ∀ y z c, Deep.rep ⟨(E2.set 2 y).set 1 z, c⟩ m o.Maps K2 := fun y z c => Deep.frame t6 fun k q => by
    have := b2 k q
    rw [set_ne (by omega), set_ne (by omega), u5 k (by omega), set_ne (by omega)]
  have f3 : ∀ y z c, Deep.rep ⟨(E2.set 2 y).set 1 z, c⟩ lw lv K3 := fun y z c => Deep.frame u2 fun k q => by
    have := u3 k q
    rw [set_ne (by omega), set_ne (by omega)]
  have hl2 : ∀ y, 1 < (E2.set 2 y).length := fun y => by rw [List.length_set]; omega
  refine And.intro (fun _ => trivial) ⟨V.agg [V.int .i64 o.Prime, dv, m, lw], by simp only [simprocAttr, R0, fn_out, p40, Rs.ev, mapO, mapS, hl_0, set_app_key (hl2 _)], _, _, rfl, rec4 (f1 _ _ _) (f2 _ _ _) (f3 _ _ _) t7 (fun k y z => by have := b1 k y; have := u3 k z; omega) (fun k y z => by have := b2 k y; have := u3 k z; omega)⟩
theorem s40 (x : GFiltered) {r : GFiltered} (hF : F40 x = some r) : ans A 40 [(eF x)] = some (Enc.enc r) := ans_of_deep (α := GFiltered) (by decide) (d40 x hF)
theorem x40 (x : GFiltered) {r : GFiltered} (hF : F40 x = some r) : tans A 40 [1, 1, 1] [(eF x)] = some (Enc.enc r) := tans_of_deep (α := GFiltered) (by decide) (d40 x hF)
def F56 (a0 : Int) (a1 : Int) (a2 : Int) : Option Bool :=
  if a1 ≤ a0 then
    some (decide (a0 ≤ a2))
  else
    some false
theorem s56 (a0 : Int) (a1 : Int) (a2 : Int)   {r : Bool} (hF : F56 a0 a1 a2 = some r) : ans A 56 [V.int .i64 a0, V.int .i64 a1, V.int .i64 a2] = some (Enc.enc r) := by
  refine ans_of (f := p56) rfl rfl rfl fun e hl he => ?_
  have h0_0 : e.at 0 = V.int .i64 a0 := he 0 _ rfl
  have h1_0 : e.at 1 = V.int .i64 a1 := he 1 _ rfl
  have h2_0 : e.at 2 = V.int .i64 a2 := he 2 _ rfl
  have hl_0 : e.length = 15 := hl
  clear he hl
  have h_0 := And.intro hl_0 (And.intro h0_0 (And.intro h1_0 h2_0))
  show W A b56 e ⟨[], 0⟩ _
  unfold F56 at hF
  by_cases c1 : a1 ≤ a0
  · rw [if_pos c1] at hF
    cases hF
    simp only [simprocAttr, R0, opEv, fillV, mapO, mapS, b56, h_0, eq_true c1]
    exact fin_ret (by simp only [simprocAttr, R0, fn_out, p56, Rs.ev, mapO, mapS, take_len_self, h_0, eq_true c1])
  · rw [if_neg c1] at hF
    cases hF
    simp only [simprocAttr, R0, opEv, fillV, mapO, mapS, b56, h_0, eq_false c1]
    exact fin_ret (by simp only [simprocAttr, R0, fn_out, p56, Rs.ev, mapO, mapS, take_len_self, h_0, eq_false c1])
def F67 (a0 : Int) : Option Bool :=
  if a0 = 2 then
    some true
  else
    if a0 = 3 then
      some true
    else
      if a0 = 5 then
        some true
      else
        some (decide (a0 = 7))
theorem s67 (a0 : Int)   {r : Bool} (hF : F67 a0 = some r) : ans A 67 [V.int .i64 a0] = some (Enc.enc r) := by
  refine ans_of (f := p67) rfl rfl rfl fun e hl he => ?_
  have h0_0 : e.at 0 = V.int .i64 a0 := he 0 _ rfl
  have hl_0 : e.length = 17 := hl
  clear he hl
  have h_0 := And.intro hl_0 h0_0
  show W A b67 e ⟨[], 0⟩ _
  unfold F67 at hF
  by_cases c1 : a0 = 2
  · rw [if_pos c1] at hF
    cases hF
    simp only [simprocAttr, R0, opEv, fillV, mapO, mapS, b67, h_0, eq_true c1]
    exact fin_ret (by simp only [simprocAttr, R0, fn_out, p67, Rs.ev, mapO, mapS, take_len_self, h_0, eq_true c1])
  · rw [if_neg c1] at hF
    by_cases c2 : a0 = 3
    · rw [if_pos c2] at hF
      cases hF
      simp only [simprocAttr, R0, opEv, fillV, mapO, mapS, b67, h_0, eq_false c1, eq_true c2]
      exact fin_ret (by simp only [simprocAttr, R0, fn_out, p67, Rs.ev, mapO, mapS, take_len_self, h_0, eq_false c1, eq_true c2])
    · rw [if_neg c2] at hF
      by_cases c3 : a0 = 5
      · rw [if_pos c3] at hF
        cases hF
        simp only [simprocAttr, R0, opEv, fillV, mapO, mapS, b67, h_0, eq_false c1, eq_false c2, eq_true c3]
        exact fin_ret (by simp only [simprocAttr, R0, fn_out, p67, Rs.ev, mapO, mapS, take_len_self, h_0, eq_false c1, eq_false c2, eq_true c3])
      · rw [if_neg c3] at hF
        cases hF
        simp only [simprocAttr, R0, opEv, fillV, mapO, mapS, b67, h_0, eq_false c1, eq_false c2, eq_false c3]
        exact fin_ret (by simp only [simprocAttr, R0, fn_out, p67, Rs.ev, mapO, mapS, take_len_self, h_0, eq_false c1, eq_false c2, eq_false c3])
def F115_1_B (a0 : List Int) (f1 : Int → Option Bool) (v8_1 : Int) (s : Unit) : Option ((Unit) ⊕ ((Unit) ⊕ Int)) :=
  (getI a0 v8_1).bind fun x4 =>
(f1 x4).bind fun x6 =>
if x6 = true then
  some (.inr (.inr v8_1))
else
  some (.inl ())
def F115_1_D (a0 : List Int) (f1 : Int → Option Bool) (v8_1 : Int) (s : Unit) : Option ((Unit) ⊕ Int) :=
  some (.inl ())
def F115 (a0 : List Int) (f1 : Int → Option Bool) : Option Int :=
  (forR 0 (a0.length : Int) (F115_1_B a0 f1) (F115_1_D a0 f1) ()).bind fun t8 => match t8 with
    | .inl _ =>
      some (-1)
    | .inr r9 => some r9
def I115_1 (a0 : List Int) (f1 : Int → Option Bool) (vf1 : V) (v8_1 : Int) (s : Unit) (e : Env) (h : Heap) : Prop :=
  ∃ k2 : Nat, h = ⟨[], k2⟩ ∧ e.length = 19 ∧ e.at 0 = V.isl (a0.map Enc.enc) ∧ e.at 1 = vf1 ∧ e.at 7 = V.int .i64 (a0.length : Int) ∧ e.at 8 = V.int .i64 v8_1
def P115_1 (a0 : List Int) (f1 : Int → Option Bool) (vf1 : V) (t : (Unit) ⊕ Int) (x : Ex) (e : Env) (h : Heap) : Prop :=
  match t with
  | .inl _ => x = .normal ∧ ∃ k2 : Nat, h = ⟨[], k2⟩ ∧ e.length = 19
  | .inr r => x = .ret ∧ Fin p115 (Enc.enc r) .ret e h
theorem l115_1 (a0 : List Int) (f1 : Int → Option Bool) (vf1 : V) (hf1 : Clo1 A vf1 f1) {lo : Int} {s : Unit} {t : (Unit) ⊕ Int} (hF : forR lo (a0.length : Int) (F115_1_B a0 f1) (F115_1_D a0 f1) s = some t) {e : Env} {h : Heap} (hI : I115_1 a0 f1 vf1 lo s e h) : W A c115_1 e h (P115_1 a0 f1 vf1 t) := by
  obtain ⟨g_f1, fs_f1, cs_f1, hv_f1, hc_f1⟩ := id hf1
  show W A (.block 0 (.loop false b115_1)) e h _
  rw [W_block]
  refine W_forR hF 0 (by obtain ⟨_, rfl, _⟩ := hI; rfl) (I115_1 a0 f1 vf1) hI ?_ ?_
  · rintro v8_1 _ e h ⟨k2, rfl, h_1⟩ hlt hw o ho
    unfold F115_1_B at ho
    obtain ⟨x4, gx4, ho⟩ := bS ho
    obtain ⟨w5a, w5b⟩ := getI_w gx4
    obtain ⟨x6, gx6, ho⟩ := bS ho
    have w7a : ∀ h, mapO (frz h 16) (fs_f1 ++ [V.int .i64 x4] ++ cs_f1) = some (fs_f1 ++ [V.int .i64 x4] ++ cs_f1) := fun h => hc_f1.zf x4 h
    have w7b : List.all (fs_f1 ++ [V.int .i64 x4] ++ cs_f1) (refless 16) = true := hc_f1.zr x4
    have w7c : ans A g_f1 (fs_f1 ++ [V.int .i64 x4] ++ cs_f1) = some (V.bool x6) := hc_f1.ka x4 _ gx6
    cases x6 with
    | true =>
      rw [if_pos rfl] at ho
      cases ho
      simp only [simprocAttr, R0, opEv, fillV, mapO, mapS, b115_1, h_1, eq_true hlt, hw, w5a, w5b, hv_f1, w7a, w7b, w7c]
      intro ht; subst ht
      simp only [simprocAttr, RR, RB]
      exact And.intro rfl (fin_ret (by simp only [simprocAttr, R0, fn_out, p115, Rs.ev, mapO, mapS, take_len_self, h_1, eq_true hlt, hw, w5a, w5b, hv_f1, w7a, w7b, w7c]))
    | false =>
      rw [if_neg Bool.false_ne_true] at ho
      cases ho
      simp only [simprocAttr, R0, opEv, fillV, mapO, mapS, b115_1, h_1, eq_true hlt, hw, w5a, w5b, hv_f1, w7a, w7b, w7c]
      refine And.intro rfl (Exists.intro _ ( And.intro rfl ?_))
      simp only [simprocAttr, R0, h_1, eq_true hlt, hw, w5a, w5b, hv_f1, w7a, w7b, w7c]
  · rintro v8_1 _ e h ⟨k2, rfl, h_1⟩ hge t1 ho
    unfold F115_1_D at ho
    cases ho
    simp only [simprocAttr, R0, opEv, fillV, mapO, mapS, b115_1, h_1, eq_false hge]
    intro ht; subst ht
    refine And.intro rfl (Exists.intro _ ( And.intro rfl ?_))
    simp only [simprocAttr, R0, h_1, eq_false hge]
theorem s115 (a0 : List Int) (f1 : Int → Option Bool) {vf1 : V} (hf1 : Clo1 A vf1 f1) {r : Int} (hF : F115 a0 f1 = some r) : ans A 115 [V.isl (a0.map Enc.enc), vf1] = some (Enc.enc r) := by
  refine ans_of (f := p115) rfl rfl rfl fun e hl he => ?_
  have h0_0 : e.at 0 = V.isl (a0.map Enc.enc) := he 0 _ rfl
  have h1_0 : e.at 1 = vf1 := he 1 _ rfl
  obtain ⟨g_f1, fs_f1, cs_f1, hv_f1, hc_f1⟩ := id hf1
  have hl_0 : e.length = 19 := hl
  clear he hl
  have h_0 := And.intro hl_0 (And.intro h0_0 h1_0)
  show W A b115 e ⟨[], 0⟩ _
  unfold F115 at hF
  obtain ⟨t8, gt8, hF⟩ := bS hF
  rcases t8 with _ | r9
  · dsimp only at hF
    simp only [simprocAttr, R0, opEv, fillV, mapO, mapS, b115, h_0]
    refine W.mono (l115_1 a0 f1 vf1 hf1 gt8 (Exists.intro _ ( And.intro rfl ?_))) ?_
    · simp only [simprocAttr, R0, h_0]
    rintro _ e _ ⟨rfl, k2, rfl, hl_3⟩
    cases hF
    simp only [simprocAttr, R0, opEv, fillV, mapO, mapS, hl_3]
    exact fin_ret (by simp only [simprocAttr, R0, fn_out, p115, Rs.ev, mapO, mapS, take_len_self, hl_3])
  · dsimp only at hF
    cases hF
    simp only [simprocAttr, R0, opEv, fillV, mapO, mapS, b115, h_0]
    refine W.mono (l115_1 a0 f1 vf1 hf1 gt8 (Exists.intro _ ( And.intro rfl ?_))) ?_
    · simp only [simprocAttr, R0, h_0]
    rintro _ e h ⟨rfl, hq⟩
    simp only [simprocAttr, RR, RB]
    exact hq
def F82 (a0 : List Int) (f1 : Int → Option Bool) : Option Bool :=
  (F115 a0 f1).bind fun x1 =>
  some (decide (0 ≤ x1))
theorem s82 (a0 : List Int) (f1 : Int → Option Bool) {vf1 : V} (hf1 : Clo1 A vf1 f1) {r : Bool} (hF : F82 a0 f1 = some r) : ans A 82 [V.isl (a0.map Enc.enc), vf1] = some (Enc.enc r) := by
  refine ans_of (f := p82) rfl rfl rfl fun e hl he => ?_
  have h0_0 : e.at 0 = V.isl (a0.map Enc.enc) := he 0 _ rfl
  have h1_0 : e.at 1 = vf1 := he 1 _ rfl
  obtain ⟨g_f1, fs_f1, cs_f1, hv_f1, hc_f1⟩ := id hf1
  have hl_0 : e.length = 9 := hl
  clear he hl
  show W A b82 e ⟨[], 0⟩ _
  unfold F82 at hF
  obtain ⟨x1, gx1, hF⟩ := bS hF
  have w2 : ans A 115 [V.isl (a0.map Enc.enc), vf1] = some (V.int .i64 x1) := s115 a0 f1 hf1 gx1
  cases hF
  simp only [simprocAttr, R0, opEv, fillV, mapO, mapS, b82, hl_0, h0_0, h1_0, hf1.fz, hf1.rl, w2]
  exact fin_ret (by simp only [simprocAttr, R0, fn_out, p82, Rs.ev, mapO, mapS, take_len_self, hl_0, h0_0, h1_0, hf1.fz, hf1.rl, w2])
def F73 (a0 : List Int) : Option Int :=
  some (a0.length : Int)
theorem s73 (a0 : List Int)   {r : Int} (hF : F73 a0 = some r) : ans A 73 [V.isl (a0.map Enc.enc)] = some (Enc.enc r) := by
  refine ans_of (f := p73) rfl rfl rfl fun e hl he => ?_
  have h0_0 : e.at 0 = V.isl (a0.map Enc.enc) := he 0 _ rfl
  have hl_0 : e.length = 5 := hl
  clear he hl
  show W A b73 e ⟨[], 0⟩ _
  unfold F73 at hF
  cases hF
  simp only [simprocAttr, R0, opEv, fillV, mapO, mapS, b73, hl_0, h0_0]
  exact fin_ret (by simp only [simprocAttr, R0, fn_out, p73, Rs.ev, mapO, mapS, take_len_self, hl_0, h0_0])
def F86 (a0 : GComplex) : Option Int :=
  (chk ((a0.Dims.length : Int) - 1)).bind fun x3 =>
  some x3
theorem s86 (a0 : GComplex)   {r : Int} (hF : F86 a0 = some r) : ans A 86 [(eC a0)] = some (Enc.enc r) := by
  refine ans_of (f := p86) rfl rfl rfl fun e hl he => ?_
  have h0_0 : e.at 0 = (eC a0) := he 0 _ rfl
  have hl_0 : e.length = 7 := hl
  clear he hl
  show W A b86 e ⟨[], 0⟩ _
  unfold F86 at hF
  have w2 : ans A 73 [V.isl (a0.Dims.map Enc.enc)] = some (V.int .i64 (a0.Dims.length : Int)) := s73 a0.Dims  rfl
  obtain ⟨x3, gx3, hF⟩ := bS hF
  have wx3 := chk_w gx3
  cases hF
  simp only [simprocAttr, R0, opEv, fillV, mapO, mapS, b86, hl_0, h0_0, w2, wx3]
  exact fin_ret (by simp only [simprocAttr, R0, fn_out, p86, Rs.ev, mapO, mapS, take_len_self, hl_0, h0_0, w2, wx3])
def F87 (a0 : List (List (List Int))) : Option Int :=
  some (a0.length : Int)
theorem s87 (a0 : List (List (List Int)))   {r : Int} (hF : F87 a0 = some r) : ans A 87 [V.isl (a0.map Enc.enc)] = some (Enc.enc r) := by
  refine ans_of (f := p87) rfl rfl rfl fun e hl he => ?_
  have h0_0 : e.at 0 = V.isl (a0.map Enc.enc) := he 0 _ rfl
  have hl_0 : e.length = 5 := hl
  clear he hl
  show W A b87 e ⟨[], 0⟩ _
  unfold F87 at hF
  cases hF
  simp only [simprocAttr, R0, opEv, fillV, mapO, mapS, b87, hl_0, h0_0]
  exact fin_ret (by simp only [simprocAttr, R0, fn_out, p87, Rs.ev, mapO, mapS, take_len_self, hl_0, h0_0])
def F88 (a0 : Int) : Option Bool :=
  (F56 a0 0 8).bind fun x1 =>
  some (!x1)
theorem s88 (a0 : Int)   {r : Bool} (hF : F88 a0 = some r) : ans A 88 [V.int .i64 a0] = some (Enc.enc r) := by
  refine ans_of (f := p88) rfl rfl rfl fun e hl he => ?_
  have h0_0 : e.at 0 = V.int .i64 a0 := he 0 _ rfl
  have hl_0 : e.length = 6 := hl
  clear he hl
  show W A b88 e ⟨[], 0⟩ _
  unfold F88 at hF
  obtain ⟨x1, gx1, hF⟩ := bS hF
  have w2 : ans A 56 [V.int .i64 a0, V.int .i64 0, V.int .i64 8] = some (V.bool x1) := s56 a0 0 8  gx1
  cases hF
  simp only [simprocAttr, R0, opEv, fillV, mapO, mapS, b88, hl_0, h0_0, w2]
  exact fin_ret (by simp only [simprocAttr, R0, fn_out, p88, Rs.ev, mapO, mapS, take_len_self, hl_0, h0_0, w2])
def F89 (a0 : List (List Int)) : Option Int :=
  some (a0.length : Int)
theorem s89 (a0 : List (List Int))   {r : Int} (hF : F89 a0 = some r) : ans A 89 [V.isl (a0.map Enc.enc)] = some (Enc.enc r) := by
  refine ans_of (f := p89) rfl rfl rfl fun e hl he => ?_
  have h0_0 : e.at 0 = V.isl (a0.map Enc.enc) := he 0 _ rfl
  have hl_0 : e.length = 5 := hl
  clear he hl
  show W A b89 e ⟨[], 0⟩ _
  unfold F89 at hF
  cases hF
  simp only [simprocAttr, R0, opEv, fillV, mapO, mapS, b89, hl_0, h0_0]
  exact fin_ret (by simp only [simprocAttr, R0, fn_out, p89, Rs.ev, mapO, mapS, take_len_self, hl_0, h0_0])
def F130 (a0 : Int) (d0 : Int) : Option Bool :=
  (chk (d0 - 1)).bind fun x1 =>
  (F56 a0 0 x1).bind fun x2 =>
  some (!x2)
theorem s130 (a0 : Int) (d0 : Int)   {r : Bool} (hF : F130 a0 d0 = some r) : ans A 130 [V.int .i64 a0, V.iptr [V.int .i64 d0]] = some (Enc.enc r) := by
  refine ans_of (f := p130) rfl rfl rfl fun e hl he => ?_
  have h0_0 : e.at 0 = V.int .i64 a0 := he 0 _ rfl
  have h1_0 : e.at 1 = V.iptr [V.int .i64 d0] := he 1 _ rfl
  have hl_0 : e.length = 9 := hl
  clear he hl
  show W A b130 e ⟨[], 0⟩ _
  unfold F130 at hF
  obtain ⟨x1, gx1, hF⟩ := bS hF
  have wx1 := chk_w gx1
  obtain ⟨x2, gx2, hF⟩ := bS hF
  have w3 : ans A 56 [V.int .i64 a0, V.int .i64 0, V.int .i64 x1] = some (V.bool x2) := s56 a0 0 x1  gx2
  cases hF
  simp only [simprocAttr, R0, opEv, fillV, mapO, mapS, b130, hl_0, h0_0, h1_0, wx1, w3]
  exact fin_ret (by simp only [simprocAttr, R0, fn_out, p130, Rs.ev, mapO, mapS, take_len_self, hl_0, h0_0, h1_0, wx1, w3])
def F129 (a0 : Int) (a1 : Int) (a2 : List Int) : Option Bool :=
  if (a2.length : Int) = a1 then
    (F82 a2 (fun x => F130 x a0)).bind fun x4 =>
    some (!x4)
  else
    some false
theorem s129 (a0 : Int) (a1 : Int) (a2 : List Int)   {r : Bool} (hF : F129 a0 a1 a2 = some r) : ans A 129 [V.int .i64 a0, V.int .i64 a1, V.isl (a2.map Enc.enc)] = some (Enc.enc r) := by
  refine ans_of (f := p129) rfl rfl rfl fun e hl he => ?_
  have h0_0 : e.at 0 = V.int .i64 a0 := he 0 _ rfl
  have h1_0 : e.at 1 = V.int .i64 a1 := he 1 _ rfl
  have h2_0 : e.at 2 = V.isl (a2.map Enc.enc) := he 2 _ rfl
  have hl_0 : e.length = 17 := hl
  clear he hl
  have h_0 := And.intro hl_0 (And.intro h0_0 (And.intro h1_0 h2_0))
  show W A b129 e ⟨[], 0⟩ _
  unfold F129 at hF
  have w2 : ans A 73 [V.isl (a2.map Enc.enc)] = some (V.int .i64 (a2.length : Int)) := s73 a2  rfl
  by_cases c3 : (a2.length : Int) = a1
  · rw [if_pos c3] at hF
    obtain ⟨x4, gx4, hF⟩ := bS hF
    have w5 : ans A 82 [V.isl (a2.map Enc.enc), V.fn 130 [] [V.iptr [V.int .i64 a0]]] = some (V.bool x4) := s82 a2 (fun x => F130 x a0) (Clo1.of (by intro h f; simp only [RZ, mapO]) (by intro h f; simp only [RZ, mapO]) (by intro f; simp only [RZ, RB]) (by intro f; simp only [RZ, RB]) (fun x _ hr => s130 x a0 hr)) gx4
    cases hF
    simp only [simprocAttr, R0, opEv, fillV, mapO, mapS, b129, h_0, w2, eq_true c3, w5]
    exact fin_ret (by simp only [simprocAttr, R0, fn_out, p129, Rs.ev, mapO, mapS, take_len_self, h_0, w2, eq_true c3, w5])
  · rw [if_neg c3] at hF
    cases hF
    simp only [simprocAttr, R0, opEv, fillV, mapO, mapS, b129, h_0, w2, eq_false c3]
    exact fin_ret (by simp only [simprocAttr, R0, fn_out, p129, Rs.ev, mapO, mapS, take_len_self, h_0, w2, eq_false c3])
def F116 (a0 : List Int) (d0 : Int) (d1 : Int) : Option Bool :=
  (F129 d0 d1 a0).bind fun x1 =>
  some (!x1)
theorem s116 (a0 : List Int) (d0 : Int) (d1 : Int)   {r : Bool} (hF : F116 a0 d0 d1 = some r) : ans A 116 [V.isl (a0.map Enc.enc), V.iptr [V.int .i64 d0], V.iptr [V.int .i64 d1]] = some (Enc.enc r) := by
  refine ans_of (f := p116) rfl rfl rfl fun e hl he => ?_
  have h0_0 : e.at 0 = V.isl (a0.map Enc.enc) := he 0 _ rfl
  have h1_0 : e.at 1 = V.iptr [V.int .i64 d0] := he 1 _ rfl
  have h2_0 : e.at 2 = V.iptr [V.int .i64 d1] := he 2 _ rfl
  have hl_0 : e.length = 10 := hl
  clear he hl
  show W A b116 e ⟨[], 0⟩ _
  unfold F116 at hF
  obtain ⟨x1, gx1, hF⟩ := bS hF
  have w2 : ans A 129 [V.int .i64 d0, V.int .i64 d1, V.isl (a0.map Enc.enc)] = some (V.bool x1) := s129 d0 d1 a0  gx1
  cases hF
  simp only [simprocAttr, R0, opEv, fillV, mapO, mapS, b116, hl_0, h0_0, h1_0, h2_0, w2]
  exact fin_ret (by simp only [simprocAttr, R0, fn_out, p116, Rs.ev, mapO, mapS, take_len_self, hl_0, h0_0, h1_0, h2_0, w2])
def F128_1_B (a0 : List (List Int)) (f1 : (List Int) → Option Bool) (v8_1 : Int) (s : Unit) : Option ((Unit) ⊕ ((Unit) ⊕ Int)) :=
  (getI a0 v8_1).bind fun x4 =>
(f1 x4).bind fun x6 =>
if x6 = true then
  some (.inr (.inr v8_1))
else
  some (.inl ())
def F128_1_D (a0 : List (List Int)) (f1 : (List Int) → Option Bool) (v8_1 : Int) (s : Unit) : Option ((Unit) ⊕ Int) :=
  some (.inl ())
def F128 (a0 : List (List Int)) (f1 : (List Int) → Option Bool) : Option Int :=
  (forR 0 (a0.length : Int) (F128_1_B a0 f1) (F128_1_D a0 f1) ()).bind fun t8 => match t8 with
    | .inl _ =>
      some (-1)
    | .inr r9 => some r9
def I128_1 (a0 : List (List Int)) (f1 : (List Int) → Option Bool) (vf1 : V) (v8_1 : Int) (s : Unit) (e : Env) (h : Heap) : Prop :=
  ∃ k2 : Nat, h = ⟨[], k2⟩ ∧ e.length = 19 ∧ e.at 0 = V.isl (a0.map Enc.enc) ∧ e.at 1 = vf1 ∧ e.at 7 = V.int .i64 (a0.length : Int) ∧ e.at 8 = V.int .i64 v8_1
def P128_1 (a0 : List (List Int)) (f1 : (List Int) → Option Bool) (vf1 : V) (t : (Unit) ⊕ Int) (x : Ex) (e : Env) (h : Heap) : Prop :=
  match t with
  | .inl _ => x = .normal ∧ ∃ k2 : Nat, h = ⟨[], k2⟩ ∧ e.length = 19
  | .inr r => x = .ret ∧ Fin p128 (Enc.enc r) .ret e h
theorem l128_1 (a0 : List (List Int)) (f1 : (List Int) → Option Bool) (vf1 : V) (hf1 : Clo1 A vf1 f1) {lo : Int} {s : Unit} {t : (Unit) ⊕ Int} (hF : forR lo (a0.length : Int) (F128_1_B a0 f1) (F128_1_D a0 f1) s = some t) {e : Env} {h : Heap} (hI : I128_1 a0 f1 vf1 lo s e h) : W A c128_1 e h (P128_1 a0 f1 vf1 t) := by
  obtain ⟨g_f1, fs_f1, cs_f1, hv_f1, hc_f1⟩ := id hf1
  show W A (.block 0 (.loop false b128_1)) e h _
  rw [W_block]
  refine W_forR hF 0 (by obtain ⟨_, rfl, _⟩ := hI; rfl) (I128_1 a0 f1 vf1) hI ?_ ?_
  · rintro v8_1 _ e h ⟨k2, rfl, h_1⟩ hlt hw o ho
    unfold F128_1_B at ho
    obtain ⟨x4, gx4, ho⟩ := bS ho
    obtain ⟨w5a, w5b⟩ := getI_w gx4
    obtain ⟨x6, gx6, ho⟩ := bS ho
    have w7a : ∀ h, mapO (frz h 16) (fs_f1 ++ [V.isl (x4.map Enc.enc)] ++ cs_f1) = some (fs_f1 ++ [V.isl (x4.map Enc.enc)] ++ cs_f1) := fun h => hc_f1.zf x4 h
    have w7b : List.all (fs_f1 ++ [V.isl (x4.map Enc.enc)] ++ cs_f1) (refless 16) = true := hc_f1.zr x4
    have w7c : ans A g_f1 (fs_f1 ++ [V.isl (x4.map Enc.enc)] ++ cs_f1) = some (V.bool x6) := hc_f1.ka x4 _ gx6
    cases x6 with
    | true =>
      rw [if_pos rfl] at ho
      cases ho
      simp only [simprocAttr, R0, opEv, fillV, mapO, mapS, b128_1, h_1, eq_true hlt, hw, w5a, w5b, hv_f1, w7a, w7b, w7c]
      intro ht; subst ht
      simp only [simprocAttr, RR, RB]
      exact And.intro rfl (fin_ret (by simp only [simprocAttr, R0, fn_out, p128, Rs.ev, mapO, mapS, take_len_self, h_1, eq_true hlt, hw, w5a, w5b, hv_f1, w7a, w7b, w7c]))
    | false =>
      rw [if_neg Bool.false_ne_true] at ho
      cases ho
      simp only [simprocAttr, R0, opEv, fillV, mapO, mapS, b128_1, h_1, eq_true hlt, hw, w5a, w5b, hv_f1, w7a, w7b, w7c]
      refine And.intro rfl (Exists.intro _ ( And.intro rfl ?_))
      simp only [simprocAttr, R0, h_1, eq_true hlt, hw, w5a, w5b, hv_f1, w7a, w7b, w7c]
  · rintro v8_1 _ e h ⟨k2, rfl, h_1⟩ hge t1 ho
    unfold F128_1_D at ho
    cases ho
    simp only [simprocAttr, R0, opEv, fillV, mapO, mapS, b128_1, h_1, eq_false hge]
    intro ht; subst ht
    refine And.intro rfl (Exists.intro _ ( And.intro rfl ?_))
    simp only [simprocAttr, R0, h_1, eq_false hge]
theorem s128 (a0 : List (List Int)) (f1 : (List Int) → Option Bool) {vf1 : V} (hf1 : Clo1 A vf1 f1) {r : Int} (hF : F128 a0 f1 = some r) : ans A 128 [V.isl (a0.map Enc.enc), vf1] = some (Enc.enc r) := by
  refine ans_of (f := p128) rfl rfl rfl fun e hl he => ?_
  have h0_0 : e.at 0 = V.isl (a0.map Enc.enc) := he 0 _ rfl
  have h1_0 : e.at 1 = vf1 := he 1 _ rfl
  obtain ⟨g_f1, fs_f1, cs_f1, hv_f1, hc_f1⟩ := id hf1
  have hl_0 : e.length = 19 := hl
  clear he hl
  have h_0 := And.intro hl_0 (And.intro h0_0 h1_0)
  show W A b128 e ⟨[], 0⟩ _
  unfold F128 at hF
  obtain ⟨t8, gt8, hF⟩ := bS hF
  rcases t8 with _ | r9
  · dsimp only at hF
    simp only [simprocAttr, R0, opEv, fillV, mapO, mapS, b128, h_0]
    refine W.mono (l128_1 a0 f1 vf1 hf1 gt8 (Exists.intro _ ( And.intro rfl ?_))) ?_
    · simp only [simprocAttr, R0, h_0]
    rintro _ e _ ⟨rfl, k2, rfl, hl_3⟩
    cases hF
    simp only [simprocAttr, R0, opEv, fillV, mapO, mapS, hl_3]
    exact fin_ret (by simp only [simprocAttr, R0, fn_out, p128, Rs.ev, mapO, mapS, take_len_self, hl_3])
  · dsimp only at hF
    cases hF
    simp only [simprocAttr, R0, opEv, fillV, mapO, mapS, b128, h_0]
    refine W.mono (l128_1 a0 f1 vf1 hf1 gt8 (Exists.intro _ ( And.intro rfl ?_))) ?_
    · simp only [simprocAttr, R0, h_0]
    rintro _ e h ⟨rfl, hq⟩
    simp only [simprocAttr, RR, RB]
    exact hq
def F117 (a0 : List (List Int)) (f1 : (List Int) → Option Bool) : Option Bool :=
  (F128 a0 f1).bind fun x1 =>
  some (decide (0 ≤ x1))
theorem s117 (a0 : List (List Int)) (f1 : (List Int) → Option Bool) {vf1 : V} (hf1 : Clo1 A vf1 f1) {r : Bool} (hF : F117 a0 f1 = some r) : ans A 117 [V.isl (a0.map Enc.enc), vf1] = some (Enc.enc r) := by
  refine ans_of (f := p117) rfl rfl rfl fun e hl he => ?_
  have h0_0 : e.at 0 = V.isl (a0.map Enc.enc) := he 0 _ rfl
  have h1_0 : e.at 1 = vf1 := he 1 _ rfl
  obtain ⟨g_f1, fs_f1, cs_f1, hv_f1, hc_f1⟩ := id hf1
  have hl_0 : e.length = 9 := hl
  clear he hl
  show W A b117 e ⟨[], 0⟩ _
  unfold F117 at hF
  obtain ⟨x1, gx1, hF⟩ := bS hF
  have w2 : ans A 128 [V.isl (a0.map Enc.enc), vf1] = some (V.int .i64 x1) := s128 a0 f1 hf1 gx1
  cases hF
  simp only [simprocAttr, R0, opEv, fillV, mapO, mapS, b117, hl_0, h0_0, h1_0, hf1.fz, hf1.rl, w2]
  exact fin_ret (by simp only [simprocAttr, R0, fn_out, p117, Rs.ev, mapO, mapS, take_len_self, hl_0, h0_0, h1_0, hf1.fz, hf1.rl, w2])
def F90 (a0 : Int) (a1 : Int) (a2 : List (List Int)) : Option Bool :=
  (F117 a2 (fun x => F116 x a0 a1)).bind fun x1 =>
  some (!x1)
theorem s90 (a0 : Int) (a1 : Int) (a2 : List (List Int))   {r : Bool} (hF : F90 a0 a1 a2 = some r) : ans A 90 [V.int .i64 a0, V.int .i64 a1, V.isl (a2.map Enc.enc)] = some (Enc.enc r) := by
  refine ans_of (f := p90) rfl rfl rfl fun e hl he => ?_
  have h0_0 : e.at 0 = V.int .i64 a0 := he 0 _ rfl
  have h1_0 : e.at 1 = V.int .i64 a1 := he 1 _ rfl
  have h2_0 : e.at 2 = V.isl (a2.map Enc.enc) := he 2 _ rfl
  have hl_0 : e.length = 11 := hl
  clear he hl
  show W A b90 e ⟨[], 0⟩ _
  unfold F90 at hF
  obtain ⟨x1, gx1, hF⟩ := bS hF
  have w2 : ans A 117 [V.isl (a2.map Enc.enc), V.fn 116 [] [V.iptr [V.int .i64 a0], V.iptr [V.int .i64 a1]]] = some (V.bool x1) := s117 a2 (fun x => F116 x a0 a1) (Clo1.of (by intro h f; simp only [RZ, mapO]) (by intro h f; simp only [RZ, mapO]) (by intro f; simp only [RZ, RB]) (by intro f; simp only [RZ, RB]) (fun x _ hr => s116 x a0 a1 hr)) gx1
  cases hF
  simp only [simprocAttr, R0, opEv, fillV, mapO, mapS, b90, hl_0, h0_0, h1_0, h2_0, w2]
  exact fin_ret (by simp only [simprocAttr, R0, fn_out, p90, Rs.ev, mapO, mapS, take_len_self, hl_0, h0_0, h1_0, h2_0, w2])
def F119_2_B (a0 : Int) (a2 : List Int) (a3 : List (List Int)) (v18_1 : Int) (x7 : Int) (x9 : List Int) (v28_2 : Int) (o0_2 : (List Int)) : Option (((List Int)) ⊕ ((List Int))) :=
  (getI x9 v28_2).bind fun x15 =>
(getI o0_2 v28_2).bind fun x17 =>
(chk (x7 * x15)).bind fun x19 =>
(chk (x17 + x19)).bind fun x20 =>
(remI x20 a0).bind fun x21 =>
(setI o0_2 v28_2 x21).bind fun l23 =>
some (.inl l23)
def F119_2_D (a0 : Int) (a2 : List Int) (a3 : List (List Int)) (v18_1 : Int) (x7 : Int) (x9 : List Int) (v28_2 : Int) (o0_2 : (List Int)) : Option ((List Int)) :=
  some o0_2
def F119_1_B (a0 : Int) (a2 : List Int) (a3 : List (List Int)) (v18_1 : Int) (o0_1 : (List Int)) : Option (((List Int)) ⊕ ((List Int))) :=
  (getI a2 v18_1).bind fun x7 =>
(getI a3 v18_1).bind fun x9 =>
(forR 0 (x9.length : Int) (F119_2_B a0 a2 a3 v18_1 x7 x9) (F119_2_D a0 a2 a3 v18_1 x7 x9) o0_1).bind fun zo0_2 =>
some (.inl zo0_2)
def F119_1_D (a0 : Int) (a2 : List Int) (a3 : List (List Int)) (v18_1 : Int) (o0_1 : (List Int)) : Option ((List Int)) :=
  some o0_1
def F119 (a0 : Int) (a1 : Int) (a2 : List Int) (a3 : List (List Int)) : Option (List Int) :=
  (mkL 8 a1 0).bind fun l1 =>
  (forR 0 (a2.length : Int) (F119_1_B a0 a2 a3) (F119_1_D a0 a2 a3) l1).bind fun zo0_1 =>
  some zo0_1
def I119_2 (a0 : Int) (a2 : List Int) (a3 : List (List Int)) (v18_1 : Int) (x7 : Int) (x9 : List Int)  (v28_2 : Int) (o0_2 : (List Int)) (e : Env) (h : Heap) : Prop :=
  ∃ u12 k13 : Nat, h = ⟨[(u12, some (o0_2.map Enc.enc))], k13⟩ ∧ e.length = 49 ∧ e.at 0 = V.int .i64 a0 ∧ e.at 3 = V.isl (a3.map Enc.enc) ∧ e.at 9 = V.sl 0 u12 0 o0_2.length 1 ∧ e.at 11 = V.int .i64 x7 ∧ e.at 16 = V.isl (a2.map Enc.enc) ∧ e.at 17 = V.int .i64 (a2.length : Int) ∧ e.at 18 = V.int .i64 v18_1 ∧ e.at 26 = V.isl (x9.map Enc.enc) ∧ e.at 27 = V.int .i64 (x9.length : Int) ∧ e.at 28 = V.int .i64 v28_2
def P119_2 (a0 : Int) (a2 : List Int) (a3 : List (List Int)) (v18_1 : Int) (x7 : Int) (x9 : List Int)  (zo0_2 : (List Int)) (x : Ex) (e : Env) (h : Heap) : Prop :=
  x = .normal ∧ ∃ u12 k13 : Nat, h = ⟨[(u12, some (zo0_2.map Enc.enc))], k13⟩ ∧ e.length = 49 ∧ e.at 0 = V.int .i64 a0 ∧ e.at 3 = V.isl (a3.map Enc.enc) ∧ e.at 9 = V.sl 0 u12 0 zo0_2.length 1 ∧ e.at 16 = V.isl (a2.map Enc.enc) ∧ e.at 17 = V.int .i64 (a2.length : Int) ∧ e.at 18 = V.int .i64 v18_1
theorem l119_2 (a0 : Int) (a2 : List Int) (a3 : List (List Int)) (v18_1 : Int) (x7 : Int) (x9 : List Int)   {lo : Int} {s : (List Int)} {t : (List Int)} (hF : forR lo (x9.length : Int) (F119_2_B a0 a2 a3 v18_1 x7 x9) (F119_2_D a0 a2 a3 v18_1 x7 x9) s = some t) {e : Env} {h : Heap} (hI : I119_2 a0 a2 a3 v18_1 x7 x9  lo s e h) : W A c119_2 e h (P119_2 a0 a2 a3 v18_1 x7 x9  t) := by
  show W A (.block 2 (.loop false b119_2)) e h _
  rw [W_block]
  refine W_forR hF 1 (by obtain ⟨_, _, rfl, _⟩ := hI; rfl) (I119_2 a0 a2 a3 v18_1 x7 x9 ) hI ?_ ?_
  · rintro v28_2 o0_2 e h ⟨u12, k13, rfl, h_11⟩ hlt hw o ho
    unfold F119_2_B at ho
    obtain ⟨x15, gx15, ho⟩ := bS ho
    obtain ⟨w16a, w16b⟩ := getI_w gx15
    obtain ⟨x17, gx17, ho⟩ := bS ho
    obtain ⟨w18a, w18b⟩ := getI_w gx17
    have w18c := getI_lt gx17
    have w18d : List.drop (Int.toNat v28_2) (o0_2.map Enc.enc) = (V.int .i64 x17) :: List.drop ((Int.toNat v28_2) + 1) (o0_2.map Enc.enc) := drop_enc w18b
    obtain ⟨x19, gx19, ho⟩ := bS ho
    have wx19 := chk_w gx19
    obtain ⟨x20, gx20, ho⟩ := bS ho
    have wx20 := chk_w gx20
    obtain ⟨x21, gx21, ho⟩ := bS ho
    obtain ⟨w22a, w22b⟩ := rem_w gx21
    obtain ⟨l23, gl23, ho⟩ := bS ho
    obtain ⟨w24a, w24b, w24c, w24d, w24e⟩ := setI_w gl23
    replace w24e : List.take (Int.toNat v28_2) (o0_2.map Enc.enc) ++ [V.int .i64 x21] ++ List.drop (Int.toNat v28_2 + 1) (o0_2.map Enc.enc) = List.map Enc.enc l23 := w24e
    cases ho
    simp only [simprocAttr, R0, opEv, fillV, mapO, mapS, b119_2, h_11, eq_true hlt, hw, w16a, w16b, w18a, w18b, w18c, w18d, wx19, wx20, eq_false w22a, w22b, w24a, w24b, w24c, w24e]
    refine And.intro rfl (Exists.intro _ ( Exists.intro _ ( And.intro rfl ?_)))
    simp only [simprocAttr, R0, h_11, eq_true hlt, hw, w16a, w16b, w18a, w18b, w18c, w18d, wx19, wx20, eq_false w22a, w22b, w24a, w24b, w24c, w24e, w24d]
  · rintro v28_2 o0_2 e h ⟨u12, k13, rfl, h_11⟩ hge t1 ho
    unfold F119_2_D at ho
    cases ho
    simp only [simprocAttr, R0, opEv, fillV, mapO, mapS, b119_2, h_11, eq_false hge]
    intro ht; subst ht
    refine And.intro rfl (Exists.intro _ ( Exists.intro _ ( And.intro rfl ?_)))
    simp only [simprocAttr, R0, h_11, eq_false hge]
def I119_1 (a0 : Int) (a2 : List Int) (a3 : List (List Int))  (v18_1 : Int) (o0_1 : (List Int)) (e : Env) (h : Heap) : Prop :=
  ∃ u4 k5 : Nat, h = ⟨[(u4, some (o0_1.map Enc.enc))], k5⟩ ∧ e.length = 49 ∧ e.at 0 = V.int .i64 a0 ∧ e.at 3 = V.isl (a3.map Enc.enc) ∧ e.at 9 = V.sl 0 u4 0 o0_1.length 1 ∧ e.at 16 = V.isl (a2.map Enc.enc) ∧ e.at 17 = V.int .i64 (a2.length : Int) ∧ e.at 18 = V.int .i64 v18_1
def P119_1 (a0 : Int) (a2 : List Int) (a3 : List (List Int))  (zo0_1 : (List Int)) (x : Ex) (e : Env) (h : Heap) : Prop :=
  x = .normal ∧ ∃ u4 k5 : Nat, h = ⟨[(u4, some (zo0_1.map Enc.enc))], k5⟩ ∧ e.length = 49 ∧ e.at 9 = V.sl 0 u4 0 zo0_1.length 1
theorem l119_1 (a0 : Int) (a2 : List Int) (a3 : List (List Int))   {lo : Int} {s : (List Int)} {t : (List Int)} (hF : forR lo (a2.length : Int) (F119_1_B a0 a2 a3) (F119_1_D a0 a2 a3) s = some t) {e : Env} {h : Heap} (hI : I119_1 a0 a2 a3  lo s e h) : W A c119_1 e h (P119_1 a0 a2 a3  t) := by
  show W A (.block 0 (.loop false b119_1)) e h _
  rw [W_block]
  refine W_forR hF 1 (by obtain ⟨_, _, rfl, _⟩ := hI; rfl) (I119_1 a0 a2 a3 ) hI ?_ ?_
  · rintro v18_1 o0_1 e h ⟨u4, k5, rfl, h_3⟩ hlt hw o ho
    unfold F119_1_B at ho
    obtain ⟨x7, gx7, ho⟩ := bS ho
    obtain ⟨w8a, w8b⟩ := getI_w gx7
    obtain ⟨x9, gx9, ho⟩ := bS ho
    obtain ⟨w10a, w10b⟩ := getI_w gx9
    obtain ⟨zo0_2, gt25, ho⟩ := bS ho
    simp only [simprocAttr, R0, opEv, fillV, mapO, mapS, b119_1, h_3, eq_true hlt, hw, w8a, w8b, w10a, w10b]
    refine W.mono (l119_2 a0 a2 a3 v18_1 x7 x9   gt25 (Exists.intro _ ( Exists.intro _ ( And.intro rfl ?_)))) ?_
    · simp only [simprocAttr, R0, h_3, eq_true hlt, hw, w8a, w8b, w10a, w10b]
    rintro _ e _ ⟨rfl, u12, k13, rfl, h_14⟩
    cases ho
    simp only [simprocAttr, R0, opEv, fillV, mapO, mapS, h_14, eq_true hlt, hw]
    refine And.intro rfl (Exists.intro _ ( Exists.intro _ ( And.intro rfl ?_)))
    simp only [simprocAttr, R0, h_14, eq_true hlt, hw]
  · rintro v18_1 o0_1 e h ⟨u4, k5, rfl, h_3⟩ hge t1 ho
    unfold F119_1_D at ho
    cases ho
    simp only [simprocAttr, R0, opEv, fillV, mapO, mapS, b119_1, h_3, eq_false hge]
    intro ht; subst ht
    refine And.intro rfl (Exists.intro _ ( Exists.intro _ ( And.intro rfl ?_)))
    simp only [simprocAttr, R0, h_3, eq_false hge]
theorem s119 (a0 : Int) (a1 : Int) (a2 : List Int) (a3 : List (List Int))   {r : List Int} (hF : F119 a0 a1 a2 a3 = some r) : ans A 119 [V.int .i64 a0, V.int .i64 a1, V.isl (a2.map Enc.enc), V.isl (a3.map Enc.enc)] = some (Enc.enc r) := by
  refine ans_of (f := p119) rfl rfl rfl fun e hl he => ?_
  have h0_0 : e.at 0 = V.int .i64 a0 := he 0 _ rfl
  have h1_0 : e.at 1 = V.int .i64 a1 := he 1 _ rfl
  have h2_0 : e.at 2 = V.isl (a2.map Enc.enc) := he 2 _ rfl
  have h3_0 : e.at 3 = V.isl (a3.map Enc.enc) := he 3 _ rfl
  have hl_0 : e.length = 49 := hl
  clear he hl
  show W A b119 e ⟨[], 0⟩ _
  unfold F119 at hF
  obtain ⟨l1, gl1, hF⟩ := bS hF
  obtain ⟨w2a, w2b, w2c, w2d, w2e⟩ := mkL_w gl1
  replace w2e : (List.replicate (Int.toNat a1) [V.int .i64 0]).flatten = List.map Enc.enc l1 := w2e
  obtain ⟨zo0_1, gt26, hF⟩ := bS hF
  simp only [↓reduceIte, Nat.reduceAdd, Nat.reduceMul, Nat.reduceSub, Nat.reduceLT, Nat.reduceLeDiff, Nat.reduceEqDiff, Nat.reducePow, Int.reducePow, Int.reduceLE, Int.reduceLT, Int.reduceEq, Int.reduceToNat, reduceCtorEq, R0, opEv, fillV, mapO, mapS, b119, hl_0, h0_0, h1_0, h2_0, h3_0, w2a, w2b, w2c, w2e]
  refine W.mono (l119_1 a0 a2 a3   gt26 (Exists.intro _ ( Exists.intro _ ( And.intro rfl ?_)))) ?_
  · simp only [↓reduceIte, Nat.reduceAdd, Nat.reduceMul, Nat.reduceSub, Nat.reduceLT, Nat.reduceLeDiff, Nat.reduceEqDiff, Nat.reducePow, Int.reducePow, Int.reduceLE, Int.reduceLT, Int.reduceEq, Int.reduceToNat, reduceCtorEq, R0, hl_0, h0_0, h1_0, h2_0, h3_0, w2a, w2b, w2c, w2e, w2d]
  rintro _ e _ ⟨rfl, u4, k5, rfl, hl_6, h9_6⟩
  have hE := Option.some.inj hF; subst hE
  simp only [↓reduceIte, Nat.reduceAdd, Nat.reduceMul, Nat.reduceSub, Nat.reduceLT, Nat.reduceLeDiff, Nat.reduceEqDiff, Nat.reducePow, Int.reducePow, Int.reduceLE, Int.reduceLT, Int.reduceEq, Int.reduceToNat, reduceCtorEq, R0, opEv, fillV, mapO, mapS, hl_6, h9_6]
  exact fin_ret (by simp only [↓reduceIte, Nat.reduceAdd, Nat.reduceMul, Nat.reduceSub, Nat.reduceLT, Nat.reduceLeDiff, Nat.reduceEqDiff, Nat.reducePow, Int.reducePow, Int.reduceLE, Int.reduceLT, Int.reduceEq, Int.reduceToNat, reduceCtorEq, R0, fn_out, p119, Rs.ev, mapO, mapS, take_len_self, hl_6, h9_6, frzs (α := Int) zo0_1, takes (α := Int) zo0_1])
def F91 (a0 : GComplex) (a1 : Int) (a2 : List Int) : Option (List Int) :=
  if a1 ≤ 0 then
    some ([] : List Int)
  else
    (F86 a0).bind fun x2 =>
    if x2 < a1 then
      some ([] : List Int)
    else
      (chk (a1 - 1)).bind fun x5 =>
      (getI a0.Dims x5).bind fun x6 =>
      (getI a0.Maps x5).bind fun x8 =>
      (F119 a0.Prime x6 a2 x8).bind fun x10 =>
      some x10
theorem s91 (a0 : GComplex) (a1 : Int) (a2 : List Int)   {r : List Int} (hF : F91 a0 a1 a2 = some r) : ans A 91 [(eC a0), V.int .i64 a1, V.isl (a2.map Enc.enc)] = some (Enc.enc r) := by
  refine ans_of (f := p91) rfl rfl rfl fun e hl he => ?_
  have h0_0 : e.at 0 = (eC a0) := he 0 _ rfl
  have h1_0 : e.at 1 = V.int .i64 a1 := he 1 _ rfl
  have h2_0 : e.at 2 = V.isl (a2.map Enc.enc) := he 2 _ rfl
  have hl_0 : e.length = 31 := hl
  clear he hl
  have h_0 := And.intro hl_0 (And.intro h0_0 (And.intro h1_0 h2_0))
  show W A b91 e ⟨[], 0⟩ _
  unfold F91 at hF
  by_cases c1 : a1 ≤ 0
  · rw [if_pos c1] at hF
    cases hF
    simp only [simprocAttr, R0, opEv, fillV, mapO, mapS, b91, h_0, eq_true c1]
    exact fin_ret (by simp only [simprocAttr, R0, fn_out, p91, Rs.ev, mapO, mapS, take_len_self, h_0, eq_true c1])
  · rw [if_neg c1] at hF
    obtain ⟨x2, gx2, hF⟩ := bS hF
    have w3 : ans A 86 [(eC a0)] = some (V.int .i64 x2) := s86 a0  gx2
    by_cases c4 : x2 < a1
    · rw [if_pos c4] at hF
      cases hF
      simp only [simprocAttr, R0, opEv, fillV, mapO, mapS, b91, h_0, eq_false c1, w3, eq_true c4]
      exact fin_ret (by simp only [simprocAttr, R0, fn_out, p91, Rs.ev, mapO, mapS, take_len_self, h_0, eq_false c1, w3, eq_true c4])
    · rw [if_neg c4] at hF
      obtain ⟨x5, gx5, hF⟩ := bS hF
      have wx5 := chk_w gx5
      obtain ⟨x6, gx6, hF⟩ := bS hF
      obtain ⟨w7a, w7b⟩ := getI_w gx6
      obtain ⟨x8, gx8, hF⟩ := bS hF
      obtain ⟨w9a, w9b⟩ := getI_w gx8
      obtain ⟨x10, gx10, hF⟩ := bS hF
      have w11 : ans A 119 [V.int .i64 a0.Prime, V.int .i64 x6, V.isl (a2.map Enc.enc), V.isl (x8.map Enc.enc)] = some (V.isl (x10.map Enc.enc)) := s119 a0.Prime x6 a2 x8  gx10
      cases hF
      simp only [simprocAttr, R0, opEv, fillV, mapO, mapS, b91, h_0, eq_false c1, w3, eq_false c4, wx5, w7a, w7b, w9a, w9b, w11]
      exact fin_ret (by simp only [simprocAttr, R0, fn_out, p91, Rs.ev, mapO, mapS, take_len_self, h_0, eq_false c1, w3, eq_false c4, wx5, w7a, w7b, w9a, w9b, w11])
def F118 (a0 : Int) : Option Bool :=
  some (!(decide (a0 = 0)))
theorem s118 (a0 : Int)   {r : Bool} (hF : F118 a0 = some r) : ans A 118 [V.int .i64 a0] = some (Enc.enc r) := by
  refine ans_of (f := p118) rfl rfl rfl fun e hl he => ?_
  have h0_0 : e.at 0 = V.int .i64 a0 := he 0 _ rfl
  have hl_0 : e.length = 5 := hl
  clear he hl
  show W A b118 e ⟨[], 0⟩ _
  unfold F118 at hF
  cases hF
  simp only [simprocAttr, R0, opEv, fillV, mapO, mapS, b118, hl_0, h0_0]
  exact fin_ret (by simp only [simprocAttr, R0, fn_out, p118, Rs.ev, mapO, mapS, take_len_self, hl_0, h0_0])
def F92 (a0 : List Int) : Option Bool :=
  (F82 a0 (fun x => F118 x)).bind fun x1 =>
  some (!x1)
theorem s92 (a0 : List Int)   {r : Bool} (hF : F92 a0 = some r) : ans A 92 [V.isl (a0.map Enc.enc)] = some (Enc.enc r) := by
  refine ans_of (f := p92) rfl rfl rfl fun e hl he => ?_
  have h0_0 : e.at 0 = V.isl (a0.map Enc.enc) := he 0 _ rfl
  have hl_0 : e.length = 6 := hl
  clear he hl
  show W A b92 e ⟨[], 0⟩ _
  unfold F92 at hF
  obtain ⟨x1, gx1, hF⟩ := bS hF
  have w2 : ans A 82 [V.isl (a0.map Enc.enc), V.fn 118 [] []] = some (V.bool x1) := s82 a0 (fun x => F118 x) (Clo1.of (by intro h f; simp only [RZ, mapO]) (by intro h f; simp only [RZ, mapO]) (by intro f; simp only [RZ, RB]) (by intro f; simp only [RZ, RB]) (fun x _ hr => s118 x hr)) gx1
  cases hF
  simp only [simprocAttr, R0, opEv, fillV, mapO, mapS, b92, hl_0, h0_0, w2]
  exact fin_ret (by simp only [simprocAttr, R0, fn_out, p92, Rs.ev, mapO, mapS, take_len_self, hl_0, h0_0, w2])
def F42_1_B (a0 : GComplex) (v34_1 : Int) (s : Unit) : Option ((Unit) ⊕ ((Unit) ⊕ Bool)) :=
  (getI a0.Maps v34_1).bind fun x15 =>
(getI a0.Dims (v34_1 + 1)).bind fun x19 =>
if (x15.length : Int) = x19 then
  (getI a0.Dims v34_1).bind fun x22 =>
  (F90 a0.Prime x22 x15).bind fun x24 =>
  if x24 = true then
    some (.inl ())
  else
    some (.inr (.inr false))
else
  some (.inr (.inr false))
def F42_1_D (a0 : GComplex) (v34_1 : Int) (s : Unit) : Option ((Unit) ⊕ Bool) :=
  some (.inl ())
def F42_3_B (a0 : GComplex) (v5_2 : Int) (x34 : List (List Int)) (v74_3 : Int) (s : Unit) : Option ((Unit) ⊕ ((Unit) ⊕ Bool)) :=
  (getI x34 v74_3).bind fun x39 =>
(chk (v5_2 - 1)).bind fun x41 =>
(F91 a0 x41 x39).bind fun x42 =>
(F92 x42).bind fun x44 =>
if x44 = true then
  some (.inl ())
else
  some (.inr (.inr false))
def F42_3_D (a0 : GComplex) (v5_2 : Int) (x34 : List (List Int)) (v74_3 : Int) (s : Unit) : Option ((Unit) ⊕ Bool) :=
  some (.inl ())
def F42_2_S (a0 : GComplex) (v5_2 : Int) : Option ((Int) ⊕ ((Unit) ⊕ Bool)) :=
  (F86 a0).bind fun x30 =>
if v5_2 ≤ x30 then
  (chk (v5_2 - 1)).bind fun x33 =>
  (getI a0.Maps x33).bind fun x34 =>
  (forR 0 (x34.length : Int) (F42_3_B a0 v5_2 x34) (F42_3_D a0 v5_2 x34) ()).bind fun t46 => match t46 with
    | .inl _ =>
      (chk (v5_2 + 1)).bind fun x47 =>
      some (.inl x47)
    | .inr r48 => some (.inr (.inr r48))
else
  some (.inr (.inl ()))
def F42 (a0 : GComplex) : Option Bool :=
  (F67 a0.Prime).bind fun x1 =>
  if x1 = true then
    (F86 a0).bind fun x3 =>
    (F56 x3 0 5).bind fun x5 =>
    if x5 = true then
      if (a0.Maps.length : Int) = x3 then
        (F82 a0.Dims (fun x => F88 x)).bind fun x10 =>
        if x10 = true then
          some false
        else
          (forR 0 (a0.Maps.length : Int) (F42_1_B a0) (F42_1_D a0) ()).bind fun t26 => match t26 with
            | .inl _ =>
              (loopW (F42_2_S a0) 2).bind fun t49 => match t49 with
                | .inl _ =>
                  some true
                | .inr r50 => some r50
            | .inr r51 => some r51
      else
        some false
    else
      some false
  else
    some false
def I42_1 (a0 : GComplex)  (v34_1 : Int) (s : Unit) (e : Env) (h : Heap) : Prop :=
  ∃ k13 : Nat, h = ⟨[(0, none)], k13⟩ ∧ e.length = 86 ∧ e.at 1 = V.iptr [V.int .i64 a0.Prime, V.isl (a0.Dims.map Enc.enc), V.isl (a0.Maps.map Enc.enc)] ∧ e.at 32 = V.isl (a0.Maps.map Enc.enc) ∧ e.at 33 = V.int .i64 (a0.Maps.length : Int) ∧ e.at 34 = V.int .i64 v34_1
def P42_1 (a0 : GComplex)  (t : (Unit) ⊕ Bool) (x : Ex) (e : Env) (h : Heap) : Prop :=
  match t with
  | .inl _ => x = .normal ∧ ∃ k13 : Nat, h = ⟨[(0, none)], k13⟩ ∧ e.length = 86 ∧ e.at 1 = V.iptr [V.int .i64 a0.Prime, V.isl (a0.Dims.map Enc.enc), V.isl (a0.Maps.map Enc.enc)]
  | .inr r => x = .ret ∧ Fin p42 (Enc.enc r) .ret e h
theorem l42_1 (a0 : GComplex)   {lo : Int} {s : Unit} {t : (Unit) ⊕ Bool} (hF : forR lo (a0.Maps.length : Int) (F42_1_B a0) (F42_1_D a0) s = some t) {e : Env} {h : Heap} (hI : I42_1 a0  lo s e h) : W A c42_1 e h (P42_1 a0  t) := by
  show W A (.block 0 (.loop false b42_1)) e h _
  rw [W_block]
  refine W_forR hF 1 (by obtain ⟨_, rfl, _⟩ := hI; rfl) (I42_1 a0 ) hI ?_ ?_
  · rintro v34_1 _ e h ⟨k13, rfl, h_12⟩ hlt hw o ho
    unfold F42_1_B at ho
    obtain ⟨x15, gx15, ho⟩ := bS ho
    obtain ⟨w16a, w16b⟩ := getI_w gx15
    have w18 : ans A 89 [V.isl (x15.map Enc.enc)] = some (V.int .i64 (x15.length : Int)) := s89 x15  rfl
    obtain ⟨x19, gx19, ho⟩ := bS ho
    obtain ⟨w20a, w20b⟩ := getI_w gx19
    by_cases c21 : (x15.length : Int) = x19
    · rw [if_pos c21] at ho
      obtain ⟨x22, gx22, ho⟩ := bS ho
      obtain ⟨w23a, w23b⟩ := getI_w gx22
      obtain ⟨x24, gx24, ho⟩ := bS ho
      have w25 : ans A 90 [V.int .i64 a0.Prime, V.int .i64 x22, V.isl (x15.map Enc.enc)] = some (V.bool x24) := s90 a0.Prime x22 x15  gx24
      cases x24 with
      | true =>
        rw [if_pos rfl] at ho
        cases ho
        simp only [simprocAttr, R0, opEv, fillV, mapO, mapS, b42_1, h_12, eq_true hlt, hw, w16a, w16b, w18, w20a, w20b, eq_true c21, w23a, w23b, w25]
        refine And.intro rfl (Exists.intro _ ( And.intro rfl ?_))
        simp only [simprocAttr, R0, h_12, eq_true hlt, hw, w16a, w16b, w18, w20a, w20b, eq_true c21, w23a, w23b, w25]
      | false =>
        rw [if_neg Bool.false_ne_true] at ho
        cases ho
        simp only [simprocAttr, R0, opEv, fillV, mapO, mapS, b42_1, h_12, eq_true hlt, hw, w16a, w16b, w18, w20a, w20b, eq_true c21, w23a, w23b, w25]
        intro ht; subst ht
        simp only [simprocAttr, RR, RB]
        exact And.intro rfl (fin_ret (by simp only [simprocAttr, R0, fn_out, p42, Rs.ev, mapO, mapS, take_len_self, h_12, eq_true hlt, hw, w16a, w16b, w18, w20a, w20b, eq_true c21, w23a, w23b, w25]))
    · rw [if_neg c21] at ho
      cases ho
      simp only [simprocAttr, R0, opEv, fillV, mapO, mapS, b42_1, h_12, eq_true hlt, hw, w16a, w16b, w18, w20a, w20b, eq_false c21]
      intro ht; subst ht
      simp only [simprocAttr, RR, RB]
      exact And.intro rfl (fin_ret (by simp only [simprocAttr, R0, fn_out, p42, Rs.ev, mapO, mapS, take_len_self, h_12, eq_true hlt, hw, w16a, w16b, w18, w20a, w20b, eq_false c21]))
  · rintro v34_1 _ e h ⟨k13, rfl, h_12⟩ hge t1 ho
    unfold F42_1_D at ho
    cases ho
    simp only [simprocAttr, R0, opEv, fillV, mapO, mapS, b42_1, h_12, eq_false hge]
    intro ht; subst ht
    refine And.intro rfl (Exists.intro _ ( And.intro rfl ?_))
    simp only [simprocAttr, R0, h_12, eq_false hge]
def I42_3 (a0 : GComplex) (v5_2 : Int) (x34 : List (List Int))  (v74_3 : Int) (s : Unit) (e : Env) (h : Heap) : Prop :=
  ∃ k37 : Nat, h = ⟨[(0, none)], k37⟩ ∧ e.length = 86 ∧ e.at 1 = V.iptr [V.int .i64 a0.Prime, V.isl (a0.Dims.map Enc.enc), V.isl (a0.Maps.map Enc.enc)] ∧ e.at 5 = V.int .i64 v5_2 ∧ e.at 72 = V.isl (x34.map Enc.enc) ∧ e.at 73 = V.int .i64 (x34.length : Int) ∧ e.at 74 = V.int .i64 v74_3
def P42_3 (a0 : GComplex) (v5_2 : Int) (x34 : List (List Int))  (t : (Unit) ⊕ Bool) (x : Ex) (e : Env) (h : Heap) : Prop :=
  match t with
  | .inl _ => x = .normal ∧ ∃ k37 : Nat, h = ⟨[(0, none)], k37⟩ ∧ e.length = 86 ∧ e.at 1 = V.iptr [V.int .i64 a0.Prime, V.isl (a0.Dims.map Enc.enc), V.isl (a0.Maps.map Enc.enc)] ∧ e.at 5 = V.int .i64 v5_2
  | .inr r => x = .ret ∧ Fin p42 (Enc.enc r) .ret e h
theorem l42_3 (a0 : GComplex) (v5_2 : Int) (x34 : List (List Int))   {lo : Int} {s : Unit} {t : (Unit) ⊕ Bool} (hF : forR lo (x34.length : Int) (F42_3_B a0 v5_2 x34) (F42_3_D a0 v5_2 x34) s = some t) {e : Env} {h : Heap} (hI : I42_3 a0 v5_2 x34  lo s e h) : W A c42_3 e h (P42_3 a0 v5_2 x34  t) := by
  show W A (.block 4 (.loop false b42_3)) e h _
  rw [W_block]
  refine W_forR hF 1 (by obtain ⟨_, rfl, _⟩ := hI; rfl) (I42_3 a0 v5_2 x34 ) hI ?_ ?_
  · rintro v74_3 _ e h ⟨k37, rfl, h_36⟩ hlt hw o ho
    unfold F42_3_B at ho
    obtain ⟨x39, gx39, ho⟩ := bS ho
    obtain ⟨w40a, w40b⟩ := getI_w gx39
    obtain ⟨x41, gx41, ho⟩ := bS ho
    have wx41 := chk_w gx41
    obtain ⟨x42, gx42, ho⟩ := bS ho
    have w43 : ans A 91 [(eC a0), V.int .i64 x41, V.isl (x39.map Enc.enc)] = some (V.isl (x42.map Enc.enc)) := s91 a0 x41 x39  gx42
    obtain ⟨x44, gx44, ho⟩ := bS ho
    have w45 : ans A 92 [V.isl (x42.map Enc.enc)] = some (V.bool x44) := s92 x42  gx44
    cases x44 with
    | true =>
      rw [if_pos rfl] at ho
      cases ho
      simp only [simprocAttr, R0, opEv, fillV, mapO, mapS, b42_3, h_36, eq_true hlt, hw, w40a, w40b, wx41, w43, w45]
      refine And.intro rfl (Exists.intro _ ( And.intro rfl ?_))
      simp only [simprocAttr, R0, h_36, eq_true hlt, hw, w40a, w40b, wx41, w43, w45]
    | false =>
      rw [if_neg Bool.false_ne_true] at ho
      cases ho
      simp only [simprocAttr, R0, opEv, fillV, mapO, mapS, b42_3, h_36, eq_true hlt, hw, w40a, w40b, wx41, w43, w45]
      intro ht; subst ht
      simp only [simprocAttr, RR, RB]
      exact And.intro rfl (fin_ret (by simp only [simprocAttr, R0, fn_out, p42, Rs.ev, mapO, mapS, take_len_self, h_36, eq_true hlt, hw, w40a, w40b, wx41, w43, w45]))
  · rintro v74_3 _ e h ⟨k37, rfl, h_36⟩ hge t1 ho
    unfold F42_3_D at ho
    cases ho
    simp only [simprocAttr, R0, opEv, fillV, mapO, mapS, b42_3, h_36, eq_false hge]
    intro ht; subst ht
    refine And.intro rfl (Exists.intro _ ( And.intro rfl ?_))
    simp only [simprocAttr, R0, h_36, eq_false hge]
def I42_2 (a0 : GComplex)  (v5_2 : Int) (e : Env) (h : Heap) : Prop :=
  ∃ k28 : Nat, h = ⟨[(0, none)], k28⟩ ∧ e.length = 86 ∧ e.at 1 = V.iptr [V.int .i64 a0.Prime, V.isl (a0.Dims.map Enc.enc), V.isl (a0.Maps.map Enc.enc)] ∧ e.at 5 = V.int .i64 v5_2
def P42_2 (a0 : GComplex)  (t : (Unit) ⊕ Bool) (x : Ex) (e : Env) (h : Heap) : Prop :=
  match t with
  | .inl _ => x = .normal ∧ ∃ k28 : Nat, h = ⟨[(0, none)], k28⟩ ∧ e.length = 86
  | .inr r => x = .ret ∧ Fin p42 (Enc.enc r) .ret e h
theorem l42_2 (a0 : GComplex)   {s : Int} {t : (Unit) ⊕ Bool} (hF : loopW (F42_2_S a0) s = some t) {e : Env} {h : Heap} (hI : I42_2 a0  s e h) : W A c42_2 e h (P42_2 a0  t) := by
  show W A (.block 2 (.loop false b42_2)) e h _
  rw [W_block]
  refine W_loop hF 1 (by obtain ⟨_, rfl, _⟩ := hI; rfl) (I42_2 a0 ) hI ?_
  · rintro v5_2 e h ⟨k28, rfl, h_27⟩ o ho
    unfold F42_2_S at ho
    obtain ⟨x30, gx30, ho⟩ := bS ho
    have w31 : ans A 86 [(eC a0)] = some (V.int .i64 x30) := s86 a0  gx30
    by_cases c32 : v5_2 ≤ x30
    · rw [if_pos c32] at ho
      obtain ⟨x33, gx33, ho⟩ := bS ho
      have wx33 := chk_w gx33
      obtain ⟨x34, gx34, ho⟩ := bS ho
      obtain ⟨w35a, w35b⟩ := getI_w gx34
      obtain ⟨t46, gt46, ho⟩ := bS ho
      rcases t46 with _ | r48
      · dsimp only at ho
        simp only [simprocAttr, R0, opEv, fillV, mapO, mapS, b42_2, h_27, w31, eq_true c32, wx33, w35a, w35b]
        refine W.mono (l42_3 a0 v5_2 x34   gt46 (Exists.intro _ ( And.intro rfl ?_))) ?_
        · simp only [simprocAttr, R0, h_27, w31, eq_true c32, wx33, w35a, w35b]
        rintro _ e _ ⟨rfl, k37, rfl, h_38⟩
        obtain ⟨x47, gx47, ho⟩ := bS ho
        have wx47 := chk_w gx47
        cases ho
        simp only [simprocAttr, R0, opEv, fillV, mapO, mapS, h_38, eq_true c32, wx47]
        refine And.intro rfl (Exists.intro _ ( And.intro rfl ?_))
        simp only [simprocAttr, R0, h_38, eq_true c32, wx47]
      · dsimp only at ho
        cases ho
        simp only [simprocAttr, R0, opEv, fillV, mapO, mapS, b42_2, h_27, w31, eq_true c32, wx33, w35a, w35b]
        refine W.mono (l42_3 a0 v5_2 x34   gt46 (Exists.intro _ ( And.intro rfl ?_))) ?_
        · simp only [simprocAttr, R0, h_27, w31, eq_true c32, wx33, w35a, w35b]
        rintro _ e h ⟨rfl, hq⟩
        simp only [simprocAttr, RR, RB]
        intro ht; subst ht
        simp only [simprocAttr, RR, RB]
        exact And.intro rfl hq
    · rw [if_neg c32] at ho
      cases ho
      simp only [simprocAttr, R0, opEv, fillV, mapO, mapS, b42_2, h_27, w31, eq_false c32]
      intro ht; subst ht
      simp only [simprocAttr, RR, RB]
      refine And.intro rfl (Exists.intro _ ( And.intro rfl ?_))
      simp only [simprocAttr, R0, h_27, w31, eq_false c32]
theorem s42 (a0 : GComplex)   {r : Bool} (hF : F42 a0 = some r) : ans A 42 [(eC a0)] = some (Enc.enc r) := by
  refine ans_of (f := p42) rfl rfl rfl fun e hl he => ?_
  have h0_0 : e.at 0 = (eC a0) := he 0 _ rfl
  have hl_0 : e.length = 86 := hl
  clear he hl
  have h_0 := And.intro hl_0 h0_0
  show W A b42 e ⟨[], 0⟩ _
  unfold F42 at hF
  obtain ⟨x1, gx1, hF⟩ := bS hF
  have w2 : ans A 67 [V.int .i64 a0.Prime] = some (V.bool x1) := s67 a0.Prime  gx1
  cases x1 with
  | true =>
    rw [if_pos rfl] at hF
    obtain ⟨x3, gx3, hF⟩ := bS hF
    have w4 : ans A 86 [(eC a0)] = some (V.int .i64 x3) := s86 a0  gx3
    obtain ⟨x5, gx5, hF⟩ := bS hF
    have w6 : ans A 56 [V.int .i64 x3, V.int .i64 0, V.int .i64 5] = some (V.bool x5) := s56 x3 0 5  gx5
    cases x5 with
    | true =>
      rw [if_pos rfl] at hF
      have w8 : ans A 87 [V.isl (a0.Maps.map Enc.enc)] = some (V.int .i64 (a0.Maps.length : Int)) := s87 a0.Maps  rfl
      by_cases c9 : (a0.Maps.length : Int) = x3
      · rw [if_pos c9] at hF
        obtain ⟨x10, gx10, hF⟩ := bS hF
        have w11 : ans A 82 [V.isl (a0.Dims.map Enc.enc), V.fn 88 [] []] = some (V.bool x10) := s82 a0.Dims (fun x => F88 x) (Clo1.of (by intro h f; simp only [RZ, mapO]) (by intro h f; simp only [RZ, mapO]) (by intro f; simp only [RZ, RB]) (by intro f; simp only [RZ, RB]) (fun x _ hr => s88 x hr)) gx10
        cases x10 with
        | true =>
          rw [if_pos rfl] at hF
          cases hF
          simp only [simprocAttr, R0, opEv, fillV, mapO, mapS, b42, h_0, w2, w4, w6, w8, eq_true c9, w11]
          exact fin_ret (by simp only [simprocAttr, R0, fn_out, p42, Rs.ev, mapO, mapS, take_len_self, h_0, w2, w4, w6, w8, eq_true c9, w11])
        | false =>
          rw [if_neg Bool.false_ne_true] at hF
          obtain ⟨t26, gt26, hF⟩ := bS hF
          rcases t26 with _ | r51
          · dsimp only at hF
            simp only [simprocAttr, R0, opEv, fillV, mapO, mapS, b42, h_0, w2, w4, w6, w8, eq_true c9, w11]
            refine W.mono (l42_1 a0   gt26 (Exists.intro _ ( And.intro rfl ?_))) ?_
            · simp only [simprocAttr, R0, h_0, w2, w4, w6, w8, eq_true c9, w11]
            rintro _ e _ ⟨rfl, k13, rfl, h_14⟩
            obtain ⟨t49, gt49, hF⟩ := bS hF
            rcases t49 with _ | r50
            · dsimp only at hF
              simp only [simprocAttr, R0, opEv, fillV, mapO, mapS, h_14, eq_true c9]
              refine W.mono (l42_2 a0   gt49 (Exists.intro _ ( And.intro rfl ?_))) ?_
              · simp only [simprocAttr, R0, h_14, eq_true c9]
              rintro _ e _ ⟨rfl, k28, rfl, hl_29⟩
              cases hF
              simp only [simprocAttr, R0, opEv, fillV, mapO, mapS, hl_29, eq_true c9]
              exact fin_ret (by simp only [simprocAttr, R0, fn_out, p42, Rs.ev, mapO, mapS, take_len_self, hl_29, eq_true c9])
            · dsimp only at hF
              cases hF
              simp only [simprocAttr, R0, opEv, fillV, mapO, mapS, h_14, eq_true c9]
              refine W.mono (l42_2 a0   gt49 (Exists.intro _ ( And.intro rfl ?_))) ?_
              · simp only [simprocAttr, R0, h_14, eq_true c9]
              rintro _ e h ⟨rfl, hq⟩
              simp only [simprocAttr, RR, RB]
              exact hq
          · dsimp only at hF
            cases hF
            simp only [simprocAttr, R0, opEv, fillV, mapO, mapS, b42, h_0, w2, w4, w6, w8, eq_true c9, w11]
            refine W.mono (l42_1 a0   gt26 (Exists.intro _ ( And.intro rfl ?_))) ?_
            · simp only [simprocAttr, R0, h_0, w2, w4, w6, w8, eq_true c9, w11]
            rintro _ e h ⟨rfl, hq⟩
            simp only [simprocAttr, RR, RB]
            exact hq
      · rw [if_neg c9] at hF
        cases hF
        simp only [simprocAttr, R0, opEv, fillV, mapO, mapS, b42, h_0, w2, w4, w6, w8, eq_false c9]
        exact fin_ret (by simp only [simprocAttr, R0, fn_out, p42, Rs.ev, mapO, mapS, take_len_self, h_0, w2, w4, w6, w8, eq_false c9])
    | false =>
      rw [if_neg Bool.false_ne_true] at hF
      cases hF
      simp only [simprocAttr, R0, opEv, fillV, mapO, mapS, b42, h_0, w2, w4, w6]
      exact fin_ret (by simp only [simprocAttr, R0, fn_out, p42, Rs.ev, mapO, mapS, take_len_self, h_0, w2, w4, w6])
  | false =>
    rw [if_neg Bool.false_ne_true] at hF
    cases hF
    simp only [simprocAttr, R0, opEv, fillV, mapO, mapS, b42, h_0, w2]
    exact fin_ret (by simp only [simprocAttr, R0, fn_out, p42, Rs.ev, mapO, mapS, take_len_self, h_0, w2])
def F83 (a0 : Int) : Option Bool :=
  (F56 a0 0 5).bind fun x1 =>
  some (!x1)
theorem s83 (a0 : Int)   {r : Bool} (hF : F83 a0 = some r) : ans A 83 [V.int .i64 a0] = some (Enc.enc r) := by
  refine ans_of (f := p83) rfl rfl rfl fun e hl he => ?_
  have h0_0 : e.at 0 = V.int .i64 a0 := he 0 _ rfl
  have hl_0 : e.length = 6 := hl
  clear he hl
  show W A b83 e ⟨[], 0⟩ _
  unfold F83 at hF
  obtain ⟨x1, gx1, hF⟩ := bS hF
  have w2 : ans A 56 [V.int .i64 a0, V.int .i64 0, V.int .i64 5] = some (V.bool x1) := s56 a0 0 5  gx1
  cases hF
  simp only [simprocAttr, R0, opEv, fillV, mapO, mapS, b83, hl_0, h0_0, w2]
  exact fin_ret (by simp only [simprocAttr, R0, fn_out, p83, Rs.ev, mapO, mapS, take_len_self, hl_0, h0_0, w2])
def F84 (a0 : Int) (a1 : Int) (a2 : Int) (a3 : Int) (d0 : Bool) (d1 : GFiltered) : Option Bool :=
  if d0 = true then
    if a3 = 0 then
      some true
    else
      (chk (a0 - 1)).bind fun x2 =>
      (getI d1.Levels x2).bind fun x3 =>
      (getI x3 a2).bind fun x5 =>
      (getI d1.Levels a0).bind fun x7 =>
      (getI x7 a1).bind fun x9 =>
      some (decide (x5 ≤ x9))
  else
    some false
theorem q84 (r0 : Nat × Option (List V)) (r1 : Nat × Option (List V)) (uid clk : Nat) (G : List (Nat × Option (List V))) (a0 : Int) (a1 : Int) (a2 : Int) (a3 : Int) (d0 : Bool) (d1 : GFiltered) {r : Bool} (hF : F84 a0 a1 a2 a3 d0 d1 = some r) : res A 84 [V.int .i64 a0, V.int .i64 a1, V.int .i64 a2, V.int .i64 a3, V.ptr 2 uid 0, V.iptr [V.int .i64 d1.Complex.Prime, V.isl (d1.Complex.Dims.map Enc.enc), V.isl (d1.Complex.Maps.map Enc.enc), V.isl (d1.Levels.map Enc.enc)]] ⟨r0 :: r1 :: (uid, some [V.bool d0]) :: G, clk⟩ = some (V.undef, ⟨r0 :: r1 :: (uid, some [V.bool r]) :: G, clk⟩) := by
  refine res_of (f := p84) rfl rfl rfl fun e hl he => ?_
  have h0_0 : e.at 0 = V.int .i64 a0 := he 0 _ rfl
  have h1_0 : e.at 1 = V.int .i64 a1 := he 1 _ rfl
  have h2_0 : e.at 2 = V.int .i64 a2 := he 2 _ rfl
  have h3_0 : e.at 3 = V.int .i64 a3 := he 3 _ rfl
  have h4_0 : e.at 4 = V.ptr 2 uid 0 := he 4 _ rfl
  have h5_0 : e.at 5 = V.iptr [V.int .i64 d1.Complex.Prime, V.isl (d1.Complex.Dims.map Enc.enc), V.isl (d1.Complex.Maps.map Enc.enc), V.isl (d1.Levels.map Enc.enc)] := he 5 _ rfl
  have hl_0 : e.length = 35 := hl
  clear he hl
  have h_0 := And.intro hl_0 (And.intro h0_0 (And.intro h1_0 (And.intro h2_0 (And.intro h3_0 (And.intro h4_0 h5_0)))))
  show W A b84 e _ _
  unfold F84 at hF
  cases d0 with
  | true =>
    rw [if_pos rfl] at hF
    by_cases c1 : a3 = 0
    · rw [if_pos c1] at hF
      cases hF
      simp only [simprocAttr, R0, opEv, fillV, mapO, mapS, b84, h_0, eq_true c1]
      refine rfin_normal ?_ ?_
      · simp only [simprocAttr, R0, fn_out, p84, mapO]; rfl
      · simp only [simprocAttr, R0, h_0, eq_true c1]
    · rw [if_neg c1] at hF
      obtain ⟨x2, gx2, hF⟩ := bS hF
      have wx2 := chk_w gx2
      obtain ⟨x3, gx3, hF⟩ := bS hF
      obtain ⟨w4a, w4b⟩ := getI_w gx3
      obtain ⟨x5, gx5, hF⟩ := bS hF
      obtain ⟨w6a, w6b⟩ := getI_w gx5
      obtain ⟨x7, gx7, hF⟩ := bS hF
      obtain ⟨w8a, w8b⟩ := getI_w gx7
      obtain ⟨x9, gx9, hF⟩ := bS hF
      obtain ⟨w10a, w10b⟩ := getI_w gx9
      cases hF
      simp only [simprocAttr, R0, opEv, fillV, mapO, mapS, b84, h_0, eq_false c1, wx2, w4a, w4b, w6a, w6b, w8a, w8b, w10a, w10b]
      refine rfin_normal ?_ ?_
      · simp only [simprocAttr, R0, fn_out, p84, mapO]; rfl
      · simp only [simprocAttr, R0, h_0, eq_false c1, wx2, w4a, w4b, w6a, w6b, w8a, w8b, w10a, w10b]
  | false =>
    rw [if_neg Bool.false_ne_true] at hF
    cases hF
    simp only [simprocAttr, R0, opEv, fillV, mapO, mapS, b84, h_0]
    refine rfin_normal ?_ ?_
    · simp only [simprocAttr, R0, fn_out, p84, mapO]; rfl
    · simp only [simprocAttr, R0, h_0]
def F85 {σ : Type} (ms : List (List (List Int))) (f : Int → Int → Int → Int → σ → Option σ) (s : σ) : Option σ :=
  forR 0 (ms.length : Int) (fun k s => (getI ms k).bind fun rows => (forR 0 (rows.length : Int) (fun i s => (getI rows i).bind fun row =>
    (forR 0 (row.length : Int) (fun j s => (getI row j).bind fun v => (chk (k + 1)).bind fun n => (f n i j v s).bind fun s' => some (.inl s')) (fun _ s => some s) s).bind fun s' => some (.inl s')) (fun _ s => some s) s).bind fun s' => some (.inl s')) (fun _ s => some s) s
structure Step4 (g : Nat) (fs cs : List V) {σ : Type} (S : σ → List (Nat × Option (List V)) → Prop) (f : Int → Int → Int → Int → σ → Option σ) : Prop where
  call : ∀ n r p v s s', f n r p v s = some s' → ∀ E c, S s E → ∃ E' c', res A g (fs ++ [V.int .i64 n, V.int .i64 r, V.int .i64 p, V.int .i64 v] ++ cs) ⟨E, c⟩ = some (V.undef, ⟨E', c'⟩) ∧ S s' E'
  pad : ∀ s E x, S s E → S s (E ++ [x])
theorem e85 {g : Nat} {fs cs : List V} {σ : Type} {S : σ → List (Nat × Option (List V)) → Prop} {f : Int → Int → Int → Int → σ → Option σ} (st : Step4 g fs cs S f) (x : GComplex) {s s' : σ} (hF : F85 x.Maps f s = some s') (E : List (Nat × Option (List V))) (c : Nat) (hS : S s E) :
    ∃ h', res A 85 [(eC x), V.fn g fs cs] ⟨E, c⟩ = some (V.undef, h') ∧ S s' h'.ents := by
  refine res_ex (f := p85) rfl rfl rfl fun e hl he => ?_
  have h0 : e.at 0 = (eC x) := he 0 _ rfl
  have h1 : e.at 1 = V.fn g fs cs := he 1 _ rfl
  have hl_0 : e.length = 42 := hl
  clear he hl
  show W A b85 e ⟨E, c⟩ _
  unfold F85 at hF
  simp only [simprocAttr, R0, opEv, fillV, mapO, mapS, b85, hl_0, h0, h1, get_last, set_last]
  show W A (.block 0 (.loop true b85_1)) _ _ _
  rw [W_block]
  refine W_forR hF _ rfl (fun i s e h => S s h.ents ∧ e.length = 42 ∧ e.at 1 = V.fn g fs cs ∧ e.at 11 = V.isl (x.Maps.map Enc.enc) ∧ e.at 12 = V.int .i64 (x.Maps.length : Int) ∧ e.at 13 = V.int .i64 i) ?_ ?_ ?_
  · refine And.intro (st.pad _ _ _ hS) ?_
    simp only [simprocAttr, R0, hl_0, h0, h1]
  · rintro i s e ⟨E, c⟩ ⟨hS, hl_1, h1_1, h11_1, h12_1, h13_1⟩ hlt hw o ho
    obtain ⟨rows, g1, ho⟩ := bS ho
    obtain ⟨w1a, w1b⟩ := getI_w g1
    obtain ⟨z, g2, ho⟩ := bS ho
    have hE := Option.some.inj ho; subst hE
    simp only [simprocAttr, R0, opEv, fillV, mapO, mapS, b85_1, hl_1, h1_1, h11_1, h12_1, h13_1, eq_true hlt, hw, w1a, w1b]
    refine W.mono (Q := fun x' e h => x' = .normal ∧ S z h.ents ∧ e.length = 42 ∧ e.at 1 = V.fn g fs cs ∧ e.at 11 = V.isl (x.Maps.map Enc.enc) ∧ e.at 12 = V.int .i64 (x.Maps.length : Int) ∧ e.at 13 = V.int .i64 i) ?_ ?_
    rotate_left
    · rintro _ e ⟨E2, c2⟩ ⟨rfl, hS2, hl_2, h1_2, h11_2, h12_2, h13_2⟩
      simp only [simprocAttr, R0, opEv, fillV, mapO, mapS, hl_2, h1_2, h11_2, h12_2, h13_2, hw]
      refine And.intro rfl (And.intro hS2 ?_)
      simp only [simprocAttr, R0, hl_2, h1_2, h11_2, h12_2, h13_2, hw]
    show W A (.block 2 (.loop true b85_2)) _ _ _
    rw [W_block]
    refine W_forR g2 _ rfl (fun j s e h => S s h.ents ∧ e.length = 42 ∧ e.at 1 = V.fn g fs cs ∧ e.at 11 = V.isl (x.Maps.map Enc.enc) ∧ e.at 12 = V.int .i64 (x.Maps.length : Int) ∧ e.at 13 = V.int .i64 i ∧ e.at 4 = V.int .i64 i ∧ e.at 18 = V.isl (rows.map Enc.enc) ∧ e.at 19 = V.int .i64 (rows.length : Int) ∧ e.at 20 = V.int .i64 j) ?_ ?_ ?_
    · refine And.intro hS ?_
      simp only [simprocAttr, R0, hl_1, h1_1, h11_1, h12_1, h13_1]
    · clear hl_1 h1_1 h11_1 h12_1 h13_1
      rintro j s e ⟨E, c⟩ ⟨hS, hl_1, h1_1, h11_1, h12_1, h13_1, h4_1, h18_1, h19_1, h20_1⟩ hlt2 hw2 o ho
      obtain ⟨row, g3, ho⟩ := bS ho
      obtain ⟨w3a, w3b⟩ := getI_w g3
      obtain ⟨z2, g4, ho⟩ := bS ho
      have hE := Option.some.inj ho; subst hE
      simp only [simprocAttr, R0, opEv, fillV, mapO, mapS, b85_2, hl_1, h1_1, h11_1, h12_1, h13_1, h4_1, h18_1, h19_1, h20_1, eq_true hlt2, hw2, w3a, w3b]
      refine W.mono (Q := fun x' e h => x' = .normal ∧ S z2 h.ents ∧ e.length = 42 ∧ e.at 1 = V.fn g fs cs ∧ e.at 11 = V.isl (x.Maps.map Enc.enc) ∧ e.at 12 = V.int .i64 (x.Maps.length : Int) ∧ e.at 13 = V.int .i64 i ∧ e.at 4 = V.int .i64 i ∧ e.at 18 = V.isl (rows.map Enc.enc) ∧ e.at 19 = V.int .i64 (rows.length : Int) ∧ e.at 20 = V.int .i64 j) ?_ ?_
      rotate_left
      · rintro _ e ⟨E2, c2⟩ ⟨rfl, hS2, hl_2, h1_2, h11_2, h12_2, h13_2, h4_2, h18_2, h19_2, h20_2⟩
        simp only [simprocAttr, R0, opEv, fillV, mapO, mapS, hl_2, h1_2, h11_2, h12_2, h13_2, h4_2, h18_2, h19_2, h20_2, hw2]
        refine And.intro rfl (And.intro hS2 ?_)
        simp only [simprocAttr, R0, hl_2, h1_2, h11_2, h12_2, h13_2, h4_2, h18_2, h19_2, h20_2, hw2]
      show W A (.block 4 (.loop true b85_3)) _ _ _
      rw [W_block]
      refine W_forR g4 _ rfl (fun k s e h => S s h.ents ∧ e.length = 42 ∧ e.at 1 = V.fn g fs cs ∧ e.at 11 = V.isl (x.Maps.map Enc.enc) ∧ e.at 12 = V.int .i64 (x.Maps.length : Int) ∧ e.at 13 = V.int .i64 i ∧ e.at 4 = V.int .i64 i ∧ e.at 18 = V.isl (rows.map Enc.enc) ∧ e.at 19 = V.int .i64 (rows.length : Int) ∧ e.at 20 = V.int .i64 j ∧ e.at 6 = V.int .i64 j ∧ e.at 25 = V.isl (row.map Enc.enc) ∧ e.at 26 = V.int .i64 (row.length : Int) ∧ e.at 27 = V.int .i64 k) ?_ ?_ ?_
      · refine And.intro hS ?_
        simp only [simprocAttr, R0, hl_1, h1_1, h11_1, h12_1, h13_1, h4_1, h18_1, h19_1, h20_1]
      · clear hl_1 h1_1 h11_1 h12_1 h13_1 h4_1 h18_1 h19_1 h20_1
        rintro k s e ⟨E, c⟩ ⟨hS, hl_1, h1_1, h11_1, h12_1, h13_1, h4_1, h18_1, h19_1, h20_1, h6_1, h25_1, h26_1, h27_1⟩ hlt3 hw3 o ho
        obtain ⟨v, g5, ho⟩ := bS ho
        obtain ⟨w5a, w5b⟩ := getI_w g5
        obtain ⟨n, g6, ho⟩ := bS ho
        have w6 := chk_w g6
        obtain ⟨s2, g7, ho⟩ := bS ho
        have hE := Option.some.inj ho; subst hE
        obtain ⟨E2, c2, hr, hS2⟩ := st.call _ _ _ _ _ _ g7 E c hS
        simp only [simprocAttr, R0, opEv, fillV, mapO, mapS, b85_3, hl_1, h1_1, h11_1, h12_1, h13_1, h4_1, h18_1, h19_1, h20_1, h6_1, h25_1, h26_1, h27_1, eq_true hlt3, hw3, w5a, w5b, w6, callM_plain_eq, List.append_assoc] at hr ⊢
        simp only [simprocAttr, R0, opEv, fillV, mapO, mapS, hr, hl_1, h1_1, h11_1, h12_1, h13_1, h4_1, h18_1, h19_1, h20_1, h6_1, h25_1, h26_1, h27_1, eq_true hlt3, hw3]
        refine And.intro rfl (And.intro hS2 ?_)
        simp only [simprocAttr, R0, hl_1, h1_1, h11_1, h12_1, h13_1, h4_1, h18_1, h19_1, h20_1, h6_1, h25_1, h26_1, h27_1, hw3]
      · clear hl_1 h1_1 h11_1 h12_1 h13_1 h4_1 h18_1 h19_1 h20_1
        rintro k s e ⟨E, c⟩ ⟨hS, hl_1, h1_1, h11_1, h12_1, h13_1, h4_1, h18_1, h19_1, h20_1, h6_1, h25_1, h26_1, h27_1⟩ hge t1 ho
        have hE := Option.some.inj ho; subst hE
        simp only [simprocAttr, R0, opEv, fillV, mapO, mapS, b85_3, hl_1, h1_1, h11_1, h12_1, h13_1, h4_1, h18_1, h19_1, h20_1, h6_1, h25_1, h26_1, h27_1, eq_false hge]
        intro ht; subst ht
        exact hS
    · clear hl_1 h1_1 h11_1 h12_1 h13_1
      rintro j s e ⟨E, c⟩ ⟨hS, hl_1, h1_1, h11_1, h12_1, h13_1, h4_1, h18_1, h19_1, h20_1⟩ hge t1 ho
      have hE := Option.some.inj ho; subst hE
      simp only [simprocAttr, R0, opEv, fillV, mapO, mapS, b85_2, hl_1, h1_1, h11_1, h12_1, h13_1, h4_1, h18_1, h19_1, h20_1, eq_false hge]
      intro ht; subst ht
      exact hS
  · rintro i s e ⟨E, c⟩ ⟨hS, hl_1, h1_1, h11_1, h12_1, h13_1⟩ hge t1 ho
    have hE := Option.some.inj ho; subst hE
    simp only [simprocAttr, R0, opEv, fillV, mapO, mapS, b85_1, hl_1, h1_1, h11_1, h12_1, h13_1, eq_false hge]
    intro ht; subst ht
    refine And.intro (fun i => by simp only [ne_eq, reduceCtorEq, not_false_eq_true]) (And.intro ?_ hS)
    simp only [simprocAttr, R1, fn_out, p85, mapO]
    rfl
def F41_1_B (a0 : GFiltered) (v24_1 : Int) (s : Unit) : Option ((Unit) ⊕ ((Unit) ⊕ Bool)) :=
  (getI a0.Levels v24_1).bind fun x7 =>
(getI a0.Complex.Dims v24_1).bind fun x11 =>
if (x7.length : Int) = x11 then
  (F82 x7 (fun x => F83 x)).bind fun x14 =>
  if x14 = true then
    some (.inr (.inr false))
  else
    some (.inl ())
else
  some (.inr (.inr false))
def F41_1_D (a0 : GFiltered) (v24_1 : Int) (s : Unit) : Option ((Unit) ⊕ Bool) :=
  some (.inl ())
def F41 (a0 : GFiltered) : Option Bool :=
  (F42 a0.Complex).bind fun x1 =>
  if x1 = true then
    if (a0.Levels.length : Int) = (a0.Complex.Dims.length : Int) then
      (forR 0 (a0.Levels.length : Int) (F41_1_B a0) (F41_1_D a0) ()).bind fun t16 => match t16 with
        | .inl _ =>
          (F85 a0.Complex.Maps (fun n r p v s => F84 n r p v s a0) true).bind fun y17 =>
          some y17
        | .inr r21 => some r21
    else
      some false
  else
    some false
def I41_1 (a0 : GFiltered)  (v24_1 : Int) (s : Unit) (e : Env) (h : Heap) : Prop :=
  ∃ k5 : Nat, h = ⟨[(0, none), (1, some [V.int .i64 a0.Complex.Prime, V.isl (a0.Complex.Dims.map Enc.enc), V.isl (a0.Complex.Maps.map Enc.enc)])], k5⟩ ∧ e.length = 46 ∧ e.at 1 = V.iptr [V.int .i64 a0.Complex.Prime, V.isl (a0.Complex.Dims.map Enc.enc), V.isl (a0.Complex.Maps.map Enc.enc), V.isl (a0.Levels.map Enc.enc)] ∧ e.at 3 = V.ptr 1 1 0 ∧ e.at 22 = V.isl (a0.Levels.map Enc.enc) ∧ e.at 23 = V.int .i64 (a0.Levels.length : Int) ∧ e.at 24 = V.int .i64 v24_1
def P41_1 (a0 : GFiltered)  (t : (Unit) ⊕ Bool) (x : Ex) (e : Env) (h : Heap) : Prop :=
  match t with
  | .inl _ => x = .normal ∧ ∃ k5 : Nat, h = ⟨[(0, none), (1, some [V.int .i64 a0.Complex.Prime, V.isl (a0.Complex.Dims.map Enc.enc), V.isl (a0.Complex.Maps.map Enc.enc)])], k5⟩ ∧ e.length = 46 ∧ e.at 1 = V.iptr [V.int .i64 a0.Complex.Prime, V.isl (a0.Complex.Dims.map Enc.enc), V.isl (a0.Complex.Maps.map Enc.enc), V.isl (a0.Levels.map Enc.enc)] ∧ e.at 3 = V.ptr 1 1 0
  | .inr r => x = .ret ∧ Fin p41 (Enc.enc r) .ret e h
theorem l41_1 (a0 : GFiltered)   {lo : Int} {s : Unit} {t : (Unit) ⊕ Bool} (hF : forR lo (a0.Levels.length : Int) (F41_1_B a0) (F41_1_D a0) s = some t) {e : Env} {h : Heap} (hI : I41_1 a0  lo s e h) : W A c41_1 e h (P41_1 a0  t) := by
  show W A (.block 0 (.loop false b41_1)) e h _
  rw [W_block]
  refine W_forR hF 2 (by obtain ⟨_, rfl, _⟩ := hI; rfl) (I41_1 a0 ) hI ?_ ?_
  · rintro v24_1 _ e h ⟨k5, rfl, h_4⟩ hlt hw o ho
    unfold F41_1_B at ho
    obtain ⟨x7, gx7, ho⟩ := bS ho
    obtain ⟨w8a, w8b⟩ := getI_w gx7
    have w10 : ans A 73 [V.isl (x7.map Enc.enc)] = some (V.int .i64 (x7.length : Int)) := s73 x7  rfl
    obtain ⟨x11, gx11, ho⟩ := bS ho
    obtain ⟨w12a, w12b⟩ := getI_w gx11
    by_cases c13 : (x7.length : Int) = x11
    · rw [if_pos c13] at ho
      obtain ⟨x14, gx14, ho⟩ := bS ho
      have w15 : ans A 82 [V.isl (x7.map Enc.enc), V.fn 83 [] []] = some (V.bool x14) := s82 x7 (fun x => F83 x) (Clo1.of (by intro h f; simp only [RZ, mapO]) (by intro h f; simp only [RZ, mapO]) (by intro f; simp only [RZ, RB]) (by intro f; simp only [RZ, RB]) (fun x _ hr => s83 x hr)) gx14
      cases x14 with
      | true =>
        rw [if_pos rfl] at ho
        cases ho
        simp only [simprocAttr, R0, opEv, fillV, mapO, mapS, b41_1, h_4, eq_true hlt, hw, w8a, w8b, w10, w12a, w12b, eq_true c13, w15]
        intro ht; subst ht
        simp only [simprocAttr, RR, RB]
        exact And.intro rfl (fin_ret (by simp only [simprocAttr, R0, fn_out, p41, Rs.ev, mapO, mapS, take_len_self, h_4, eq_true hlt, hw, w8a, w8b, w10, w12a, w12b, eq_true c13, w15]))
      | false =>
        rw [if_neg Bool.false_ne_true] at ho
        cases ho
        simp only [simprocAttr, R0, opEv, fillV, mapO, mapS, b41_1, h_4, eq_true hlt, hw, w8a, w8b, w10, w12a, w12b, eq_true c13, w15]
        refine And.intro rfl (Exists.intro _ ( And.intro rfl ?_))
        simp only [simprocAttr, R0, h_4, eq_true hlt, hw, w8a, w8b, w10, w12a, w12b, eq_true c13, w15]
    · rw [if_neg c13] at ho
      cases ho
      simp only [simprocAttr, R0, opEv, fillV, mapO, mapS, b41_1, h_4, eq_true hlt, hw, w8a, w8b, w10, w12a, w12b, eq_false c13]
      intro ht; subst ht
      simp only [simprocAttr, RR, RB]
      exact And.intro rfl (fin_ret (by simp only [simprocAttr, R0, fn_out, p41, Rs.ev, mapO, mapS, take_len_self, h_4, eq_true hlt, hw, w8a, w8b, w10, w12a, w12b, eq_false c13]))
  · rintro v24_1 _ e h ⟨k5, rfl, h_4⟩ hge t1 ho
    unfold F41_1_D at ho
    cases ho
    simp only [simprocAttr, R0, opEv, fillV, mapO, mapS, b41_1, h_4, eq_false hge]
    intro ht; subst ht
    refine And.intro rfl (Exists.intro _ ( And.intro rfl ?_))
    simp only [simprocAttr, R0, h_4, eq_false hge]
theorem s41 (a0 : GFiltered)   {r : Bool} (hF : F41 a0 = some r) : ans A 41 [(eF a0)] = some (Enc.enc r) := by
  refine ans_of (f := p41) rfl rfl rfl fun e hl he => ?_
  have h0_0 : e.at 0 = (eF a0) := he 0 _ rfl
  have hl_0 : e.length = 46 := hl
  clear he hl
  have h_0 := And.intro hl_0 h0_0
  show W A b41 e ⟨[], 0⟩ _
  unfold F41 at hF
  obtain ⟨x1, gx1, hF⟩ := bS hF
  have w2 : ans A 42 [(eC a0.Complex)] = some (V.bool x1) := s42 a0.Complex  gx1
  cases x1 with
  | true =>
    rw [if_pos rfl] at hF
    by_cases c3 : (a0.Levels.length : Int) = (a0.Complex.Dims.length : Int)
    · rw [if_pos c3] at hF
      obtain ⟨t16, gt16, hF⟩ := bS hF
      rcases t16 with _ | r21
      · dsimp only at hF
        simp only [simprocAttr, R0, opEv, fillV, mapO, mapS, b41, h_0, w2, eq_true c3]
        refine W.mono (l41_1 a0   gt16 (Exists.intro _ ( And.intro rfl ?_))) ?_
        · simp only [simprocAttr, R0, h_0, w2, eq_true c3]
        rintro _ e _ ⟨rfl, k5, rfl, h_6⟩
        obtain ⟨y17, gy17, hF⟩ := bS hF
        have w18 := e85 (g := 84) (fs := []) (cs := [V.ptr 2 k5 0, V.iptr [V.int .i64 a0.Complex.Prime, V.isl (a0.Complex.Dims.map Enc.enc), V.isl (a0.Complex.Maps.map Enc.enc), V.isl (a0.Levels.map Enc.enc)]]) (S := (fun (s : Bool) E => ∃ G, E = (0, none) :: (1, some [V.int .i64 a0.Complex.Prime, V.isl (a0.Complex.Dims.map Enc.enc), V.isl (a0.Complex.Maps.map Enc.enc)]) :: (k5, some [V.bool s]) :: G)) (f := (fun n r p v s => F84 n r p v s a0)) ⟨fun n r p v s s' hs E c hS => (by obtain ⟨G, rfl⟩ := hS; exact ⟨_, _, q84 (0, none) (1, some [V.int .i64 a0.Complex.Prime, V.isl (a0.Complex.Dims.map Enc.enc), V.isl (a0.Complex.Maps.map Enc.enc)]) k5 _ _ n r p v s a0 hs, G, rfl⟩), fun s E x hS => (by obtain ⟨G, rfl⟩ := hS; exact ⟨G ++ [x], rfl⟩)⟩ a0.Complex gy17 _ (k5 + 1) ⟨[], rfl⟩
        obtain ⟨⟨w18E, k20⟩, w18, G19, w18h⟩ := w18
        dsimp only at w18h
        subst w18h
        cases hF
        simp only [simprocAttr, R0, opEv, fillV, mapO, mapS, h_6, eq_true c3, callM_plain_eq, w18]
        exact fin_ret (by simp only [simprocAttr, R0, fn_out, p41, Rs.ev, mapO, mapS, take_len_self, h_6, eq_true c3, callM_plain_eq, w18])
      · dsimp only at hF
        cases hF
        simp only [simprocAttr, R0, opEv, fillV, mapO, mapS, b41, h_0, w2, eq_true c3]
        refine W.mono (l41_1 a0   gt16 (Exists.intro _ ( And.intro rfl ?_))) ?_
        · simp only [simprocAttr, R0, h_0, w2, eq_true c3]
        rintro _ e h ⟨rfl, hq⟩
        simp only [simprocAttr, RR, RB]
        exact hq
    · rw [if_neg c3] at hF
      cases hF
      simp only [simprocAttr, R0, opEv, fillV, mapO, mapS, b41, h_0, w2, eq_false c3]
      exact fin_ret (by simp only [simprocAttr, R0, fn_out, p41, Rs.ev, mapO, mapS, take_len_self, h_0, w2, eq_false c3])
  | false =>
    rw [if_neg Bool.false_ne_true] at hF
    cases hF
    simp only [simprocAttr, R0, opEv, fillV, mapO, mapS, b41, h_0, w2]
    exact fin_ret (by simp only [simprocAttr, R0, fn_out, p41, Rs.ev, mapO, mapS, take_len_self, h_0, w2])
def F96 (a0 : List Int) : Option (List Int) := app 8 [] a0
theorem t96 (a0 : List Int) {r : List Int} (hF : F96 a0 = some r) : tans A 96 [1] [V.isl (a0.map Enc.enc)] = some (Enc.enc r) := clone_tans rfl hF
def F137 (a0 : List Int) (d0 : Int) : Option Bool :=
  (getI a0 d0).bind fun x1 =>
  some (!(decide (x1 = 0)))
theorem s137 (a0 : List Int) (d0 : Int)   {r : Bool} (hF : F137 a0 d0 = some r) : ans A 137 [V.isl (a0.map Enc.enc), V.iptr [V.int .i64 d0]] = some (Enc.enc r) := by
  refine ans_of (f := p137) rfl rfl rfl fun e hl he => ?_
  have h0_0 : e.at 0 = V.isl (a0.map Enc.enc) := he 0 _ rfl
  have h1_0 : e.at 1 = V.iptr [V.int .i64 d0] := he 1 _ rfl
  have hl_0 : e.length = 9 := hl
  clear he hl
  show W A b137 e ⟨[], 0⟩ _
  unfold F137 at hF
  obtain ⟨x1, gx1, hF⟩ := bS hF
  obtain ⟨w2a, w2b⟩ := getI_w gx1
  cases hF
  simp only [simprocAttr, R0, opEv, fillV, mapO, mapS, b137, hl_0, h0_0, h1_0, w2a, w2b]
  exact fin_ret (by simp only [simprocAttr, R0, fn_out, p137, Rs.ev, mapO, mapS, take_len_self, hl_0, h0_0, h1_0, w2a, w2b])
def F138_1_S (a0 : Int) (a1 : Int) (v5_1 : Int) : Option ((Int) ⊕ (Int)) :=
  (chk (v5_1 * a1)).bind fun x4 =>
(remI x4 a0).bind fun x5 =>
if x5 = 1 then
  some (.inr v5_1)
else
  (chk (v5_1 + 1)).bind fun x8 =>
  some (.inl x8)
def F138 (a0 : Int) (a1 : Int) : Option Int :=
  (loopW (F138_1_S a0 a1) 1).bind fun zv5_1 =>
  some zv5_1
def I138_1 (a0 : Int) (a1 : Int)  (v5_1 : Int) (e : Env) (h : Heap) : Prop :=
  ∃ k2 : Nat, h = ⟨[], k2⟩ ∧ e.length = 15 ∧ e.at 0 = V.int .i64 a0 ∧ e.at 1 = V.int .i64 a1 ∧ e.at 5 = V.int .i64 v5_1
def P138_1 (a0 : Int) (a1 : Int)  (zv5_1 : Int) (x : Ex) (e : Env) (h : Heap) : Prop :=
  x = .normal ∧ ∃ k2 : Nat, h = ⟨[], k2⟩ ∧ e.length = 15 ∧ e.at 5 = V.int .i64 zv5_1
theorem l138_1 (a0 : Int) (a1 : Int)   {s : Int} {t : Int} (hF : loopW (F138_1_S a0 a1) s = some t) {e : Env} {h : Heap} (hI : I138_1 a0 a1  s e h) : W A c138_1 e h (P138_1 a0 a1  t) := by
  show W A (.block 0 (.loop false b138_1)) e h _
  rw [W_block]
  refine W_loop hF 0 (by obtain ⟨_, rfl, _⟩ := hI; rfl) (I138_1 a0 a1 ) hI ?_
  · rintro v5_1 e h ⟨k2, rfl, h_1⟩ o ho
    unfold F138_1_S at ho
    obtain ⟨x4, gx4, ho⟩ := bS ho
    have wx4 := chk_w gx4
    obtain ⟨x5, gx5, ho⟩ := bS ho
    obtain ⟨w6a, w6b⟩ := rem_w gx5
    by_cases c7 : x5 = 1
    · rw [if_pos c7] at ho
      cases ho
      simp only [simprocAttr, R0, opEv, fillV, mapO, mapS, b138_1, h_1, wx4, eq_false w6a, w6b, eq_true c7]
      intro ht; subst ht
      simp only [simprocAttr, RR, RB]
      refine And.intro rfl (Exists.intro _ ( And.intro rfl ?_))
      simp only [simprocAttr, R0, h_1, wx4, eq_false w6a, w6b, eq_true c7]
    · rw [if_neg c7] at ho
      obtain ⟨x8, gx8, ho⟩ := bS ho
      have wx8 := chk_w gx8
      cases ho
      simp only [simprocAttr, R0, opEv, fillV, mapO, mapS, b138_1, h_1, wx4, eq_false w6a, w6b, eq_false c7, wx8]
      refine And.intro rfl (Exists.intro _ ( And.intro rfl ?_))
      simp only [simprocAttr, R0, h_1, wx4, eq_false w6a, w6b, eq_false c7, wx8]
theorem s138 (a0 : Int) (a1 : Int)   {r : Int} (hF : F138 a0 a1 = some r) : ans A 138 [V.int .i64 a0, V.int .i64 a1] = some (Enc.enc r) := by
  refine ans_of (f := p138) rfl rfl rfl fun e hl he => ?_
  have h0_0 : e.at 0 = V.int .i64 a0 := he 0 _ rfl
  have h1_0 : e.at 1 = V.int .i64 a1 := he 1 _ rfl
  have hl_0 : e.length = 15 := hl
  clear he hl
  show W A b138 e ⟨[], 0⟩ _
  unfold F138 at hF
  obtain ⟨zv5_1, gt9, hF⟩ := bS hF
  simp only [simprocAttr, R0, opEv, fillV, mapO, mapS, b138, hl_0, h0_0, h1_0]
  refine W.mono (l138_1 a0 a1   gt9 (Exists.intro _ ( And.intro rfl ?_))) ?_
  · simp only [simprocAttr, R0, hl_0, h0_0, h1_0]
  rintro _ e _ ⟨rfl, k2, rfl, h_3⟩
  cases hF
  simp only [simprocAttr, R0, opEv, fillV, mapO, mapS, h_3]
  exact fin_ret (by simp only [simprocAttr, R0, fn_out, p138, Rs.ev, mapO, mapS, take_len_self, h_3])
def F139_1_B (other : List Int) (p by_ : Int) (i : Int) (row : List Int) : Option (List Int ⊕ List Int) :=
  (getI other i).bind fun y => (getI row i).bind fun r => (chk (p - by_)).bind fun q => (chk (q * y)).bind fun m => (chk (r + m)).bind fun s => (remI s p).bind fun z => (setI row i z).bind fun row' => some (.inl row')
def F139_1_D (i : Int) (row : List Int) : Option (List Int) := some row
def F139 (row other : List Int) (p by_ : Int) : Option (List Int) := forR 0 (other.length : Int) (F139_1_B other p by_) F139_1_D row
theorem d139 {row other row' : List Int} {p by_ : Int} (hF : F139 row other p by_ = some row') (E : List (Nat × Option (List V))) (c : Nat) {key uid key2 uid2 : Nat} (g1 : E[key]? = some (uid, some (row.map Enc.enc))) (g2 : E[key2]? = some (uid2, some (other.map Enc.enc))) (hne : key2 ≠ key) :
    res A 139 [V.sl key uid 0 row.length 1, V.sl key2 uid2 0 other.length 1, V.int .i64 p, V.int .i64 by_] ⟨E, c⟩ = some (V.undef, ⟨E.set key (uid, some (List.map Enc.enc row')), c⟩) ∧ row'.length = row.length := by
  have hk : key < E.length := (List.getElem?_eq_some_iff.1 g1).1
  suffices ∃ h', res A 139 [V.sl key uid 0 row.length 1, V.sl key2 uid2 0 other.length 1, V.int .i64 p, V.int .i64 by_] ⟨E, c⟩ = some (V.undef, h') ∧ h' = ⟨E.set key (uid, some (List.map Enc.enc row')), c⟩ ∧ row'.length = row.length by
    obtain ⟨h', q1, rfl, q2⟩ := this
    exact ⟨q1, q2⟩
  refine res_ex (f := p139) rfl rfl rfl fun e hl he => ?_
  have h0_0 : e.at 0 = V.sl key uid 0 row.length 1 := he 0 _ rfl
  have h1_0 : e.at 1 = V.sl key2 uid2 0 other.length 1 := he 1 _ rfl
  have h2_0 : e.at 2 = V.int .i64 p := he 2 _ rfl
  have h3_0 : e.at 3 = V.int .i64 by_ := he 3 _ rfl
  have hl_0 : e.length = 33 := hl
  clear he hl
  show W A b139 e ⟨E, c⟩ _
  unfold F139 at hF
  simp only [simprocAttr, R1, opEv, fillV, mapO, mapS, b139, hl_0, h0_0, h1_0, h2_0, h3_0]
  show W A (.block 0 (.loop true b139_1)) _ _ _
  rw [W_block]
  refine W_forR hF _ rfl (fun i s e h => s.length = row.length ∧ h = ⟨E.set key (uid, some (s.map Enc.enc)), c⟩ ∧ e.length = 33 ∧ e.at 0 = V.sl key uid 0 row.length 1 ∧ e.at 2 = V.int .i64 p ∧ e.at 3 = V.int .i64 by_ ∧ e.at 10 = V.sl key2 uid2 0 other.length 1 ∧ e.at 11 = V.int .i64 (other.length : Int) ∧ e.at 12 = V.int .i64 i) ?_ ?_ ?_
  · refine ⟨rfl, ?_, ?_⟩
    · rw [set_self g1]
    · simp only [simprocAttr, R1, hl_0, h0_0, h1_0, h2_0, h3_0]
  · clear hl_0 h0_0 h1_0 h2_0 h3_0
    rintro i s e h ⟨hs, rfl, h_1⟩ hlt hw s' ho
    unfold F139_1_B at ho
    obtain ⟨y, gy, ho⟩ := bS ho
    obtain ⟨ya, yb⟩ := getI_w gy
    have yc := getI_lt gy
    obtain ⟨r, gr, ho⟩ := bS ho
    obtain ⟨ra, rb⟩ := getI_w gr
    have rc := getI_lt gr
    obtain ⟨q, gq, ho⟩ := bS ho
    have wq := chk_w gq
    obtain ⟨m, gm, ho⟩ := bS ho
    have wm := chk_w gm
    obtain ⟨t, gt, ho⟩ := bS ho
    have wt := chk_w gt
    obtain ⟨z, gz, ho⟩ := bS ho
    obtain ⟨wz0, wz⟩ := rem_w gz
    obtain ⟨row2, gs, ho⟩ := bS ho
    obtain ⟨s1, s2, s3, s4, s5⟩ := setI_w gs
    cases ho
    have oy : ofCells none (List.drop (Int.toNat i) (other.map Enc.enc)) = some (V.int .i64 y) := ofCells_drop (by rw [List.getElem?_map, yb]; rfl)
    have orr : ofCells none (List.drop (Int.toNat i) (s.map Enc.enc)) = some (V.int .i64 r) := ofCells_drop (by rw [List.getElem?_map, rb]; rfl)
    have n1 : ∀ x, (E.set key x)[key]? = some x := fun x => set_app_key hk
    have n2 : ∀ x, (E.set key x)[key2]? = some (uid2, some (other.map Enc.enc)) := fun x => (set_ne hne).trans g2
    have s5' : List.take (Int.toNat i) (s.map Enc.enc) ++ [V.int .i64 z] ++ List.drop (Int.toNat i + 1) (s.map Enc.enc) = List.map Enc.enc row2 := s5
    have rc' : i < (row.length : Int) := by omega
    simp only [simprocAttr, R1, opEv, fillV, mapO, mapS, b139_1, h_1, eq_true hlt, hw, ya, eq_true yc, oy, ra, eq_true rc', orr, n1, n2, wq, wm, wt, wz0, wz, s3, s5', List.set_set]
    refine And.intro rfl ⟨by omega, rfl, ?_⟩
    simp only [simprocAttr, R1, h_1, hw]
  · clear hl_0 h0_0 h1_0 h2_0 h3_0
    rintro i s e h ⟨hs, rfl, h_1⟩ hge t1 ho
    unfold F139_1_D at ho
    cases ho
    simp only [simprocAttr, R1, opEv, fillV, mapO, mapS, b139_1, h_1, eq_false hge]
    intro ht; subst ht
    refine And.intro (fun _ => trivial) ⟨?_, rfl, hs⟩
    simp only [simprocAttr, R1, fn_out, p139, mapO]
    rfl
def F133_1_B (rows : List (List Int)) (i : Int) (s : List (List Int)) : Option (List (List Int) ⊕ List (List Int)) := (getI rows i).bind fun r => (F96 r).bind fun d => (app 24 s [d]).bind fun l => some (.inl l)
def F133_1_D (i : Int) (s : List (List Int)) : Option (List (List Int)) := some s
def F133_3_B (p b : Int) (k : Int) (row : List Int) : Option (List Int ⊕ List Int) := (getI row k).bind fun x => (chk (x * b)).bind fun m => (remI m p).bind fun z => (setI row k z).bind fun r => some (.inl r)
def F133_3_D (k : Int) (row : List Int) : Option (List Int) := some row
def F133_4_B (p c done : Int) (i : Int) (l : List (List Int)) : Option (List (List Int) ⊕ List (List Int)) :=
  if i = done then some (.inl l) else (getI l i).bind fun r => (getI l done).bind fun o => (getI r c).bind fun x => (F139 r o p x).bind fun r' => (setI l i r').bind fun l' => some (.inl l')
def F133_4_D (i : Int) (l : List (List Int)) : Option (List (List Int)) := some l
def F133_2_B (p : Int) (c : Int) (s : List (List Int) × Int) : Option ((List (List Int) × Int) ⊕ (List (List Int) × Int)) :=
  if 0 ≤ s.2 ∧ s.2 ≤ s.1.length then
    (F128 (s.1.drop s.2.toNat) (fun r => F137 r c)).bind fun at_ =>
    if at_ < 0 then some (.inl s) else
    (chk (s.2 + at_)).bind fun j => (getI s.1 j).bind fun a => (getI s.1 s.2).bind fun b => (setI s.1 s.2 a).bind fun l1 => (setI l1 j b).bind fun l2 =>
    (getI l2 s.2).bind fun row => (getI row c).bind fun x => (F138 p x).bind fun by_ =>
    (forR 0 (row.length : Int) (F133_3_B p by_) F133_3_D row).bind fun row' => (setI l2 s.2 row').bind fun l3 =>
    (forR 0 (l3.length : Int) (F133_4_B p c s.2) F133_4_D l3).bind fun l4 => (chk (s.2 + 1)).bind fun d => if d = (l4.length : Int) then some (.inr (l4, d)) else some (.inl (l4, d))
  else none
def F133_2_D (c : Int) (s : List (List Int) × Int) : Option (List (List Int) × Int) := some s
def F133 (p : Int) (rows : List (List Int)) : Option (List (List Int)) :=
  (forR 0 (rows.length : Int) (F133_1_B rows) F133_1_D []).bind fun l => if (l.length : Int) = 0 then some l else (getI l 0).bind fun r0 =>
  (forR 0 (r0.length : Int) (F133_2_B p) F133_2_D (l, 0)).bind fun t => if 0 ≤ t.2 ∧ t.2 ≤ t.1.length then some (t.1.take t.2.toNat) else none
theorem d133 (p : Int) (rows : List (List Int)) {r : List (List Int)} (hF : F133 p rows = some r) : ∃ v h', res A 133 [V.int .i64 p, V.isl (rows.map Enc.enc)] Heap.empty = some (v, h') ∧
    ∃ u vs l, v = V.sl 0 u 0 r.length 1 ∧ h'.ents[0]? = some (u, some vs) ∧ MatAt h'.ents vs l (fun k => 1 ≤ k) ∧ r = l.take r.length := by
  refine res_dp (f := p133) rfl rfl rfl fun e hl he => ?_
  have h0_0 : e.at 0 = V.int .i64 p := he 0 _ rfl
  have h1_0 : e.at 1 = V.isl (rows.map Enc.enc) := he 1 _ rfl
  have hl_0 : e.length = 134 := hl
  clear he hl
  show W A b133 e ⟨[], 0⟩ _
  unfold F133 at hF
  obtain ⟨l0, gl0, hF⟩ := bS hF
  simp only [simprocAttr, R1, opEv, fillV, mapO, mapS, b133, hl_0, h0_0, h1_0]
  show W A (.block 0 (.loop true b133_1)) _ _ _
  rw [W_block]
  refine W_forR gl0 _ rfl (fun i s e h => ∃ u vs, h.ents[0]? = some (u, some vs) ∧ MatAt h.ents vs s (fun k => 1 ≤ k) ∧ e.length = 134 ∧ e.at 0 = V.int .i64 p ∧ e.at 5 = V.sl 0 u 0 s.length 1 ∧ e.at 15 = V.isl (rows.map Enc.enc) ∧ e.at 16 = V.int .i64 (rows.length : Int) ∧ e.at 17 = V.int .i64 i) ?_ ?_ ?_
  · refine ⟨0, [], rfl, .nil, ?_⟩
    simp only [simprocAttr, R1, hl_0, h0_0, h1_0]
  · clear hl_0 h0_0 h1_0
    rintro i s e ⟨E, c⟩ ⟨u, vs, g1, g2, hl_1, h0_1, h5_1, h15_1, h16_1, h17_1⟩ hlt hw s' ho
    unfold F133_1_B at ho
    simp only at g1 g2
    obtain ⟨x, gx, ho⟩ := bS ho
    obtain ⟨xa, xb⟩ := getI_w gx
    obtain ⟨d, gd, ho⟩ := bS ho
    have wd := t96 x gd
    obtain ⟨l, gl, ho⟩ := bS ho
    obtain ⟨q1, q2, rfl⟩ := app_w gl
    have hE := Option.some.inj ho; subst hE
    have hE0 : 0 < E.length := (List.getElem?_eq_some_iff.1 g1).1
    have w9 : ∀ x y c', appendV 1 24 (.sl 0 u 0 s.length 1) 1 [V.sl E.length c 0 d.length 1] ⟨E ++ [x] ++ [y], c'⟩ = _ := fun x y c' => appendV_deep (E := E ++ [x] ++ [y]) (vs := vs) (by rw [List.append_assoc, List.getElem?_append_left hE0]; exact g1) g2.len (by simpa using q1) (by simpa using q2)
    simp only [simprocAttr, R1, opEv, fillV, mapO, mapS, b133_1, hl_1, h0_1, h5_1, h15_1, h16_1, h17_1, eq_true hlt, hw, xa, xb, wd, callM_tans, thaw_one, le1, get_last, ge2a, ge2b, w9]
    refine And.intro rfl ⟨_, _, set_app_key (by simp), ?_, ?_⟩
    · refine (MatAt.snoc (k := E.length) (u := c) (r := d) (E := ((E ++ [(c, some (d.map Enc.enc))] ++ [(c + 1, some [V.sl E.length c 0 d.length 1])]).set 0 (c + 1 + 1, some (vs ++ [V.sl E.length c 0 d.length 1])))) (g2.frame fun k hk hb => ?_) ?_ (by omega) fun i k' u' n hv e => ?_)
      · rw [set_ne (by omega), List.append_assoc, List.getElem?_append_left hk]
      · rw [set_ne (by omega)]; exact ge2a ..
      · subst e
        obtain ⟨r, hr⟩ : ∃ r, s[i]? = some r := ⟨s[i]'(by have := (List.getElem?_eq_some_iff.1 hv).1; have := g2.len; omega), by simp⟩
        obtain ⟨k2, u2, e2, g, _⟩ := g2.row i _ r hv hr
        cases e2
        have := (List.getElem?_eq_some_iff.1 g).1
        omega
    · simp only [simprocAttr, R1, hl_1, h0_1, h5_1, h15_1, h16_1, h17_1, hw, List.length_append]
  · clear hl_0 h0_0 h1_0
    rintro i s e ⟨E, c⟩ ⟨u, vs, g1, g2, hl_1, h0_1, h5_1, h15_1, h16_1, h17_1⟩ hge t1 ho
    unfold F133_1_D at ho
    have hE := Option.some.inj ho; subst hE
    simp only at g1 g2
    simp only [simprocAttr, R1, opEv, fillV, mapO, mapS, b133_1, hl_1, h0_1, h5_1, h15_1, h16_1, h17_1, eq_false hge]
    intro ht; subst ht
    by_cases hz : (s.length : Int) = 0
    · rw [if_pos hz] at hF ⊢
      have hE := Option.some.inj hF; subst hE
      refine And.intro (fun _ => trivial) ⟨_, ?_, u, vs, s, rfl, g1, g2, by rw [List.take_length]⟩
      simp only [simprocAttr, R1, fn_out, p133, Rs.ev, mapO, mapS, hl_1, h5_1]
    · rw [if_neg hz] at hF ⊢
      obtain ⟨r0, gr0, hF⟩ := bS hF
      obtain ⟨ra, rb⟩ := getI_w gr0
      have rc := getI_lt gr0
      obtain ⟨t, gt, hF⟩ := bS hF
      obtain ⟨k0, u0, v1, v2, v3⟩ := g2.get rb
      have o1 := ofCells_drop v1
      simp only [Int.toNat_zero, List.drop_zero] at o1
      simp only [simprocAttr, R1, opEv, fillV, mapO, mapS, hl_1, h0_1, h5_1, h15_1, h16_1, h17_1, eq_true rc, g1, o1, Int.toNat_zero, Int.le_refl]
      show W A (.block 2 (.loop true b133_2)) _ _ _
      rw [W_block]
      refine W_forR gt _ rfl (fun i s e h => ∃ u vs, h.ents[0]? = some (u, some vs) ∧ MatAt h.ents vs s.1 (fun k => 1 ≤ k) ∧ e.length = 134 ∧ e.at 0 = V.int .i64 p ∧ e.at 5 = V.sl 0 u 0 s.1.length 1 ∧ e.at 8 = V.int .i64 s.2 ∧ e.at 34 = V.int .i64 (r0.length : Int) ∧ e.at 35 = V.int .i64 i) ?_ ?_ ?_
      · refine ⟨u, vs, g1, g2, ?_⟩
        simp only [simprocAttr, R1, hl_1, h0_1, h5_1, h15_1, h16_1, h17_1]
      · clear hl_1 h0_1 h5_1 h15_1 h16_1 h17_1 g1 g2 k0 u0 v1 v2 v3 o1
        rintro cc ⟨l, done⟩ e ⟨E, c⟩ ⟨u, vs, g1, g2, hl_1, h0_1, h5_1, h8_1, h34_1, h35_1⟩ hlt hw s' ho
        unfold F133_2_B at ho
        simp only at g1 g2 h5_1 h8_1 ho
        have hE0 : 0 < E.length := (List.getElem?_eq_some_iff.1 g1).1
        split at ho
        case isFalse => cases ho
        rename_i hdn
        obtain ⟨hd0, hd1⟩ := hdn
        have hdn : done.toNat ≤ l.length := by omega
        obtain ⟨at_, gat, ho⟩ := bS ho
        have wat : ans A 128 [V.isl (List.map Enc.enc (l.drop done.toNat)), V.fn 137 [] [V.iptr [V.int .i64 cc]]] = some (V.int .i64 at_) := s128 (l.drop done.toNat) (fun r => F137 r cc)
          (Clo1.of (by intro h f; simp only [RZ, mapO]) (by intro h f; simp only [RZ, mapO]) (by intro f; simp only [RZ, RB]) (by intro f; simp only [RZ, RB]) (fun x _ hr => s137 x cc hr)) gat
        have g1' : ∀ x, (E ++ [x])[0]? = some (u, some vs) := fun x => (List.getElem?_append_left hE0).trans g1
        have g2' : ∀ x, MatAt (E ++ [x]) vs l (fun k => 1 ≤ k ∧ k < E.length) := fun x => (g2.mono (fun k hk h => And.intro h hk)).frame fun k hk _ => List.getElem?_append_left hk
        have wfz : ∀ x c, frz ⟨E ++ [x], c⟩ 16 (V.sl 0 u done.toNat (l.length - done.toNat) 1) = some (V.isl (List.map Enc.enc (l.drop done.toNat))) := fun x c => by
          have := (g2' x).fz c (g1' x) (off := done.toNat) (n := l.length - done.toNat) (by omega)
          rwa [List.take_of_length_le (by simp)] at this
        have wsl := slice_lo (key := 0) (uid := u) (n := l.length) hd0 (by omega)
        by_cases hat : at_ < 0
        · rw [if_pos hat] at ho
          have hE := Option.some.inj ho; subst hE
          simp only [simprocAttr, R1, opEv, fillV, mapO, mapS, b133_2, hl_1, h0_1, h5_1, h8_1, h34_1, h35_1, eq_true hlt, hw, Option.map_some, Option.map_none, wsl, wfz, wat, get_last, set_last, eq_true hat]
          refine And.intro rfl ⟨u, vs, g1' _, (g2' _).mono fun k _ h => h.1, ?_⟩
          simp only [simprocAttr, R1, hl_1, h0_1, h5_1, h8_1, h34_1, h35_1, hw]
        · rw [if_neg hat] at ho
          obtain ⟨j, gj, ho⟩ := bS ho
          have wj := chk_w gj
          obtain ⟨a, ga, ho⟩ := bS ho
          obtain ⟨aa, ab⟩ := getI_w ga
          have ac := getI_lt ga
          obtain ⟨b, gb, ho⟩ := bS ho
          obtain ⟨ba, bb⟩ := getI_w gb
          have bc := getI_lt gb
          obtain ⟨l1, gl1, ho⟩ := bS ho
          have e1 := setI_eq gl1
          obtain ⟨l2, gl2, ho⟩ := bS ho
          have e2 := setI_eq gl2
          subst e1; subst e2
          obtain ⟨row, grow, ho⟩ := bS ho
          obtain ⟨rowa, rowb⟩ := getI_w grow
          obtain ⟨x, gx, ho⟩ := bS ho
          obtain ⟨xa, xb⟩ := getI_w gx
          have xc := getI_lt gx
          obtain ⟨by_, gby, ho⟩ := bS ho
          have wby : ans A 138 [V.int .i64 p, V.int .i64 x] = some (V.int .i64 by_) := s138 p x gby
          obtain ⟨row', gr', ho⟩ := bS ho
          obtain ⟨l3, gl3, ho⟩ := bS ho
          have e3 := setI_eq gl3
          subst e3
          obtain ⟨l4, gl4, ho⟩ := bS ho
          obtain ⟨d1, gd1, ho⟩ := bS ho
          have wd1 := chk_w gd1
          obtain ⟨ka, ua, va1, va2, va3⟩ := (g2' (c, some [V.int .i64 cc])).get ab
          obtain ⟨kb, ub, vb1, vb2, vb3⟩ := (g2' (c, some [V.int .i64 cc])).get bb
          have hml := g2.len
          have hsw := (g2' (c, some [V.int .i64 cc])).swap vb1 va1 bb ab
          generalize hvs2 : (vs.set done.toNat (V.sl ka ua 0 a.length 1)).set j.toNat (V.sl kb ub 0 b.length 1) = vs2 at hsw
          have hl2 : ((l.set done.toNat a).set j.toNat b).length = l.length := by simp
          generalize hll2 : (l.set done.toNat a).set j.toNat b = l2 at *
          have oa := ofCells_drop va1
          have ob := ofCells_drop vb1
          have td1 : List.take done.toNat vs ++ [V.sl ka ua 0 a.length 1] ++ List.drop (done.toNat + 1) vs = vs.set done.toNat (V.sl ka ua 0 a.length 1) := tsd (by omega)
          have td2 : List.take j.toNat (vs.set done.toNat (V.sl ka ua 0 a.length 1)) ++ [V.sl kb ub 0 b.length 1] ++ List.drop (j.toNat + 1) (vs.set done.toNat (V.sl ka ua 0 a.length 1)) = vs2 := (tsd (by simp; omega)).trans hvs2
          have hd1' : done.toNat + 1 ≤ vs.length := by omega
          have hj1' : j.toNat + 1 ≤ vs.length := by omega
          have n1 : ∀ y z, ((E ++ [y]).set 0 z)[0]? = some z := fun y z => set_app_key (by simp)
          have n2 : ∀ y z, ((E ++ [y]).set 0 z)[E.length]? = some y := fun y z => (set_ne (by omega)).trans (get_last _ _)
          have hsw2 : ∀ z, MatAt ((E ++ [(c, some [V.int .i64 cc])]).set 0 z) vs2 l2 (fun k => 1 ≤ k ∧ k < E.length) := fun z => hsw.frame fun k hk h => set_ne (by omega)
          obtain ⟨kr, ur, vr1, vr2, vr3⟩ := (hsw2 (u, some vs2)).get rowb
          have orr := ofCells_drop vr1
          have ox : ofCells none (List.drop cc.toNat (row.map Enc.enc)) = some (V.int .i64 x) := ofCells_drop (by rw [List.getElem?_map, xb]; rfl)
          have hvl : vs2.length = l.length := by rw [hsw.len, hl2]
          simp only [simprocAttr, R1, opEv, fillV, mapO, mapS, b133_2, hl_1, h0_1, h5_1, h8_1, h34_1, h35_1, eq_true hlt, hw, Option.map_some, Option.map_none, wsl, wfz, wat, get_last, set_last, eq_false hat, wj, aa, eq_true ac, ba, eq_true bc, g1', oa, ob, List.length_set, eq_true hd1', eq_true hj1', td1, td2, List.set_set, n1, n2, orr, xa, eq_true xc, vr2, ox, wby]
          have hd1v : d1 = done + 1 := by
            unfold chk at gd1; split at gd1
            · cases gd1; rfl
            · cases gd1
          have kr0 : 1 ≤ kr := vr3.1
          have krE : kr < E.length := vr3.2
          have m0 : ∀ z, (((E ++ [(c, some [V.int .i64 cc])]).set 0 (u, some vs2)).set kr z)[0]? = some (u, some vs2) := fun z => (set_ne (by omega)).trans (n1 _ _)
          have mk : ∀ z, (((E ++ [(c, some [V.int .i64 cc])]).set 0 (u, some vs2)).set kr z)[kr]? = some z := fun z => set_app_key (by simp; omega)
          have mN : ∀ z, (((E ++ [(c, some [V.int .i64 cc])]).set 0 (u, some vs2)).set kr z)[E.length]? = some (c, some [V.int .i64 cc]) := fun z => (set_ne (by omega)).trans (n2 _ _)
          have hdl : done < (l.length : Int) := by omega
          show W A (.block 4 (.loop true b133_3)) _ _ _
          rw [W_block]
          refine W_forR gr' _ rfl (fun k s e h => s.length = row.length ∧ h = ⟨((E ++ [(c, some [V.int .i64 cc])]).set 0 (u, some vs2)).set kr (ur, some (s.map Enc.enc)), c + 1⟩ ∧ e.length = 134 ∧ e.at 0 = V.int .i64 p ∧ e.at 5 = V.sl 0 u 0 l.length 1 ∧ e.at 8 = V.int .i64 done ∧ e.at 9 = V.ptr E.length c 0 ∧ e.at 11 = V.int .i64 by_ ∧ e.at 34 = V.int .i64 (r0.length : Int) ∧ e.at 35 = V.int .i64 cc ∧ e.at 76 = V.int .i64 (row.length : Int) ∧ e.at 77 = V.int .i64 k) ?_ ?_ ?_
          · refine ⟨rfl, by rw [set_self vr2], ?_⟩
            simp only [simprocAttr, R1, hl_1, h0_1, h5_1, h8_1, h34_1, h35_1]
          · clear hl_1 h0_1 h5_1 h8_1 h34_1 h35_1
            rintro k q e h ⟨hq, rfl, hl_1, h0_1, h5_1, h8_1, h9_1, h11_1, h34_1, h35_1, h76_1, h77_1⟩ hlt3 hw3 s3 ho3
            unfold F133_3_B at ho3
            obtain ⟨x3, gx3, ho3⟩ := bS ho3
            obtain ⟨x3a, x3b⟩ := getI_w gx3
            obtain ⟨m3, gm3, ho3⟩ := bS ho3
            have wm3 := chk_w gm3
            obtain ⟨z3, gz3, ho3⟩ := bS ho3
            obtain ⟨wz30, wz3⟩ := rem_w gz3
            obtain ⟨q2, gq2, ho3⟩ := bS ho3
            obtain ⟨s31, s32, s33, s34, s35⟩ := setI_w gq2
            have hE := Option.some.inj ho3; subst hE
            have o3 : ofCells none (List.drop k.toNat (q.map Enc.enc)) = some (V.int .i64 x3) := ofCells_drop (by rw [List.getElem?_map, x3b]; rfl)
            have hk3 : k < (row.length : Int) := hlt3
            have s35' : List.take k.toNat (q.map Enc.enc) ++ [V.int .i64 z3] ++ List.drop (k.toNat + 1) (q.map Enc.enc) = List.map Enc.enc q2 := s35
            simp only [simprocAttr, R1, opEv, fillV, mapO, mapS, b133_3, hl_1, h0_1, h5_1, h8_1, h9_1, h11_1, h34_1, h35_1, h76_1, h77_1, hw3, eq_true hlt3, hd0, eq_true hdl, m0, mk, orr, x3a, o3, wm3, wz30, wz3, s33, s35', List.set_set]
            refine And.intro rfl ⟨by omega, rfl, ?_⟩
            simp only [simprocAttr, R1, hl_1, h0_1, h5_1, h8_1, h9_1, h11_1, h34_1, h35_1, h76_1, h77_1, hw3]
          · clear hl_1 h0_1 h5_1 h8_1 h34_1 h35_1
            rintro k q e h ⟨hq, rfl, hl_1, h0_1, h5_1, h8_1, h9_1, h11_1, h34_1, h35_1, h76_1, h77_1⟩ hge3 t3 ho3
            unfold F133_3_D at ho3
            have hE := Option.some.inj ho3; subst hE
            simp only [simprocAttr, R1, opEv, fillV, mapO, mapS, b133_3, hl_1, h0_1, h5_1, h8_1, h9_1, h11_1, h34_1, h35_1, h76_1, h77_1, eq_false hge3]
            intro ht; subst ht
            have hmw := MatAt.write (hsw2 (u, some vs2)) rowb vr1 hq
            have hl3 : ((l2.set done.toNat q).length : Int) = (l.length : Int) := by rw [List.length_set, hl2]
            rw [hl3] at gl4
            show W A (.block 6 (.loop true b133_4)) _ _ _
            rw [W_block]
            refine W_forR gl4 _ rfl (fun i s e h => s.length = l.length ∧ h.ents[0]? = some (u, some vs2) ∧ MatAt h.ents vs2 s (fun k => 1 ≤ k ∧ k < E.length) ∧ h.ents[E.length]? = some (c, some [V.int .i64 cc]) ∧ e.length = 134 ∧ e.at 0 = V.int .i64 p ∧ e.at 5 = V.sl 0 u 0 l.length 1 ∧ e.at 8 = V.int .i64 done ∧ e.at 9 = V.ptr E.length c 0 ∧ e.at 34 = V.int .i64 (r0.length : Int) ∧ e.at 35 = V.int .i64 cc ∧ e.at 99 = V.int .i64 (l.length : Int) ∧ e.at 100 = V.int .i64 i) ?_ ?_ ?_
            · refine ⟨by omega, m0 _, hmw, mN _, ?_⟩
              simp only [simprocAttr, R1, hl_1, h0_1, h5_1, h8_1, h9_1, h11_1, h34_1, h35_1, h76_1, h77_1]
            · clear hl_1 h0_1 h5_1 h8_1 h9_1 h11_1 h34_1 h35_1 h76_1 h77_1
              rintro i q4 e ⟨E4, c4⟩ ⟨hq4, f1, f2, f3, hl_1, h0_1, h5_1, h8_1, h9_1, h34_1, h35_1, h99_1, h100_1⟩ hlt4 hw4 s4 ho4
              unfold F133_4_B at ho4
              simp only at f1 f2 f3
              by_cases hi : i = done
              · rw [if_pos hi] at ho4
                have hE := Option.some.inj ho4; subst hE
                simp only [simprocAttr, R1, opEv, fillV, mapO, mapS, b133_4, hl_1, h0_1, h5_1, h8_1, h9_1, h34_1, h35_1, h99_1, h100_1, hw4, eq_true hlt4, eq_true hi]
                refine And.intro rfl ⟨hq4, f1, f2, f3, ?_⟩
                simp only [simprocAttr, R1, hl_1, h0_1, h5_1, h8_1, h9_1, h34_1, h35_1, h99_1, h100_1, hw4]
              · rw [if_neg hi] at ho4
                obtain ⟨ri, gri, ho4⟩ := bS ho4
                obtain ⟨ria, rib⟩ := getI_w gri
                obtain ⟨oi, goi, ho4⟩ := bS ho4
                obtain ⟨oia, oib⟩ := getI_w goi
                obtain ⟨xi, gxi, ho4⟩ := bS ho4
                obtain ⟨xia, xib⟩ := getI_w gxi
                have xic := getI_lt gxi
                obtain ⟨r', gr'', ho4⟩ := bS ho4
                obtain ⟨l', gl', ho4⟩ := bS ho4
                have e4 := setI_eq gl'
                subst e4
                have hE := Option.some.inj ho4; subst hE
                obtain ⟨ki, ui, vi1, vi2, vi3⟩ := f2.get rib
                obtain ⟨ko, uo, vo1, vo2, vo3⟩ := f2.get oib
                have hko : ko ≠ ki := fun q => hi (by have := f2.inj _ _ _ _ _ _ _ _ vo1 vi1 q; omega)
                have oi1 := ofCells_drop vi1
                have oo1 := ofCells_drop vo1
                have ox1 : ofCells none (List.drop cc.toNat (ri.map Enc.enc)) = some (V.int .i64 xi) := ofCells_drop (by rw [List.getElem?_map, xib]; rfl)
                obtain ⟨wc, wcl⟩ := d139 gr'' E4 c4 vi2 vo2 hko
                have hi4 : i < (l.length : Int) := hlt4
                simp only [simprocAttr, R1, opEv, fillV, mapO, mapS, b133_4, hl_1, h0_1, h5_1, h8_1, h9_1, h34_1, h35_1, h99_1, h100_1, hw4, eq_true hlt4, eq_false hi, hd0, eq_true hdl, ria, f1, f3, oi1, oo1, vi2, xia, eq_true xic, ox1, callM_plain_eq, wc]
                refine And.intro rfl ⟨by rw [List.length_set]; exact hq4, (set_ne (by omega)).trans f1, f2.write rib vi1 wcl, (set_ne (by omega)).trans f3, ?_⟩
                simp only [simprocAttr, R1, hl_1, h0_1, h5_1, h8_1, h9_1, h34_1, h35_1, h99_1, h100_1, hw4]
            · clear hl_1 h0_1 h5_1 h8_1 h9_1 h11_1 h34_1 h35_1 h76_1 h77_1
              rintro i q4 e ⟨E4, c4⟩ ⟨hq4, f1, f2, f3, hl_1, h0_1, h5_1, h8_1, h9_1, h34_1, h35_1, h99_1, h100_1⟩ hge4 t4 ho4
              unfold F133_4_D at ho4
              have hE := Option.some.inj ho4; subst hE
              simp only at f1 f2 f3
              have wd1' : Go.IntKind.wrap .i64 (done + 1) = d1 := wd1
              by_cases hb : d1 = (q4.length : Int)
              · have hb' : d1 = (l.length : Int) := by omega
                have wsh := slice_hi (key := 0) (uid := u) (n := l.length) (d := d1) (by omega) (by omega)
                simp only [simprocAttr, R1, opEv, fillV, mapO, mapS, b133_4, hl_1, h0_1, h5_1, h8_1, h9_1, h34_1, h35_1, h99_1, h100_1, eq_false hge4, wd1', eq_true hb', Option.map_some, Option.map_none, wsh]
                intro ht; subst ht
                rw [if_pos hb] at ho
                have hE := Option.some.inj ho; subst hE
                intro ht; subst ht
                simp only [simprocAttr, R1, opEv, fillV, mapO, mapS, hl_1, h0_1, h5_1, h8_1, h9_1, h34_1, h35_1, h99_1, h100_1, Option.map_some, Option.map_none, wsh]
                simp only at hF
                rw [if_pos ⟨by omega, by omega⟩] at hF
                have hE := Option.some.inj hF; subst hE
                have hrl : (q4.take d1.toNat).length = d1.toNat := by simp; omega
                refine And.intro (fun _ => trivial) ⟨_, ?_, u, vs2, q4, rfl, f1, f2.mono fun k _ h => h.1, by rw [hrl]⟩
                simp only [simprocAttr, R1, fn_out, p133, Rs.ev, mapO, mapS, hl_1, hrl]
              · have hb' : ¬ d1 = (l.length : Int) := by omega
                simp only [simprocAttr, R1, opEv, fillV, mapO, mapS, b133_4, hl_1, h0_1, h5_1, h8_1, h9_1, h34_1, h35_1, h99_1, h100_1, eq_false hge4, wd1', eq_false hb', hw]
                intro ht; subst ht
                rw [if_neg hb] at ho
                have hE := Option.some.inj ho; subst hE
                refine And.intro rfl ⟨u, vs2, f1, f2.mono fun k _ h => h.1, ?_⟩
                simp only [simprocAttr, R1, hl_1, h0_1, h5_1, h8_1, h9_1, h34_1, h35_1, h99_1, h100_1, hq4]
      · clear hl_1 h0_1 h5_1 h15_1 h16_1 h17_1 g1 g2 k0 u0 v1 v2 v3 o1
        rintro cc ⟨l, done⟩ e ⟨E, c⟩ ⟨u, vs, g1, g2, hl_1, h0_1, h5_1, h8_1, h34_1, h35_1⟩ hge t1 ho
        unfold F133_2_D at ho
        have hE := Option.some.inj ho; subst hE
        simp only at g1 g2 h5_1 h8_1
        simp only [simprocAttr, R1, opEv, fillV, mapO, mapS, b133_2, hl_1, h0_1, h5_1, h8_1, h34_1, h35_1, eq_false hge, Option.map_some, Option.map_none]
        intro ht; subst ht
        simp only at hF
        split at hF
        case isFalse => cases hF
        rename_i hdn
        have wsh := slice_hi (key := 0) (uid := u) (n := l.length) (d := done) hdn.1 (by omega)
        have hE := Option.some.inj hF; subst hE
        have hrl : (l.take done.toNat).length = done.toNat := by simp; omega
        simp only [simprocAttr, R1, opEv, fillV, mapO, mapS, hl_1, wsh]
        refine And.intro (fun _ => trivial) ⟨_, ?_, u, vs, l, rfl, g1, g2, by rw [hrl]⟩
        simp only [simprocAttr, R1, fn_out, p133, Rs.ev, mapO, mapS, hl_1, hrl]
theorem s133 (p : Int) (rows : List (List Int)) {r : List (List Int)} (hF : F133 p rows = some r) : ans A 133 [V.int .i64 p, V.isl (rows.map Enc.enc)] = some (Enc.enc r) := by
  obtain ⟨_, h', h1, u, vs, l, rfl, h2, h3, h4⟩ := d133 p rows hF
  have hl : r.length ≤ l.length := by have := congrArg List.length h4; simp at this; omega
  have := h3.fz h'.clk (key := 0) (uid := u) (off := 0) (n := r.length) h2 (by omega)
  rw [List.drop_zero, ← h4] at this
  unfold ans
  rw [h1]
  exact this
theorem t133 (p : Int) (rows : List (List Int)) {r : List (List Int)} (hF : F133 p rows = some r) : tans A 133 [1] [V.int .i64 p, V.isl (rows.map Enc.enc)] = some (Enc.enc r) := by
  obtain ⟨_, h', h1, u, vs, l, rfl, h2, h3, h4⟩ := d133 p rows hF
  have hl : r.length ≤ l.length := by have := congrArg List.length h4; simp at this; omega
  obtain ⟨h2', q⟩ := h3.tk h'.clk (key := 0) (uid := u) (n := r.length) h2 (by decide) hl
  rw [← h4] at q
  unfold tans
  rw [h1]
  show (match take 16 [1] (V.sl 0 u 0 r.length 1) ⟨h'.ents, h'.clk⟩ with | some (t, _) => some t | none => none) = _
  rw [q]
  rfl
def F102 (a0 : GComplex) (a1 : Int) : Option Int :=
  (F86 a0).bind fun x1 =>
  (F56 a1 0 x1).bind fun x3 =>
  if x3 = true then
    (getI a0.Dims a1).bind fun x5 =>
    some x5
  else
    some 0
theorem s102 (a0 : GComplex) (a1 : Int)   {r : Int} (hF : F102 a0 a1 = some r) : ans A 102 [(eC a0), V.int .i64 a1] = some (Enc.enc r) := by
  refine ans_of (f := p102) rfl rfl rfl fun e hl he => ?_
  have h0_0 : e.at 0 = (eC a0) := he 0 _ rfl
  have h1_0 : e.at 1 = V.int .i64 a1 := he 1 _ rfl
  have hl_0 : e.length = 15 := hl
  clear he hl
  have h_0 := And.intro hl_0 (And.intro h0_0 h1_0)
  show W A b102 e ⟨[], 0⟩ _
  unfold F102 at hF
  obtain ⟨x1, gx1, hF⟩ := bS hF
  have w2 : ans A 86 [(eC a0)] = some (V.int .i64 x1) := s86 a0  gx1
  obtain ⟨x3, gx3, hF⟩ := bS hF
  have w4 : ans A 56 [V.int .i64 a1, V.int .i64 0, V.int .i64 x1] = some (V.bool x3) := s56 a1 0 x1  gx3
  cases x3 with
  | true =>
    rw [if_pos rfl] at hF
    obtain ⟨x5, gx5, hF⟩ := bS hF
    obtain ⟨w6a, w6b⟩ := getI_w gx5
    cases hF
    simp only [simprocAttr, R0, opEv, fillV, mapO, mapS, b102, h_0, w2, w4, w6a, w6b]
    exact fin_ret (by simp only [simprocAttr, R0, fn_out, p102, Rs.ev, mapO, mapS, take_len_self, h_0, w2, w4, w6a, w6b])
  | false =>
    rw [if_neg Bool.false_ne_true] at hF
    cases hF
    simp only [simprocAttr, R0, opEv, fillV, mapO, mapS, b102, h_0, w2, w4]
    exact fin_ret (by simp only [simprocAttr, R0, fn_out, p102, Rs.ev, mapO, mapS, take_len_self, h_0, w2, w4])
def F125_1_B (a0 : Int) (a1 : List (List Int)) (x2 : List Int) (v25_1 : Int) (o0_1 : (List (List Int))) : Option (((List (List Int))) ⊕ ((List (List Int)))) :=
  (getI a1 v25_1).bind fun x8 =>
(F96 x8).bind fun x10 =>
(appZ 8 x10 (a1.length : Int) 0).bind fun l13 =>
(chk ((x2.length : Int) + v25_1)).bind fun x14 =>
(getI l13 x14).bind fun x15 =>
(setI l13 x14 1).bind fun l17 =>
(app 24 o0_1 [l17]).bind fun l20 =>
some (.inl l20)
def F125_1_D (a0 : Int) (a1 : List (List Int)) (x2 : List Int) (v25_1 : Int) (o0_1 : (List (List Int))) : Option ((List (List Int))) :=
  some o0_1
def F125_2_B (a0 : Int) (x2 : List Int) (x22 : List (List Int)) (v49_2 : Int) (o1_2 : (List (List Int))) : Option (((List (List Int))) ⊕ ((List (List Int)))) :=
  (getI x22 v49_2).bind fun x28 =>
(slI x28 0 (x2.length : Int)).bind fun l30 =>
(F92 l30).bind fun x32 =>
if x32 = true then
  (slI x28 (x2.length : Int) (x28.length : Int)).bind fun l34 =>
  (app 24 o1_2 [l34]).bind fun l37 =>
  some (.inl l37)
else
  some (.inl o1_2)
def F125_2_D (a0 : Int) (x2 : List Int) (x22 : List (List Int)) (v49_2 : Int) (o1_2 : (List (List Int))) : Option ((List (List Int))) :=
  some o1_2
def F125 (a0 : Int) (a1 : List (List Int)) : Option (List (List Int)) :=
  if (a1.length : Int) = 0 then
    some ([] : List (List Int))
  else
    (getI a1 0).bind fun x2 =>
    (forR 0 (a1.length : Int) (F125_1_B a0 a1 x2) (F125_1_D a0 a1 x2) ([] : (List (List Int)))).bind fun zo0_1 =>
    (F133 a0 zo0_1).bind fun x22 =>
    (forR 0 (x22.length : Int) (F125_2_B a0 x2 x22) (F125_2_D a0 x2 x22) ([] : (List (List Int)))).bind fun zo1_2 =>
    (F133 a0 zo1_2).bind fun x39 =>
    some x39
def I125_1 (a0 : Int) (a1 : List (List Int)) (x2 : List Int)  (v25_1 : Int) (o0_1 : (List (List Int))) (e : Env) (h : Heap) : Prop :=
  ∃ u5 k6 : Nat, h = ⟨[(u5, some (o0_1.map Enc.enc))], k6⟩ ∧ e.length = 67 ∧ e.at 0 = V.int .i64 a0 ∧ e.at 5 = V.int .i64 (a1.length : Int) ∧ e.at 6 = V.int .i64 (x2.length : Int) ∧ e.at 7 = V.sl 0 u5 0 o0_1.length 1 ∧ e.at 23 = V.isl (a1.map Enc.enc) ∧ e.at 24 = V.int .i64 (a1.length : Int) ∧ e.at 25 = V.int .i64 v25_1
def P125_1 (a0 : Int) (a1 : List (List Int)) (x2 : List Int)  (zo0_1 : (List (List Int))) (x : Ex) (e : Env) (h : Heap) : Prop :=
  x = .normal ∧ ∃ u5 k6 : Nat, h = ⟨[(u5, some (zo0_1.map Enc.enc))], k6⟩ ∧ e.length = 67 ∧ e.at 0 = V.int .i64 a0 ∧ e.at 6 = V.int .i64 (x2.length : Int) ∧ e.at 7 = V.sl 0 u5 0 zo0_1.length 1
theorem l125_1 (a0 : Int) (a1 : List (List Int)) (x2 : List Int)   {lo : Int} {s : (List (List Int))} {t : (List (List Int))} (hF : forR lo (a1.length : Int) (F125_1_B a0 a1 x2) (F125_1_D a0 a1 x2) s = some t) {e : Env} {h : Heap} (hI : I125_1 a0 a1 x2  lo s e h) : W A c125_1 e h (P125_1 a0 a1 x2  t) := by
  show W A (.block 0 (.loop false b125_1)) e h _
  rw [W_block]
  refine W_forR hF 1 (by obtain ⟨_, _, rfl, _⟩ := hI; rfl) (I125_1 a0 a1 x2 ) hI ?_ ?_
  · rintro v25_1 o0_1 e h ⟨u5, k6, rfl, hl_4, h0_4, h5_4, h6_4, h7_4, h23_4, h24_4, h25_4⟩ hlt hw o ho
    unfold F125_1_B at ho
    obtain ⟨x8, gx8, ho⟩ := bS ho
    obtain ⟨w9a, w9b⟩ := getI_w gx8
    obtain ⟨x10, gx10, ho⟩ := bS ho
    have w11 : tans A 96 [1] [V.isl (x8.map Enc.enc)] = some (V.isl (x10.map Enc.enc)) := t96 x8  gx10
    have w11t := thaw_one (α := Int) x10
    obtain ⟨l13, gl13, ho⟩ := bS ho
    obtain ⟨w12a, w12b, w12c, w12d, w12e, w12f⟩ := appZ_w gl13
    replace w12f : List.map Enc.enc (List.replicate (Int.toNat (a1.length : Int)) (0 : Int)) = (List.replicate (Int.toNat (a1.length : Int)) [V.int .i64 0]).flatten := w12f
    have w12 := fun ents key uid clk he => appendV_w (α := Int) (n := x10.length) (m := (Int.toNat (a1.length : Int))) (ds := (List.replicate (Int.toNat (a1.length : Int)) [V.int .i64 0]).flatten) w12d (by first | rfl | simp only [List.length_nil]) w12e w12f ents key uid clk he
    have w12l := app_len w12d
    obtain ⟨x14, gx14, ho⟩ := bS ho
    have wx14 := chk_w gx14
    obtain ⟨x15, gx15, ho⟩ := bS ho
    obtain ⟨w16a, w16b⟩ := getI_w gx15
    have w16c := getI_lt gx15
    have w16d : List.drop (Int.toNat x14) (l13.map Enc.enc) = (V.int .i64 x15) :: List.drop ((Int.toNat x14) + 1) (l13.map Enc.enc) := drop_enc w16b
    obtain ⟨l17, gl17, ho⟩ := bS ho
    obtain ⟨w18a, w18b, w18c, w18d, w18e⟩ := setI_w gl17
    replace w18e : List.take (Int.toNat x14) (l13.map Enc.enc) ++ [V.int .i64 1] ++ List.drop (Int.toNat x14 + 1) (l13.map Enc.enc) = List.map Enc.enc l17 := w18e
    obtain ⟨l20, gl20, ho⟩ := bS ho
    have w19 := fun ents key uid clk he => appendV_w (α := List Int) (n := o0_1.length) (m := 1) (ds := [V.isl (l17.map Enc.enc)]) gl20 (by first | rfl | simp only [w18d]) (by first | rfl | simp only [w18d]) rfl ents key uid clk he
    have w19l := app_len gl20
    have hE := Option.some.inj ho; subst hE
    simp only [↓reduceIte, Nat.reduceAdd, Nat.reduceMul, Nat.reduceSub, Nat.reduceLT, Nat.reduceLeDiff, Nat.reduceEqDiff, Nat.reducePow, Int.reducePow, Int.reduceLE, Int.reduceLT, Int.reduceEq, Int.reduceToNat, reduceCtorEq, R0, opEv, fillV, mapO, mapS, b125_1, hl_4, h0_4, h5_4, h6_4, h7_4, h23_4, h24_4, h25_4, eq_true hlt, hw, w9a, w9b, w11, w11t, w12a, w12b, w12c, w12, wx14, w16a, w16b, w16c, w16d, w18a, w18b, w18c, w18e, takes (α := Int) l17, take_len (α := Int) (l := l17) (n := l13.length) (by first | rfl | simp only [w18d]), le_of_len (α := Int) (l := l17) (n := l13.length) (by first | rfl | simp only [w18d]), w19]
    refine And.intro rfl (Exists.intro _ ( Exists.intro _ ( And.intro rfl ?_)))
    simp only [↓reduceIte, Nat.reduceAdd, Nat.reduceMul, Nat.reduceSub, Nat.reduceLT, Nat.reduceLeDiff, Nat.reduceEqDiff, Nat.reducePow, Int.reducePow, Int.reduceLE, Int.reduceLT, Int.reduceEq, Int.reduceToNat, reduceCtorEq, R0, hl_4, h0_4, h5_4, h6_4, h7_4, h23_4, h24_4, h25_4, eq_true hlt, hw, w9a, w9b, w11, w11t, w12a, w12b, w12c, w12, wx14, w16a, w16b, w16c, w16d, w18a, w18b, w18c, w18e, takes (α := Int) l17, take_len (α := Int) (l := l17) (n := l13.length) (by first | rfl | simp only [w18d]), le_of_len (α := Int) (l := l17) (n := l13.length) (by first | rfl | simp only [w18d]), w19, w18d]
  · rintro v25_1 o0_1 e h ⟨u5, k6, rfl, hl_4, h0_4, h5_4, h6_4, h7_4, h23_4, h24_4, h25_4⟩ hge t1 ho
    unfold F125_1_D at ho
    have hE := Option.some.inj ho; subst hE
    simp only [↓reduceIte, Nat.reduceAdd, Nat.reduceMul, Nat.reduceSub, Nat.reduceLT, Nat.reduceLeDiff, Nat.reduceEqDiff, Nat.reducePow, Int.reducePow, Int.reduceLE, Int.reduceLT, Int.reduceEq, Int.reduceToNat, reduceCtorEq, R0, opEv, fillV, mapO, mapS, b125_1, hl_4, h0_4, h5_4, h6_4, h7_4, h23_4, h24_4, h25_4, eq_false hge]
    intro ht; subst ht
    refine And.intro rfl (Exists.intro _ ( Exists.intro _ ( And.intro rfl ?_)))
    simp only [↓reduceIte, Nat.reduceAdd, Nat.reduceMul, Nat.reduceSub, Nat.reduceLT, Nat.reduceLeDiff, Nat.reduceEqDiff, Nat.reducePow, Int.reducePow, Int.reduceLE, Int.reduceLT, Int.reduceEq, Int.reduceToNat, reduceCtorEq, R0, hl_4, h0_4, h5_4, h6_4, h7_4, h23_4, h24_4, h25_4, eq_false hge]
def I125_2 (a0 : Int) (x2 : List Int) (x22 : List (List Int))  (v49_2 : Int) (o1_2 : (List (List Int))) (e : Env) (h : Heap) : Prop :=
  ∃ u25 k26 : Nat, h = ⟨[(0, none), (u25, some (o1_2.map Enc.enc))], k26⟩ ∧ e.length = 67 ∧ e.at 0 = V.int .i64 a0 ∧ e.at 6 = V.int .i64 (x2.length : Int) ∧ e.at 11 = V.sl 1 u25 0 o1_2.length 1 ∧ e.at 47 = V.isl (x22.map Enc.enc) ∧ e.at 48 = V.int .i64 (x22.length : Int) ∧ e.at 49 = V.int .i64 v49_2
def P125_2 (a0 : Int) (x2 : List Int) (x22 : List (List Int))  (zo1_2 : (List (List Int))) (x : Ex) (e : Env) (h : Heap) : Prop :=
  x = .normal ∧ ∃ u25 k26 : Nat, h = ⟨[(0, none), (u25, some (zo1_2.map Enc.enc))], k26⟩ ∧ e.length = 67 ∧ e.at 0 = V.int .i64 a0 ∧ e.at 11 = V.sl 1 u25 0 zo1_2.length 1
theorem l125_2 (a0 : Int) (x2 : List Int) (x22 : List (List Int))   {lo : Int} {s : (List (List Int))} {t : (List (List Int))} (hF : forR lo (x22.length : Int) (F125_2_B a0 x2 x22) (F125_2_D a0 x2 x22) s = some t) {e : Env} {h : Heap} (hI : I125_2 a0 x2 x22  lo s e h) : W A c125_2 e h (P125_2 a0 x2 x22  t) := by
  show W A (.block 2 (.loop false b125_2)) e h _
  rw [W_block]
  refine W_forR hF 2 (by obtain ⟨_, _, rfl, _⟩ := hI; rfl) (I125_2 a0 x2 x22 ) hI ?_ ?_
  · rintro v49_2 o1_2 e h ⟨u25, k26, rfl, h_24⟩ hlt hw o ho
    unfold F125_2_B at ho
    obtain ⟨x28, gx28, ho⟩ := bS ho
    obtain ⟨w29a, w29b⟩ := getI_w gx28
    obtain ⟨l30, gl30, ho⟩ := bS ho
    have w31 : sliceV 1 (V.isl (x28.map Enc.enc)) none (some (V.int .i64 (x2.length : Int))) = some (V.isl (l30.map Enc.enc)) := sliceV_w (α := Int) One.one gl30 (.inl ⟨rfl, rfl⟩) (.inr rfl)
    obtain ⟨x32, gx32, ho⟩ := bS ho
    have w33 : ans A 92 [V.isl (l30.map Enc.enc)] = some (V.bool x32) := s92 l30  gx32
    cases x32 with
    | true =>
      rw [if_pos rfl] at ho
      obtain ⟨l34, gl34, ho⟩ := bS ho
      have w35 : sliceV 1 (V.isl (x28.map Enc.enc)) (some (V.int .i64 (x2.length : Int))) none = some (V.isl (l34.map Enc.enc)) := sliceV_w (α := Int) One.one gl34 (.inr rfl) (.inl ⟨rfl, rfl⟩)
      obtain ⟨l37, gl37, ho⟩ := bS ho
      have w36 := fun a b c d e => appendV_w (α := List Int) (n := o1_2.length) (m := 1) (ds := [V.isl (l34.map Enc.enc)]) gl37 (by first | rfl | simp) (by first | rfl | simp) rfl a b c d e
      have w36l := app_len gl37
      cases ho
      simp only [simprocAttr, R0, opEv, fillV, mapO, mapS, b125_2, h_24, eq_true hlt, hw, w29a, w29b, w31, w33, w35, w36]
      refine And.intro rfl (Exists.intro _ ( Exists.intro _ ( And.intro rfl ?_)))
      simp only [simprocAttr, R0, h_24, eq_true hlt, hw, w29a, w29b, w31, w33, w35, w36]
    | false =>
      rw [if_neg Bool.false_ne_true] at ho
      cases ho
      simp only [simprocAttr, R0, opEv, fillV, mapO, mapS, b125_2, h_24, eq_true hlt, hw, w29a, w29b, w31, w33]
      refine And.intro rfl (Exists.intro _ ( Exists.intro _ ( And.intro rfl ?_)))
      simp only [simprocAttr, R0, h_24, eq_true hlt, hw, w29a, w29b, w31, w33]
  · rintro v49_2 o1_2 e h ⟨u25, k26, rfl, h_24⟩ hge t1 ho
    unfold F125_2_D at ho
    cases ho
    simp only [simprocAttr, R0, opEv, fillV, mapO, mapS, b125_2, h_24, eq_false hge]
    intro ht; subst ht
    refine And.intro rfl (Exists.intro _ ( Exists.intro _ ( And.intro rfl ?_)))
    simp only [simprocAttr, R0, h_24, eq_false hge]
theorem s125 (a0 : Int) (a1 : List (List Int))   {r : List (List Int)} (hF : F125 a0 a1 = some r) : ans A 125 [V.int .i64 a0, V.isl (a1.map Enc.enc)] = some (Enc.enc r) := by
  refine ans_of (f := p125) rfl rfl rfl fun e hl he => ?_
  have h0_0 : e.at 0 = V.int .i64 a0 := he 0 _ rfl
  have h1_0 : e.at 1 = V.isl (a1.map Enc.enc) := he 1 _ rfl
  have hl_0 : e.length = 67 := hl
  clear he hl
  have h_0 := And.intro hl_0 (And.intro h0_0 h1_0)
  show W A b125 e ⟨[], 0⟩ _
  unfold F125 at hF
  by_cases c1 : (a1.length : Int) = 0
  · rw [if_pos c1] at hF
    cases hF
    simp only [simprocAttr, R0, opEv, fillV, mapO, mapS, b125, h_0, eq_true c1]
    exact fin_ret (by simp only [simprocAttr, R0, fn_out, p125, Rs.ev, mapO, mapS, take_len_self, h_0, eq_true c1])
  · rw [if_neg c1] at hF
    obtain ⟨x2, gx2, hF⟩ := bS hF
    obtain ⟨w3a, w3b⟩ := getI_w gx2
    replace w3b : a1[0]? = some x2 := w3b
    obtain ⟨zo0_1, gt21, hF⟩ := bS hF
    simp only [simprocAttr, R0, opEv, fillV, mapO, mapS, b125, h_0, eq_false c1, w3a, w3b]
    refine W.mono (l125_1 a0 a1 x2   gt21 (Exists.intro _ ( Exists.intro _ ( And.intro rfl ?_)))) ?_
    · simp only [simprocAttr, R0, h_0, eq_false c1, w3a, w3b]
    rintro _ e _ ⟨rfl, u5, k6, rfl, h_7⟩
    obtain ⟨x22, gx22, hF⟩ := bS hF
    have w23 : ans A 133 [V.int .i64 a0, V.isl (zo0_1.map Enc.enc)] = some (V.isl (x22.map Enc.enc)) := s133 a0 zo0_1  gx22
    obtain ⟨zo1_2, gt38, hF⟩ := bS hF
    simp only [simprocAttr, R0, opEv, fillV, mapO, mapS, h_7, eq_false c1, takes (α := List Int) zo0_1, w23]
    refine W.mono (l125_2 a0 x2 x22   gt38 (Exists.intro _ ( Exists.intro _ ( And.intro rfl ?_)))) ?_
    · simp only [simprocAttr, R0, h_7, eq_false c1, takes (α := List Int) zo0_1, w23]
    rintro _ e _ ⟨rfl, u25, k26, rfl, h_27⟩
    obtain ⟨x39, gx39, hF⟩ := bS hF
    have w40 : ans A 133 [V.int .i64 a0, V.isl (zo1_2.map Enc.enc)] = some (V.isl (x39.map Enc.enc)) := s133 a0 zo1_2  gx39
    cases hF
    simp only [simprocAttr, R0, opEv, fillV, mapO, mapS, h_27, eq_false c1, takes (α := List Int) zo1_2, w40]
    exact fin_ret (by simp only [simprocAttr, R0, fn_out, p125, Rs.ev, mapO, mapS, take_len_self, h_27, eq_false c1, takes (α := List Int) zo1_2, w40])
def F202_1_B (a2 : Int) (x5 : List Int) (v24_1 : Int) (o1_1 : (List Int)) : Option (((List Int)) ⊕ ((List Int))) :=
  (getI x5 v24_1).bind fun x11 =>
if x11 ≤ a2 then
  (app 8 o1_1 [v24_1]).bind fun l15 =>
  some (.inl l15)
else
  some (.inl o1_1)
def F202_1_D (a2 : Int) (x5 : List Int) (v24_1 : Int) (o1_1 : (List Int)) : Option ((List Int)) :=
  some o1_1
def F202 (a0 : GFiltered) (a1 : Int) (a2 : Int) : Option (List Int) :=
  (F86 a0.Complex).bind fun x1 =>
  (F56 a1 0 x1).bind fun x3 =>
  if x3 = true then
    (getI a0.Levels a1).bind fun x5 =>
    (forR 0 (x5.length : Int) (F202_1_B a2 x5) (F202_1_D a2 x5) ([] : (List Int))).bind fun zo1_1 =>
    some zo1_1
  else
    some []
def I202_1 (a2 : Int) (x5 : List Int)  (v24_1 : Int) (o1_1 : (List Int)) (e : Env) (h : Heap) : Prop :=
  ∃ u8 k9 : Nat, h = ⟨[(0, none), (u8, some (o1_1.map Enc.enc))], k9⟩ ∧ e.length = 38 ∧ e.at 2 = V.int .i64 a2 ∧ e.at 7 = V.sl 1 u8 0 o1_1.length 1 ∧ e.at 22 = V.isl (x5.map Enc.enc) ∧ e.at 23 = V.int .i64 (x5.length : Int) ∧ e.at 24 = V.int .i64 v24_1
def P202_1 (a2 : Int) (x5 : List Int)  (zo1_1 : (List Int)) (x : Ex) (e : Env) (h : Heap) : Prop :=
  x = .normal ∧ ∃ u8 k9 : Nat, h = ⟨[(0, none), (u8, some (zo1_1.map Enc.enc))], k9⟩ ∧ e.length = 38 ∧ e.at 7 = V.sl 1 u8 0 zo1_1.length 1
theorem l202_1 (a2 : Int) (x5 : List Int)   {lo : Int} {s : (List Int)} {t : (List Int)} (hF : forR lo (x5.length : Int) (F202_1_B a2 x5) (F202_1_D a2 x5) s = some t) {e : Env} {h : Heap} (hI : I202_1 a2 x5  lo s e h) : W A c202_1 e h (P202_1 a2 x5  t) := by
  show W A (.block 0 (.loop false b202_1)) e h _
  rw [W_block]
  refine W_forR hF 2 (by obtain ⟨_, _, rfl, _⟩ := hI; rfl) (I202_1 a2 x5 ) hI ?_ ?_
  · rintro v24_1 o1_1 e h ⟨u8, k9, rfl, h_7⟩ hlt hw o ho
    unfold F202_1_B at ho
    obtain ⟨x11, gx11, ho⟩ := bS ho
    obtain ⟨w12a, w12b⟩ := getI_w gx11
    by_cases c13 : x11 ≤ a2
    · rw [if_pos c13] at ho
      obtain ⟨l15, gl15, ho⟩ := bS ho
      have w14 := fun a b c d e => appendV_w (α := Int) (n := o1_1.length) (m := 1) (ds := [V.int .i64 v24_1]) gl15 (by first | rfl | simp) (by first | rfl | simp) rfl a b c d e
      have w14l := app_len gl15
      cases ho
      simp only [simprocAttr, R0, opEv, fillV, mapO, mapS, b202_1, h_7, eq_true hlt, hw, w12a, w12b, eq_true c13, w14]
      refine And.intro rfl (Exists.intro _ ( Exists.intro _ ( And.intro rfl ?_)))
      simp only [simprocAttr, R0, h_7, eq_true hlt, hw, w12a, w12b, eq_true c13, w14]
    · rw [if_neg c13] at ho
      cases ho
      simp only [simprocAttr, R0, opEv, fillV, mapO, mapS, b202_1, h_7, eq_true hlt, hw, w12a, w12b, eq_false c13]
      refine And.intro rfl (Exists.intro _ ( Exists.intro _ ( And.intro rfl ?_)))
      simp only [simprocAttr, R0, h_7, eq_true hlt, hw, w12a, w12b, eq_false c13]
  · rintro v24_1 o1_1 e h ⟨u8, k9, rfl, h_7⟩ hge t1 ho
    unfold F202_1_D at ho
    cases ho
    simp only [simprocAttr, R0, opEv, fillV, mapO, mapS, b202_1, h_7, eq_false hge]
    intro ht; subst ht
    refine And.intro rfl (Exists.intro _ ( Exists.intro _ ( And.intro rfl ?_)))
    simp only [simprocAttr, R0, h_7, eq_false hge]
theorem s202 (a0 : GFiltered) (a1 : Int) (a2 : Int)   {r : List Int} (hF : F202 a0 a1 a2 = some r) : ans A 202 [(eF a0), V.int .i64 a1, V.int .i64 a2] = some (Enc.enc r) := by
  refine ans_of (f := p202) rfl rfl rfl fun e hl he => ?_
  have h0_0 : e.at 0 = (eF a0) := he 0 _ rfl
  have h1_0 : e.at 1 = V.int .i64 a1 := he 1 _ rfl
  have h2_0 : e.at 2 = V.int .i64 a2 := he 2 _ rfl
  have hl_0 : e.length = 38 := hl
  clear he hl
  have h_0 := And.intro hl_0 (And.intro h0_0 (And.intro h1_0 h2_0))
  show W A b202 e ⟨[], 0⟩ _
  unfold F202 at hF
  obtain ⟨x1, gx1, hF⟩ := bS hF
  have w2 : ans A 86 [(eC a0.Complex)] = some (V.int .i64 x1) := s86 a0.Complex  gx1
  obtain ⟨x3, gx3, hF⟩ := bS hF
  have w4 : ans A 56 [V.int .i64 a1, V.int .i64 0, V.int .i64 x1] = some (V.bool x3) := s56 a1 0 x1  gx3
  cases x3 with
  | true =>
    rw [if_pos rfl] at hF
    obtain ⟨x5, gx5, hF⟩ := bS hF
    obtain ⟨w6a, w6b⟩ := getI_w gx5
    obtain ⟨zo1_1, gt16, hF⟩ := bS hF
    simp only [simprocAttr, R0, opEv, fillV, mapO, mapS, b202, h_0, w2, w4, w6a, w6b]
    refine W.mono (l202_1 a2 x5   gt16 (Exists.intro _ ( Exists.intro _ ( And.intro rfl ?_)))) ?_
    · simp only [simprocAttr, R0, h_0, w2, w4, w6a, w6b]
    rintro _ e _ ⟨rfl, u8, k9, rfl, h_10⟩
    have hE := Option.some.inj hF; subst hE
    simp only [simprocAttr, R0, opEv, fillV, mapO, mapS, h_10]
    exact fin_ret (by simp only [simprocAttr, R0, fn_out, p202, Rs.ev, mapO, mapS, take_len_self, h_10, frzs (α := Int) zo1_1, takes (α := Int) zo1_1])
  | false =>
    rw [if_neg Bool.false_ne_true] at hF
    have hE := Option.some.inj hF; subst hE
    simp only [simprocAttr, R0, opEv, fillV, mapO, mapS, b202, h_0, w2, w4]
    exact fin_ret (by simp only [simprocAttr, R0, fn_out, p202, Rs.ev, mapO, mapS, take_len_self, h_0, w2, w4])
def F211_1_B (a0 : List Int) (a1 : Int) (v8_1 : Int) (s : Unit) : Option ((Unit) ⊕ ((Unit) ⊕ Int)) :=
  (getI a0 v8_1).bind fun x4 =>
if a1 = x4 then
  some (.inr (.inr v8_1))
else
  some (.inl ())
def F211_1_D (a0 : List Int) (a1 : Int) (v8_1 : Int) (s : Unit) : Option ((Unit) ⊕ Int) :=
  some (.inl ())
def F211 (a0 : List Int) (a1 : Int) : Option Int :=
  (forR 0 (a0.length : Int) (F211_1_B a0 a1) (F211_1_D a0 a1) ()).bind fun t7 => match t7 with
    | .inl _ =>
      some (-1)
    | .inr r8 => some r8
def I211_1 (a0 : List Int) (a1 : Int)  (v8_1 : Int) (s : Unit) (e : Env) (h : Heap) : Prop :=
  ∃ k2 : Nat, h = ⟨[], k2⟩ ∧ e.length = 19 ∧ e.at 0 = V.isl (a0.map Enc.enc) ∧ e.at 1 = V.int .i64 a1 ∧ e.at 7 = V.int .i64 (a0.length : Int) ∧ e.at 8 = V.int .i64 v8_1
def P211_1 (a0 : List Int) (a1 : Int)  (t : (Unit) ⊕ Int) (x : Ex) (e : Env) (h : Heap) : Prop :=
  match t with
  | .inl _ => x = .normal ∧ ∃ k2 : Nat, h = ⟨[], k2⟩ ∧ e.length = 19
  | .inr r => x = .ret ∧ Fin p211 (Enc.enc r) .ret e h
theorem l211_1 (a0 : List Int) (a1 : Int)   {lo : Int} {s : Unit} {t : (Unit) ⊕ Int} (hF : forR lo (a0.length : Int) (F211_1_B a0 a1) (F211_1_D a0 a1) s = some t) {e : Env} {h : Heap} (hI : I211_1 a0 a1  lo s e h) : W A c211_1 e h (P211_1 a0 a1  t) := by
  show W A (.block 0 (.loop false b211_1)) e h _
  rw [W_block]
  refine W_forR hF 0 (by obtain ⟨_, rfl, _⟩ := hI; rfl) (I211_1 a0 a1 ) hI ?_ ?_
  · rintro v8_1 _ e h ⟨k2, rfl, h_1⟩ hlt hw o ho
    unfold F211_1_B at ho
    obtain ⟨x4, gx4, ho⟩ := bS ho
    obtain ⟨w5a, w5b⟩ := getI_w gx4
    by_cases c6 : a1 = x4
    · rw [if_pos c6] at ho
      cases ho
      simp only [simprocAttr, R0, opEv, fillV, mapO, mapS, b211_1, h_1, eq_true hlt, hw, w5a, w5b, eq_true c6]
      intro ht; subst ht
      simp only [simprocAttr, RR, RB]
      exact And.intro rfl (fin_ret (by simp only [simprocAttr, R0, fn_out, p211, Rs.ev, mapO, mapS, take_len_self, h_1, eq_true hlt, hw, w5a, w5b, eq_true c6]))
    · rw [if_neg c6] at ho
      cases ho
      simp only [simprocAttr, R0, opEv, fillV, mapO, mapS, b211_1, h_1, eq_true hlt, hw, w5a, w5b, eq_false c6]
      refine And.intro rfl (Exists.intro _ ( And.intro rfl ?_))
      simp only [simprocAttr, R0, h_1, eq_true hlt, hw, w5a, w5b, eq_false c6]
  · rintro v8_1 _ e h ⟨k2, rfl, h_1⟩ hge t1 ho
    unfold F211_1_D at ho
    cases ho
    simp only [simprocAttr, R0, opEv, fillV, mapO, mapS, b211_1, h_1, eq_false hge]
    intro ht; subst ht
    refine And.intro rfl (Exists.intro _ ( And.intro rfl ?_))
    simp only [simprocAttr, R0, h_1, eq_false hge]
theorem s211 (a0 : List Int) (a1 : Int)   {r : Int} (hF : F211 a0 a1 = some r) : ans A 211 [V.isl (a0.map Enc.enc), V.int .i64 a1] = some (Enc.enc r) := by
  refine ans_of (f := p211) rfl rfl rfl fun e hl he => ?_
  have h0_0 : e.at 0 = V.isl (a0.map Enc.enc) := he 0 _ rfl
  have h1_0 : e.at 1 = V.int .i64 a1 := he 1 _ rfl
  have hl_0 : e.length = 19 := hl
  clear he hl
  have h_0 := And.intro hl_0 (And.intro h0_0 h1_0)
  show W A b211 e ⟨[], 0⟩ _
  unfold F211 at hF
  obtain ⟨t7, gt7, hF⟩ := bS hF
  rcases t7 with _ | r8
  · dsimp only at hF
    simp only [simprocAttr, R0, opEv, fillV, mapO, mapS, b211, h_0]
    refine W.mono (l211_1 a0 a1   gt7 (Exists.intro _ ( And.intro rfl ?_))) ?_
    · simp only [simprocAttr, R0, h_0]
    rintro _ e _ ⟨rfl, k2, rfl, hl_3⟩
    cases hF
    simp only [simprocAttr, R0, opEv, fillV, mapO, mapS, hl_3]
    exact fin_ret (by simp only [simprocAttr, R0, fn_out, p211, Rs.ev, mapO, mapS, take_len_self, hl_3])
  · dsimp only at hF
    cases hF
    simp only [simprocAttr, R0, opEv, fillV, mapO, mapS, b211, h_0]
    refine W.mono (l211_1 a0 a1   gt7 (Exists.intro _ ( And.intro rfl ?_))) ?_
    · simp only [simprocAttr, R0, h_0]
    rintro _ e h ⟨rfl, hq⟩
    simp only [simprocAttr, RR, RB]
    exact hq
def F203 (a0 : List Int) (a1 : Int) : Option Bool :=
  (F211 a0 a1).bind fun x1 =>
  some (decide (0 ≤ x1))
theorem s203 (a0 : List Int) (a1 : Int)   {r : Bool} (hF : F203 a0 a1 = some r) : ans A 203 [V.isl (a0.map Enc.enc), V.int .i64 a1] = some (Enc.enc r) := by
  refine ans_of (f := p203) rfl rfl rfl fun e hl he => ?_
  have h0_0 : e.at 0 = V.isl (a0.map Enc.enc) := he 0 _ rfl
  have h1_0 : e.at 1 = V.int .i64 a1 := he 1 _ rfl
  have hl_0 : e.length = 9 := hl
  clear he hl
  show W A b203 e ⟨[], 0⟩ _
  unfold F203 at hF
  obtain ⟨x1, gx1, hF⟩ := bS hF
  have w2 : ans A 211 [V.isl (a0.map Enc.enc), V.int .i64 a1] = some (V.int .i64 x1) := s211 a0 a1  gx1
  cases hF
  simp only [simprocAttr, R0, opEv, fillV, mapO, mapS, b203, hl_0, h0_0, h1_0, w2]
  exact fin_ret (by simp only [simprocAttr, R0, fn_out, p203, Rs.ev, mapO, mapS, take_len_self, hl_0, h0_0, h1_0, w2])
def F184_1_B (a0 : GFiltered) (a1 : Int) (a2 : Int) (a3 : Int) (x1 : List Int) (x4 : Int) (v37_1 : Int) (o3_1 : (List Int)) : Option (((List Int)) ⊕ ((List Int))) :=
  (chk (a2 - 1)).bind fun x10 =>
(chk (a3 - a1)).bind fun x11 =>
(F202 a0 x10 x11).bind fun x12 =>
(F203 x12 v37_1).bind fun x14 =>
if x14 = true then
  some (.inl o3_1)
else
  (app 8 o3_1 [v37_1]).bind fun l17 =>
  some (.inl l17)
def F184_1_D (a0 : GFiltered) (a1 : Int) (a2 : Int) (a3 : Int) (x1 : List Int) (x4 : Int) (v37_1 : Int) (o3_1 : (List Int)) : Option ((List Int)) :=
  some o3_1
def F184_3_B (a0 : GFiltered) (a2 : Int) (x1 : List Int) (zo3_1 : List Int) (o2_2 : List (List Int)) (v57_2 : Int) (x23 : Int) (v64_3 : Int) (o4_3 : (List Int)) : Option (((List Int)) ⊕ ((List Int))) :=
  (getI zo3_1 v64_3).bind fun x29 =>
(chk (a2 - 1)).bind fun x31 =>
(getI a0.Complex.Maps x31).bind fun x32 =>
(getI x32 x23).bind fun x34 =>
(getI x34 x29).bind fun x36 =>
(app 8 o4_3 [x36]).bind fun l39 =>
some (.inl l39)
def F184_3_D (a0 : GFiltered) (a2 : Int) (x1 : List Int) (zo3_1 : List Int) (o2_2 : List (List Int)) (v57_2 : Int) (x23 : Int) (v64_3 : Int) (o4_3 : (List Int)) : Option ((List Int)) :=
  some o4_3
def F184_2_B (a0 : GFiltered) (a2 : Int) (x1 : List Int) (zo3_1 : List Int) (v57_2 : Int) (o2_2 : (List (List Int))) : Option (((List (List Int))) ⊕ ((List (List Int)))) :=
  (getI x1 v57_2).bind fun x23 =>
(forR 0 ((zo3_1.length : Nat) : Int) (F184_3_B a0 a2 x1 zo3_1 o2_2 v57_2 x23) (F184_3_D a0 a2 x1 zo3_1 o2_2 v57_2 x23) ([] : (List Int))).bind fun zo4_3 =>
(app 24 o2_2 [zo4_3]).bind fun l42 =>
some (.inl l42)
def F184_2_D (a0 : GFiltered) (a2 : Int) (x1 : List Int) (zo3_1 : List Int) (v57_2 : Int) (o2_2 : (List (List Int))) : Option ((List (List Int))) :=
  some o2_2
def F184_5_B (a0 : GFiltered) (a2 : Int) (x1 : List Int) (zo3_1 : List Int) (x44 : List (List Int)) (o4_4 : List (List Int)) (v95_4 : Int) (x50 : List Int) (v105_5 : Int) (o5_5 : (List Int)) : Option (((List Int)) ⊕ ((List Int))) :=
  (getI x1 v105_5).bind fun x60 =>
(getI x50 v105_5).bind fun x62 =>
(getI o5_5 x60).bind fun x64 =>
(setI o5_5 x60 x62).bind fun l66 =>
some (.inl l66)
def F184_5_D (a0 : GFiltered) (a2 : Int) (x1 : List Int) (zo3_1 : List Int) (x44 : List (List Int)) (o4_4 : List (List Int)) (v95_4 : Int) (x50 : List Int) (v105_5 : Int) (o5_5 : (List Int)) : Option ((List Int)) :=
  some o5_5
def F184_4_B (a0 : GFiltered) (a2 : Int) (x1 : List Int) (zo3_1 : List Int) (x44 : List (List Int)) (v95_4 : Int) (o4_4 : (List (List Int))) : Option (((List (List Int))) ⊕ ((List (List Int)))) :=
  (getI x44 v95_4).bind fun x50 =>
(F102 a0.Complex a2).bind fun x52 =>
(mkL 8 x52 0).bind fun l54 =>
(forR 0 (x1.length : Int) (F184_5_B a0 a2 x1 zo3_1 x44 o4_4 v95_4 x50) (F184_5_D a0 a2 x1 zo3_1 x44 o4_4 v95_4 x50) l54).bind fun zo5_5 =>
(app 24 o4_4 [zo5_5]).bind fun l70 =>
some (.inl l70)
def F184_4_D (a0 : GFiltered) (a2 : Int) (x1 : List Int) (zo3_1 : List Int) (x44 : List (List Int)) (v95_4 : Int) (o4_4 : (List (List Int))) : Option ((List (List Int))) :=
  some o4_4
def F184 (a0 : GFiltered) (a1 : Int) (a2 : Int) (a3 : Int) : Option (List (List Int)) :=
  (F202 a0 a2 a3).bind fun x1 =>
  (chk (a2 - 1)).bind fun x3 =>
  (F102 a0.Complex x3).bind fun x4 =>
  (forR 0 x4 (F184_1_B a0 a1 a2 a3 x1 x4) (F184_1_D a0 a1 a2 a3 x1 x4) ([] : (List Int))).bind fun zo3_1 =>
  (forR 0 (x1.length : Int) (F184_2_B a0 a2 x1 zo3_1) (F184_2_D a0 a2 x1 zo3_1) ([] : (List (List Int)))).bind fun zo2_2 =>
  (F125 a0.Complex.Prime zo2_2).bind fun x44 =>
  (forR 0 (x44.length : Int) (F184_4_B a0 a2 x1 zo3_1 x44) (F184_4_D a0 a2 x1 zo3_1 x44) ([] : (List (List Int)))).bind fun zo4_4 =>
  (F133 a0.Complex.Prime zo4_4).bind fun x72 =>
  some x72
def I184_1 (a0 : GFiltered) (a1 : Int) (a2 : Int) (a3 : Int) (x1 : List Int) (x4 : Int)  (v37_1 : Int) (o3_1 : (List Int)) (e : Env) (h : Heap) : Prop :=
  ∃ u7 k8 : Nat, h = ⟨[(0, none), (1, some [V.int .i64 a0.Complex.Prime, V.isl (a0.Complex.Dims.map Enc.enc), V.isl (a0.Complex.Maps.map Enc.enc)]), (2, some []), (u7, some (o3_1.map Enc.enc))], k8⟩ ∧ e.length = 127 ∧ e.at 1 = V.int .i64 a1 ∧ e.at 2 = V.int .i64 a2 ∧ e.at 3 = V.int .i64 a3 ∧ e.at 4 = V.iptr [V.int .i64 a0.Complex.Prime, V.isl (a0.Complex.Dims.map Enc.enc), V.isl (a0.Complex.Maps.map Enc.enc), V.isl (a0.Levels.map Enc.enc)] ∧ e.at 9 = V.ptr 1 1 0 ∧ e.at 10 = V.isl (x1.map Enc.enc) ∧ e.at 11 = V.sl 2 2 0 0 1 ∧ e.at 12 = V.sl 3 u7 0 o3_1.length 1 ∧ e.at 36 = V.int .i64 x4 ∧ e.at 37 = V.int .i64 v37_1
def P184_1 (a0 : GFiltered) (a1 : Int) (a2 : Int) (a3 : Int) (x1 : List Int) (x4 : Int)  (zo3_1 : (List Int)) (x : Ex) (e : Env) (h : Heap) : Prop :=
  x = .normal ∧ ∃ u7 k8 : Nat, h = ⟨[(0, none), (1, some [V.int .i64 a0.Complex.Prime, V.isl (a0.Complex.Dims.map Enc.enc), V.isl (a0.Complex.Maps.map Enc.enc)]), (2, some []), (u7, some (zo3_1.map Enc.enc))], k8⟩ ∧ e.length = 127 ∧ e.at 2 = V.int .i64 a2 ∧ e.at 9 = V.ptr 1 1 0 ∧ e.at 10 = V.isl (x1.map Enc.enc) ∧ e.at 11 = V.sl 2 2 0 0 1 ∧ e.at 12 = V.sl 3 u7 0 zo3_1.length 1
theorem l184_1 (a0 : GFiltered) (a1 : Int) (a2 : Int) (a3 : Int) (x1 : List Int) (x4 : Int)   {lo : Int} {s : (List Int)} {t : (List Int)} (hF : forR lo x4 (F184_1_B a0 a1 a2 a3 x1 x4) (F184_1_D a0 a1 a2 a3 x1 x4) s = some t) {e : Env} {h : Heap} (hI : I184_1 a0 a1 a2 a3 x1 x4  lo s e h) : W A c184_1 e h (P184_1 a0 a1 a2 a3 x1 x4  t) := by
  show W A (.block 0 (.loop false b184_1)) e h _
  rw [W_block]
  refine W_forR hF 4 (by obtain ⟨_, _, rfl, _⟩ := hI; rfl) (I184_1 a0 a1 a2 a3 x1 x4 ) hI ?_ ?_
  · rintro v37_1 o3_1 e h ⟨u7, k8, rfl, h_6⟩ hlt hw o ho
    unfold F184_1_B at ho
    obtain ⟨x10, gx10, ho⟩ := bS ho
    have wx10 := chk_w gx10
    obtain ⟨x11, gx11, ho⟩ := bS ho
    have wx11 := chk_w gx11
    obtain ⟨x12, gx12, ho⟩ := bS ho
    have w13 : ans A 202 [(eF a0), V.int .i64 x10, V.int .i64 x11] = some (V.isl (x12.map Enc.enc)) := s202 a0 x10 x11  gx12
    obtain ⟨x14, gx14, ho⟩ := bS ho
    have w15 : ans A 203 [V.isl (x12.map Enc.enc), V.int .i64 v37_1] = some (V.bool x14) := s203 x12 v37_1  gx14
    cases x14 with
    | true =>
      rw [if_pos rfl] at ho
      cases ho
      simp only [simprocAttr, R0, opEv, fillV, mapO, mapS, b184_1, h_6, eq_true hlt, hw, wx10, wx11, w13, w15]
      refine And.intro rfl (Exists.intro _ ( Exists.intro _ ( And.intro rfl ?_)))
      simp only [simprocAttr, R0, h_6, eq_true hlt, hw, wx10, wx11, w13, w15]
    | false =>
      rw [if_neg Bool.false_ne_true] at ho
      obtain ⟨l17, gl17, ho⟩ := bS ho
      have w16 := fun a b c d e => appendV_w (α := Int) (n := o3_1.length) (m := 1) (ds := [V.int .i64 v37_1]) gl17 (by first | rfl | simp) (by first | rfl | simp) rfl a b c d e
      have w16l := app_len gl17
      cases ho
      simp only [simprocAttr, R0, opEv, fillV, mapO, mapS, b184_1, h_6, eq_true hlt, hw, wx10, wx11, w13, w15, w16]
      refine And.intro rfl (Exists.intro _ ( Exists.intro _ ( And.intro rfl ?_)))
      simp only [simprocAttr, R0, h_6, eq_true hlt, hw, wx10, wx11, w13, w15, w16]
  · rintro v37_1 o3_1 e h ⟨u7, k8, rfl, h_6⟩ hge t1 ho
    unfold F184_1_D at ho
    cases ho
    simp only [simprocAttr, R0, opEv, fillV, mapO, mapS, b184_1, h_6, eq_false hge]
    intro ht; subst ht
    refine And.intro rfl (Exists.intro _ ( Exists.intro _ ( And.intro rfl ?_)))
    simp only [simprocAttr, R0, h_6, eq_false hge]
def I184_3 (a0 : GFiltered) (a2 : Int) (x1 : List Int) (zo3_1 : List Int) (o2_2 : List (List Int)) (v57_2 : Int) (x23 : Int) (u7 u20 : Nat) (v64_3 : Int) (o4_3 : (List Int)) (e : Env) (h : Heap) : Prop :=
  ∃ u26 k27 : Nat, h = ⟨[(0, none), (1, some [V.int .i64 a0.Complex.Prime, V.isl (a0.Complex.Dims.map Enc.enc), V.isl (a0.Complex.Maps.map Enc.enc)]), (u20, some (o2_2.map Enc.enc)), (u7, some (zo3_1.map Enc.enc)), (u26, some (o4_3.map Enc.enc))], k27⟩ ∧ e.length = 127 ∧ e.at 2 = V.int .i64 a2 ∧ e.at 9 = V.ptr 1 1 0 ∧ e.at 10 = V.isl (x1.map Enc.enc) ∧ e.at 11 = V.sl 2 u20 0 o2_2.length 1 ∧ e.at 12 = V.sl 3 u7 0 zo3_1.length 1 ∧ e.at 15 = V.int .i64 x23 ∧ e.at 16 = V.sl 4 u26 0 o4_3.length 1 ∧ e.at 55 = V.isl (x1.map Enc.enc) ∧ e.at 56 = V.int .i64 (x1.length : Int) ∧ e.at 57 = V.int .i64 v57_2 ∧ e.at 62 = V.sl 3 u7 0 zo3_1.length 1 ∧ e.at 63 = V.int .i64 ((zo3_1.length : Nat) : Int) ∧ e.at 64 = V.int .i64 v64_3
def P184_3 (a0 : GFiltered) (a2 : Int) (x1 : List Int) (zo3_1 : List Int) (o2_2 : List (List Int)) (v57_2 : Int) (x23 : Int) (u7 u20 : Nat) (zo4_3 : (List Int)) (x : Ex) (e : Env) (h : Heap) : Prop :=
  x = .normal ∧ ∃ u26 k27 : Nat, h = ⟨[(0, none), (1, some [V.int .i64 a0.Complex.Prime, V.isl (a0.Complex.Dims.map Enc.enc), V.isl (a0.Complex.Maps.map Enc.enc)]), (u20, some (o2_2.map Enc.enc)), (u7, some (zo3_1.map Enc.enc)), (u26, some (zo4_3.map Enc.enc))], k27⟩ ∧ e.length = 127 ∧ e.at 2 = V.int .i64 a2 ∧ e.at 9 = V.ptr 1 1 0 ∧ e.at 10 = V.isl (x1.map Enc.enc) ∧ e.at 11 = V.sl 2 u20 0 o2_2.length 1 ∧ e.at 12 = V.sl 3 u7 0 zo3_1.length 1 ∧ e.at 16 = V.sl 4 u26 0 zo4_3.length 1 ∧ e.at 55 = V.isl (x1.map Enc.enc) ∧ e.at 56 = V.int .i64 (x1.length : Int) ∧ e.at 57 = V.int .i64 v57_2
theorem l184_3 (a0 : GFiltered) (a2 : Int) (x1 : List Int) (zo3_1 : List Int) (o2_2 : List (List Int)) (v57_2 : Int) (x23 : Int) (u7 u20 : Nat)  {lo : Int} {s : (List Int)} {t : (List Int)} (hF : forR lo ((zo3_1.length : Nat) : Int) (F184_3_B a0 a2 x1 zo3_1 o2_2 v57_2 x23) (F184_3_D a0 a2 x1 zo3_1 o2_2 v57_2 x23) s = some t) {e : Env} {h : Heap} (hI : I184_3 a0 a2 x1 zo3_1 o2_2 v57_2 x23 u7 u20 lo s e h) : W A c184_3 e h (P184_3 a0 a2 x1 zo3_1 o2_2 v57_2 x23 u7 u20 t) := by
  show W A (.block 4 (.loop false b184_3)) e h _
  rw [W_block]
  refine W_forR hF 5 (by obtain ⟨_, _, rfl, _⟩ := hI; rfl) (I184_3 a0 a2 x1 zo3_1 o2_2 v57_2 x23 u7 u20) hI ?_ ?_
  · rintro v64_3 o4_3 e h ⟨u26, k27, rfl, h_25⟩ hlt hw o ho
    unfold F184_3_B at ho
    obtain ⟨x29, gx29, ho⟩ := bS ho
    obtain ⟨w30a, w30b⟩ := getI_w gx29
    have w30c := getI_lt gx29
    have w30d : List.drop (Int.toNat v64_3) (zo3_1.map Enc.enc) = (V.int .i64 x29) :: List.drop ((Int.toNat v64_3) + 1) (zo3_1.map Enc.enc) := drop_enc w30b
    obtain ⟨x31, gx31, ho⟩ := bS ho
    have wx31 := chk_w gx31
    obtain ⟨x32, gx32, ho⟩ := bS ho
    obtain ⟨w33a, w33b⟩ := getI_w gx32
    obtain ⟨x34, gx34, ho⟩ := bS ho
    obtain ⟨w35a, w35b⟩ := getI_w gx34
    obtain ⟨x36, gx36, ho⟩ := bS ho
    obtain ⟨w37a, w37b⟩ := getI_w gx36
    obtain ⟨l39, gl39, ho⟩ := bS ho
    have w38 := fun a b c d e => appendV_w (α := Int) (n := o4_3.length) (m := 1) (ds := [V.int .i64 x36]) gl39 (by first | rfl | simp) (by first | rfl | simp) rfl a b c d e
    have w38l := app_len gl39
    cases ho
    simp only [simprocAttr, R0, opEv, fillV, mapO, mapS, b184_3, h_25, eq_true hlt, hw, w30a, w30b, w30c, w30d, wx31, w33a, w33b, w35a, w35b, w37a, w37b, w38]
    refine And.intro rfl (Exists.intro _ ( Exists.intro _ ( And.intro rfl ?_)))
    simp only [simprocAttr, R0, h_25, eq_true hlt, hw, w30a, w30b, w30c, w30d, wx31, w33a, w33b, w35a, w35b, w37a, w37b, w38]
  · rintro v64_3 o4_3 e h ⟨u26, k27, rfl, h_25⟩ hge t1 ho
    unfold F184_3_D at ho
    cases ho
    simp only [simprocAttr, R0, opEv, fillV, mapO, mapS, b184_3, h_25, eq_false hge]
    intro ht; subst ht
    refine And.intro rfl (Exists.intro _ ( Exists.intro _ ( And.intro rfl ?_)))
    simp only [simprocAttr, R0, h_25, eq_false hge]
def I184_2 (a0 : GFiltered) (a2 : Int) (x1 : List Int) (zo3_1 : List Int) (u7 : Nat) (v57_2 : Int) (o2_2 : (List (List Int))) (e : Env) (h : Heap) : Prop :=
  ∃ u20 k21 : Nat, h = ⟨[(0, none), (1, some [V.int .i64 a0.Complex.Prime, V.isl (a0.Complex.Dims.map Enc.enc), V.isl (a0.Complex.Maps.map Enc.enc)]), (u20, some (o2_2.map Enc.enc)), (u7, some (zo3_1.map Enc.enc))], k21⟩ ∧ e.length = 127 ∧ e.at 2 = V.int .i64 a2 ∧ e.at 9 = V.ptr 1 1 0 ∧ e.at 10 = V.isl (x1.map Enc.enc) ∧ e.at 11 = V.sl 2 u20 0 o2_2.length 1 ∧ e.at 12 = V.sl 3 u7 0 zo3_1.length 1 ∧ e.at 55 = V.isl (x1.map Enc.enc) ∧ e.at 56 = V.int .i64 (x1.length : Int) ∧ e.at 57 = V.int .i64 v57_2
def P184_2 (a0 : GFiltered) (a2 : Int) (x1 : List Int) (zo3_1 : List Int) (u7 : Nat) (zo2_2 : (List (List Int))) (x : Ex) (e : Env) (h : Heap) : Prop :=
  x = .normal ∧ ∃ u20 k21 : Nat, h = ⟨[(0, none), (1, some [V.int .i64 a0.Complex.Prime, V.isl (a0.Complex.Dims.map Enc.enc), V.isl (a0.Complex.Maps.map Enc.enc)]), (u20, some (zo2_2.map Enc.enc)), (u7, some (zo3_1.map Enc.enc))], k21⟩ ∧ e.length = 127 ∧ e.at 2 = V.int .i64 a2 ∧ e.at 9 = V.ptr 1 1 0 ∧ e.at 10 = V.isl (x1.map Enc.enc) ∧ e.at 11 = V.sl 2 u20 0 zo2_2.length 1
theorem l184_2 (a0 : GFiltered) (a2 : Int) (x1 : List Int) (zo3_1 : List Int) (u7 : Nat)  {lo : Int} {s : (List (List Int))} {t : (List (List Int))} (hF : forR lo (x1.length : Int) (F184_2_B a0 a2 x1 zo3_1) (F184_2_D a0 a2 x1 zo3_1) s = some t) {e : Env} {h : Heap} (hI : I184_2 a0 a2 x1 zo3_1 u7 lo s e h) : W A c184_2 e h (P184_2 a0 a2 x1 zo3_1 u7 t) := by
  show W A (.block 2 (.loop false b184_2)) e h _
  rw [W_block]
  refine W_forR hF 4 (by obtain ⟨_, _, rfl, _⟩ := hI; rfl) (I184_2 a0 a2 x1 zo3_1 u7) hI ?_ ?_
  · rintro v57_2 o2_2 e h ⟨u20, k21, rfl, h_19⟩ hlt hw o ho
    unfold F184_2_B at ho
    obtain ⟨x23, gx23, ho⟩ := bS ho
    obtain ⟨w24a, w24b⟩ := getI_w gx23
    obtain ⟨zo4_3, gt40, ho⟩ := bS ho
    simp only [simprocAttr, R0, opEv, fillV, mapO, mapS, b184_2, h_19, eq_true hlt, hw, w24a, w24b]
    refine W.mono (l184_3 a0 a2 x1 zo3_1 o2_2 v57_2 x23 u7 u20  gt40 (Exists.intro _ ( Exists.intro _ ( And.intro rfl ?_)))) ?_
    · simp only [simprocAttr, R0, h_19, eq_true hlt, hw, w24a, w24b]
    rintro _ e _ ⟨rfl, u26, k27, rfl, h_28⟩
    obtain ⟨l42, gl42, ho⟩ := bS ho
    have w41 := fun a b c d e => appendV_w (α := List Int) (n := o2_2.length) (m := 1) (ds := [V.isl (zo4_3.map Enc.enc)]) gl42 (by first | rfl | simp) (by first | rfl | simp) rfl a b c d e
    have w41l := app_len gl42
    cases ho
    simp only [simprocAttr, R0, opEv, fillV, mapO, mapS, h_28, eq_true hlt, hw, takes (α := Int) zo4_3, w41]
    refine And.intro rfl (Exists.intro _ ( Exists.intro _ ( And.intro rfl ?_)))
    simp only [simprocAttr, R0, h_28, eq_true hlt, hw, takes (α := Int) zo4_3, w41]
  · rintro v57_2 o2_2 e h ⟨u20, k21, rfl, h_19⟩ hge t1 ho
    unfold F184_2_D at ho
    cases ho
    simp only [simprocAttr, R0, opEv, fillV, mapO, mapS, b184_2, h_19, eq_false hge]
    intro ht; subst ht
    refine And.intro rfl (Exists.intro _ ( Exists.intro _ ( And.intro rfl ?_)))
    simp only [simprocAttr, R0, h_19, eq_false hge]
def I184_5 (a0 : GFiltered) (a2 : Int) (x1 : List Int) (zo3_1 : List Int) (x44 : List (List Int)) (o4_4 : List (List Int)) (v95_4 : Int) (x50 : List Int) (u7 u47 : Nat) (v105_5 : Int) (o5_5 : (List Int)) (e : Env) (h : Heap) : Prop :=
  ∃ u57 k58 : Nat, h = ⟨[(0, none), (1, some [V.int .i64 a0.Complex.Prime, V.isl (a0.Complex.Dims.map Enc.enc), V.isl (a0.Complex.Maps.map Enc.enc)]), (0, none), (u7, some (zo3_1.map Enc.enc)), (u47, some (o4_4.map Enc.enc)), (u57, some (o5_5.map Enc.enc))], k58⟩ ∧ e.length = 127 ∧ e.at 2 = V.int .i64 a2 ∧ e.at 9 = V.ptr 1 1 0 ∧ e.at 10 = V.isl (x1.map Enc.enc) ∧ e.at 19 = V.sl 4 u47 0 o4_4.length 1 ∧ e.at 21 = V.isl (x50.map Enc.enc) ∧ e.at 22 = V.sl 5 u57 0 o5_5.length 1 ∧ e.at 93 = V.isl (x44.map Enc.enc) ∧ e.at 94 = V.int .i64 (x44.length : Int) ∧ e.at 95 = V.int .i64 v95_4 ∧ e.at 103 = V.isl (x1.map Enc.enc) ∧ e.at 104 = V.int .i64 (x1.length : Int) ∧ e.at 105 = V.int .i64 v105_5
def P184_5 (a0 : GFiltered) (a2 : Int) (x1 : List Int) (zo3_1 : List Int) (x44 : List (List Int)) (o4_4 : List (List Int)) (v95_4 : Int) (x50 : List Int) (u7 u47 : Nat) (zo5_5 : (List Int)) (x : Ex) (e : Env) (h : Heap) : Prop :=
  x = .normal ∧ ∃ u57 k58 : Nat, h = ⟨[(0, none), (1, some [V.int .i64 a0.Complex.Prime, V.isl (a0.Complex.Dims.map Enc.enc), V.isl (a0.Complex.Maps.map Enc.enc)]), (0, none), (u7, some (zo3_1.map Enc.enc)), (u47, some (o4_4.map Enc.enc)), (u57, some (zo5_5.map Enc.enc))], k58⟩ ∧ e.length = 127 ∧ e.at 2 = V.int .i64 a2 ∧ e.at 9 = V.ptr 1 1 0 ∧ e.at 10 = V.isl (x1.map Enc.enc) ∧ e.at 19 = V.sl 4 u47 0 o4_4.length 1 ∧ e.at 22 = V.sl 5 u57 0 zo5_5.length 1 ∧ e.at 93 = V.isl (x44.map Enc.enc) ∧ e.at 94 = V.int .i64 (x44.length : Int) ∧ e.at 95 = V.int .i64 v95_4
theorem l184_5 (a0 : GFiltered) (a2 : Int) (x1 : List Int) (zo3_1 : List Int) (x44 : List (List Int)) (o4_4 : List (List Int)) (v95_4 : Int) (x50 : List Int) (u7 u47 : Nat)  {lo : Int} {s : (List Int)} {t : (List Int)} (hF : forR lo (x1.length : Int) (F184_5_B a0 a2 x1 zo3_1 x44 o4_4 v95_4 x50) (F184_5_D a0 a2 x1 zo3_1 x44 o4_4 v95_4 x50) s = some t) {e : Env} {h : Heap} (hI : I184_5 a0 a2 x1 zo3_1 x44 o4_4 v95_4 x50 u7 u47 lo s e h) : W A c184_5 e h (P184_5 a0 a2 x1 zo3_1 x44 o4_4 v95_4 x50 u7 u47 t) := by
  show W A (.block 8 (.loop false b184_5)) e h _
  rw [W_block]
  refine W_forR hF 6 (by obtain ⟨_, _, rfl, _⟩ := hI; rfl) (I184_5 a0 a2 x1 zo3_1 x44 o4_4 v95_4 x50 u7 u47) hI ?_ ?_
  · rintro v105_5 o5_5 e h ⟨u57, k58, rfl, h_56⟩ hlt hw o ho
    unfold F184_5_B at ho
    obtain ⟨x60, gx60, ho⟩ := bS ho
    obtain ⟨w61a, w61b⟩ := getI_w gx60
    obtain ⟨x62, gx62, ho⟩ := bS ho
    obtain ⟨w63a, w63b⟩ := getI_w gx62
    obtain ⟨x64, gx64, ho⟩ := bS ho
    obtain ⟨w65a, w65b⟩ := getI_w gx64
    have w65c := getI_lt gx64
    have w65d : List.drop (Int.toNat x60) (o5_5.map Enc.enc) = (V.int .i64 x64) :: List.drop ((Int.toNat x60) + 1) (o5_5.map Enc.enc) := drop_enc w65b
    obtain ⟨l66, gl66, ho⟩ := bS ho
    obtain ⟨w67a, w67b, w67c, w67d, w67e⟩ := setI_w gl66
    replace w67e : List.take (Int.toNat x60) (o5_5.map Enc.enc) ++ [V.int .i64 x62] ++ List.drop (Int.toNat x60 + 1) (o5_5.map Enc.enc) = List.map Enc.enc l66 := w67e
    cases ho
    simp only [simprocAttr, R0, opEv, fillV, mapO, mapS, b184_5, h_56, eq_true hlt, hw, w61a, w61b, w63a, w63b, w65a, w65b, w65c, w65d, w67a, w67b, w67c, w67e]
    refine And.intro rfl (Exists.intro _ ( Exists.intro _ ( And.intro rfl ?_)))
    simp only [simprocAttr, R0, h_56, eq_true hlt, hw, w61a, w61b, w63a, w63b, w65a, w65b, w65c, w65d, w67a, w67b, w67c, w67e, w67d]
  · rintro v105_5 o5_5 e h ⟨u57, k58, rfl, h_56⟩ hge t1 ho
    unfold F184_5_D at ho
    cases ho
    simp only [simprocAttr, R0, opEv, fillV, mapO, mapS, b184_5, h_56, eq_false hge]
    intro ht; subst ht
    refine And.intro rfl (Exists.intro _ ( Exists.intro _ ( And.intro rfl ?_)))
    simp only [simprocAttr, R0, h_56, eq_false hge]
def I184_4 (a0 : GFiltered) (a2 : Int) (x1 : List Int) (zo3_1 : List Int) (x44 : List (List Int)) (u7 : Nat) (v95_4 : Int) (o4_4 : (List (List Int))) (e : Env) (h : Heap) : Prop :=
  ∃ u47 k48 : Nat, h = ⟨[(0, none), (1, some [V.int .i64 a0.Complex.Prime, V.isl (a0.Complex.Dims.map Enc.enc), V.isl (a0.Complex.Maps.map Enc.enc)]), (0, none), (u7, some (zo3_1.map Enc.enc)), (u47, some (o4_4.map Enc.enc))], k48⟩ ∧ e.length = 127 ∧ e.at 2 = V.int .i64 a2 ∧ e.at 9 = V.ptr 1 1 0 ∧ e.at 10 = V.isl (x1.map Enc.enc) ∧ e.at 19 = V.sl 4 u47 0 o4_4.length 1 ∧ e.at 93 = V.isl (x44.map Enc.enc) ∧ e.at 94 = V.int .i64 (x44.length : Int) ∧ e.at 95 = V.int .i64 v95_4
def P184_4 (a0 : GFiltered) (a2 : Int) (x1 : List Int) (zo3_1 : List Int) (x44 : List (List Int)) (u7 : Nat) (zo4_4 : (List (List Int))) (x : Ex) (e : Env) (h : Heap) : Prop :=
  x = .normal ∧ ∃ u47 k48 : Nat, h = ⟨[(0, none), (1, some [V.int .i64 a0.Complex.Prime, V.isl (a0.Complex.Dims.map Enc.enc), V.isl (a0.Complex.Maps.map Enc.enc)]), (0, none), (u7, some (zo3_1.map Enc.enc)), (u47, some (zo4_4.map Enc.enc))], k48⟩ ∧ e.length = 127 ∧ e.at 9 = V.ptr 1 1 0 ∧ e.at 19 = V.sl 4 u47 0 zo4_4.length 1
theorem l184_4 (a0 : GFiltered) (a2 : Int) (x1 : List Int) (zo3_1 : List Int) (x44 : List (List Int)) (u7 : Nat)  {lo : Int} {s : (List (List Int))} {t : (List (List Int))} (hF : forR lo (x44.length : Int) (F184_4_B a0 a2 x1 zo3_1 x44) (F184_4_D a0 a2 x1 zo3_1 x44) s = some t) {e : Env} {h : Heap} (hI : I184_4 a0 a2 x1 zo3_1 x44 u7 lo s e h) : W A c184_4 e h (P184_4 a0 a2 x1 zo3_1 x44 u7 t) := by
  show W A (.block 6 (.loop false b184_4)) e h _
  rw [W_block]
  refine W_forR hF 5 (by obtain ⟨_, _, rfl, _⟩ := hI; rfl) (I184_4 a0 a2 x1 zo3_1 x44 u7) hI ?_ ?_
  · rintro v95_4 o4_4 e h ⟨u47, k48, rfl, hl_46, h2_46, h9_46, h10_46, h19_46, h93_46, h94_46, h95_46⟩ hlt hw o ho
    unfold F184_4_B at ho
    obtain ⟨x50, gx50, ho⟩ := bS ho
    obtain ⟨w51a, w51b⟩ := getI_w gx50
    obtain ⟨x52, gx52, ho⟩ := bS ho
    have w53 : ans A 102 [(eC a0.Complex), V.int .i64 a2] = some (V.int .i64 x52) := s102 a0.Complex a2  gx52
    obtain ⟨l54, gl54, ho⟩ := bS ho
    obtain ⟨w55a, w55b, w55c, w55d, w55e⟩ := mkL_w gl54
    replace w55e : (List.replicate (Int.toNat x52) [V.int .i64 0]).flatten = List.map Enc.enc l54 := w55e
    obtain ⟨zo5_5, gt68, ho⟩ := bS ho
    simp only [↓reduceIte, Nat.reduceAdd, Nat.reduceMul, Nat.reduceSub, Nat.reduceLT, Nat.reduceLeDiff, Nat.reduceEqDiff, Nat.reducePow, Int.reducePow, Int.reduceLE, Int.reduceLT, Int.reduceEq, Int.reduceToNat, reduceCtorEq, R0, opEv, fillV, mapO, mapS, b184_4, hl_46, h2_46, h9_46, h10_46, h19_46, h93_46, h94_46, h95_46, eq_true hlt, hw, w51a, w51b, w53, w55a, w55b, w55c, w55e]
    refine W.mono (l184_5 a0 a2 x1 zo3_1 x44 o4_4 v95_4 x50 u7 u47  gt68 (Exists.intro _ ( Exists.intro _ ( And.intro rfl ?_)))) ?_
    · simp only [↓reduceIte, Nat.reduceAdd, Nat.reduceMul, Nat.reduceSub, Nat.reduceLT, Nat.reduceLeDiff, Nat.reduceEqDiff, Nat.reducePow, Int.reducePow, Int.reduceLE, Int.reduceLT, Int.reduceEq, Int.reduceToNat, reduceCtorEq, R0, hl_46, h2_46, h9_46, h10_46, h19_46, h93_46, h94_46, h95_46, eq_true hlt, hw, w51a, w51b, w53, w55a, w55b, w55c, w55e, w55d]
    rintro _ e _ ⟨rfl, u57, k58, rfl, hl_59, h2_59, h9_59, h10_59, h19_59, h22_59, h93_59, h94_59, h95_59⟩
    obtain ⟨l70, gl70, ho⟩ := bS ho
    have w69 := fun ents key uid clk he => appendV_w (α := List Int) (n := o4_4.length) (m := 1) (ds := [V.isl (zo5_5.map Enc.enc)]) gl70 (by first | rfl | simp only [List.length_nil]) (by first | rfl | simp only [List.length_nil]) rfl ents key uid clk he
    have w69l := app_len gl70
    have hE := Option.some.inj ho; subst hE
    simp only [↓reduceIte, Nat.reduceAdd, Nat.reduceMul, Nat.reduceSub, Nat.reduceLT, Nat.reduceLeDiff, Nat.reduceEqDiff, Nat.reducePow, Int.reducePow, Int.reduceLE, Int.reduceLT, Int.reduceEq, Int.reduceToNat, reduceCtorEq, R0, opEv, fillV, mapO, mapS, hl_59, h2_59, h9_59, h10_59, h19_59, h22_59, h93_59, h94_59, h95_59, eq_true hlt, hw, takes (α := Int) zo5_5, w69]
    refine And.intro rfl (Exists.intro _ ( Exists.intro _ ( And.intro rfl ?_)))
    simp only [↓reduceIte, Nat.reduceAdd, Nat.reduceMul, Nat.reduceSub, Nat.reduceLT, Nat.reduceLeDiff, Nat.reduceEqDiff, Nat.reducePow, Int.reducePow, Int.reduceLE, Int.reduceLT, Int.reduceEq, Int.reduceToNat, reduceCtorEq, R0, hl_59, h2_59, h9_59, h10_59, h19_59, h22_59, h93_59, h94_59, h95_59, eq_true hlt, hw, takes (α := Int) zo5_5, w69]
  · rintro v95_4 o4_4 e h ⟨u47, k48, rfl, hl_46, h2_46, h9_46, h10_46, h19_46, h93_46, h94_46, h95_46⟩ hge t1 ho
    unfold F184_4_D at ho
    have hE := Option.some.inj ho; subst hE
    simp only [↓reduceIte, Nat.reduceAdd, Nat.reduceMul, Nat.reduceSub, Nat.reduceLT, Nat.reduceLeDiff, Nat.reduceEqDiff, Nat.reducePow, Int.reducePow, Int.reduceLE, Int.reduceLT, Int.reduceEq, Int.reduceToNat, reduceCtorEq, R0, opEv, fillV, mapO, mapS, b184_4, hl_46, h2_46, h9_46, h10_46, h19_46, h93_46, h94_46, h95_46, eq_false hge]
    intro ht; subst ht
    refine And.intro rfl (Exists.intro _ ( Exists.intro _ ( And.intro rfl ?_)))
    simp only [↓reduceIte, Nat.reduceAdd, Nat.reduceMul, Nat.reduceSub, Nat.reduceLT, Nat.reduceLeDiff, Nat.reduceEqDiff, Nat.reducePow, Int.reducePow, Int.reduceLE, Int.reduceLT, Int.reduceEq, Int.reduceToNat, reduceCtorEq, R0, hl_46, h2_46, h9_46, h10_46, h19_46, h93_46, h94_46, h95_46, eq_false hge]
theorem s184 (a0 : GFiltered) (a1 : Int) (a2 : Int) (a3 : Int)   {r : List (List Int)} (hF : F184 a0 a1 a2 a3 = some r) : ans A 184 [(eF a0), V.int .i64 a1, V.int .i64 a2, V.int .i64 a3] = some (Enc.enc r) := by
  refine ans_of (f := p184) rfl rfl rfl fun e hl he => ?_
  have h0_0 : e.at 0 = (eF a0) := he 0 _ rfl
  have h1_0 : e.at 1 = V.int .i64 a1 := he 1 _ rfl
  have h2_0 : e.at 2 = V.int .i64 a2 := he 2 _ rfl
  have h3_0 : e.at 3 = V.int .i64 a3 := he 3 _ rfl
  have hl_0 : e.length = 127 := hl
  clear he hl
  show W A b184 e ⟨[], 0⟩ _
  unfold F184 at hF
  obtain ⟨x1, gx1, hF⟩ := bS hF
  have w2 : ans A 202 [(eF a0), V.int .i64 a2, V.int .i64 a3] = some (V.isl (x1.map Enc.enc)) := s202 a0 a2 a3  gx1
  obtain ⟨x3, gx3, hF⟩ := bS hF
  have wx3 := chk_w gx3
  obtain ⟨x4, gx4, hF⟩ := bS hF
  have w5 : ans A 102 [(eC a0.Complex), V.int .i64 x3] = some (V.int .i64 x4) := s102 a0.Complex x3  gx4
  obtain ⟨zo3_1, gt18, hF⟩ := bS hF
  simp only [simprocAttr, R0, opEv, fillV, mapO, mapS, b184, hl_0, h0_0, h1_0, h2_0, h3_0, w2, wx3, w5]
  refine W.mono (l184_1 a0 a1 a2 a3 x1 x4   gt18 (Exists.intro _ ( Exists.intro _ ( And.intro rfl ?_)))) ?_
  · simp only [simprocAttr, R0, hl_0, h0_0, h1_0, h2_0, h3_0, w2, wx3, w5]
  rintro _ e _ ⟨rfl, u7, k8, rfl, h_9⟩
  obtain ⟨zo2_2, gt43, hF⟩ := bS hF
  simp only [simprocAttr, R0, opEv, fillV, mapO, mapS, h_9]
  refine W.mono (l184_2 a0 a2 x1 zo3_1 u7  gt43 (Exists.intro _ ( Exists.intro _ ( And.intro rfl ?_)))) ?_
  · simp only [simprocAttr, R0, h_9]
  rintro _ e _ ⟨rfl, u20, k21, rfl, h_22⟩
  obtain ⟨x44, gx44, hF⟩ := bS hF
  have w45 : ans A 125 [V.int .i64 a0.Complex.Prime, V.isl (zo2_2.map Enc.enc)] = some (V.isl (x44.map Enc.enc)) := s125 a0.Complex.Prime zo2_2  gx44
  obtain ⟨zo4_4, gt71, hF⟩ := bS hF
  simp only [simprocAttr, R0, opEv, fillV, mapO, mapS, h_22, takes (α := List Int) zo2_2, w45]
  refine W.mono (l184_4 a0 a2 x1 zo3_1 x44 u7  gt71 (Exists.intro _ ( Exists.intro _ ( And.intro rfl ?_)))) ?_
  · simp only [simprocAttr, R0, h_22, takes (α := List Int) zo2_2, w45]
  rintro _ e _ ⟨rfl, u47, k48, rfl, h_49⟩
  obtain ⟨x72, gx72, hF⟩ := bS hF
  have w73 : tans A 133 [1] [V.int .i64 a0.Complex.Prime, V.isl (zo4_4.map Enc.enc)] = some (V.isl (x72.map Enc.enc)) := t133 a0.Complex.Prime zo4_4  gx72
  have w73t := thaw_one (α := List Int) x72
  have hE := Option.some.inj hF; subst hE
  simp only [simprocAttr, R0, opEv, fillV, mapO, mapS, h_49, takes (α := List Int) zo4_4, w73, w73t]
  exact fin_ret (by simp only [simprocAttr, R0, fn_out, p184, Rs.ev, mapO, mapS, take_len_self, h_49, takes (α := List Int) zo4_4, w73, w73t, frzs (α := List Int) x72, takes (α := List Int) x72])
theorem t184 (a0 : GFiltered) (a1 : Int) (a2 : Int) (a3 : Int)   {r : List (List Int)} (hF : F184 a0 a1 a2 a3 = some r) : tans A 184 [1] [(eF a0), V.int .i64 a1, V.int .i64 a2, V.int .i64 a3] = some (Enc.enc r) := by
  refine tans_of (f := p184) rfl rfl rfl fun e hl he => ?_
  have h0_0 : e.at 0 = (eF a0) := he 0 _ rfl
  have h1_0 : e.at 1 = V.int .i64 a1 := he 1 _ rfl
  have h2_0 : e.at 2 = V.int .i64 a2 := he 2 _ rfl
  have h3_0 : e.at 3 = V.int .i64 a3 := he 3 _ rfl
  have hl_0 : e.length = 127 := hl
  clear he hl
  show W A b184 e ⟨[], 0⟩ _
  unfold F184 at hF
  obtain ⟨x1, gx1, hF⟩ := bS hF
  have w2 : ans A 202 [(eF a0), V.int .i64 a2, V.int .i64 a3] = some (V.isl (x1.map Enc.enc)) := s202 a0 a2 a3  gx1
  obtain ⟨x3, gx3, hF⟩ := bS hF
  have wx3 := chk_w gx3
  obtain ⟨x4, gx4, hF⟩ := bS hF
  have w5 : ans A 102 [(eC a0.Complex), V.int .i64 x3] = some (V.int .i64 x4) := s102 a0.Complex x3  gx4
  obtain ⟨zo3_1, gt18, hF⟩ := bS hF
  simp only [simprocAttr, R0, opEv, fillV, mapO, mapS, b184, hl_0, h0_0, h1_0, h2_0, h3_0, w2, wx3, w5]
  refine W.mono (l184_1 a0 a1 a2 a3 x1 x4   gt18 (Exists.intro _ ( Exists.intro _ ( And.intro rfl ?_)))) ?_
  · simp only [simprocAttr, R0, hl_0, h0_0, h1_0, h2_0, h3_0, w2, wx3, w5]
  rintro _ e _ ⟨rfl, u7, k8, rfl, h_9⟩
  obtain ⟨zo2_2, gt43, hF⟩ := bS hF
  simp only [simprocAttr, R0, opEv, fillV, mapO, mapS, h_9]
  refine W.mono (l184_2 a0 a2 x1 zo3_1 u7  gt43 (Exists.intro _ ( Exists.intro _ ( And.intro rfl ?_)))) ?_
  · simp only [simprocAttr, R0, h_9]
  rintro _ e _ ⟨rfl, u20, k21, rfl, h_22⟩
  obtain ⟨x44, gx44, hF⟩ := bS hF
  have w45 : ans A 125 [V.int .i64 a0.Complex.Prime, V.isl (zo2_2.map Enc.enc)] = some (V.isl (x44.map Enc.enc)) := s125 a0.Complex.Prime zo2_2  gx44
  obtain ⟨zo4_4, gt71, hF⟩ := bS hF
  simp only [simprocAttr, R0, opEv, fillV, mapO, mapS, h_22, takes (α := List Int) zo2_2, w45]
  refine W.mono (l184_4 a0 a2 x1 zo3_1 x44 u7  gt71 (Exists.intro _ ( Exists.intro _ ( And.intro rfl ?_)))) ?_
  · simp only [simprocAttr, R0, h_22, takes (α := List Int) zo2_2, w45]
  rintro _ e _ ⟨rfl, u47, k48, rfl, h_49⟩
  obtain ⟨x72, gx72, hF⟩ := bS hF
  have w73 : tans A 133 [1] [V.int .i64 a0.Complex.Prime, V.isl (zo4_4.map Enc.enc)] = some (V.isl (x72.map Enc.enc)) := t133 a0.Complex.Prime zo4_4  gx72
  have w73t := thaw_one (α := List Int) x72
  have hE := Option.some.inj hF; subst hE
  simp only [simprocAttr, R0, opEv, fillV, mapO, mapS, h_49, takes (α := List Int) zo4_4, w73, w73t]
  exact tfin_ret (by simp only [simprocAttr, R0, fn_out, p184, Rs.ev, mapO, mapS, take_len_self, h_49, takes (α := List Int) zo4_4, w73, w73t, frzs (α := List Int) x72, takes (α := List Int) x72])
def F186 (a0 : GComplex) (a1 : Int) : Option (List (List Int)) :=
  if a1 < 0 then
    some ([] : List (List Int))
  else
    (F86 a0).bind fun x2 =>
    if x2 ≤ a1 then
      some ([] : List (List Int))
    else
      (getI a0.Maps a1).bind fun x5 =>
      (F133 a0.Prime x5).bind fun x7 =>
      some x7
theorem s186 (a0 : GComplex) (a1 : Int)   {r : List (List Int)} (hF : F186 a0 a1 = some r) : ans A 186 [(eC a0), V.int .i64 a1] = some (Enc.enc r) := by
  refine ans_of (f := p186) rfl rfl rfl fun e hl he => ?_
  have h0_0 : e.at 0 = (eC a0) := he 0 _ rfl
  have h1_0 : e.at 1 = V.int .i64 a1 := he 1 _ rfl
  have hl_0 : e.length = 21 := hl
  clear he hl
  have h_0 := And.intro hl_0 (And.intro h0_0 h1_0)
  show W A b186 e ⟨[], 0⟩ _
  unfold F186 at hF
  by_cases c1 : a1 < 0
  · rw [if_pos c1] at hF
    cases hF
    simp only [simprocAttr, R0, opEv, fillV, mapO, mapS, b186, h_0, eq_true c1]
    exact fin_ret (by simp only [simprocAttr, R0, fn_out, p186, Rs.ev, mapO, mapS, take_len_self, h_0, eq_true c1])
  · rw [if_neg c1] at hF
    obtain ⟨x2, gx2, hF⟩ := bS hF
    have w3 : ans A 86 [(eC a0)] = some (V.int .i64 x2) := s86 a0  gx2
    by_cases c4 : x2 ≤ a1
    · rw [if_pos c4] at hF
      cases hF
      simp only [simprocAttr, R0, opEv, fillV, mapO, mapS, b186, h_0, eq_false c1, w3, eq_true c4]
      exact fin_ret (by simp only [simprocAttr, R0, fn_out, p186, Rs.ev, mapO, mapS, take_len_self, h_0, eq_false c1, w3, eq_true c4])
    · rw [if_neg c4] at hF
      obtain ⟨x5, gx5, hF⟩ := bS hF
      obtain ⟨w6a, w6b⟩ := getI_w gx5
      obtain ⟨x7, gx7, hF⟩ := bS hF
      have w8 : ans A 133 [V.int .i64 a0.Prime, V.isl (x5.map Enc.enc)] = some (V.isl (x7.map Enc.enc)) := s133 a0.Prime x5  gx7
      cases hF
      simp only [simprocAttr, R0, opEv, fillV, mapO, mapS, b186, h_0, eq_false c1, w3, eq_false c4, w6a, w6b, w8]
      exact fin_ret (by simp only [simprocAttr, R0, fn_out, p186, Rs.ev, mapO, mapS, take_len_self, h_0, eq_false c1, w3, eq_false c4, w6a, w6b, w8])
def F200_1_B (ls : List (List (List Int))) (i : Int) (s : Int) : Option (Int ⊕ Int) := (getI ls i).bind fun l => (chk (s + (l.length : Int))).bind fun n => if n < 0 then none else some (.inl n)
def F200_1_D (i : Int) (s : Int) : Option Int := some s
def F200_2_B (ls : List (List (List Int))) (i : Int) (s : List (List Int)) : Option (List (List Int) ⊕ List (List Int)) := (getI ls i).bind fun l => (app 24 s l).bind fun r => some (.inl r)
def F200_2_D (i : Int) (s : List (List Int)) : Option (List (List Int)) := some s
def F200 (ls : List (List (List Int))) : Option (List (List Int)) := (forR 0 (ls.length : Int) (F200_1_B ls) F200_1_D 0).bind fun n => if 0 ≤ n ∧ n * 24 ≤ 1099511627776 then forR 0 (ls.length : Int) (F200_2_B ls) F200_2_D [] else none
def GR200 (v : V) (l : List (List Int)) (E : List (Nat × Option (List V))) : Prop := (v = .nils ∧ l = []) ∨ ∃ key uid cs, v = .sl key uid 0 l.length 1 ∧ E[key]? = some (uid, some (List.map Enc.enc l ++ cs))
theorem ap200 {l l' l2 : List (List Int)} {v : V} {E : List (Nat × Option (List V))} {c : Nat} (g : app 24 l l' = some l2) (h : GR200 v l E) : ∃ v' E' c', appendV 1 24 v l'.length (List.map Enc.enc l') ⟨E, c⟩ = some (v', ⟨E', c'⟩) ∧ GR200 v' l2 E' := by
  obtain ⟨q1, q2, rfl⟩ := app_w g
  by_cases h0 : l'.length = 0
  · have : l' = [] := List.eq_nil_of_length_eq_zero h0
    subst this
    rw [List.append_nil]
    rcases h with ⟨rfl, rfl⟩ | ⟨key, uid, cs, rfl, h1⟩
    · exact ⟨_, _, _, rfl, .inl ⟨rfl, rfl⟩⟩
    · exact ⟨_, _, _, rfl, .inr ⟨key, uid, cs, rfl, h1⟩⟩
  · rcases h with ⟨rfl, rfl⟩ | ⟨key, uid, cs, rfl, h1⟩
    · refine ⟨.sl E.length c 0 l'.length 1, E ++ [(c, some (List.map Enc.enc l'))], c + 1, ?_, .inr ⟨E.length, c, [], rfl, ?_⟩⟩
      · simp only [List.length_nil, Nat.zero_add] at q1 q2
        unfold appendV
        rw [if_neg h0]
        simp only
        rw [if_pos ⟨q1, q2⟩]; rfl
      · rw [get_last, List.nil_append, List.append_nil]
    · have hk : key < E.length := (List.getElem?_eq_some_iff.1 h1).1
      refine ⟨.sl key c 0 (l ++ l').length 1, E.set key (c, some (List.map Enc.enc (l ++ l'))), c + 1, ?_, .inr ⟨key, c, [], rfl, ?_⟩⟩
      · have hg : Heap.get ⟨E, c⟩ key uid = some (List.map Enc.enc l ++ cs) := by simp [Heap.get, h1]
        unfold appendV
        rw [if_neg h0]
        simp only [hg]
        rw [if_pos ⟨by simp, by trivial, q1, q2⟩]
        have e : List.take (l.length * 1) (List.drop 0 (List.map Enc.enc l ++ cs)) = List.map Enc.enc l := by rw [List.drop_zero, Nat.mul_one, List.take_append_of_le_length (by simp)]; exact List.take_of_length_le (by simp)
        rw [e, ← List.map_append, List.length_append]; rfl
      · rw [List.append_nil, List.getElem?_set_self hk]
theorem fz200 {l : List (List Int)} {v : V} {E : List (Nat × Option (List V))} {c : Nat} (h : GR200 v l E) : frz ⟨E, c⟩ FZ v = some (V.isl (l.map Enc.enc)) := by
  rcases h with ⟨rfl, rfl⟩ | ⟨key, uid, cs, rfl, h1⟩
  · rfl
  · have hg : Heap.get ⟨E, c⟩ key uid = some (List.map Enc.enc l ++ cs) := by simp [Heap.get, h1]
    show frz ⟨E, c⟩ (15 + 1) _ = _
    have e : List.take (l.length * 1) (List.drop 0 (List.map Enc.enc l ++ cs)) = List.map Enc.enc l := by rw [List.drop_zero, Nat.mul_one, List.take_append_of_le_length (by simp)]; exact List.take_of_length_le (by simp)
    simp only [frz, hg]
    rw [if_pos ⟨by simp, by decide⟩, e, frzs (α := List Int) l]
    simp [chunk]
theorem g201 {n : Int} (h0 : 0 ≤ n) (h1 : n * 24 ≤ 1099511627776) : ∃ v h', res A 201 [V.nils, V.int .i64 n] ⟨[], 0⟩ = some (v, h') ∧ GR200 v [] h'.ents := by
  refine res_dp (f := p201) rfl rfl rfl fun e hl he => ?_
  have h0_0 : e.at 0 = V.nils := he 0 _ rfl
  have h1_0 : e.at 1 = V.int .i64 n := he 1 _ rfl
  have hl_0 : e.length = 27 := hl
  clear he hl
  show W A b201 e ⟨[], 0⟩ _
  have z0 : ((0 : Nat) : Int) = 0 := rfl
  have z1 : (0 : Int) ≤ (n.toNat : Int) := Int.natCast_nonneg _
  have z24 : ((24 : Nat) : Int) = 24 := rfl
  have w0 : Go.IntKind.wrap .i64 (0 - 0) = 0 := by decide
  have w1 : Go.IntKind.wrap .i64 (n - 0) = n := by rw [Int.sub_zero]; exact wrap_i64 (by omega) (by omega)
  have c0 : ¬ n < 0 := by omega
  by_cases c1 : 0 < n
  · have c2 : ¬ n.toNat = 0 := by omega
    have c3 : n.toNat * 24 ≤ 1099511627776 ∧ n.toNat ≤ 1099511627776 := ⟨by omega, by omega⟩
    have c4 : 0 ≤ n ∧ n ≤ 1099511627776 ∧ n * 24 ≤ 1099511627776 := ⟨h0, by omega, h1⟩
    simp only [↓reduceIte, Nat.reduceAdd, Nat.reduceMul, Nat.reduceSub, Nat.reduceLT, Nat.reduceLeDiff, Nat.reduceEqDiff, Nat.reducePow, Int.reducePow, Int.reduceLE, Int.reduceLT, Int.reduceEq, Int.reduceToNat, reduceCtorEq, R0, opEv, fillV, mapO, mapS, b201, hl_0, h0_0, h1_0, z0, z24, eq_true z1, eq_true h1, true_or, w0, w1, eq_false c0, eq_true c1, sliceV, boundV, lenV, intV, appendV, c2, c3, c4, Option.map, X.ev, decide_true, decide_false]
    refine And.intro (fun _ => trivial) ⟨_, by simp only [↓reduceIte, Nat.reduceAdd, Nat.reduceMul, Nat.reduceSub, Nat.reduceLT, Nat.reduceLeDiff, Nat.reduceEqDiff, Nat.reducePow, Int.reducePow, Int.reduceLE, Int.reduceLT, Int.reduceEq, Int.reduceToNat, reduceCtorEq, R0, fn_out, p201, Rs.ev, mapO, mapS, hl_0], .inr ⟨0, 0, _, rfl, rfl⟩⟩
  · have : n = 0 := by omega
    subst this
    simp only [↓reduceIte, Nat.reduceAdd, Nat.reduceMul, Nat.reduceSub, Nat.reduceLT, Nat.reduceLeDiff, Nat.reduceEqDiff, Nat.reducePow, Int.reducePow, Int.reduceLE, Int.reduceLT, Int.reduceEq, Int.reduceToNat, reduceCtorEq, R0, opEv, fillV, mapO, mapS, b201, hl_0, h0_0, h1_0, z0, z24, eq_true z1, eq_true h1, true_or, w0, w1, sliceV, boundV, lenV, intV, appendV, Option.map, X.ev]
    refine And.intro (fun _ => trivial) ⟨_, by simp only [↓reduceIte, Nat.reduceAdd, Nat.reduceMul, Nat.reduceSub, Nat.reduceLT, Nat.reduceLeDiff, Nat.reduceEqDiff, Nat.reducePow, Int.reducePow, Int.reduceLE, Int.reduceLT, Int.reduceEq, Int.reduceToNat, reduceCtorEq, R0, fn_out, p201, Rs.ev, mapO, mapS, hl_0, h0_0], .inl ⟨rfl, rfl⟩⟩
theorem s200 (ls : List (List (List Int))) {r : List (List Int)} (hF : F200 ls = some r) : ans A 200 [V.isl (ls.map Enc.enc)] = some (V.isl (r.map Enc.enc)) := by
  refine ans_of (f := p200) rfl rfl rfl fun e hl he => ?_
  have h0_0 : e.at 0 = V.isl (ls.map Enc.enc) := he 0 _ rfl
  have hl_0 : e.length = 36 := hl
  clear he hl
  show W A b200 e ⟨[], 0⟩ _
  unfold F200 at hF
  obtain ⟨n, gn, hF⟩ := bS hF
  by_cases c0 : 0 ≤ n ∧ n * 24 ≤ 1099511627776
  case neg => rw [if_neg c0] at hF; cases hF
  rw [if_pos c0] at hF
  obtain ⟨v0, ⟨E0, k0⟩, g1, g2⟩ := g201 c0.1 c0.2
  simp only [simprocAttr, R0, opEv, fillV, mapO, mapS, b200, hl_0, h0_0]
  refine W.mono (Q := fun x e h => x = .normal ∧ h = ⟨[], 0⟩ ∧ e.length = 36 ∧ e.at 0 = V.isl (ls.map Enc.enc) ∧ e.at 3 = V.int .i64 n) ?_ ?_
  · show W A (.block 0 (.loop true b200_1)) _ _ _
    rw [W_block]
    refine W_forR gn _ rfl (fun i s e h => h = ⟨[], 0⟩ ∧ e.length = 36 ∧ e.at 0 = V.isl (ls.map Enc.enc) ∧ e.at 3 = V.int .i64 s ∧ e.at 9 = V.isl (ls.map Enc.enc) ∧ e.at 10 = V.int .i64 (ls.length : Int) ∧ e.at 11 = V.int .i64 i) ?_ ?_ ?_
    · simp only [simprocAttr, R0, hl_0, h0_0]
    · clear hl_0 h0_0
      rintro i s e h ⟨rfl, h_1⟩ hlt hw s' ho
      unfold F200_1_B at ho
      obtain ⟨l, gl, ho⟩ := bS ho
      obtain ⟨la, lb⟩ := getI_w gl
      obtain ⟨m, gm, ho⟩ := bS ho
      have wm := chk_w gm
      by_cases c1 : m < 0
      · rw [if_pos c1] at ho; cases ho
      rw [if_neg c1] at ho
      cases ho
      simp only [simprocAttr, R0, opEv, fillV, mapO, mapS, b200_1, h_1, eq_true hlt, hw, la, lb, wm, eq_false c1]
      refine And.intro rfl (And.intro rfl ?_)
      simp only [simprocAttr, R0, h_1, hw]
    · clear hl_0 h0_0
      rintro i s e h ⟨rfl, h_1⟩ hge t1 ho
      unfold F200_1_D at ho
      cases ho
      simp only [simprocAttr, R0, opEv, fillV, mapO, mapS, b200_1, h_1, eq_false hge]
      intro ht; subst ht
      simp only [simprocAttr, R0, h_1]
  clear hl_0 h0_0
  rintro _ e _ ⟨rfl, rfl, hl_0, h0_0, h3_0⟩
  simp only [simprocAttr, R0, opEv, fillV, mapO, mapS, hl_0, h0_0, h3_0, callM_plain_eq, g1]
  refine W.mono (Q := fun x e h => x = .normal ∧ e.length = 36 ∧ ∃ v, e.at 6 = v ∧ GR200 v r h.ents) ?_ ?_
  · show W A (.block 2 (.loop true b200_2)) _ _ _
    rw [W_block]
    refine W_forR hF _ rfl (fun i s e h => ∃ v, GR200 v s h.ents ∧ e.length = 36 ∧ e.at 6 = v ∧ e.at 25 = V.isl (ls.map Enc.enc) ∧ e.at 26 = V.int .i64 (ls.length : Int) ∧ e.at 27 = V.int .i64 i) ?_ ?_ ?_
    · refine ⟨v0, g2, ?_⟩
      simp only [simprocAttr, R0, hl_0, h0_0, h3_0]
    · clear hl_0 h0_0 h3_0
      rintro i s e ⟨E, k⟩ ⟨v, g3, h_1⟩ hlt hw s' ho
      unfold F200_2_B at ho
      obtain ⟨l, gl, ho⟩ := bS ho
      obtain ⟨la, lb⟩ := getI_w gl
      obtain ⟨l2, gl2, ho⟩ := bS ho
      cases ho
      obtain ⟨v', E', k', a1, a2⟩ := ap200 (c := k) gl2 g3
      simp only [simprocAttr, R0, opEv, fillV, mapO, mapS, b200_2, h_1, eq_true hlt, hw, la, lb, srcV_enc (α := List Int), a1]
      refine And.intro rfl ⟨v', a2, ?_⟩
      simp only [simprocAttr, R0, h_1, hw]
    · clear hl_0 h0_0 h3_0
      rintro i s e ⟨E, k⟩ ⟨v, g3, h_1⟩ hge t1 ho
      unfold F200_2_D at ho
      cases ho
      simp only [simprocAttr, R0, opEv, fillV, mapO, mapS, b200_2, h_1, eq_false hge]
      intro ht; subst ht
      exact ⟨v, rfl, g3⟩
  clear hl_0 h0_0 h3_0
  rintro _ e ⟨E, k⟩ ⟨rfl, hl_0, v, h6_0, g3⟩
  simp only [simprocAttr, R0, opEv, fillV, mapO, mapS, hl_0, h6_0]
  have z : frz ⟨E, k⟩ 16 v = some (V.isl (r.map Enc.enc)) := fz200 (c := k) g3
  exact fin_ret (by simp only [simprocAttr, R0, fn_out, p200, Rs.ev, mapO, mapS, hl_0, h6_0, z])
def F183 (a0 : Int) (d0 : GComplex) (d1 : GFiltered) (d2 : Int) : Option Int :=
  (F184 d1 6 d2 a0).bind fun x1 =>
  (F186 d0 d2).bind fun x3 =>
  (F200 [x1, x3]).bind fun x5 =>
  (F133 d0.Prime x5).bind fun x7 =>
  some (x7.length : Int)
theorem s183 (a0 : Int) (d0 : GComplex) (d1 : GFiltered) (d2 : Int)   {r : Int} (hF : F183 a0 d0 d1 d2 = some r) : ans A 183 [V.int .i64 a0, V.iptr [V.int .i64 d0.Prime, V.isl (d0.Dims.map Enc.enc), V.isl (d0.Maps.map Enc.enc)], V.iptr [V.int .i64 d1.Complex.Prime, V.isl (d1.Complex.Dims.map Enc.enc), V.isl (d1.Complex.Maps.map Enc.enc), V.isl (d1.Levels.map Enc.enc)], V.iptr [V.int .i64 d2]] = some (Enc.enc r) := by
  refine ans_of (f := p183) rfl rfl rfl fun e hl he => ?_
  have h0_0 : e.at 0 = V.int .i64 a0 := he 0 _ rfl
  have h1_0 : e.at 1 = V.iptr [V.int .i64 d0.Prime, V.isl (d0.Dims.map Enc.enc), V.isl (d0.Maps.map Enc.enc)] := he 1 _ rfl
  have h2_0 : e.at 2 = V.iptr [V.int .i64 d1.Complex.Prime, V.isl (d1.Complex.Dims.map Enc.enc), V.isl (d1.Complex.Maps.map Enc.enc), V.isl (d1.Levels.map Enc.enc)] := he 2 _ rfl
  have h3_0 : e.at 3 = V.iptr [V.int .i64 d2] := he 3 _ rfl
  have hl_0 : e.length = 19 := hl
  clear he hl
  show W A b183 e ⟨[], 0⟩ _
  unfold F183 at hF
  obtain ⟨x1, gx1, hF⟩ := bS hF
  have w2 : ans A 184 [(eF d1), V.int .i64 6, V.int .i64 d2, V.int .i64 a0] = some (V.isl (x1.map Enc.enc)) := s184 d1 6 d2 a0  gx1
  obtain ⟨x3, gx3, hF⟩ := bS hF
  have w4 : ans A 186 [(eC d0), V.int .i64 d2] = some (V.isl (x3.map Enc.enc)) := s186 d0 d2  gx3
  obtain ⟨x5, gx5, hF⟩ := bS hF
  have w6 : ans A 200 [V.isl [V.isl (x1.map Enc.enc), V.isl (x3.map Enc.enc)]] = some (V.isl (x5.map Enc.enc)) := s200 [x1, x3]  gx5
  obtain ⟨x7, gx7, hF⟩ := bS hF
  have w8 : ans A 133 [V.int .i64 d0.Prime, V.isl (x5.map Enc.enc)] = some (V.isl (x7.map Enc.enc)) := s133 d0.Prime x5  gx7
  have w10 : ans A 89 [V.isl (x7.map Enc.enc)] = some (V.int .i64 (x7.length : Int)) := s89 x7  rfl
  cases hF
  simp only [simprocAttr, R0, opEv, fillV, mapO, mapS, b183, hl_0, h0_0, h1_0, h2_0, h3_0, w2, w4, w6, w8, w10]
  exact fin_ret (by simp only [simprocAttr, R0, fn_out, p183, Rs.ev, mapO, mapS, take_len_self, hl_0, h0_0, h1_0, h2_0, h3_0, w2, w4, w6, w8, w10])
def F161 (a0 : GFiltered) (a1 a2 : Int) : Option Int := (F183 a2 a0.Complex a0 a1).bind fun u => (chk (a2 - 1)).bind fun q => (F183 q a0.Complex a0 a1).bind fun v => chk (u - v)
theorem s161 (a0 : GFiltered) (a1 a2 : Int) {r : Int} (hF : F161 a0 a1 a2 = some r) : ans A 161 [(eF a0), V.int .i64 a1, V.int .i64 a2] = some (V.int .i64 r) := by
  refine ans_of (f := p161) rfl rfl rfl fun e hl he => ?_
  have h0_0 : e.at 0 = (eF a0) := he 0 _ rfl
  have h1_0 : e.at 1 = V.int .i64 a1 := he 1 _ rfl
  have h2_0 : e.at 2 = V.int .i64 a2 := he 2 _ rfl
  have hl_0 : e.length = 20 := hl
  clear he hl
  show W A b161 e ⟨[], 0⟩ _
  unfold F161 at hF
  obtain ⟨u, gu, hF⟩ := bS hF
  have wu : ans A 183 [V.int .i64 a2, V.iptr [V.int .i64 a0.Complex.Prime, V.isl (a0.Complex.Dims.map Enc.enc), V.isl (a0.Complex.Maps.map Enc.enc)], V.iptr [V.int .i64 a0.Complex.Prime, V.isl (a0.Complex.Dims.map Enc.enc), V.isl (a0.Complex.Maps.map Enc.enc), V.isl (a0.Levels.map Enc.enc)], V.iptr [V.int .i64 a1]] = some (V.int .i64 u) := s183 a2 a0.Complex a0 a1 gu
  obtain ⟨q, gq, hF⟩ := bS hF
  have wq := chk_w gq
  obtain ⟨v, gv, hF⟩ := bS hF
  have wv : ans A 183 [V.int .i64 q, V.iptr [V.int .i64 a0.Complex.Prime, V.isl (a0.Complex.Dims.map Enc.enc), V.isl (a0.Complex.Maps.map Enc.enc)], V.iptr [V.int .i64 a0.Complex.Prime, V.isl (a0.Complex.Dims.map Enc.enc), V.isl (a0.Complex.Maps.map Enc.enc), V.isl (a0.Levels.map Enc.enc)], V.iptr [V.int .i64 a1]] = some (V.int .i64 v) := s183 q a0.Complex a0 a1 gv
  have wr := chk_w hF
  simp only [simprocAttr, R0, opEv, fillV, mapO, mapS, b161, hl_0, h0_0, h1_0, h2_0, wu, wq, wv, wr]
  exact fin_ret (by simp only [simprocAttr, R0, fn_out, p161, Rs.ev, mapO, mapS, hl_0])
def F162_2_B (a0 : GFiltered) (o1_1 : List (List Int)) (v13_1 : Int) (f1 : Int → Int → Option Int) (v17_2 : Int) (o2_2 : (List Int)) : Option (((List Int)) ⊕ ((List Int))) :=
  (f1 v13_1 v17_2).bind fun x11 =>
(app 8 o2_2 [x11]).bind fun l14 =>
some (.inl l14)
def F162_2_D (a0 : GFiltered) (o1_1 : List (List Int)) (v13_1 : Int) (f1 : Int → Int → Option Int) (v17_2 : Int) (o2_2 : (List Int)) : Option ((List Int)) :=
  some o2_2
def F162_1_B (a0 : GFiltered) (f1 : Int → Int → Option Int) (v13_1 : Int) (o1_1 : (List (List Int))) : Option (((List (List Int))) ⊕ ((List (List Int)))) :=
  (forR 0 6 (F162_2_B a0 o1_1 v13_1 f1) (F162_2_D a0 o1_1 v13_1 f1) ([] : (List Int))).bind fun zo2_2 =>
(app 24 o1_1 [zo2_2]).bind fun l17 =>
some (.inl l17)
def F162_1_D (a0 : GFiltered) (f1 : Int → Int → Option Int) (v13_1 : Int) (o1_1 : (List (List Int))) : Option ((List (List Int))) :=
  some o1_1
def F162 (a0 : GFiltered) (f1 : Int → Int → Option Int) : Option (List (List Int)) :=
  (forR 0 (a0.Levels.length : Int) (F162_1_B a0 f1) (F162_1_D a0 f1) ([] : (List (List Int)))).bind fun zo1_1 =>
  some zo1_1
theorem d162 (a0 : GFiltered) (f1 : Int → Int → Option Int) {vf1 : V} (hf1 : Clo2 A vf1 f1) {r : List (List Int)} (hF : F162 a0 f1 = some r) : ∃ v h', res A 162 [(eF a0), vf1] Heap.empty = some (v, h') ∧ ∃ K, Deep.rep h' v r K := by
  refine res_dp (f := p162) rfl rfl rfl fun e hl he => ?_
  have h0_0 : e.at 0 = (eF a0) := he 0 _ rfl
  have h1_0 : e.at 1 = vf1 := he 1 _ rfl
  obtain ⟨g_f1, fs_f1, cs_f1, hv_f1, hc_f1⟩ := id hf1
  have hl_0 : e.length = 34 := hl
  clear he hl
  show W A b162 e ⟨[], 0⟩ _
  unfold F162 at hF
  obtain ⟨t, gt, hF⟩ := bS hF
  have hE := Option.some.inj hF; subst hE
  have ws : ans A 89 [V.isl (a0.Levels.map Enc.enc)] = some (V.int .i64 (a0.Levels.length : Int)) := s89 a0.Levels rfl
  simp only [simprocAttr, R0, opEv, fillV, mapO, mapS, b162, hl_0, h0_0, h1_0, ws]
  show W A (.block 0 (.loop true b162_1)) _ _ _
  rw [W_block]
  refine W_forR gt _ rfl (fun i s e h => ∃ v, ∃ K : Ks, Deep.rep h v s K ∧ e.length = 34 ∧ e.at 1 = vf1 ∧ e.at 5 = v ∧ e.at 12 = V.int .i64 (a0.Levels.length : Int) ∧ e.at 13 = V.int .i64 i) ?_ ?_ ?_
  · refine ⟨V.sl 1 1 0 0 1, fun k => k = 1 ∨ False, rep_at (α := List Int) (l := []) (K := fun _ => False) (h := ⟨[(0, none), (1, some [])], 2⟩) rfl (fun _ x => x) (fun x => x), ?_⟩
    simp only [simprocAttr, R0, hl_0, h0_0, h1_0]
  · clear hl_0 h0_0 h1_0
    rintro i s e ⟨E, c⟩ ⟨v, K, g1, hl_1, h1_1, h5_1, h12_1, h13_1⟩ hlt hw s' ho
    unfold F162_1_B at ho
    obtain ⟨row, grow, ho⟩ := bS ho
    obtain ⟨l17, gl17, ho⟩ := bS ho
    have hE := Option.some.inj ho; subst hE
    simp only [simprocAttr, R0, opEv, fillV, mapO, mapS, b162_1, hl_1, h1_1, h5_1, h12_1, h13_1, eq_true hlt, hw]
    show W A (.block 2 (.loop true b162_2)) _ _ _
    rw [W_block]
    refine W_forR grow _ rfl (fun j r e h => ∃ w, ∃ K1 : Ks, Deep.rep h v s K ∧ Deep.rep h w r K1 ∧ (∀ k, K k → ¬ K1 k) ∧ e.length = 34 ∧ e.at 1 = vf1 ∧ e.at 5 = v ∧ e.at 6 = V.int .i64 i ∧ e.at 7 = w ∧ e.at 12 = V.int .i64 (a0.Levels.length : Int) ∧ e.at 13 = V.int .i64 i ∧ e.at 17 = V.int .i64 j) ?_ ?_ ?_
    · refine ⟨V.sl E.length c 0 0 1, fun k => k = E.length, Deep.frame g1 fun k q => List.getElem?_append_left (Deep.bd g1 q), int_row (l := []) (get_last _ _) (fun k => Iff.rfl), fun k q e => by have := Deep.bd g1 q; simp only at this; omega, ?_⟩
      simp only [simprocAttr, R0, hl_1, h1_1, h5_1, h12_1, h13_1]
    · clear hl_1 h1_1 h5_1 h12_1 h13_1
      rintro j r e ⟨E2, c2⟩ ⟨w, K1, f1', f2, f3, hl_1, h1_1, h5_1, h6_1, h7_1, h12_1, h13_1, h17_1⟩ hlt2 hw2 s2 ho2
      unfold F162_2_B at ho2
      obtain ⟨x11, gx11, ho2⟩ := bS ho2
      have w12a : ∀ h, mapO (frz h 16) (fs_f1 ++ [V.int .i64 i, V.int .i64 j] ++ cs_f1) = some (fs_f1 ++ [V.int .i64 i, V.int .i64 j] ++ cs_f1) := fun h => hc_f1.zf i j h
      have w12b : List.all (fs_f1 ++ [V.int .i64 i, V.int .i64 j] ++ cs_f1) (refless 16) = true := hc_f1.zr i j
      have w12c : ans A g_f1 (fs_f1 ++ [V.int .i64 i, V.int .i64 j] ++ cs_f1) = some (V.int .i64 x11) := hc_f1.ka i j _ gx11
      obtain ⟨l14, gl14, ho2⟩ := bS ho2
      have hE := Option.some.inj ho2; subst hE
      have pre : ∀ (y : Nat × Option (List V)) k, k < E2.length → (E2 ++ [y])[k]? = E2[k]? := fun y k q => List.getElem?_append_left q
      obtain ⟨w', E', c', K', p1, p2, p3, p4, p5⟩ := append_rep (E := E2 ++ [(c2, some [V.int .i64 x11])]) (c := c2 + 1) (Deep.frame f2 fun k q => pre _ k (Deep.bd f2 q)) (show Deep.rep _ (V.int .i64 x11) x11 (fun _ => False) from ⟨rfl, fun _ x => x⟩) (fun _ _ x => x) gl14
      rw [le1] at p3 p4 p5
      simp only [simprocAttr, R0, opEv, fillV, mapO, mapS, b162_2, hl_1, h1_1, h5_1, h6_1, h7_1, h12_1, h13_1, h17_1, eq_true hlt2, hw2, hv_f1, w12a, w12b, w12c, get_last, p1]
      refine And.intro rfl ⟨w', K', Deep.frame f1' fun k q => (p4 k (by have := Deep.bd f1' q; simp only at this; omega) (f3 k q)).trans (pre _ k (Deep.bd f1' q)), p2, fun k q x => ?_, ?_⟩
      · rcases p3 k x with y | y | y
        · exact f3 k q y
        · exact y
        · have := Deep.bd f1' q; simp only at this; omega
      · simp only [simprocAttr, R0, hl_1, h1_1, h5_1, h6_1, h7_1, h12_1, h13_1, h17_1, hw2, hv_f1]
    · clear hl_1 h1_1 h5_1 h12_1 h13_1
      rintro j r e ⟨E2, c2⟩ ⟨w, K1, f1', f2, f3, hl_1, h1_1, h5_1, h6_1, h7_1, h12_1, h13_1, h17_1⟩ hge2 t2 ho2
      unfold F162_2_D at ho2
      have hE := Option.some.inj ho2; subst hE
      obtain ⟨v1, v2⟩ := rep_one f2
      simp only [simprocAttr, R0, opEv, fillV, mapO, mapS, b162_2, hl_1, h1_1, h5_1, h6_1, h7_1, h12_1, h13_1, h17_1, eq_false hge2, hw, v1, v2, get_last]
      intro ht; subst ht
      have pre : ∀ (y : Nat × Option (List V)) k, k < E2.length → (E2 ++ [y])[k]? = E2[k]? := fun y k q => List.getElem?_append_left q
      obtain ⟨v', E', c', K', p1, p2, p3, p4, p5⟩ := append_rep (E := E2 ++ [(c2, some [w])]) (c := c2 + 1) (Deep.frame f1' fun k q => pre _ k (Deep.bd f1' q)) (Deep.frame f2 fun k q => pre _ k (Deep.bd f2 q)) f3 gl17
      simp only [simprocAttr, R0, opEv, fillV, mapO, mapS, hl_1, h1_1, h5_1, h6_1, h7_1, h12_1, h13_1, h17_1, hw, p1]
      refine And.intro rfl ⟨v', K', p2, ?_⟩
      simp only [simprocAttr, R0, hl_1, h1_1, h5_1, h6_1, h7_1, h12_1, h13_1, h17_1, hv_f1]
  · clear hl_0 h0_0 h1_0
    rintro i s e ⟨E, c⟩ ⟨v, K, g1, hl_1, h1_1, h5_1, h12_1, h13_1⟩ hge t1 ho
    unfold F162_1_D at ho
    have hE := Option.some.inj ho; subst hE
    simp only [simprocAttr, R0, opEv, fillV, mapO, mapS, b162_1, hl_1, h1_1, h5_1, h12_1, h13_1, eq_false hge]
    intro ht; subst ht
    refine And.intro (fun _ => trivial) ⟨v, ?_, K, g1⟩
    simp only [simprocAttr, R0, fn_out, p162, Rs.ev, mapO, mapS, hl_1, h5_1]
theorem x162 (a0 : GFiltered) (f1 : Int → Int → Option Int) {vf1 : V} (hf1 : Clo2 A vf1 f1) {r : List (List Int)} (hF : F162 a0 f1 = some r) : tans A 162 [1, 1] [(eF a0), vf1] = some (Enc.enc r) := tans_of_deep (α := List (List Int)) (by decide) (d162 a0 f1 hf1 hF)
def F185_1_B (a0 : GFiltered) (a2 : Int) (x8 : List (List Int)) (v30_1 : Int) (o1_1 : (List (List Int))) : Option (((List (List Int))) ⊕ ((List (List Int)))) :=
  (getI x8 v30_1).bind fun x14 =>
(chk (a2 + 1)).bind fun x16 =>
(F91 a0.Complex x16 x14).bind fun x17 =>
(app 24 o1_1 [x17]).bind fun l20 =>
some (.inl l20)
def F185_1_D (a0 : GFiltered) (a2 : Int) (x8 : List (List Int)) (v30_1 : Int) (o1_1 : (List (List Int))) : Option ((List (List Int))) :=
  some o1_1
def F185 (a0 : GFiltered) (a1 : Int) (a2 : Int) (a3 : Int) : Option (List (List Int)) :=
  (chk (a1 - 1)).bind fun x1 =>
  (chk (a3 - 1)).bind fun x2 =>
  (F184 a0 x1 a2 x2).bind fun x3 =>
  (chk (a2 + 1)).bind fun x5 =>
  (chk (a3 + a1)).bind fun x6 =>
  (chk (x6 - 1)).bind fun x7 =>
  (F184 a0 x1 x5 x7).bind fun x8 =>
  (forR 0 (x8.length : Int) (F185_1_B a0 a2 x8) (F185_1_D a0 a2 x8) x3).bind fun zo1_1 =>
  (F133 a0.Complex.Prime zo1_1).bind fun x22 =>
  some x22
def I185_1 (a0 : GFiltered) (a2 : Int) (x8 : List (List Int))  (v30_1 : Int) (o1_1 : (List (List Int))) (e : Env) (h : Heap) : Prop :=
  ∃ u11 k12 : Nat, h = ⟨[(0, none), (u11, some (o1_1.map Enc.enc))], k12⟩ ∧ e.length = 49 ∧ e.at 2 = V.int .i64 a2 ∧ e.at 4 = V.iptr [V.int .i64 a0.Complex.Prime, V.isl (a0.Complex.Dims.map Enc.enc), V.isl (a0.Complex.Maps.map Enc.enc), V.isl (a0.Levels.map Enc.enc)] ∧ e.at 9 = V.sl 1 u11 0 o1_1.length 1 ∧ e.at 28 = V.isl (x8.map Enc.enc) ∧ e.at 29 = V.int .i64 (x8.length : Int) ∧ e.at 30 = V.int .i64 v30_1
def P185_1 (a0 : GFiltered) (a2 : Int) (x8 : List (List Int))  (zo1_1 : (List (List Int))) (x : Ex) (e : Env) (h : Heap) : Prop :=
  x = .normal ∧ ∃ u11 k12 : Nat, h = ⟨[(0, none), (u11, some (zo1_1.map Enc.enc))], k12⟩ ∧ e.length = 49 ∧ e.at 4 = V.iptr [V.int .i64 a0.Complex.Prime, V.isl (a0.Complex.Dims.map Enc.enc), V.isl (a0.Complex.Maps.map Enc.enc), V.isl (a0.Levels.map Enc.enc)] ∧ e.at 9 = V.sl 1 u11 0 zo1_1.length 1
theorem l185_1 (a0 : GFiltered) (a2 : Int) (x8 : List (List Int))   {lo : Int} {s : (List (List Int))} {t : (List (List Int))} (hF : forR lo (x8.length : Int) (F185_1_B a0 a2 x8) (F185_1_D a0 a2 x8) s = some t) {e : Env} {h : Heap} (hI : I185_1 a0 a2 x8  lo s e h) : W A c185_1 e h (P185_1 a0 a2 x8  t) := by
  show W A (.block 0 (.loop false b185_1)) e h _
  rw [W_block]
  refine W_forR hF 2 (by obtain ⟨_, _, rfl, _⟩ := hI; rfl) (I185_1 a0 a2 x8 ) hI ?_ ?_
  · rintro v30_1 o1_1 e h ⟨u11, k12, rfl, h_10⟩ hlt hw o ho
    unfold F185_1_B at ho
    obtain ⟨x14, gx14, ho⟩ := bS ho
    obtain ⟨w15a, w15b⟩ := getI_w gx14
    obtain ⟨x16, gx16, ho⟩ := bS ho
    have wx16 := chk_w gx16
    obtain ⟨x17, gx17, ho⟩ := bS ho
    have w18 : ans A 91 [(eC a0.Complex), V.int .i64 x16, V.isl (x14.map Enc.enc)] = some (V.isl (x17.map Enc.enc)) := s91 a0.Complex x16 x14  gx17
    obtain ⟨l20, gl20, ho⟩ := bS ho
    have w19 := fun a b c d e => appendV_w (α := List Int) (n := o1_1.length) (m := 1) (ds := [V.isl (x17.map Enc.enc)]) gl20 (by first | rfl | simp) (by first | rfl | simp) rfl a b c d e
    have w19l := app_len gl20
    cases ho
    simp only [simprocAttr, R0, opEv, fillV, mapO, mapS, b185_1, h_10, eq_true hlt, hw, w15a, w15b, wx16, w18, w19]
    refine And.intro rfl (Exists.intro _ ( Exists.intro _ ( And.intro rfl ?_)))
    simp only [simprocAttr, R0, h_10, eq_true hlt, hw, w15a, w15b, wx16, w18, w19]
  · rintro v30_1 o1_1 e h ⟨u11, k12, rfl, h_10⟩ hge t1 ho
    unfold F185_1_D at ho
    cases ho
    simp only [simprocAttr, R0, opEv, fillV, mapO, mapS, b185_1, h_10, eq_false hge]
    intro ht; subst ht
    refine And.intro rfl (Exists.intro _ ( Exists.intro _ ( And.intro rfl ?_)))
    simp only [simprocAttr, R0, h_10, eq_false hge]
theorem s185 (a0 : GFiltered) (a1 : Int) (a2 : Int) (a3 : Int)   {r : List (List Int)} (hF : F185 a0 a1 a2 a3 = some r) : ans A 185 [(eF a0), V.int .i64 a1, V.int .i64 a2, V.int .i64 a3] = some (Enc.enc r) := by
  refine ans_of (f := p185) rfl rfl rfl fun e hl he => ?_
  have h0_0 : e.at 0 = (eF a0) := he 0 _ rfl
  have h1_0 : e.at 1 = V.int .i64 a1 := he 1 _ rfl
  have h2_0 : e.at 2 = V.int .i64 a2 := he 2 _ rfl
  have h3_0 : e.at 3 = V.int .i64 a3 := he 3 _ rfl
  have hl_0 : e.length = 49 := hl
  clear he hl
  show W A b185 e ⟨[], 0⟩ _
  unfold F185 at hF
  obtain ⟨x1, gx1, hF⟩ := bS hF
  have wx1 := chk_w gx1
  obtain ⟨x2, gx2, hF⟩ := bS hF
  have wx2 := chk_w gx2
  obtain ⟨x3, gx3, hF⟩ := bS hF
  have w4 : tans A 184 [1] [(eF a0), V.int .i64 x1, V.int .i64 a2, V.int .i64 x2] = some (V.isl (x3.map Enc.enc)) := t184 a0 x1 a2 x2  gx3
  have w4t := thaw_one (α := List Int) x3
  obtain ⟨x5, gx5, hF⟩ := bS hF
  have wx5 := chk_w gx5
  obtain ⟨x6, gx6, hF⟩ := bS hF
  have wx6 := chk_w gx6
  obtain ⟨x7, gx7, hF⟩ := bS hF
  have wx7 := chk_w gx7
  obtain ⟨x8, gx8, hF⟩ := bS hF
  have w9 : ans A 184 [(eF a0), V.int .i64 x1, V.int .i64 x5, V.int .i64 x7] = some (V.isl (x8.map Enc.enc)) := s184 a0 x1 x5 x7  gx8
  obtain ⟨zo1_1, gt21, hF⟩ := bS hF
  simp only [simprocAttr, R0, opEv, fillV, mapO, mapS, b185, hl_0, h0_0, h1_0, h2_0, h3_0, wx1, wx2, w4, w4t, wx5, wx6, wx7, w9]
  refine W.mono (l185_1 a0 a2 x8   gt21 (Exists.intro _ ( Exists.intro _ ( And.intro rfl ?_)))) ?_
  · simp only [simprocAttr, R0, hl_0, h0_0, h1_0, h2_0, h3_0, wx1, wx2, w4, w4t, wx5, wx6, wx7, w9]
  rintro _ e _ ⟨rfl, u11, k12, rfl, h_13⟩
  obtain ⟨x22, gx22, hF⟩ := bS hF
  have w23 : ans A 133 [V.int .i64 a0.Complex.Prime, V.isl (zo1_1.map Enc.enc)] = some (V.isl (x22.map Enc.enc)) := s133 a0.Complex.Prime zo1_1  gx22
  cases hF
  simp only [simprocAttr, R0, opEv, fillV, mapO, mapS, h_13, takes (α := List Int) zo1_1, w23]
  exact fin_ret (by simp only [simprocAttr, R0, fn_out, p185, Rs.ev, mapO, mapS, take_len_self, h_13, takes (α := List Int) zo1_1, w23])
def F169 (a0 : GFiltered) (a1 : Int) (a2 : Int) (a3 : Int) : Option Int :=
  (F184 a0 a1 a2 a3).bind fun x1 =>
  (F185 a0 a1 a2 a3).bind fun x5 =>
  (chk ((x1.length : Int) - (x5.length : Int))).bind fun x9 =>
  some x9
theorem s169 (a0 : GFiltered) (a1 : Int) (a2 : Int) (a3 : Int)   {r : Int} (hF : F169 a0 a1 a2 a3 = some r) : ans A 169 [(eF a0), V.int .i64 a1, V.int .i64 a2, V.int .i64 a3] = some (Enc.enc r) := by
  refine ans_of (f := p169) rfl rfl rfl fun e hl he => ?_
  have h0_0 : e.at 0 = (eF a0) := he 0 _ rfl
  have h1_0 : e.at 1 = V.int .i64 a1 := he 1 _ rfl
  have h2_0 : e.at 2 = V.int .i64 a2 := he 2 _ rfl
  have h3_0 : e.at 3 = V.int .i64 a3 := he 3 _ rfl
  have hl_0 : e.length = 22 := hl
  clear he hl
  show W A b169 e ⟨[], 0⟩ _
  unfold F169 at hF
  obtain ⟨x1, gx1, hF⟩ := bS hF
  have w2 : ans A 184 [(eF a0), V.int .i64 a1, V.int .i64 a2, V.int .i64 a3] = some (V.isl (x1.map Enc.enc)) := s184 a0 a1 a2 a3  gx1
  have w4 : ans A 89 [V.isl (x1.map Enc.enc)] = some (V.int .i64 (x1.length : Int)) := s89 x1  rfl
  obtain ⟨x5, gx5, hF⟩ := bS hF
  have w6 : ans A 185 [(eF a0), V.int .i64 a1, V.int .i64 a2, V.int .i64 a3] = some (V.isl (x5.map Enc.enc)) := s185 a0 a1 a2 a3  gx5
  have w8 : ans A 89 [V.isl (x5.map Enc.enc)] = some (V.int .i64 (x5.length : Int)) := s89 x5  rfl
  obtain ⟨x9, gx9, hF⟩ := bS hF
  have wx9 := chk_w gx9
  cases hF
  simp only [simprocAttr, R0, opEv, fillV, mapO, mapS, b169, hl_0, h0_0, h1_0, h2_0, h3_0, w2, w4, w6, w8, wx9]
  exact fin_ret (by simp only [simprocAttr, R0, fn_out, p169, Rs.ev, mapO, mapS, take_len_self, hl_0, h0_0, h1_0, h2_0, h3_0, w2, w4, w6, w8, wx9])
def F163 (a0 : Int) (a1 : Int) (d0 : GFiltered) (d1 : Int) : Option Int :=
  (F169 d0 d1 a0 a1).bind fun x1 =>
  some x1
theorem s163 (a0 : Int) (a1 : Int) (d0 : GFiltered) (d1 : Int)   {r : Int} (hF : F163 a0 a1 d0 d1 = some r) : ans A 163 [V.int .i64 a0, V.int .i64 a1, V.iptr [V.int .i64 d0.Complex.Prime, V.isl (d0.Complex.Dims.map Enc.enc), V.isl (d0.Complex.Maps.map Enc.enc), V.isl (d0.Levels.map Enc.enc)], V.iptr [V.int .i64 d1]] = some (Enc.enc r) := by
  refine ans_of (f := p163) rfl rfl rfl fun e hl he => ?_
  have h0_0 : e.at 0 = V.int .i64 a0 := he 0 _ rfl
  have h1_0 : e.at 1 = V.int .i64 a1 := he 1 _ rfl
  have h2_0 : e.at 2 = V.iptr [V.int .i64 d0.Complex.Prime, V.isl (d0.Complex.Dims.map Enc.enc), V.isl (d0.Complex.Maps.map Enc.enc), V.isl (d0.Levels.map Enc.enc)] := he 2 _ rfl
  have h3_0 : e.at 3 = V.iptr [V.int .i64 d1] := he 3 _ rfl
  have hl_0 : e.length = 12 := hl
  clear he hl
  show W A b163 e ⟨[], 0⟩ _
  unfold F163 at hF
  obtain ⟨x1, gx1, hF⟩ := bS hF
  have w2 : ans A 169 [(eF d0), V.int .i64 d1, V.int .i64 a0, V.int .i64 a1] = some (V.int .i64 x1) := s169 d0 d1 a0 a1  gx1
  cases hF
  simp only [simprocAttr, R0, opEv, fillV, mapO, mapS, b163, hl_0, h0_0, h1_0, h2_0, h3_0, w2]
  exact fin_ret (by simp only [simprocAttr, R0, fn_out, p163, Rs.ev, mapO, mapS, take_len_self, hl_0, h0_0, h1_0, h2_0, h3_0, w2])
def F164_1_B (a0 : List (List Int)) (a1 : List (List Int)) (f2 : (List Int) → (List Int) → Option Bool) (v17_1 : Int) (s : Unit) : Option ((Unit) ⊕ ((Unit) ⊕ Bool)) :=
  (getI a0 v17_1).bind fun x5 =>
(getI a1 v17_1).bind fun x7 =>
(f2 x5 x7).bind fun x9 =>
if x9 = true then
  some (.inl ())
else
  some (.inr (.inr false))
def F164_1_D (a0 : List (List Int)) (a1 : List (List Int)) (f2 : (List Int) → (List Int) → Option Bool) (v17_1 : Int) (s : Unit) : Option ((Unit) ⊕ Bool) :=
  some (.inl ())
def F164 (a0 : List (List Int)) (a1 : List (List Int)) (f2 : (List Int) → (List Int) → Option Bool) : Option Bool :=
  if (a0.length : Int) = (a1.length : Int) then
    (forR 0 (a0.length : Int) (F164_1_B a0 a1 f2) (F164_1_D a0 a1 f2) ()).bind fun t11 => match t11 with
      | .inl _ =>
        some true
      | .inr r12 => some r12
  else
    some false
def I164_1 (a0 : List (List Int)) (a1 : List (List Int)) (f2 : (List Int) → (List Int) → Option Bool) (vf2 : V) (v17_1 : Int) (s : Unit) (e : Env) (h : Heap) : Prop :=
  ∃ k3 : Nat, h = ⟨[], k3⟩ ∧ e.length = 32 ∧ e.at 1 = V.isl (a1.map Enc.enc) ∧ e.at 2 = vf2 ∧ e.at 15 = V.isl (a0.map Enc.enc) ∧ e.at 16 = V.int .i64 (a0.length : Int) ∧ e.at 17 = V.int .i64 v17_1
def P164_1 (a0 : List (List Int)) (a1 : List (List Int)) (f2 : (List Int) → (List Int) → Option Bool) (vf2 : V) (t : (Unit) ⊕ Bool) (x : Ex) (e : Env) (h : Heap) : Prop :=
  match t with
  | .inl _ => x = .normal ∧ ∃ k3 : Nat, h = ⟨[], k3⟩ ∧ e.length = 32
  | .inr r => x = .ret ∧ Fin p164 (Enc.enc r) .ret e h
theorem l164_1 (a0 : List (List Int)) (a1 : List (List Int)) (f2 : (List Int) → (List Int) → Option Bool) (vf2 : V) (hf2 : Clo2 A vf2 f2) {lo : Int} {s : Unit} {t : (Unit) ⊕ Bool} (hF : forR lo (a0.length : Int) (F164_1_B a0 a1 f2) (F164_1_D a0 a1 f2) s = some t) {e : Env} {h : Heap} (hI : I164_1 a0 a1 f2 vf2 lo s e h) : W A c164_1 e h (P164_1 a0 a1 f2 vf2 t) := by
  obtain ⟨g_f2, fs_f2, cs_f2, hv_f2, hc_f2⟩ := id hf2
  show W A (.block 0 (.loop false b164_1)) e h _
  rw [W_block]
  refine W_forR hF 0 (by obtain ⟨_, rfl, _⟩ := hI; rfl) (I164_1 a0 a1 f2 vf2) hI ?_ ?_
  · rintro v17_1 _ e h ⟨k3, rfl, h_2⟩ hlt hw o ho
    unfold F164_1_B at ho
    obtain ⟨x5, gx5, ho⟩ := bS ho
    obtain ⟨w6a, w6b⟩ := getI_w gx5
    obtain ⟨x7, gx7, ho⟩ := bS ho
    obtain ⟨w8a, w8b⟩ := getI_w gx7
    obtain ⟨x9, gx9, ho⟩ := bS ho
    have w10a : ∀ h, mapO (frz h 16) (fs_f2 ++ [V.isl (x5.map Enc.enc), V.isl (x7.map Enc.enc)] ++ cs_f2) = some (fs_f2 ++ [V.isl (x5.map Enc.enc), V.isl (x7.map Enc.enc)] ++ cs_f2) := fun h => hc_f2.zf x5 x7 h
    have w10b : List.all (fs_f2 ++ [V.isl (x5.map Enc.enc), V.isl (x7.map Enc.enc)] ++ cs_f2) (refless 16) = true := hc_f2.zr x5 x7
    have w10c : ans A g_f2 (fs_f2 ++ [V.isl (x5.map Enc.enc), V.isl (x7.map Enc.enc)] ++ cs_f2) = some (V.bool x9) := hc_f2.ka x5 x7 _ gx9
    cases x9 with
    | true =>
      rw [if_pos rfl] at ho
      cases ho
      simp only [simprocAttr, R0, opEv, fillV, mapO, mapS, b164_1, h_2, eq_true hlt, hw, w6a, w6b, w8a, w8b, hv_f2, w10a, w10b, w10c]
      refine And.intro rfl (Exists.intro _ ( And.intro rfl ?_))
      simp only [simprocAttr, R0, h_2, eq_true hlt, hw, w6a, w6b, w8a, w8b, hv_f2, w10a, w10b, w10c]
    | false =>
      rw [if_neg Bool.false_ne_true] at ho
      cases ho
      simp only [simprocAttr, R0, opEv, fillV, mapO, mapS, b164_1, h_2, eq_true hlt, hw, w6a, w6b, w8a, w8b, hv_f2, w10a, w10b, w10c]
      intro ht; subst ht
      simp only [simprocAttr, RR, RB]
      exact And.intro rfl (fin_ret (by simp only [simprocAttr, R0, fn_out, p164, Rs.ev, mapO, mapS, take_len_self, h_2, eq_true hlt, hw, w6a, w6b, w8a, w8b, hv_f2, w10a, w10b, w10c]))
  · rintro v17_1 _ e h ⟨k3, rfl, h_2⟩ hge t1 ho
    unfold F164_1_D at ho
    cases ho
    simp only [simprocAttr, R0, opEv, fillV, mapO, mapS, b164_1, h_2, eq_false hge]
    intro ht; subst ht
    refine And.intro rfl (Exists.intro _ ( And.intro rfl ?_))
    simp only [simprocAttr, R0, h_2, eq_false hge]
theorem s164 (a0 : List (List Int)) (a1 : List (List Int)) (f2 : (List Int) → (List Int) → Option Bool) {vf2 : V} (hf2 : Clo2 A vf2 f2) {r : Bool} (hF : F164 a0 a1 f2 = some r) : ans A 164 [V.isl (a0.map Enc.enc), V.isl (a1.map Enc.enc), vf2] = some (Enc.enc r) := by
  refine ans_of (f := p164) rfl rfl rfl fun e hl he => ?_
  have h0_0 : e.at 0 = V.isl (a0.map Enc.enc) := he 0 _ rfl
  have h1_0 : e.at 1 = V.isl (a1.map Enc.enc) := he 1 _ rfl
  have h2_0 : e.at 2 = vf2 := he 2 _ rfl
  obtain ⟨g_f2, fs_f2, cs_f2, hv_f2, hc_f2⟩ := id hf2
  have hl_0 : e.length = 32 := hl
  clear he hl
  have h_0 := And.intro hl_0 (And.intro h0_0 (And.intro h1_0 h2_0))
  show W A b164 e ⟨[], 0⟩ _
  unfold F164 at hF
  by_cases c1 : (a0.length : Int) = (a1.length : Int)
  · rw [if_pos c1] at hF
    obtain ⟨t11, gt11, hF⟩ := bS hF
    rcases t11 with _ | r12
    · dsimp only at hF
      simp only [simprocAttr, R0, opEv, fillV, mapO, mapS, b164, h_0, eq_true c1]
      refine W.mono (l164_1 a0 a1 f2 vf2 hf2 gt11 (Exists.intro _ ( And.intro rfl ?_))) ?_
      · simp only [simprocAttr, R0, h_0, eq_true c1]
      rintro _ e _ ⟨rfl, k3, rfl, hl_4⟩
      cases hF
      simp only [simprocAttr, R0, opEv, fillV, mapO, mapS, hl_4, eq_true c1]
      exact fin_ret (by simp only [simprocAttr, R0, fn_out, p164, Rs.ev, mapO, mapS, take_len_self, hl_4, eq_true c1])
    · dsimp only at hF
      cases hF
      simp only [simprocAttr, R0, opEv, fillV, mapO, mapS, b164, h_0, eq_true c1]
      refine W.mono (l164_1 a0 a1 f2 vf2 hf2 gt11 (Exists.intro _ ( And.intro rfl ?_))) ?_
      · simp only [simprocAttr, R0, h_0, eq_true c1]
      rintro _ e h ⟨rfl, hq⟩
      simp only [simprocAttr, RR, RB]
      exact hq
  · rw [if_neg c1] at hF
    cases hF
    simp only [simprocAttr, R0, opEv, fillV, mapO, mapS, b164, h_0, eq_false c1]
    exact fin_ret (by simp only [simprocAttr, R0, fn_out, p164, Rs.ev, mapO, mapS, take_len_self, h_0, eq_false c1])
def F165_1_B (a0 : List Int) (a1 : List Int) (v13_1 : Int) (s : Unit) : Option ((Unit) ⊕ ((Unit) ⊕ Bool)) :=
  (getI a0 v13_1).bind fun x5 =>
(getI a1 v13_1).bind fun x7 =>
if x5 = x7 then
  some (.inl ())
else
  some (.inr (.inr false))
def F165_1_D (a0 : List Int) (a1 : List Int) (v13_1 : Int) (s : Unit) : Option ((Unit) ⊕ Bool) :=
  some (.inl ())
def F165 (a0 : List Int) (a1 : List Int) : Option Bool :=
  if (a0.length : Int) = (a1.length : Int) then
    (forR 0 (a0.length : Int) (F165_1_B a0 a1) (F165_1_D a0 a1) ()).bind fun t10 => match t10 with
      | .inl _ =>
        some true
      | .inr r11 => some r11
  else
    some false
def I165_1 (a0 : List Int) (a1 : List Int)  (v13_1 : Int) (s : Unit) (e : Env) (h : Heap) : Prop :=
  ∃ k3 : Nat, h = ⟨[], k3⟩ ∧ e.length = 26 ∧ e.at 0 = V.isl (a0.map Enc.enc) ∧ e.at 1 = V.isl (a1.map Enc.enc) ∧ e.at 12 = V.int .i64 (a0.length : Int) ∧ e.at 13 = V.int .i64 v13_1
def P165_1 (a0 : List Int) (a1 : List Int)  (t : (Unit) ⊕ Bool) (x : Ex) (e : Env) (h : Heap) : Prop :=
  match t with
  | .inl _ => x = .normal ∧ ∃ k3 : Nat, h = ⟨[], k3⟩ ∧ e.length = 26
  | .inr r => x = .ret ∧ Fin p165 (Enc.enc r) .ret e h
theorem l165_1 (a0 : List Int) (a1 : List Int)   {lo : Int} {s : Unit} {t : (Unit) ⊕ Bool} (hF : forR lo (a0.length : Int) (F165_1_B a0 a1) (F165_1_D a0 a1) s = some t) {e : Env} {h : Heap} (hI : I165_1 a0 a1  lo s e h) : W A c165_1 e h (P165_1 a0 a1  t) := by
  show W A (.block 0 (.loop false b165_1)) e h _
  rw [W_block]
  refine W_forR hF 0 (by obtain ⟨_, rfl, _⟩ := hI; rfl) (I165_1 a0 a1 ) hI ?_ ?_
  · rintro v13_1 _ e h ⟨k3, rfl, h_2⟩ hlt hw o ho
    unfold F165_1_B at ho
    obtain ⟨x5, gx5, ho⟩ := bS ho
    obtain ⟨w6a, w6b⟩ := getI_w gx5
    obtain ⟨x7, gx7, ho⟩ := bS ho
    obtain ⟨w8a, w8b⟩ := getI_w gx7
    by_cases c9 : x5 = x7
    · rw [if_pos c9] at ho
      cases ho
      simp only [simprocAttr, R0, opEv, fillV, mapO, mapS, b165_1, h_2, eq_true hlt, hw, w6a, w6b, w8a, w8b, eq_true c9]
      refine And.intro rfl (Exists.intro _ ( And.intro rfl ?_))
      simp only [simprocAttr, R0, h_2, eq_true hlt, hw, w6a, w6b, w8a, w8b, eq_true c9]
    · rw [if_neg c9] at ho
      cases ho
      simp only [simprocAttr, R0, opEv, fillV, mapO, mapS, b165_1, h_2, eq_true hlt, hw, w6a, w6b, w8a, w8b, eq_false c9]
      intro ht; subst ht
      simp only [simprocAttr, RR, RB]
      exact And.intro rfl (fin_ret (by simp only [simprocAttr, R0, fn_out, p165, Rs.ev, mapO, mapS, take_len_self, h_2, eq_true hlt, hw, w6a, w6b, w8a, w8b, eq_false c9]))
  · rintro v13_1 _ e h ⟨k3, rfl, h_2⟩ hge t1 ho
    unfold F165_1_D at ho
    cases ho
    simp only [simprocAttr, R0, opEv, fillV, mapO, mapS, b165_1, h_2, eq_false hge]
    intro ht; subst ht
    refine And.intro rfl (Exists.intro _ ( And.intro rfl ?_))
    simp only [simprocAttr, R0, h_2, eq_false hge]
theorem s165 (a0 : List Int) (a1 : List Int)   {r : Bool} (hF : F165 a0 a1 = some r) : ans A 165 [V.isl (a0.map Enc.enc), V.isl (a1.map Enc.enc)] = some (Enc.enc r) := by
  refine ans_of (f := p165) rfl rfl rfl fun e hl he => ?_
  have h0_0 : e.at 0 = V.isl (a0.map Enc.enc) := he 0 _ rfl
  have h1_0 : e.at 1 = V.isl (a1.map Enc.enc) := he 1 _ rfl
  have hl_0 : e.length = 26 := hl
  clear he hl
  have h_0 := And.intro hl_0 (And.intro h0_0 h1_0)
  show W A b165 e ⟨[], 0⟩ _
  unfold F165 at hF
  by_cases c1 : (a0.length : Int) = (a1.length : Int)
  · rw [if_pos c1] at hF
    obtain ⟨t10, gt10, hF⟩ := bS hF
    rcases t10 with _ | r11
    · dsimp only at hF
      simp only [simprocAttr, R0, opEv, fillV, mapO, mapS, b165, h_0, eq_true c1]
      refine W.mono (l165_1 a0 a1   gt10 (Exists.intro _ ( And.intro rfl ?_))) ?_
      · simp only [simprocAttr, R0, h_0, eq_true c1]
      rintro _ e _ ⟨rfl, k3, rfl, hl_4⟩
      cases hF
      simp only [simprocAttr, R0, opEv, fillV, mapO, mapS, hl_4, eq_true c1]
      exact fin_ret (by simp only [simprocAttr, R0, fn_out, p165, Rs.ev, mapO, mapS, take_len_self, hl_4, eq_true c1])
    · dsimp only at hF
      cases hF
      simp only [simprocAttr, R0, opEv, fillV, mapO, mapS, b165, h_0, eq_true c1]
      refine W.mono (l165_1 a0 a1   gt10 (Exists.intro _ ( And.intro rfl ?_))) ?_
      · simp only [simprocAttr, R0, h_0, eq_true c1]
      rintro _ e h ⟨rfl, hq⟩
      simp only [simprocAttr, RR, RB]
      exact hq
  · rw [if_neg c1] at hF
    cases hF
    simp only [simprocAttr, R0, opEv, fillV, mapO, mapS, b165, h_0, eq_false c1]
    exact fin_ret (by simp only [simprocAttr, R0, fn_out, p165, Rs.ev, mapO, mapS, take_len_self, h_0, eq_false c1])
end
end Rv
