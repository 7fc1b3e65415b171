/- What the abstract code answers: typed functions, part 1. -/
import Derived.Test.YtnioomfbbmjpaaaCmp
namespace Rv
set_option linter.unusedVariables false
set_option linter.unusedSimpArgs false
set_option maxRecDepth 100000
noncomputable section
abbrev eC (x : GComplex) : V := V.agg [V.int .i64 x.Prime, V.isl (x.Dims.map Enc.enc), V.isl (x.Maps.map Enc.enc)]
theorem R1 : type_of% (And.intro RR (And.intro RB (And.intro RZ (And.intro @ii_eq @nn_eq)))) := And.intro RR (And.intro RB (And.intro RZ (And.intro @ii_eq @nn_eq)))
theorem R0 : type_of% (And.intro R1 RE) := And.intro R1 RE
def F30_1_B (a0 : List Int) (a1 : List Int) (v5_1 : Int) (s : Unit) : Option ((Unit) ⊕ ((Unit) ⊕ Bool)) :=
  (getI a0 v5_1).bind fun x5 =>
(getI a1 v5_1).bind fun x7 =>
if x5 = x7 then
  some (.inl ())
else
  some (.inr (.inr false))
def F30_1_D (a0 : List Int) (a1 : List Int) (v5_1 : Int) (s : Unit) : Option ((Unit) ⊕ Bool) :=
  some (.inl ())
def F30 (a0 : List Int) (a1 : List Int) : Option Bool :=
  if (a0.length : Int) = (a1.length : Int) then
    (forR 0 (a0.length : Int) (F30_1_B a0 a1) (F30_1_D a0 a1) ()).bind fun t10 => match t10 with
      | .inl _ =>
        some true
      | .inr r11 => some r11
  else
    some false
def I30_1 (a0 : List Int) (a1 : List Int)  (v5_1 : Int) (s : Unit) (e : Env) (h : Heap) : Prop :=
  ∃ k3 : Nat, h = ⟨[], k3⟩ ∧ e.length = 26 ∧ e.at 0 = V.isl (a0.map Enc.enc) ∧ e.at 1 = V.isl (a1.map Enc.enc) ∧ e.at 5 = V.int .i64 v5_1
def P30_1 (a0 : List Int) (a1 : List Int)  (t : (Unit) ⊕ Bool) (x : Ex) (e : Env) (h : Heap) : Prop :=
  match t with
  | .inl _ => x = .normal ∧ ∃ k3 : Nat, h = ⟨[], k3⟩ ∧ e.length = 26
  | .inr r => x = .ret ∧ Fin p30 (Enc.enc r) .ret e h
theorem l30_1 (a0 : List Int) (a1 : List Int)   {lo : Int} {s : Unit} {t : (Unit) ⊕ Bool} (hF : forR lo (a0.length : Int) (F30_1_B a0 a1) (F30_1_D a0 a1) s = some t) {e : Env} {h : Heap} (hI : I30_1 a0 a1  lo s e h) : W A c30_1 e h (P30_1 a0 a1  t) := by
  show W A (.block 0 (.loop false b30_1)) e h _
  rw [W_block]
  refine W_forR hF 0 (by obtain ⟨_, rfl, _⟩ := hI; rfl) (I30_1 a0 a1 ) hI ?_ ?_
  · rintro v5_1 _ e h ⟨k3, rfl, h_2⟩ hlt hw o ho
    unfold F30_1_B at ho
    obtain ⟨x5, gx5, ho⟩ := bS ho
    obtain ⟨w6a, w6b⟩ := getI_w gx5
    obtain ⟨x7, gx7, ho⟩ := bS ho
    obtain ⟨w8a, w8b⟩ := getI_w gx7
    by_cases c9 : x5 = x7
    · rw [if_pos c9] at ho
      cases ho
      simp only [simprocAttr, R0, opEv, fillV, mapO, mapS, b30_1, h_2, eq_true hlt, hw, w6a, w6b, w8a, w8b, eq_true c9]
      refine And.intro rfl (Exists.intro _ ( And.intro rfl ?_))
      simp only [simprocAttr, R0, h_2, eq_true hlt, hw, w6a, w6b, w8a, w8b, eq_true c9]
    · rw [if_neg c9] at ho
      cases ho
      simp only [simprocAttr, R0, opEv, fillV, mapO, mapS, b30_1, h_2, eq_true hlt, hw, w6a, w6b, w8a, w8b, eq_false c9]
      intro ht; subst ht
      simp only [simprocAttr, RR, RB]
      exact And.intro rfl (fin_ret (by simp only [simprocAttr, R0, fn_out, p30, Rs.ev, mapO, mapS, take_len_self, h_2, eq_true hlt, hw, w6a, w6b, w8a, w8b, eq_false c9]))
  · rintro v5_1 _ e h ⟨k3, rfl, h_2⟩ hge t1 ho
    unfold F30_1_D at ho
    cases ho
    simp only [simprocAttr, R0, opEv, fillV, mapO, mapS, b30_1, h_2, eq_false hge]
    intro ht; subst ht
    refine And.intro rfl (Exists.intro _ ( And.intro rfl ?_))
    simp only [simprocAttr, R0, h_2, eq_false hge]
theorem s30 (a0 : List Int) (a1 : List Int)   {r : Bool} (hF : F30 a0 a1 = some r) : ans A 30 [V.isl (a0.map Enc.enc), V.isl (a1.map Enc.enc)] = some (Enc.enc r) := by
  refine ans_of (f := p30) rfl rfl rfl fun e hl he => ?_
  have h0_0 : e.at 0 = V.isl (a0.map Enc.enc) := he 0 _ rfl
  have h1_0 : e.at 1 = V.isl (a1.map Enc.enc) := he 1 _ rfl
  have hl_0 : e.length = 26 := hl
  clear he hl
  have h_0 := And.intro hl_0 (And.intro h0_0 h1_0)
  show W A b30 e ⟨[], 0⟩ _
  unfold F30 at hF
  by_cases c1 : (a0.length : Int) = (a1.length : Int)
  · rw [if_pos c1] at hF
    obtain ⟨t10, gt10, hF⟩ := bS hF
    rcases t10 with _ | r11
    · dsimp only at hF
      simp only [simprocAttr, R0, opEv, fillV, mapO, mapS, b30, h_0, eq_true c1]
      refine W.mono (l30_1 a0 a1   gt10 (Exists.intro _ ( And.intro rfl ?_))) ?_
      · simp only [simprocAttr, R0, h_0, eq_true c1]
      rintro _ e _ ⟨rfl, k3, rfl, hl_4⟩
      cases hF
      simp only [simprocAttr, R0, opEv, fillV, mapO, mapS, hl_4, eq_true c1]
      exact fin_ret (by simp only [simprocAttr, R0, fn_out, p30, Rs.ev, mapO, mapS, take_len_self, hl_4, eq_true c1])
    · dsimp only at hF
      cases hF
      simp only [simprocAttr, R0, opEv, fillV, mapO, mapS, b30, h_0, eq_true c1]
      refine W.mono (l30_1 a0 a1   gt10 (Exists.intro _ ( And.intro rfl ?_))) ?_
      · simp only [simprocAttr, R0, h_0, eq_true c1]
      rintro _ e h ⟨rfl, hq⟩
      simp only [simprocAttr, RR, RB]
      exact hq
  · rw [if_neg c1] at hF
    cases hF
    simp only [simprocAttr, R0, opEv, fillV, mapO, mapS, b30, h_0, eq_false c1]
    exact fin_ret (by simp only [simprocAttr, R0, fn_out, p30, Rs.ev, mapO, mapS, take_len_self, h_0, eq_false c1])
def F51_1_B (a0 : List (List Int)) (a1 : List (List Int)) (v5_1 : Int) (s : Unit) : Option ((Unit) ⊕ ((Unit) ⊕ Bool)) :=
  (getI a0 v5_1).bind fun x5 =>
(getI a1 v5_1).bind fun x7 =>
(F30 x5 x7).bind fun x9 =>
if x9 = true then
  some (.inl ())
else
  some (.inr (.inr false))
def F51_1_D (a0 : List (List Int)) (a1 : List (List Int)) (v5_1 : Int) (s : Unit) : Option ((Unit) ⊕ Bool) :=
  some (.inl ())
def F51 (a0 : List (List Int)) (a1 : List (List Int)) : Option Bool :=
  if (a0.length : Int) = (a1.length : Int) then
    (forR 0 (a0.length : Int) (F51_1_B a0 a1) (F51_1_D a0 a1) ()).bind fun t11 => match t11 with
      | .inl _ =>
        some true
      | .inr r12 => some r12
  else
    some false
def I51_1 (a0 : List (List Int)) (a1 : List (List Int))  (v5_1 : Int) (s : Unit) (e : Env) (h : Heap) : Prop :=
  ∃ k3 : Nat, h = ⟨[], k3⟩ ∧ e.length = 27 ∧ e.at 0 = V.isl (a0.map Enc.enc) ∧ e.at 1 = V.isl (a1.map Enc.enc) ∧ e.at 5 = V.int .i64 v5_1
def P51_1 (a0 : List (List Int)) (a1 : List (List Int))  (t : (Unit) ⊕ Bool) (x : Ex) (e : Env) (h : Heap) : Prop :=
  match t with
  | .inl _ => x = .normal ∧ ∃ k3 : Nat, h = ⟨[], k3⟩ ∧ e.length = 27
  | .inr r => x = .ret ∧ Fin p51 (Enc.enc r) .ret e h
theorem l51_1 (a0 : List (List Int)) (a1 : List (List Int))   {lo : Int} {s : Unit} {t : (Unit) ⊕ Bool} (hF : forR lo (a0.length : Int) (F51_1_B a0 a1) (F51_1_D a0 a1) s = some t) {e : Env} {h : Heap} (hI : I51_1 a0 a1  lo s e h) : W A c51_1 e h (P51_1 a0 a1  t) := by
  show W A (.block 0 (.loop false b51_1)) e h _
  rw [W_block]
  refine W_forR hF 0 (by obtain ⟨_, rfl, _⟩ := hI; rfl) (I51_1 a0 a1 ) hI ?_ ?_
  · rintro v5_1 _ e h ⟨k3, rfl, h_2⟩ hlt hw o ho
    unfold F51_1_B at ho
    obtain ⟨x5, gx5, ho⟩ := bS ho
    obtain ⟨w6a, w6b⟩ := getI_w gx5
    obtain ⟨x7, gx7, ho⟩ := bS ho
    obtain ⟨w8a, w8b⟩ := getI_w gx7
    obtain ⟨x9, gx9, ho⟩ := bS ho
    have w10 : ans A 30 [V.isl (x5.map Enc.enc), V.isl (x7.map Enc.enc)] = some (V.bool x9) := s30 x5 x7  gx9
    cases x9 with
    | true =>
      rw [if_pos rfl] at ho
      cases ho
      simp only [simprocAttr, R0, opEv, fillV, mapO, mapS, b51_1, h_2, eq_true hlt, hw, w6a, w6b, w8a, w8b, w10]
      refine And.intro rfl (Exists.intro _ ( And.intro rfl ?_))
      simp only [simprocAttr, R0, h_2, eq_true hlt, hw, w6a, w6b, w8a, w8b, w10]
    | false =>
      rw [if_neg Bool.false_ne_true] at ho
      cases ho
      simp only [simprocAttr, R0, opEv, fillV, mapO, mapS, b51_1, h_2, eq_true hlt, hw, w6a, w6b, w8a, w8b, w10]
      intro ht; subst ht
      simp only [simprocAttr, RR, RB]
      exact And.intro rfl (fin_ret (by simp only [simprocAttr, R0, fn_out, p51, Rs.ev, mapO, mapS, take_len_self, h_2, eq_true hlt, hw, w6a, w6b, w8a, w8b, w10]))
  · rintro v5_1 _ e h ⟨k3, rfl, h_2⟩ hge t1 ho
    unfold F51_1_D at ho
    cases ho
    simp only [simprocAttr, R0, opEv, fillV, mapO, mapS, b51_1, h_2, eq_false hge]
    intro ht; subst ht
    refine And.intro rfl (Exists.intro _ ( And.intro rfl ?_))
    simp only [simprocAttr, R0, h_2, eq_false hge]
theorem s51 (a0 : List (List Int)) (a1 : List (List Int))   {r : Bool} (hF : F51 a0 a1 = some r) : ans A 51 [V.isl (a0.map Enc.enc), V.isl (a1.map Enc.enc)] = some (Enc.enc r) := by
  refine ans_of (f := p51) rfl rfl rfl fun e hl he => ?_
  have h0_0 : e.at 0 = V.isl (a0.map Enc.enc) := he 0 _ rfl
  have h1_0 : e.at 1 = V.isl (a1.map Enc.enc) := he 1 _ rfl
  have hl_0 : e.length = 27 := hl
  clear he hl
  have h_0 := And.intro hl_0 (And.intro h0_0 h1_0)
  show W A b51 e ⟨[], 0⟩ _
  unfold F51 at hF
  by_cases c1 : (a0.length : Int) = (a1.length : Int)
  · rw [if_pos c1] at hF
    obtain ⟨t11, gt11, hF⟩ := bS hF
    rcases t11 with _ | r12
    · dsimp only at hF
      simp only [simprocAttr, R0, opEv, fillV, mapO, mapS, b51, h_0, eq_true c1]
      refine W.mono (l51_1 a0 a1   gt11 (Exists.intro _ ( And.intro rfl ?_))) ?_
      · simp only [simprocAttr, R0, h_0, eq_true c1]
      rintro _ e _ ⟨rfl, k3, rfl, hl_4⟩
      cases hF
      simp only [simprocAttr, R0, opEv, fillV, mapO, mapS, hl_4, eq_true c1]
      exact fin_ret (by simp only [simprocAttr, R0, fn_out, p51, Rs.ev, mapO, mapS, take_len_self, hl_4, eq_true c1])
    · dsimp only at hF
      cases hF
      simp only [simprocAttr, R0, opEv, fillV, mapO, mapS, b51, h_0, eq_true c1]
      refine W.mono (l51_1 a0 a1   gt11 (Exists.intro _ ( And.intro rfl ?_))) ?_
      · simp only [simprocAttr, R0, h_0, eq_true c1]
      rintro _ e h ⟨rfl, hq⟩
      simp only [simprocAttr, RR, RB]
      exact hq
  · rw [if_neg c1] at hF
    cases hF
    simp only [simprocAttr, R0, opEv, fillV, mapO, mapS, b51, h_0, eq_false c1]
    exact fin_ret (by simp only [simprocAttr, R0, fn_out, p51, Rs.ev, mapO, mapS, take_len_self, h_0, eq_false c1])
def F17_1_B (a0 : List (List (List Int))) (a1 : List (List (List Int))) (v5_1 : Int) (s : Unit) : Option ((Unit) ⊕ ((Unit) ⊕ Bool)) :=
  (getI a0 v5_1).bind fun x5 =>
(getI a1 v5_1).bind fun x7 =>
(F51 x5 x7).bind fun x9 =>
if x9 = true then
  some (.inl ())
else
  some (.inr (.inr false))
def F17_1_D (a0 : List (List (List Int))) (a1 : List (List (List Int))) (v5_1 : Int) (s : Unit) : Option ((Unit) ⊕ Bool) :=
  some (.inl ())
def F17 (a0 : List (List (List Int))) (a1 : List (List (List Int))) : Option Bool :=
  if (a0.length : Int) = (a1.length : Int) then
    (forR 0 (a0.length : Int) (F17_1_B a0 a1) (F17_1_D a0 a1) ()).bind fun t11 => match t11 with
      | .inl _ =>
        some true
      | .inr r12 => some r12
  else
    some false
def I17_1 (a0 : List (List (List Int))) (a1 : List (List (List Int)))  (v5_1 : Int) (s : Unit) (e : Env) (h : Heap) : Prop :=
  ∃ k3 : Nat, h = ⟨[], k3⟩ ∧ e.length = 27 ∧ e.at 0 = V.isl (a0.map Enc.enc) ∧ e.at 1 = V.isl (a1.map Enc.enc) ∧ e.at 5 = V.int .i64 v5_1
def P17_1 (a0 : List (List (List Int))) (a1 : List (List (List Int)))  (t : (Unit) ⊕ Bool) (x : Ex) (e : Env) (h : Heap) : Prop :=
  match t with
  | .inl _ => x = .normal ∧ ∃ k3 : Nat, h = ⟨[], k3⟩ ∧ e.length = 27
  | .inr r => x = .ret ∧ Fin p17 (Enc.enc r) .ret e h
theorem l17_1 (a0 : List (List (List Int))) (a1 : List (List (List Int)))   {lo : Int} {s : Unit} {t : (Unit) ⊕ Bool} (hF : forR lo (a0.length : Int) (F17_1_B a0 a1) (F17_1_D a0 a1) s = some t) {e : Env} {h : Heap} (hI : I17_1 a0 a1  lo s e h) : W A c17_1 e h (P17_1 a0 a1  t) := by
  show W A (.block 0 (.loop false b17_1)) e h _
  rw [W_block]
  refine W_forR hF 0 (by obtain ⟨_, rfl, _⟩ := hI; rfl) (I17_1 a0 a1 ) hI ?_ ?_
  · rintro v5_1 _ e h ⟨k3, rfl, h_2⟩ hlt hw o ho
    unfold F17_1_B at ho
    obtain ⟨x5, gx5, ho⟩ := bS ho
    obtain ⟨w6a, w6b⟩ := getI_w gx5
    obtain ⟨x7, gx7, ho⟩ := bS ho
    obtain ⟨w8a, w8b⟩ := getI_w gx7
    obtain ⟨x9, gx9, ho⟩ := bS ho
    have w10 : ans A 51 [V.isl (x5.map Enc.enc), V.isl (x7.map Enc.enc)] = some (V.bool x9) := s51 x5 x7  gx9
    cases x9 with
    | true =>
      rw [if_pos rfl] at ho
      cases ho
      simp only [simprocAttr, R0, opEv, fillV, mapO, mapS, b17_1, h_2, eq_true hlt, hw, w6a, w6b, w8a, w8b, w10]
      refine And.intro rfl (Exists.intro _ ( And.intro rfl ?_))
      simp only [simprocAttr, R0, h_2, eq_true hlt, hw, w6a, w6b, w8a, w8b, w10]
    | false =>
      rw [if_neg Bool.false_ne_true] at ho
      cases ho
      simp only [simprocAttr, R0, opEv, fillV, mapO, mapS, b17_1, h_2, eq_true hlt, hw, w6a, w6b, w8a, w8b, w10]
      intro ht; subst ht
      simp only [simprocAttr, RR, RB]
      exact And.intro rfl (fin_ret (by simp only [simprocAttr, R0, fn_out, p17, Rs.ev, mapO, mapS, take_len_self, h_2, eq_true hlt, hw, w6a, w6b, w8a, w8b, w10]))
  · rintro v5_1 _ e h ⟨k3, rfl, h_2⟩ hge t1 ho
    unfold F17_1_D at ho
    cases ho
    simp only [simprocAttr, R0, opEv, fillV, mapO, mapS, b17_1, h_2, eq_false hge]
    intro ht; subst ht
    refine And.intro rfl (Exists.intro _ ( And.intro rfl ?_))
    simp only [simprocAttr, R0, h_2, eq_false hge]
theorem s17 (a0 : List (List (List Int))) (a1 : List (List (List Int)))   {r : Bool} (hF : F17 a0 a1 = some r) : ans A 17 [V.isl (a0.map Enc.enc), V.isl (a1.map Enc.enc)] = some (Enc.enc r) := by
  refine ans_of (f := p17) rfl rfl rfl fun e hl he => ?_
  have h0_0 : e.at 0 = V.isl (a0.map Enc.enc) := he 0 _ rfl
  have h1_0 : e.at 1 = V.isl (a1.map Enc.enc) := he 1 _ rfl
  have hl_0 : e.length = 27 := hl
  clear he hl
  have h_0 := And.intro hl_0 (And.intro h0_0 h1_0)
  show W A b17 e ⟨[], 0⟩ _
  unfold F17 at hF
  by_cases c1 : (a0.length : Int) = (a1.length : Int)
  · rw [if_pos c1] at hF
    obtain ⟨t11, gt11, hF⟩ := bS hF
    rcases t11 with _ | r12
    · dsimp only at hF
      simp only [simprocAttr, R0, opEv, fillV, mapO, mapS, b17, h_0, eq_true c1]
      refine W.mono (l17_1 a0 a1   gt11 (Exists.intro _ ( And.intro rfl ?_))) ?_
      · simp only [simprocAttr, R0, h_0, eq_true c1]
      rintro _ e _ ⟨rfl, k3, rfl, hl_4⟩
      cases hF
      simp only [simprocAttr, R0, opEv, fillV, mapO, mapS, hl_4, eq_true c1]
      exact fin_ret (by simp only [simprocAttr, R0, fn_out, p17, Rs.ev, mapO, mapS, take_len_self, hl_4, eq_true c1])
    · dsimp only at hF
      cases hF
      simp only [simprocAttr, R0, opEv, fillV, mapO, mapS, b17, h_0, eq_true c1]
      refine W.mono (l17_1 a0 a1   gt11 (Exists.intro _ ( And.intro rfl ?_))) ?_
      · simp only [simprocAttr, R0, h_0, eq_true c1]
      rintro _ e h ⟨rfl, hq⟩
      simp only [simprocAttr, RR, RB]
      exact hq
  · rw [if_neg c1] at hF
    cases hF
    simp only [simprocAttr, R0, opEv, fillV, mapO, mapS, b17, h_0, eq_false c1]
    exact fin_ret (by simp only [simprocAttr, R0, fn_out, p17, Rs.ev, mapO, mapS, take_len_self, h_0, eq_false c1])
def F16 (a0 : GComplex) (a1 : GComplex) : Option Bool :=
  if a0.Prime = a1.Prime then
    (F30 a0.Dims a1.Dims).bind fun x2 =>
    if x2 = true then
      (F17 a0.Maps a1.Maps).bind fun x4 =>
      if x4 = true then
        some true
      else
        some false
    else
      some false
  else
    some false
theorem s16 (a0 : GComplex) (a1 : GComplex)   {r : Bool} (hF : F16 a0 a1 = some r) : ans A 16 [(eC a0), (eC a1)] = some (Enc.enc r) := by
  refine ans_of (f := p16) rfl rfl rfl fun e hl he => ?_
  have h0_0 : e.at 0 = (eC a0) := he 0 _ rfl
  have h1_0 : e.at 1 = (eC a1) := he 1 _ rfl
  have hl_0 : e.length = 22 := hl
  clear he hl
  have h_0 := And.intro hl_0 (And.intro h0_0 h1_0)
  show W A b16 e ⟨[], 0⟩ _
  unfold F16 at hF
  by_cases c1 : a0.Prime = a1.Prime
  · rw [if_pos c1] at hF
    obtain ⟨x2, gx2, hF⟩ := bS hF
    have w3 : ans A 30 [V.isl (a0.Dims.map Enc.enc), V.isl (a1.Dims.map Enc.enc)] = some (V.bool x2) := s30 a0.Dims a1.Dims  gx2
    cases x2 with
    | true =>
      rw [if_pos rfl] at hF
      obtain ⟨x4, gx4, hF⟩ := bS hF
      have w5 : ans A 17 [V.isl (a0.Maps.map Enc.enc), V.isl (a1.Maps.map Enc.enc)] = some (V.bool x4) := s17 a0.Maps a1.Maps  gx4
      cases x4 with
      | true =>
        rw [if_pos rfl] at hF
        cases hF
        simp only [simprocAttr, R0, opEv, fillV, mapO, mapS, b16, h_0, eq_true c1, w3, w5]
        exact fin_ret (by simp only [simprocAttr, R0, fn_out, p16, Rs.ev, mapO, mapS, take_len_self, h_0, eq_true c1, w3, w5])
      | false =>
        rw [if_neg Bool.false_ne_true] at hF
        cases hF
        simp only [simprocAttr, R0, opEv, fillV, mapO, mapS, b16, h_0, eq_true c1, w3, w5]
        exact fin_ret (by simp only [simprocAttr, R0, fn_out, p16, Rs.ev, mapO, mapS, take_len_self, h_0, eq_true c1, w3, w5])
    | false =>
      rw [if_neg Bool.false_ne_true] at hF
      cases hF
      simp only [simprocAttr, R0, opEv, fillV, mapO, mapS, b16, h_0, eq_true c1, w3]
      exact fin_ret (by simp only [simprocAttr, R0, fn_out, p16, Rs.ev, mapO, mapS, take_len_self, h_0, eq_true c1, w3])
  · rw [if_neg c1] at hF
    cases hF
    simp only [simprocAttr, R0, opEv, fillV, mapO, mapS, b16, h_0, eq_false c1]
    exact fin_ret (by simp only [simprocAttr, R0, fn_out, p16, Rs.ev, mapO, mapS, take_len_self, h_0, eq_false c1])
def F31_1_B (i : Int) (s : List Int × Int) : Option ((List Int × Int) ⊕ (List Int × Int)) :=
  (setI s.1 i s.2).bind fun l => (chk (s.2 + 1)).bind fun k => some (.inl (l, k))
def F31_1_D (i : Int) (s : List Int × Int) : Option (List Int × Int) := some s
def F31 (l : List Int) (k : Int) : Option (List Int × Int) := forR 0 (l.length : Int) F31_1_B F31_1_D (l, k)
theorem d31 {l : List Int} {k : Int} {r : List Int × Int} (hF : F31 l k = some r) (h : Heap) {v : V} {K : Ks} (hr : Deep.rep h v l K) :
    ∃ h', res A 31 [v, V.int .i64 k] h = some (V.int .i64 r.2, h') ∧ Deep.rep h' v r.1 K ∧ (∀ k, ¬ K k → h'.ents[k]? = h.ents[k]?) ∧ h'.ents.length = h.ents.length := by
  refine res_ex (f := p31) rfl rfl rfl fun e hl he => ?_
  have h0_0 : e.at 0 = v := he 0 _ rfl
  have h1_0 : e.at 1 = V.int .i64 k := he 1 _ rfl
  have hl_0 : e.length = 19 := hl
  clear he hl
  show W A b31 e h _
  unfold F31 at hF
  obtain ⟨E, c⟩ := h
  simp only [simprocAttr, R1, opEv, fillV, mapO, mapS, b31, hl_0, h0_0, h1_0]
  show W A (.block 0 (.loop true b31_1)) _ _ _
  rw [W_block]
  refine W_forR hF _ rfl (fun i s e h => Deep.rep h v s.1 K ∧ (∀ k, ¬ K k → h.ents[k]? = E[k]?) ∧ h.ents.length = E.length ∧ s.1.length = l.length ∧ e.length = 19 ∧ e.at 0 = v ∧ e.at 1 = V.int .i64 s.2 ∧ e.at 5 = V.int .i64 i) ?_ ?_ ?_
  · refine ⟨hr, fun _ _ => rfl, rfl, rfl, ?_⟩
    simp only [simprocAttr, R1, hl_0, h0_0, h1_0]
  · clear hl_0 h0_0 h1_0
    rintro i ⟨s, q⟩ e ⟨E3, c3⟩ ⟨q1, q2, q3, q4, hl_1, h0_1, h1_1, h5_1⟩ hlt hw oo ho
    unfold F31_1_B at ho
    simp only at ho q1 q2 q3 q4 h1_1
    obtain ⟨s2, gs, ho⟩ := bS ho
    obtain ⟨s1, s2', s3, s4, s5⟩ := setI_w gs
    obtain ⟨k2, gk, ho⟩ := bS ho
    have wk := chk_w gk
    have hE := Option.some.inj ho; subst hE
    rcases row_int q1 with ⟨_, rfl, _⟩ | ⟨key3, uid3, hx2, d1, d2⟩
    · simp at s2'; omega
    simp only at d1
    have s5' : List.take i.toNat (s.map Enc.enc) ++ [V.int .i64 q] ++ List.drop (i.toNat + 1) (s.map Enc.enc) = List.map Enc.enc s2 := s5
    rw [q4] at s3
    simp only [simprocAttr, R1, opEv, fillV, mapO, mapS, b31_1, hl_1, h0_1, h1_1, h5_1, eq_true hlt, hw, hx2, q4, d1, s1, s3, s5', wk]
    have hk3 : key3 < E3.length := (List.getElem?_eq_some_iff.1 d1).1
    have hsl : s2.length = l.length := by rw [s4]; exact q4
    refine And.intro rfl ⟨?_, fun k nk => ?_, by rw [← q3]; simp, hsl, ?_⟩
    · rw [← hsl]; exact int_row (set_app_key hk3) d2
    · exact (set_ne (fun e => nk ((d2 k).2 e))).trans (q2 k nk)
    · simp only [simprocAttr, R1, hl_1, h0_1, h1_1, h5_1, hw, hx2, q4]
  · clear hl_0 h0_0 h1_0
    rintro i ⟨s, q⟩ e ⟨E3, c3⟩ ⟨q1, q2, q3, q4, hl_1, h0_1, h1_1, h5_1⟩ hge t1 ho
    have hE := Option.some.inj ho; subst hE
    have hlen := rep_len q1
    simp only at hlen q1 q2 q3 q4 h1_1
    simp only [simprocAttr, R1, opEv, fillV, mapO, mapS, b31_1, hl_1, h0_1, h1_1, h5_1, hlen, q4, eq_false hge]
    intro ht; subst ht
    refine And.intro (fun _ => trivial) ⟨?_, q1, q2, q3⟩
    simp only [simprocAttr, R1, fn_out, p31, Rs.ev, mapO, hl_1]
def F52_1_B (i : Int) (s : List (List Int) × Int) : Option ((List (List Int) × Int) ⊕ (List (List Int) × Int)) :=
  (getI s.1 i).bind fun r => (F31 r s.2).bind fun q => (setI s.1 i q.1).bind fun l => some (.inl (l, q.2))
def F52_1_D (i : Int) (s : List (List Int) × Int) : Option (List (List Int) × Int) := some s
def F52 (l : List (List Int)) (k : Int) : Option (List (List Int) × Int) := forR 0 (l.length : Int) F52_1_B F52_1_D (l, k)
theorem d52 {l : List (List Int)} {k : Int} {r : List (List Int) × Int} (hF : F52 l k = some r) (h : Heap) {v : V} {K : Ks} (hr : Deep.rep h v l K) :
    ∃ h', res A 52 [v, V.int .i64 k] h = some (V.int .i64 r.2, h') ∧ Deep.rep h' v r.1 K ∧ (∀ k, ¬ K k → h'.ents[k]? = h.ents[k]?) ∧ h'.ents.length = h.ents.length := by
  refine res_ex (f := p52) rfl rfl rfl fun e hl he => ?_
  have h0_0 : e.at 0 = v := he 0 _ rfl
  have h1_0 : e.at 1 = V.int .i64 k := he 1 _ rfl
  have hl_0 : e.length = 19 := hl
  clear he hl
  show W A b52 e h _
  unfold F52 at hF
  obtain ⟨E, c⟩ := h
  simp only [simprocAttr, R1, opEv, fillV, mapO, mapS, b52, hl_0, h0_0, h1_0]
  show W A (.block 0 (.loop true b52_1)) _ _ _
  rw [W_block]
  refine W_forR hF _ rfl (fun i s e h => Deep.rep h v s.1 K ∧ (∀ k, ¬ K k → h.ents[k]? = E[k]?) ∧ h.ents.length = E.length ∧ s.1.length = l.length ∧ e.length = 19 ∧ e.at 0 = v ∧ e.at 1 = V.int .i64 s.2 ∧ e.at 5 = V.int .i64 i) ?_ ?_ ?_
  · refine ⟨hr, fun _ _ => rfl, rfl, rfl, ?_⟩
    simp only [simprocAttr, R1, hl_0, h0_0, h1_0]
  · clear hl_0 h0_0 h1_0
    rintro i ⟨s, q⟩ e ⟨E3, c3⟩ ⟨q1, q2, q3, q4, hl_1, h0_1, h1_1, h5_1⟩ hlt hw oo ho
    unfold F52_1_B at ho
    simp only at ho q1 q2 q3 q4 h1_1
    obtain ⟨row, gr, ho⟩ := bS ho
    obtain ⟨ra, rb⟩ := getI_w gr
    obtain ⟨t, gt, ho⟩ := bS ho
    obtain ⟨s2, gs, ho⟩ := bS ho
    have sm : s2 = s.set i.toNat t.1 := setI_eq gs
    have hE := Option.some.inj ho; subst hE
    obtain ⟨key, uid, vs, x1, K1, hm, a1, a2, a3, a4, a5, a6⟩ := rep_focus q1 rb
    obtain ⟨⟨E4, c4⟩, w1, r1, r2, r3⟩ := d31 gt ⟨E3, c3⟩ a4
    have o1 := ofCells_drop a2
    simp only at a1 r2 r3
    have hsl : s2.length = l.length := by rw [sm, List.length_set]; exact q4
    have r4 := a6 _ _ r1 fun k _ nk => r2 k nk
    rw [← sm] at r4
    simp only [simprocAttr, R1, opEv, fillV, mapO, mapS, b52_1, hl_1, h0_1, h1_1, h5_1, eq_true hlt, hw, hm, q4, a1, ra, o1, callM_plain_eq, w1]
    refine And.intro rfl ⟨?_, fun k nk => (r2 k fun p => nk (a5 k p)).trans (q2 k nk), by rw [← q3]; exact r3, hsl, ?_⟩
    · rw [← q4, ← hm]; exact r4
    · simp only [simprocAttr, R1, hl_1, h0_1, h1_1, h5_1, hw, hm, q4]
  · clear hl_0 h0_0 h1_0
    rintro i ⟨s, q⟩ e ⟨E3, c3⟩ ⟨q1, q2, q3, q4, hl_1, h0_1, h1_1, h5_1⟩ hge t1 ho
    have hE := Option.some.inj ho; subst hE
    have hlen := rep_len q1
    simp only at hlen q1 q2 q3 q4 h1_1
    simp only [simprocAttr, R1, opEv, fillV, mapO, mapS, b52_1, hl_1, h0_1, h1_1, h5_1, hlen, q4, eq_false hge]
    intro ht; subst ht
    refine And.intro (fun _ => trivial) ⟨?_, q1, q2, q3⟩
    simp only [simprocAttr, R1, fn_out, p52, Rs.ev, mapO, hl_1]
def F21_1_B (i : Int) (s : List (List (List Int)) × Int) : Option ((List (List (List Int)) × Int) ⊕ (List (List (List Int)) × Int)) :=
  (getI s.1 i).bind fun r => (F52 r s.2).bind fun q => (setI s.1 i q.1).bind fun l => some (.inl (l, q.2))
def F21_1_D (i : Int) (s : List (List (List Int)) × Int) : Option (List (List (List Int)) × Int) := some s
def F21 (l : List (List (List Int))) (k : Int) : Option (List (List (List Int)) × Int) := forR 0 (l.length : Int) F21_1_B F21_1_D (l, k)
theorem d21 {l : List (List (List Int))} {k : Int} {r : List (List (List Int)) × Int} (hF : F21 l k = some r) (h : Heap) {v : V} {K : Ks} (hr : Deep.rep h v l K) :
    ∃ h', res A 21 [v, V.int .i64 k] h = some (V.int .i64 r.2, h') ∧ Deep.rep h' v r.1 K ∧ (∀ k, ¬ K k → h'.ents[k]? = h.ents[k]?) ∧ h'.ents.length = h.ents.length := by
  refine res_ex (f := p21) rfl rfl rfl fun e hl he => ?_
  have h0_0 : e.at 0 = v := he 0 _ rfl
  have h1_0 : e.at 1 = V.int .i64 k := he 1 _ rfl
  have hl_0 : e.length = 19 := hl
  clear he hl
  show W A b21 e h _
  unfold F21 at hF
  obtain ⟨E, c⟩ := h
  simp only [simprocAttr, R1, opEv, fillV, mapO, mapS, b21, hl_0, h0_0, h1_0]
  show W A (.block 0 (.loop true b21_1)) _ _ _
  rw [W_block]
  refine W_forR hF _ rfl (fun i s e h => Deep.rep h v s.1 K ∧ (∀ k, ¬ K k → h.ents[k]? = E[k]?) ∧ h.ents.length = E.length ∧ s.1.length = l.length ∧ e.length = 19 ∧ e.at 0 = v ∧ e.at 1 = V.int .i64 s.2 ∧ e.at 5 = V.int .i64 i) ?_ ?_ ?_
  · refine ⟨hr, fun _ _ => rfl, rfl, rfl, ?_⟩
    simp only [simprocAttr, R1, hl_0, h0_0, h1_0]
  · clear hl_0 h0_0 h1_0
    rintro i ⟨s, q⟩ e ⟨E3, c3⟩ ⟨q1, q2, q3, q4, hl_1, h0_1, h1_1, h5_1⟩ hlt hw oo ho
    unfold F21_1_B at ho
    simp only at ho q1 q2 q3 q4 h1_1
    obtain ⟨row, gr, ho⟩ := bS ho
    obtain ⟨ra, rb⟩ := getI_w gr
    obtain ⟨t, gt, ho⟩ := bS ho
    obtain ⟨s2, gs, ho⟩ := bS ho
    have sm : s2 = s.set i.toNat t.1 := setI_eq gs
    have hE := Option.some.inj ho; subst hE
    obtain ⟨key, uid, vs, x1, K1, hm, a1, a2, a3, a4, a5, a6⟩ := rep_focus q1 rb
    obtain ⟨⟨E4, c4⟩, w1, r1, r2, r3⟩ := d52 gt ⟨E3, c3⟩ a4
    have o1 := ofCells_drop a2
    simp only at a1 r2 r3
    have hsl : s2.length = l.length := by rw [sm, List.length_set]; exact q4
    have r4 := a6 _ _ r1 fun k _ nk => r2 k nk
    rw [← sm] at r4
    simp only [simprocAttr, R1, opEv, fillV, mapO, mapS, b21_1, hl_1, h0_1, h1_1, h5_1, eq_true hlt, hw, hm, q4, a1, ra, o1, callM_plain_eq, w1]
    refine And.intro rfl ⟨?_, fun k nk => (r2 k fun p => nk (a5 k p)).trans (q2 k nk), by rw [← q3]; exact r3, hsl, ?_⟩
    · rw [← q4, ← hm]; exact r4
    · simp only [simprocAttr, R1, hl_1, h0_1, h1_1, h5_1, hw, hm, q4]
  · clear hl_0 h0_0 h1_0
    rintro i ⟨s, q⟩ e ⟨E3, c3⟩ ⟨q1, q2, q3, q4, hl_1, h0_1, h1_1, h5_1⟩ hge t1 ho
    have hE := Option.some.inj ho; subst hE
    have hlen := rep_len q1
    simp only at hlen q1 q2 q3 q4 h1_1
    simp only [simprocAttr, R1, opEv, fillV, mapO, mapS, b21_1, hl_1, h0_1, h1_1, h5_1, hlen, q4, eq_false hge]
    intro ht; subst ht
    refine And.intro (fun _ => trivial) ⟨?_, q1, q2, q3⟩
    simp only [simprocAttr, R1, fn_out, p21, Rs.ev, mapO, hl_1]
def F20 (d : List Int) (ms : List (List (List Int))) (k : Int) : Option (List Int × List (List (List Int)) × Int) :=
  (F31 d k).bind fun q => (F21 ms q.2).bind fun t => some (q.1, t.1, t.2)
def FM20 (x : GComplex) (k : Int) : Option (GComplex × Int) := (F20 x.Dims x.Maps k).bind fun t => some (⟨x.Prime, t.1, t.2.1⟩, t.2.2)
theorem d20 {d : List Int} {ms : List (List (List Int))} {p k : Int} {r : List Int × List (List (List Int)) × Int} (hF : F20 d ms k = some r) (h : Heap) {dv mv : V} {K1 K2 : Ks} (h1 : Deep.rep h dv d K1) (h2 : Deep.rep h mv ms K2) (hd : ∀ k, K1 k → ¬ K2 k) :
    ∃ h', res A 20 [V.agg [V.int .i64 p, dv, mv], V.int .i64 k] h = some (V.int .i64 r.2.2, h') ∧ Deep.rep h' dv r.1 K1 ∧ Deep.rep h' mv r.2.1 K2 ∧ (∀ k, k < h.ents.length → ¬ K1 k → ¬ K2 k → h'.ents[k]? = h.ents[k]?) ∧ h.ents.length ≤ h'.ents.length := by
  refine res_ex (f := p20) rfl rfl rfl fun e hl he => ?_
  have h0_0 : e.at 0 = V.agg [V.int .i64 p, dv, mv] := he 0 _ rfl
  have h1_0 : e.at 1 = V.int .i64 k := he 1 _ rfl
  have hl_0 : e.length = 14 := hl
  clear he hl
  show W A b20 e h _
  unfold F20 at hF
  obtain ⟨q, gq, hF⟩ := bS hF
  obtain ⟨t, gt, hF⟩ := bS hF
  cases hF
  obtain ⟨E, c⟩ := h
  have pre : ∀ (x : Nat × Option (List V)) k, k < E.length → (E ++ [x])[k]? = E[k]? := fun x k hk => List.getElem?_append_left hk
  have n1 : ¬ K1 E.length := fun x => by have := Deep.bd h1 x; simp at this
  have n2 : ¬ K2 E.length := fun x => by have := Deep.bd h2 x; simp at this
  obtain ⟨⟨E3, c3⟩, w1, a1, a2, a3⟩ := d31 gq ⟨E ++ [(c, some [V.int .i64 p, dv, mv])], c + 1⟩ (Deep.frame h1 fun k hk => pre _ k (Deep.bd h1 hk))
  simp only at a2 a3
  have m1 : E3[E.length]? = some (c, some [V.int .i64 p, dv, mv]) := (a2 _ n1).trans (get_last _ _)
  have h2' : Deep.rep ⟨E3, c3⟩ mv ms K2 := Deep.frame h2 fun k hk => (a2 k fun x => hd k x hk).trans (pre _ k (Deep.bd h2 hk))
  obtain ⟨⟨E4, c4⟩, w2, b1, b2, b3⟩ := d21 gt ⟨E3, c3⟩ h2'
  simp only at b2 b3
  have h1' : Deep.rep ⟨E4, c4⟩ dv q.1 K1 := Deep.frame a1 fun k hk => b2 k (hd k hk)
  simp only [simprocAttr, R1, opEv, fillV, mapO, mapS, b20, hl_0, h0_0, h1_0, get_last, callM_plain_eq, w1, m1, w2]
  refine And.intro (fun _ => trivial) ⟨?_, h1', b1, fun k hk x y => (b2 k y).trans ((a2 k x).trans (pre _ k hk)), by simp at a3; omega⟩
  simp only [simprocAttr, R1, fn_out, p20, Rs.ev, mapO, hl_0]
theorem dm20 {x : GComplex} {k : Int} {r : GComplex × Int} (hF : FM20 x k = some r) (h : Heap) {v : V} {K : Ks} (hr : Deep.rep h v x K) : ∃ h', res A 20 [v, V.int .i64 k] h = some (V.int .i64 r.2, h') ∧ Deep.rep h' v r.1 K ∧ (∀ k, k < h.ents.length → ¬ K k → h'.ents[k]? = h.ents[k]?) ∧ h.ents.length ≤ h'.ents.length := by
  obtain ⟨vs, rfl, r0⟩ := hr
  obtain ⟨dv, mv, K1, K2, rfl, h1, h2, h3, h4⟩ := rec3_un r0
  unfold FM20 at hF
  obtain ⟨t, gt, hF⟩ := bS hF
  cases hF
  obtain ⟨h', w, q1, q2, q3, q4⟩ := d20 (p := x.Prime) gt h h1 h2 h3
  exact ⟨h', w, ⟨_, rfl, (rec3 q1 q2 h3).to h4⟩, fun k hk nk => q3 k hk (fun y => nk ((h4 k).2 (.inl y))) (fun y => nk ((h4 k).2 (.inr y))), q4⟩
def F32_1_B (a0 : List Int) (v5_1 : Int) (v1_1 : Int) : Option ((Int) ⊕ ((Int) ⊕ Int)) :=
  (getI a0 v5_1).bind fun x4 =>
if x4 = v1_1 then
  (chk (v1_1 + 1)).bind fun x7 =>
  some (.inl x7)
else
  some (.inr (.inr (-1)))
def F32_1_D (a0 : List Int) (v5_1 : Int) (v1_1 : Int) : Option ((Int) ⊕ Int) :=
  some (.inl v1_1)
def F32 (a0 : List Int) (a1 : Int) : Option Int :=
  (forR 0 (a0.length : Int) (F32_1_B a0) (F32_1_D a0) a1).bind fun t8 => match t8 with
    | .inl zv1_1 =>
      some zv1_1
    | .inr r9 => some r9
def I32_1 (a0 : List Int)  (v5_1 : Int) (v1_1 : Int) (e : Env) (h : Heap) : Prop :=
  ∃ k2 : Nat, h = ⟨[], k2⟩ ∧ e.length = 21 ∧ e.at 0 = V.isl (a0.map Enc.enc) ∧ e.at 1 = V.int .i64 v1_1 ∧ e.at 5 = V.int .i64 v5_1
def P32_1 (a0 : List Int)  (t : (Int) ⊕ Int) (x : Ex) (e : Env) (h : Heap) : Prop :=
  match t with
  | .inl zv1_1 => x = .normal ∧ ∃ k2 : Nat, h = ⟨[], k2⟩ ∧ e.length = 21 ∧ e.at 1 = V.int .i64 zv1_1
  | .inr r => x = .ret ∧ Fin p32 (Enc.enc r) .ret e h
theorem l32_1 (a0 : List Int)   {lo : Int} {s : Int} {t : (Int) ⊕ Int} (hF : forR lo (a0.length : Int) (F32_1_B a0) (F32_1_D a0) s = some t) {e : Env} {h : Heap} (hI : I32_1 a0  lo s e h) : W A c32_1 e h (P32_1 a0  t) := by
  show W A (.block 0 (.loop false b32_1)) e h _
  rw [W_block]
  refine W_forR hF 0 (by obtain ⟨_, rfl, _⟩ := hI; rfl) (I32_1 a0 ) hI ?_ ?_
  · rintro v5_1 v1_1 e h ⟨k2, rfl, h_1⟩ hlt hw o ho
    unfold F32_1_B at ho
    obtain ⟨x4, gx4, ho⟩ := bS ho
    obtain ⟨w5a, w5b⟩ := getI_w gx4
    by_cases c6 : x4 = v1_1
    · rw [if_pos c6] at ho
      obtain ⟨x7, gx7, ho⟩ := bS ho
      have wx7 := chk_w gx7
      cases ho
      simp only [simprocAttr, R0, opEv, fillV, mapO, mapS, b32_1, h_1, eq_true hlt, hw, w5a, w5b, eq_true c6, wx7]
      refine And.intro rfl (Exists.intro _ ( And.intro rfl ?_))
      simp only [simprocAttr, R0, h_1, eq_true hlt, hw, w5a, w5b, eq_true c6, wx7]
    · rw [if_neg c6] at ho
      cases ho
      simp only [simprocAttr, R0, opEv, fillV, mapO, mapS, b32_1, h_1, eq_true hlt, hw, w5a, w5b, eq_false c6]
      intro ht; subst ht
      simp only [simprocAttr, RR, RB]
      exact And.intro rfl (fin_ret (by simp only [simprocAttr, R0, fn_out, p32, Rs.ev, mapO, mapS, take_len_self, h_1, eq_true hlt, hw, w5a, w5b, eq_false c6]))
  · rintro v5_1 v1_1 e h ⟨k2, rfl, h_1⟩ hge t1 ho
    unfold F32_1_D at ho
    cases ho
    simp only [simprocAttr, R0, opEv, fillV, mapO, mapS, b32_1, h_1, eq_false hge]
    intro ht; subst ht
    refine And.intro rfl (Exists.intro _ ( And.intro rfl ?_))
    simp only [simprocAttr, R0, h_1, eq_false hge]
theorem s32 (a0 : List Int) (a1 : Int)   {r : Int} (hF : F32 a0 a1 = some r) : ans A 32 [V.isl (a0.map Enc.enc), V.int .i64 a1] = some (Enc.enc r) := by
  refine ans_of (f := p32) rfl rfl rfl fun e hl he => ?_
  have h0_0 : e.at 0 = V.isl (a0.map Enc.enc) := he 0 _ rfl
  have h1_0 : e.at 1 = V.int .i64 a1 := he 1 _ rfl
  have hl_0 : e.length = 21 := hl
  clear he hl
  have h_0 := And.intro hl_0 (And.intro h0_0 h1_0)
  show W A b32 e ⟨[], 0⟩ _
  unfold F32 at hF
  obtain ⟨t8, gt8, hF⟩ := bS hF
  rcases t8 with zv1_1 | r9
  · dsimp only at hF
    simp only [simprocAttr, R0, opEv, fillV, mapO, mapS, b32, h_0]
    refine W.mono (l32_1 a0   gt8 (Exists.intro _ ( And.intro rfl ?_))) ?_
    · simp only [simprocAttr, R0, h_0]
    rintro _ e _ ⟨rfl, k2, rfl, h_3⟩
    cases hF
    simp only [simprocAttr, R0, opEv, fillV, mapO, mapS, h_3]
    exact fin_ret (by simp only [simprocAttr, R0, fn_out, p32, Rs.ev, mapO, mapS, take_len_self, h_3])
  · dsimp only at hF
    cases hF
    simp only [simprocAttr, R0, opEv, fillV, mapO, mapS, b32, h_0]
    refine W.mono (l32_1 a0   gt8 (Exists.intro _ ( And.intro rfl ?_))) ?_
    · simp only [simprocAttr, R0, h_0]
    rintro _ e h ⟨rfl, hq⟩
    simp only [simprocAttr, RR, RB]
    exact hq
def F59_1_B (a0 : List (List Int)) (v5_1 : Int) (v1_1 : Int) : Option ((Int) ⊕ ((Int) ⊕ Int)) :=
  (getI a0 v5_1).bind fun x4 =>
(F32 x4 v1_1).bind fun x6 =>
if x6 < 0 then
  some (.inr (.inr (-1)))
else
  some (.inl x6)
def F59_1_D (a0 : List (List Int)) (v5_1 : Int) (v1_1 : Int) : Option ((Int) ⊕ Int) :=
  some (.inl v1_1)
def F59 (a0 : List (List Int)) (a1 : Int) : Option Int :=
  (forR 0 (a0.length : Int) (F59_1_B a0) (F59_1_D a0) a1).bind fun t9 => match t9 with
    | .inl zv1_1 =>
      some zv1_1
    | .inr r10 => some r10
def I59_1 (a0 : List (List Int))  (v5_1 : Int) (v1_1 : Int) (e : Env) (h : Heap) : Prop :=
  ∃ k2 : Nat, h = ⟨[], k2⟩ ∧ e.length = 21 ∧ e.at 0 = V.isl (a0.map Enc.enc) ∧ e.at 1 = V.int .i64 v1_1 ∧ e.at 5 = V.int .i64 v5_1
def P59_1 (a0 : List (List Int))  (t : (Int) ⊕ Int) (x : Ex) (e : Env) (h : Heap) : Prop :=
  match t with
  | .inl zv1_1 => x = .normal ∧ ∃ k2 : Nat, h = ⟨[], k2⟩ ∧ e.length = 21 ∧ e.at 1 = V.int .i64 zv1_1
  | .inr r => x = .ret ∧ Fin p59 (Enc.enc r) .ret e h
theorem l59_1 (a0 : List (List Int))   {lo : Int} {s : Int} {t : (Int) ⊕ Int} (hF : forR lo (a0.length : Int) (F59_1_B a0) (F59_1_D a0) s = some t) {e : Env} {h : Heap} (hI : I59_1 a0  lo s e h) : W A c59_1 e h (P59_1 a0  t) := by
  show W A (.block 0 (.loop false b59_1)) e h _
  rw [W_block]
  refine W_forR hF 0 (by obtain ⟨_, rfl, _⟩ := hI; rfl) (I59_1 a0 ) hI ?_ ?_
  · rintro v5_1 v1_1 e h ⟨k2, rfl, h_1⟩ hlt hw o ho
    unfold F59_1_B at ho
    obtain ⟨x4, gx4, ho⟩ := bS ho
    obtain ⟨w5a, w5b⟩ := getI_w gx4
    obtain ⟨x6, gx6, ho⟩ := bS ho
    have w7 : ans A 32 [V.isl (x4.map Enc.enc), V.int .i64 v1_1] = some (V.int .i64 x6) := s32 x4 v1_1  gx6
    by_cases c8 : x6 < 0
    · rw [if_pos c8] at ho
      cases ho
      simp only [simprocAttr, R0, opEv, fillV, mapO, mapS, b59_1, h_1, eq_true hlt, hw, w5a, w5b, w7, eq_true c8]
      intro ht; subst ht
      simp only [simprocAttr, RR, RB]
      exact And.intro rfl (fin_ret (by simp only [simprocAttr, R0, fn_out, p59, Rs.ev, mapO, mapS, take_len_self, h_1, eq_true hlt, hw, w5a, w5b, w7, eq_true c8]))
    · rw [if_neg c8] at ho
      cases ho
      simp only [simprocAttr, R0, opEv, fillV, mapO, mapS, b59_1, h_1, eq_true hlt, hw, w5a, w5b, w7, eq_false c8]
      refine And.intro rfl (Exists.intro _ ( And.intro rfl ?_))
      simp only [simprocAttr, R0, h_1, eq_true hlt, hw, w5a, w5b, w7, eq_false c8]
  · rintro v5_1 v1_1 e h ⟨k2, rfl, h_1⟩ hge t1 ho
    unfold F59_1_D at ho
    cases ho
    simp only [simprocAttr, R0, opEv, fillV, mapO, mapS, b59_1, h_1, eq_false hge]
    intro ht; subst ht
    refine And.intro rfl (Exists.intro _ ( And.intro rfl ?_))
    simp only [simprocAttr, R0, h_1, eq_false hge]
theorem s59 (a0 : List (List Int)) (a1 : Int)   {r : Int} (hF : F59 a0 a1 = some r) : ans A 59 [V.isl (a0.map Enc.enc), V.int .i64 a1] = some (Enc.enc r) := by
  refine ans_of (f := p59) rfl rfl rfl fun e hl he => ?_
  have h0_0 : e.at 0 = V.isl (a0.map Enc.enc) := he 0 _ rfl
  have h1_0 : e.at 1 = V.int .i64 a1 := he 1 _ rfl
  have hl_0 : e.length = 21 := hl
  clear he hl
  have h_0 := And.intro hl_0 (And.intro h0_0 h1_0)
  show W A b59 e ⟨[], 0⟩ _
  unfold F59 at hF
  obtain ⟨t9, gt9, hF⟩ := bS hF
  rcases t9 with zv1_1 | r10
  · dsimp only at hF
    simp only [simprocAttr, R0, opEv, fillV, mapO, mapS, b59, h_0]
    refine W.mono (l59_1 a0   gt9 (Exists.intro _ ( And.intro rfl ?_))) ?_
    · simp only [simprocAttr, R0, h_0]
    rintro _ e _ ⟨rfl, k2, rfl, h_3⟩
    cases hF
    simp only [simprocAttr, R0, opEv, fillV, mapO, mapS, h_3]
    exact fin_ret (by simp only [simprocAttr, R0, fn_out, p59, Rs.ev, mapO, mapS, take_len_self, h_3])
  · dsimp only at hF
    cases hF
    simp only [simprocAttr, R0, opEv, fillV, mapO, mapS, b59, h_0]
    refine W.mono (l59_1 a0   gt9 (Exists.intro _ ( And.intro rfl ?_))) ?_
    · simp only [simprocAttr, R0, h_0]
    rintro _ e h ⟨rfl, hq⟩
    simp only [simprocAttr, RR, RB]
    exact hq
def F53_1_B (a0 : List (List (List Int))) (v5_1 : Int) (v1_1 : Int) : Option ((Int) ⊕ ((Int) ⊕ Int)) :=
  (getI a0 v5_1).bind fun x4 =>
(F59 x4 v1_1).bind fun x6 =>
if x6 < 0 then
  some (.inr (.inr (-1)))
else
  some (.inl x6)
def F53_1_D (a0 : List (List (List Int))) (v5_1 : Int) (v1_1 : Int) : Option ((Int) ⊕ Int) :=
  some (.inl v1_1)
def F53 (a0 : List (List (List Int))) (a1 : Int) : Option Int :=
  (forR 0 (a0.length : Int) (F53_1_B a0) (F53_1_D a0) a1).bind fun t9 => match t9 with
    | .inl zv1_1 =>
      some zv1_1
    | .inr r10 => some r10
def I53_1 (a0 : List (List (List Int)))  (v5_1 : Int) (v1_1 : Int) (e : Env) (h : Heap) : Prop :=
  ∃ k2 : Nat, h = ⟨[], k2⟩ ∧ e.length = 21 ∧ e.at 0 = V.isl (a0.map Enc.enc) ∧ e.at 1 = V.int .i64 v1_1 ∧ e.at 5 = V.int .i64 v5_1
def P53_1 (a0 : List (List (List Int)))  (t : (Int) ⊕ Int) (x : Ex) (e : Env) (h : Heap) : Prop :=
  match t with
  | .inl zv1_1 => x = .normal ∧ ∃ k2 : Nat, h = ⟨[], k2⟩ ∧ e.length = 21 ∧ e.at 1 = V.int .i64 zv1_1
  | .inr r => x = .ret ∧ Fin p53 (Enc.enc r) .ret e h
theorem l53_1 (a0 : List (List (List Int)))   {lo : Int} {s : Int} {t : (Int) ⊕ Int} (hF : forR lo (a0.length : Int) (F53_1_B a0) (F53_1_D a0) s = some t) {e : Env} {h : Heap} (hI : I53_1 a0  lo s e h) : W A c53_1 e h (P53_1 a0  t) := by
  show W A (.block 0 (.loop false b53_1)) e h _
  rw [W_block]
  refine W_forR hF 0 (by obtain ⟨_, rfl, _⟩ := hI; rfl) (I53_1 a0 ) hI ?_ ?_
  · rintro v5_1 v1_1 e h ⟨k2, rfl, h_1⟩ hlt hw o ho
    unfold F53_1_B at ho
    obtain ⟨x4, gx4, ho⟩ := bS ho
    obtain ⟨w5a, w5b⟩ := getI_w gx4
    obtain ⟨x6, gx6, ho⟩ := bS ho
    have w7 : ans A 59 [V.isl (x4.map Enc.enc), V.int .i64 v1_1] = some (V.int .i64 x6) := s59 x4 v1_1  gx6
    by_cases c8 : x6 < 0
    · rw [if_pos c8] at ho
      cases ho
      simp only [simprocAttr, R0, opEv, fillV, mapO, mapS, b53_1, h_1, eq_true hlt, hw, w5a, w5b, w7, eq_true c8]
      intro ht; subst ht
      simp only [simprocAttr, RR, RB]
      exact And.intro rfl (fin_ret (by simp only [simprocAttr, R0, fn_out, p53, Rs.ev, mapO, mapS, take_len_self, h_1, eq_true hlt, hw, w5a, w5b, w7, eq_true c8]))
    · rw [if_neg c8] at ho
      cases ho
      simp only [simprocAttr, R0, opEv, fillV, mapO, mapS, b53_1, h_1, eq_true hlt, hw, w5a, w5b, w7, eq_false c8]
      refine And.intro rfl (Exists.intro _ ( And.intro rfl ?_))
      simp only [simprocAttr, R0, h_1, eq_true hlt, hw, w5a, w5b, w7, eq_false c8]
  · rintro v5_1 v1_1 e h ⟨k2, rfl, h_1⟩ hge t1 ho
    unfold F53_1_D at ho
    cases ho
    simp only [simprocAttr, R0, opEv, fillV, mapO, mapS, b53_1, h_1, eq_false hge]
    intro ht; subst ht
    refine And.intro rfl (Exists.intro _ ( And.intro rfl ?_))
    simp only [simprocAttr, R0, h_1, eq_false hge]
theorem s53 (a0 : List (List (List Int))) (a1 : Int)   {r : Int} (hF : F53 a0 a1 = some r) : ans A 53 [V.isl (a0.map Enc.enc), V.int .i64 a1] = some (Enc.enc r) := by
  refine ans_of (f := p53) rfl rfl rfl fun e hl he => ?_
  have h0_0 : e.at 0 = V.isl (a0.map Enc.enc) := he 0 _ rfl
  have h1_0 : e.at 1 = V.int .i64 a1 := he 1 _ rfl
  have hl_0 : e.length = 21 := hl
  clear he hl
  have h_0 := And.intro hl_0 (And.intro h0_0 h1_0)
  show W A b53 e ⟨[], 0⟩ _
  unfold F53 at hF
  obtain ⟨t9, gt9, hF⟩ := bS hF
  rcases t9 with zv1_1 | r10
  · dsimp only at hF
    simp only [simprocAttr, R0, opEv, fillV, mapO, mapS, b53, h_0]
    refine W.mono (l53_1 a0   gt9 (Exists.intro _ ( And.intro rfl ?_))) ?_
    · simp only [simprocAttr, R0, h_0]
    rintro _ e _ ⟨rfl, k2, rfl, h_3⟩
    cases hF
    simp only [simprocAttr, R0, opEv, fillV, mapO, mapS, h_3]
    exact fin_ret (by simp only [simprocAttr, R0, fn_out, p53, Rs.ev, mapO, mapS, take_len_self, h_3])
  · dsimp only at hF
    cases hF
    simp only [simprocAttr, R0, opEv, fillV, mapO, mapS, b53, h_0]
    refine W.mono (l53_1 a0   gt9 (Exists.intro _ ( And.intro rfl ?_))) ?_
    · simp only [simprocAttr, R0, h_0]
    rintro _ e h ⟨rfl, hq⟩
    simp only [simprocAttr, RR, RB]
    exact hq
def F22 (a0 : GComplex) (a1 : Int) : Option Int :=
  (F32 a0.Dims a1).bind fun x1 =>
  if x1 < 0 then
    some (-1)
  else
    (F53 a0.Maps x1).bind fun x4 =>
    if x4 < 0 then
      some (-1)
    else
      some x4
theorem s22 (a0 : GComplex) (a1 : Int)   {r : Int} (hF : F22 a0 a1 = some r) : ans A 22 [(eC a0), V.int .i64 a1] = some (Enc.enc r) := by
  refine ans_of (f := p22) rfl rfl rfl fun e hl he => ?_
  have h0_0 : e.at 0 = (eC a0) := he 0 _ rfl
  have h1_0 : e.at 1 = V.int .i64 a1 := he 1 _ rfl
  have hl_0 : e.length = 18 := hl
  clear he hl
  have h_0 := And.intro hl_0 (And.intro h0_0 h1_0)
  show W A b22 e ⟨[], 0⟩ _
  unfold F22 at hF
  obtain ⟨x1, gx1, hF⟩ := bS hF
  have w2 : ans A 32 [V.isl (a0.Dims.map Enc.enc), V.int .i64 a1] = some (V.int .i64 x1) := s32 a0.Dims a1  gx1
  by_cases c3 : x1 < 0
  · rw [if_pos c3] at hF
    cases hF
    simp only [simprocAttr, R0, opEv, fillV, mapO, mapS, b22, h_0, w2, eq_true c3]
    exact fin_ret (by simp only [simprocAttr, R0, fn_out, p22, Rs.ev, mapO, mapS, take_len_self, h_0, w2, eq_true c3])
  · rw [if_neg c3] at hF
    obtain ⟨x4, gx4, hF⟩ := bS hF
    have w5 : ans A 53 [V.isl (a0.Maps.map Enc.enc), V.int .i64 x1] = some (V.int .i64 x4) := s53 a0.Maps x1  gx4
    by_cases c6 : x4 < 0
    · rw [if_pos c6] at hF
      cases hF
      simp only [simprocAttr, R0, opEv, fillV, mapO, mapS, b22, h_0, w2, eq_false c3, w5, eq_true c6]
      exact fin_ret (by simp only [simprocAttr, R0, fn_out, p22, Rs.ev, mapO, mapS, take_len_self, h_0, w2, eq_false c3, w5, eq_true c6])
    · rw [if_neg c6] at hF
      cases hF
      simp only [simprocAttr, R0, opEv, fillV, mapO, mapS, b22, h_0, w2, eq_false c3, w5, eq_false c6]
      exact fin_ret (by simp only [simprocAttr, R0, fn_out, p22, Rs.ev, mapO, mapS, take_len_self, h_0, w2, eq_false c3, w5, eq_false c6])
def F43 (a0 : List Int) (a1 : Int) : Option Int :=
  (chk (a1 - (a0.length : Int))).bind fun x1 =>
  if x1 < 0 then
    some (-1)
  else
    some x1
theorem s43 (a0 : List Int) (a1 : Int)   {r : Int} (hF : F43 a0 a1 = some r) : ans A 43 [V.isl (a0.map Enc.enc), V.int .i64 a1] = some (Enc.enc r) := by
  refine ans_of (f := p43) rfl rfl rfl fun e hl he => ?_
  have h0_0 : e.at 0 = V.isl (a0.map Enc.enc) := he 0 _ rfl
  have h1_0 : e.at 1 = V.int .i64 a1 := he 1 _ rfl
  have hl_0 : e.length = 12 := hl
  clear he hl
  have h_0 := And.intro hl_0 (And.intro h0_0 h1_0)
  show W A b43 e ⟨[], 0⟩ _
  unfold F43 at hF
  obtain ⟨x1, gx1, hF⟩ := bS hF
  have wx1 := chk_w gx1
  by_cases c2 : x1 < 0
  · rw [if_pos c2] at hF
    cases hF
    simp only [simprocAttr, R0, opEv, fillV, mapO, mapS, b43, h_0, wx1, eq_true c2]
    exact fin_ret (by simp only [simprocAttr, R0, fn_out, p43, Rs.ev, mapO, mapS, take_len_self, h_0, wx1, eq_true c2])
  · rw [if_neg c2] at hF
    cases hF
    simp only [simprocAttr, R0, opEv, fillV, mapO, mapS, b43, h_0, wx1, eq_false c2]
    exact fin_ret (by simp only [simprocAttr, R0, fn_out, p43, Rs.ev, mapO, mapS, take_len_self, h_0, wx1, eq_false c2])
def F44_1_B (a0 : List (List Int)) (v5_1 : Int) (v1_1 : Int) : Option ((Int) ⊕ ((Int) ⊕ Int)) :=
  (getI a0 v5_1).bind fun x6 =>
(F43 x6 v1_1).bind fun x8 =>
if x8 < 0 then
  some (.inr (.inr (-1)))
else
  some (.inl x8)
def F44_1_D (a0 : List (List Int)) (v5_1 : Int) (v1_1 : Int) : Option ((Int) ⊕ Int) :=
  some (.inl v1_1)
def F44 (a0 : List (List Int)) (a1 : Int) : Option Int :=
  (chk (a1 - (a0.length : Int))).bind fun x1 =>
  if x1 < 0 then
    some (-1)
  else
    (forR 0 (a0.length : Int) (F44_1_B a0) (F44_1_D a0) x1).bind fun t11 => match t11 with
      | .inl zv1_1 =>
        some zv1_1
      | .inr r12 => some r12
def I44_1 (a0 : List (List Int))  (v5_1 : Int) (v1_1 : Int) (e : Env) (h : Heap) : Prop :=
  ∃ k4 : Nat, h = ⟨[], k4⟩ ∧ e.length = 27 ∧ e.at 0 = V.isl (a0.map Enc.enc) ∧ e.at 1 = V.int .i64 v1_1 ∧ e.at 5 = V.int .i64 v5_1
def P44_1 (a0 : List (List Int))  (t : (Int) ⊕ Int) (x : Ex) (e : Env) (h : Heap) : Prop :=
  match t with
  | .inl zv1_1 => x = .normal ∧ ∃ k4 : Nat, h = ⟨[], k4⟩ ∧ e.length = 27 ∧ e.at 1 = V.int .i64 zv1_1
  | .inr r => x = .ret ∧ Fin p44 (Enc.enc r) .ret e h
theorem l44_1 (a0 : List (List Int))   {lo : Int} {s : Int} {t : (Int) ⊕ Int} (hF : forR lo (a0.length : Int) (F44_1_B a0) (F44_1_D a0) s = some t) {e : Env} {h : Heap} (hI : I44_1 a0  lo s e h) : W A c44_1 e h (P44_1 a0  t) := by
  show W A (.block 0 (.loop false b44_1)) e h _
  rw [W_block]
  refine W_forR hF 0 (by obtain ⟨_, rfl, _⟩ := hI; rfl) (I44_1 a0 ) hI ?_ ?_
  · rintro v5_1 v1_1 e h ⟨k4, rfl, h_3⟩ hlt hw o ho
    unfold F44_1_B at ho
    obtain ⟨x6, gx6, ho⟩ := bS ho
    obtain ⟨w7a, w7b⟩ := getI_w gx6
    obtain ⟨x8, gx8, ho⟩ := bS ho
    have w9 : ans A 43 [V.isl (x6.map Enc.enc), V.int .i64 v1_1] = some (V.int .i64 x8) := s43 x6 v1_1  gx8
    by_cases c10 : x8 < 0
    · rw [if_pos c10] at ho
      cases ho
      simp only [simprocAttr, R0, opEv, fillV, mapO, mapS, b44_1, h_3, eq_true hlt, hw, w7a, w7b, w9, eq_true c10]
      intro ht; subst ht
      simp only [simprocAttr, RR, RB]
      exact And.intro rfl (fin_ret (by simp only [simprocAttr, R0, fn_out, p44, Rs.ev, mapO, mapS, take_len_self, h_3, eq_true hlt, hw, w7a, w7b, w9, eq_true c10]))
    · rw [if_neg c10] at ho
      cases ho
      simp only [simprocAttr, R0, opEv, fillV, mapO, mapS, b44_1, h_3, eq_true hlt, hw, w7a, w7b, w9, eq_false c10]
      refine And.intro rfl (Exists.intro _ ( And.intro rfl ?_))
      simp only [simprocAttr, R0, h_3, eq_true hlt, hw, w7a, w7b, w9, eq_false c10]
  · rintro v5_1 v1_1 e h ⟨k4, rfl, h_3⟩ hge t1 ho
    unfold F44_1_D at ho
    cases ho
    simp only [simprocAttr, R0, opEv, fillV, mapO, mapS, b44_1, h_3, eq_false hge]
    intro ht; subst ht
    refine And.intro rfl (Exists.intro _ ( And.intro rfl ?_))
    simp only [simprocAttr, R0, h_3, eq_false hge]
theorem s44 (a0 : List (List Int)) (a1 : Int)   {r : Int} (hF : F44 a0 a1 = some r) : ans A 44 [V.isl (a0.map Enc.enc), V.int .i64 a1] = some (Enc.enc r) := by
  refine ans_of (f := p44) rfl rfl rfl fun e hl he => ?_
  have h0_0 : e.at 0 = V.isl (a0.map Enc.enc) := he 0 _ rfl
  have h1_0 : e.at 1 = V.int .i64 a1 := he 1 _ rfl
  have hl_0 : e.length = 27 := hl
  clear he hl
  have h_0 := And.intro hl_0 (And.intro h0_0 h1_0)
  show W A b44 e ⟨[], 0⟩ _
  unfold F44 at hF
  obtain ⟨x1, gx1, hF⟩ := bS hF
  have wx1 := chk_w gx1
  by_cases c2 : x1 < 0
  · rw [if_pos c2] at hF
    cases hF
    simp only [simprocAttr, R0, opEv, fillV, mapO, mapS, b44, h_0, wx1, eq_true c2]
    exact fin_ret (by simp only [simprocAttr, R0, fn_out, p44, Rs.ev, mapO, mapS, take_len_self, h_0, wx1, eq_true c2])
  · rw [if_neg c2] at hF
    obtain ⟨t11, gt11, hF⟩ := bS hF
    rcases t11 with zv1_1 | r12
    · dsimp only at hF
      simp only [simprocAttr, R0, opEv, fillV, mapO, mapS, b44, h_0, wx1, eq_false c2]
      refine W.mono (l44_1 a0   gt11 (Exists.intro _ ( And.intro rfl ?_))) ?_
      · simp only [simprocAttr, R0, h_0, wx1, eq_false c2]
      rintro _ e _ ⟨rfl, k4, rfl, h_5⟩
      cases hF
      simp only [simprocAttr, R0, opEv, fillV, mapO, mapS, h_5, eq_false c2]
      exact fin_ret (by simp only [simprocAttr, R0, fn_out, p44, Rs.ev, mapO, mapS, take_len_self, h_5, eq_false c2])
    · dsimp only at hF
      cases hF
      simp only [simprocAttr, R0, opEv, fillV, mapO, mapS, b44, h_0, wx1, eq_false c2]
      refine W.mono (l44_1 a0   gt11 (Exists.intro _ ( And.intro rfl ?_))) ?_
      · simp only [simprocAttr, R0, h_0, wx1, eq_false c2]
      rintro _ e h ⟨rfl, hq⟩
      simp only [simprocAttr, RR, RB]
      exact hq
def F11_1_B (a0 : List (List (List Int))) (v5_1 : Int) (v1_1 : Int) : Option ((Int) ⊕ ((Int) ⊕ Int)) :=
  (getI a0 v5_1).bind fun x6 =>
(F44 x6 v1_1).bind fun x8 =>
if x8 < 0 then
  some (.inr (.inr (-1)))
else
  some (.inl x8)
def F11_1_D (a0 : List (List (List Int))) (v5_1 : Int) (v1_1 : Int) : Option ((Int) ⊕ Int) :=
  some (.inl v1_1)
def F11 (a0 : List (List (List Int))) (a1 : Int) : Option Int :=
  (chk (a1 - (a0.length : Int))).bind fun x1 =>
  if x1 < 0 then
    some (-1)
  else
    (forR 0 (a0.length : Int) (F11_1_B a0) (F11_1_D a0) x1).bind fun t11 => match t11 with
      | .inl zv1_1 =>
        some zv1_1
      | .inr r12 => some r12
def I11_1 (a0 : List (List (List Int)))  (v5_1 : Int) (v1_1 : Int) (e : Env) (h : Heap) : Prop :=
  ∃ k4 : Nat, h = ⟨[], k4⟩ ∧ e.length = 27 ∧ e.at 0 = V.isl (a0.map Enc.enc) ∧ e.at 1 = V.int .i64 v1_1 ∧ e.at 5 = V.int .i64 v5_1
def P11_1 (a0 : List (List (List Int)))  (t : (Int) ⊕ Int) (x : Ex) (e : Env) (h : Heap) : Prop :=
  match t with
  | .inl zv1_1 => x = .normal ∧ ∃ k4 : Nat, h = ⟨[], k4⟩ ∧ e.length = 27 ∧ e.at 1 = V.int .i64 zv1_1
  | .inr r => x = .ret ∧ Fin p11 (Enc.enc r) .ret e h
theorem l11_1 (a0 : List (List (List Int)))   {lo : Int} {s : Int} {t : (Int) ⊕ Int} (hF : forR lo (a0.length : Int) (F11_1_B a0) (F11_1_D a0) s = some t) {e : Env} {h : Heap} (hI : I11_1 a0  lo s e h) : W A c11_1 e h (P11_1 a0  t) := by
  show W A (.block 0 (.loop false b11_1)) e h _
  rw [W_block]
  refine W_forR hF 0 (by obtain ⟨_, rfl, _⟩ := hI; rfl) (I11_1 a0 ) hI ?_ ?_
  · rintro v5_1 v1_1 e h ⟨k4, rfl, h_3⟩ hlt hw o ho
    unfold F11_1_B at ho
    obtain ⟨x6, gx6, ho⟩ := bS ho
    obtain ⟨w7a, w7b⟩ := getI_w gx6
    obtain ⟨x8, gx8, ho⟩ := bS ho
    have w9 : ans A 44 [V.isl (x6.map Enc.enc), V.int .i64 v1_1] = some (V.int .i64 x8) := s44 x6 v1_1  gx8
    by_cases c10 : x8 < 0
    · rw [if_pos c10] at ho
      cases ho
      simp only [simprocAttr, R0, opEv, fillV, mapO, mapS, b11_1, h_3, eq_true hlt, hw, w7a, w7b, w9, eq_true c10]
      intro ht; subst ht
      simp only [simprocAttr, RR, RB]
      exact And.intro rfl (fin_ret (by simp only [simprocAttr, R0, fn_out, p11, Rs.ev, mapO, mapS, take_len_self, h_3, eq_true hlt, hw, w7a, w7b, w9, eq_true c10]))
    · rw [if_neg c10] at ho
      cases ho
      simp only [simprocAttr, R0, opEv, fillV, mapO, mapS, b11_1, h_3, eq_true hlt, hw, w7a, w7b, w9, eq_false c10]
      refine And.intro rfl (Exists.intro _ ( And.intro rfl ?_))
      simp only [simprocAttr, R0, h_3, eq_true hlt, hw, w7a, w7b, w9, eq_false c10]
  · rintro v5_1 v1_1 e h ⟨k4, rfl, h_3⟩ hge t1 ho
    unfold F11_1_D at ho
    cases ho
    simp only [simprocAttr, R0, opEv, fillV, mapO, mapS, b11_1, h_3, eq_false hge]
    intro ht; subst ht
    refine And.intro rfl (Exists.intro _ ( And.intro rfl ?_))
    simp only [simprocAttr, R0, h_3, eq_false hge]
theorem s11 (a0 : List (List (List Int))) (a1 : Int)   {r : Int} (hF : F11 a0 a1 = some r) : ans A 11 [V.isl (a0.map Enc.enc), V.int .i64 a1] = some (Enc.enc r) := by
  refine ans_of (f := p11) rfl rfl rfl fun e hl he => ?_
  have h0_0 : e.at 0 = V.isl (a0.map Enc.enc) := he 0 _ rfl
  have h1_0 : e.at 1 = V.int .i64 a1 := he 1 _ rfl
  have hl_0 : e.length = 27 := hl
  clear he hl
  have h_0 := And.intro hl_0 (And.intro h0_0 h1_0)
  show W A b11 e ⟨[], 0⟩ _
  unfold F11 at hF
  obtain ⟨x1, gx1, hF⟩ := bS hF
  have wx1 := chk_w gx1
  by_cases c2 : x1 < 0
  · rw [if_pos c2] at hF
    cases hF
    simp only [simprocAttr, R0, opEv, fillV, mapO, mapS, b11, h_0, wx1, eq_true c2]
    exact fin_ret (by simp only [simprocAttr, R0, fn_out, p11, Rs.ev, mapO, mapS, take_len_self, h_0, wx1, eq_true c2])
  · rw [if_neg c2] at hF
    obtain ⟨t11, gt11, hF⟩ := bS hF
    rcases t11 with zv1_1 | r12
    · dsimp only at hF
      simp only [simprocAttr, R0, opEv, fillV, mapO, mapS, b11, h_0, wx1, eq_false c2]
      refine W.mono (l11_1 a0   gt11 (Exists.intro _ ( And.intro rfl ?_))) ?_
      · simp only [simprocAttr, R0, h_0, wx1, eq_false c2]
      rintro _ e _ ⟨rfl, k4, rfl, h_5⟩
      cases hF
      simp only [simprocAttr, R0, opEv, fillV, mapO, mapS, h_5, eq_false c2]
      exact fin_ret (by simp only [simprocAttr, R0, fn_out, p11, Rs.ev, mapO, mapS, take_len_self, h_5, eq_false c2])
    · dsimp only at hF
      cases hF
      simp only [simprocAttr, R0, opEv, fillV, mapO, mapS, b11, h_0, wx1, eq_false c2]
      refine W.mono (l11_1 a0   gt11 (Exists.intro _ ( And.intro rfl ?_))) ?_
      · simp only [simprocAttr, R0, h_0, wx1, eq_false c2]
      rintro _ e h ⟨rfl, hq⟩
      simp only [simprocAttr, RR, RB]
      exact hq
def F235_1_B (a0 : List (List (List (List Int)))) (v5_1 : Int) (v1_1 : Int) : Option ((Int) ⊕ ((Int) ⊕ Int)) :=
  (getI a0 v5_1).bind fun x6 =>
(F11 x6 v1_1).bind fun x8 =>
if x8 < 0 then
  some (.inr (.inr (-1)))
else
  some (.inl x8)
def F235_1_D (a0 : List (List (List (List Int)))) (v5_1 : Int) (v1_1 : Int) : Option ((Int) ⊕ Int) :=
  some (.inl v1_1)
def F235 (a0 : List (List (List (List Int)))) (a1 : Int) : Option Int :=
  (chk (a1 - (a0.length : Int))).bind fun x1 =>
  if x1 < 0 then
    some (-1)
  else
    (forR 0 (a0.length : Int) (F235_1_B a0) (F235_1_D a0) x1).bind fun t11 => match t11 with
      | .inl zv1_1 =>
        some zv1_1
      | .inr r12 => some r12
def I235_1 (a0 : List (List (List (List Int))))  (v5_1 : Int) (v1_1 : Int) (e : Env) (h : Heap) : Prop :=
  ∃ k4 : Nat, h = ⟨[], k4⟩ ∧ e.length = 27 ∧ e.at 0 = V.isl (a0.map Enc.enc) ∧ e.at 1 = V.int .i64 v1_1 ∧ e.at 5 = V.int .i64 v5_1
def P235_1 (a0 : List (List (List (List Int))))  (t : (Int) ⊕ Int) (x : Ex) (e : Env) (h : Heap) : Prop :=
  match t with
  | .inl zv1_1 => x = .normal ∧ ∃ k4 : Nat, h = ⟨[], k4⟩ ∧ e.length = 27 ∧ e.at 1 = V.int .i64 zv1_1
  | .inr r => x = .ret ∧ Fin p235 (Enc.enc r) .ret e h
theorem l235_1 (a0 : List (List (List (List Int))))   {lo : Int} {s : Int} {t : (Int) ⊕ Int} (hF : forR lo (a0.length : Int) (F235_1_B a0) (F235_1_D a0) s = some t) {e : Env} {h : Heap} (hI : I235_1 a0  lo s e h) : W A c235_1 e h (P235_1 a0  t) := by
  show W A (.block 0 (.loop false b235_1)) e h _
  rw [W_block]
  refine W_forR hF 0 (by obtain ⟨_, rfl, _⟩ := hI; rfl) (I235_1 a0 ) hI ?_ ?_
  · rintro v5_1 v1_1 e h ⟨k4, rfl, h_3⟩ hlt hw o ho
    unfold F235_1_B at ho
    obtain ⟨x6, gx6, ho⟩ := bS ho
    obtain ⟨w7a, w7b⟩ := getI_w gx6
    obtain ⟨x8, gx8, ho⟩ := bS ho
    have w9 : ans A 11 [V.isl (x6.map Enc.enc), V.int .i64 v1_1] = some (V.int .i64 x8) := s11 x6 v1_1  gx8
    by_cases c10 : x8 < 0
    · rw [if_pos c10] at ho
      cases ho
      simp only [simprocAttr, R0, opEv, fillV, mapO, mapS, b235_1, h_3, eq_true hlt, hw, w7a, w7b, w9, eq_true c10]
      intro ht; subst ht
      simp only [simprocAttr, RR, RB]
      exact And.intro rfl (fin_ret (by simp only [simprocAttr, R0, fn_out, p235, Rs.ev, mapO, mapS, take_len_self, h_3, eq_true hlt, hw, w7a, w7b, w9, eq_true c10]))
    · rw [if_neg c10] at ho
      cases ho
      simp only [simprocAttr, R0, opEv, fillV, mapO, mapS, b235_1, h_3, eq_true hlt, hw, w7a, w7b, w9, eq_false c10]
      refine And.intro rfl (Exists.intro _ ( And.intro rfl ?_))
      simp only [simprocAttr, R0, h_3, eq_true hlt, hw, w7a, w7b, w9, eq_false c10]
  · rintro v5_1 v1_1 e h ⟨k4, rfl, h_3⟩ hge t1 ho
    unfold F235_1_D at ho
    cases ho
    simp only [simprocAttr, R0, opEv, fillV, mapO, mapS, b235_1, h_3, eq_false hge]
    intro ht; subst ht
    refine And.intro rfl (Exists.intro _ ( And.intro rfl ?_))
    simp only [simprocAttr, R0, h_3, eq_false hge]
theorem s235 (a0 : List (List (List (List Int)))) (a1 : Int)   {r : Int} (hF : F235 a0 a1 = some r) : ans A 235 [V.isl (a0.map Enc.enc), V.int .i64 a1] = some (Enc.enc r) := by
  refine ans_of (f := p235) rfl rfl rfl fun e hl he => ?_
  have h0_0 : e.at 0 = V.isl (a0.map Enc.enc) := he 0 _ rfl
  have h1_0 : e.at 1 = V.int .i64 a1 := he 1 _ rfl
  have hl_0 : e.length = 27 := hl
  clear he hl
  have h_0 := And.intro hl_0 (And.intro h0_0 h1_0)
  show W A b235 e ⟨[], 0⟩ _
  unfold F235 at hF
  obtain ⟨x1, gx1, hF⟩ := bS hF
  have wx1 := chk_w gx1
  by_cases c2 : x1 < 0
  · rw [if_pos c2] at hF
    cases hF
    simp only [simprocAttr, R0, opEv, fillV, mapO, mapS, b235, h_0, wx1, eq_true c2]
    exact fin_ret (by simp only [simprocAttr, R0, fn_out, p235, Rs.ev, mapO, mapS, take_len_self, h_0, wx1, eq_true c2])
  · rw [if_neg c2] at hF
    obtain ⟨t11, gt11, hF⟩ := bS hF
    rcases t11 with zv1_1 | r12
    · dsimp only at hF
      simp only [simprocAttr, R0, opEv, fillV, mapO, mapS, b235, h_0, wx1, eq_false c2]
      refine W.mono (l235_1 a0   gt11 (Exists.intro _ ( And.intro rfl ?_))) ?_
      · simp only [simprocAttr, R0, h_0, wx1, eq_false c2]
      rintro _ e _ ⟨rfl, k4, rfl, h_5⟩
      cases hF
      simp only [simprocAttr, R0, opEv, fillV, mapO, mapS, h_5, eq_false c2]
      exact fin_ret (by simp only [simprocAttr, R0, fn_out, p235, Rs.ev, mapO, mapS, take_len_self, h_5, eq_false c2])
    · dsimp only at hF
      cases hF
      simp only [simprocAttr, R0, opEv, fillV, mapO, mapS, b235, h_0, wx1, eq_false c2]
      refine W.mono (l235_1 a0   gt11 (Exists.intro _ ( And.intro rfl ?_))) ?_
      · simp only [simprocAttr, R0, h_0, wx1, eq_false c2]
      rintro _ e h ⟨rfl, hq⟩
      simp only [simprocAttr, RR, RB]
      exact hq
def F215 (a0 : GDouble) (a1 : Int) : Option Int :=
  (F44 a0.Dims a1).bind fun x1 =>
  if x1 < 0 then
    some (-1)
  else
    (F235 a0.Across x1).bind fun x4 =>
    if x4 < 0 then
      some (-1)
    else
      (F235 a0.Down x4).bind fun x7 =>
      if x7 < 0 then
        some (-1)
      else
        some x7
theorem s215 (a0 : GDouble) (a1 : Int)   {r : Int} (hF : F215 a0 a1 = some r) : ans A 215 [V.agg [V.int .i64 a0.Prime, V.isl (a0.Dims.map Enc.enc), V.isl (a0.Across.map Enc.enc), V.isl (a0.Down.map Enc.enc)], V.int .i64 a1] = some (Enc.enc r) := by
  refine ans_of (f := p215) rfl rfl rfl fun e hl he => ?_
  have h0_0 : e.at 0 = V.agg [V.int .i64 a0.Prime, V.isl (a0.Dims.map Enc.enc), V.isl (a0.Across.map Enc.enc), V.isl (a0.Down.map Enc.enc)] := he 0 _ rfl
  have h1_0 : e.at 1 = V.int .i64 a1 := he 1 _ rfl
  have hl_0 : e.length = 24 := hl
  clear he hl
  have h_0 := And.intro hl_0 (And.intro h0_0 h1_0)
  show W A b215 e ⟨[], 0⟩ _
  unfold F215 at hF
  obtain ⟨x1, gx1, hF⟩ := bS hF
  have w2 : ans A 44 [V.isl (a0.Dims.map Enc.enc), V.int .i64 a1] = some (V.int .i64 x1) := s44 a0.Dims a1  gx1
  by_cases c3 : x1 < 0
  · rw [if_pos c3] at hF
    cases hF
    simp only [simprocAttr, R0, opEv, fillV, mapO, mapS, b215, h_0, w2, eq_true c3]
    exact fin_ret (by simp only [simprocAttr, R0, fn_out, p215, Rs.ev, mapO, mapS, take_len_self, h_0, w2, eq_true c3])
  · rw [if_neg c3] at hF
    obtain ⟨x4, gx4, hF⟩ := bS hF
    have w5 : ans A 235 [V.isl (a0.Across.map Enc.enc), V.int .i64 x1] = some (V.int .i64 x4) := s235 a0.Across x1  gx4
    by_cases c6 : x4 < 0
    · rw [if_pos c6] at hF
      cases hF
      simp only [simprocAttr, R0, opEv, fillV, mapO, mapS, b215, h_0, w2, eq_false c3, w5, eq_true c6]
      exact fin_ret (by simp only [simprocAttr, R0, fn_out, p215, Rs.ev, mapO, mapS, take_len_self, h_0, w2, eq_false c3, w5, eq_true c6])
    · rw [if_neg c6] at hF
      obtain ⟨x7, gx7, hF⟩ := bS hF
      have w8 : ans A 235 [V.isl (a0.Down.map Enc.enc), V.int .i64 x4] = some (V.int .i64 x7) := s235 a0.Down x4  gx7
      by_cases c9 : x7 < 0
      · rw [if_pos c9] at hF
        cases hF
        simp only [simprocAttr, R0, opEv, fillV, mapO, mapS, b215, h_0, w2, eq_false c3, w5, eq_false c6, w8, eq_true c9]
        exact fin_ret (by simp only [simprocAttr, R0, fn_out, p215, Rs.ev, mapO, mapS, take_len_self, h_0, w2, eq_false c3, w5, eq_false c6, w8, eq_true c9])
      · rw [if_neg c9] at hF
        cases hF
        simp only [simprocAttr, R0, opEv, fillV, mapO, mapS, b215, h_0, w2, eq_false c3, w5, eq_false c6, w8, eq_false c9]
        exact fin_ret (by simp only [simprocAttr, R0, fn_out, p215, Rs.ev, mapO, mapS, take_len_self, h_0, w2, eq_false c3, w5, eq_false c6, w8, eq_false c9])
def F47_1_B (a0 : List Int) (v4_1 : Int) (o0_1 : (List Int)) : Option (((List Int)) ⊕ ((List Int))) :=
  (getI a0 v4_1).bind fun x7 =>
(getI o0_1 v4_1).bind fun x9 =>
(setI o0_1 v4_1 x7).bind fun l11 =>
some (.inl l11)
def F47_1_D (a0 : List Int) (v4_1 : Int) (o0_1 : (List Int)) : Option ((List Int)) :=
  some o0_1
def F47 (a0 : List Int) : Option (List Int) :=
  (mkL 8 (a0.length : Int) 0).bind fun l1 =>
  (forR 0 (a0.length : Int) (F47_1_B a0) (F47_1_D a0) l1).bind fun zo0_1 =>
  some zo0_1
def I47_1 (a0 : List Int)  (v4_1 : Int) (o0_1 : (List Int)) (e : Env) (h : Heap) : Prop :=
  ∃ u4 k5 : Nat, h = ⟨[(u4, some (o0_1.map Enc.enc))], k5⟩ ∧ e.length = 22 ∧ e.at 0 = V.isl (a0.map Enc.enc) ∧ e.at 3 = V.sl 0 u4 0 o0_1.length 1 ∧ e.at 4 = V.int .i64 v4_1
def P47_1 (a0 : List Int)  (zo0_1 : (List Int)) (x : Ex) (e : Env) (h : Heap) : Prop :=
  x = .normal ∧ ∃ u4 k5 : Nat, h = ⟨[(u4, some (zo0_1.map Enc.enc))], k5⟩ ∧ e.length = 22 ∧ e.at 3 = V.sl 0 u4 0 zo0_1.length 1
theorem l47_1 (a0 : List Int)   {lo : Int} {s : (List Int)} {t : (List Int)} (hF : forR lo (a0.length : Int) (F47_1_B a0) (F47_1_D a0) s = some t) {e : Env} {h : Heap} (hI : I47_1 a0  lo s e h) : W A c47_1 e h (P47_1 a0  t) := by
  show W A (.block 0 (.loop false b47_1)) e h _
  rw [W_block]
  refine W_forR hF 1 (by obtain ⟨_, _, rfl, _⟩ := hI; rfl) (I47_1 a0 ) hI ?_ ?_
  · rintro v4_1 o0_1 e h ⟨u4, k5, rfl, h_3⟩ hlt hw o ho
    unfold F47_1_B at ho
    obtain ⟨x7, gx7, ho⟩ := bS ho
    obtain ⟨w8a, w8b⟩ := getI_w gx7
    obtain ⟨x9, gx9, ho⟩ := bS ho
    obtain ⟨w10a, w10b⟩ := getI_w gx9
    have w10c := getI_lt gx9
    have w10d : List.drop (Int.toNat v4_1) (o0_1.map Enc.enc) = (V.int .i64 x9) :: List.drop ((Int.toNat v4_1) + 1) (o0_1.map Enc.enc) := drop_enc w10b
    obtain ⟨l11, gl11, ho⟩ := bS ho
    obtain ⟨w12a, w12b, w12c, w12d, w12e⟩ := setI_w gl11
    replace w12e : List.take (Int.toNat v4_1) (o0_1.map Enc.enc) ++ [V.int .i64 x7] ++ List.drop (Int.toNat v4_1 + 1) (o0_1.map Enc.enc) = List.map Enc.enc l11 := w12e
    cases ho
    simp only [simprocAttr, R0, opEv, fillV, mapO, mapS, b47_1, h_3, eq_true hlt, hw, w8a, w8b, w10a, w10b, w10c, w10d, w12a, w12b, w12c, w12e]
    refine And.intro rfl (Exists.intro _ ( Exists.intro _ ( And.intro rfl ?_)))
    simp only [simprocAttr, R0, h_3, eq_true hlt, hw, w8a, w8b, w10a, w10b, w10c, w10d, w12a, w12b, w12c, w12e, w12d]
  · rintro v4_1 o0_1 e h ⟨u4, k5, rfl, h_3⟩ hge t1 ho
    unfold F47_1_D at ho
    cases ho
    simp only [simprocAttr, R0, opEv, fillV, mapO, mapS, b47_1, h_3, eq_false hge]
    intro ht; subst ht
    refine And.intro rfl (Exists.intro _ ( Exists.intro _ ( And.intro rfl ?_)))
    simp only [simprocAttr, R0, h_3, eq_false hge]
theorem t47 (a0 : List Int)   {r : List Int} (hF : F47 a0 = some r) : tans A 47 [1] [V.isl (a0.map Enc.enc)] = some (Enc.enc r) := by
  refine tans_of (f := p47) rfl rfl rfl fun e hl he => ?_
  have h0_0 : e.at 0 = V.isl (a0.map Enc.enc) := he 0 _ rfl
  have hl_0 : e.length = 22 := hl
  clear he hl
  show W A b47 e ⟨[], 0⟩ _
  unfold F47 at hF
  obtain ⟨l1, gl1, hF⟩ := bS hF
  obtain ⟨w2a, w2b, w2c, w2d, w2e⟩ := mkL_w gl1
  replace w2e : (List.replicate (Int.toNat (a0.length : Int)) [V.int .i64 0]).flatten = List.map Enc.enc l1 := w2e
  obtain ⟨zo0_1, gt13, hF⟩ := bS hF
  simp only [↓reduceIte, Nat.reduceAdd, Nat.reduceMul, Nat.reduceSub, Nat.reduceLT, Nat.reduceLeDiff, Nat.reduceEqDiff, Nat.reducePow, Int.reducePow, Int.reduceLE, Int.reduceLT, Int.reduceEq, Int.reduceToNat, reduceCtorEq, R0, opEv, fillV, mapO, mapS, b47, hl_0, h0_0, w2a, w2b, w2c, w2e]
  refine W.mono (l47_1 a0   gt13 (Exists.intro _ ( Exists.intro _ ( And.intro rfl ?_)))) ?_
  · simp only [↓reduceIte, Nat.reduceAdd, Nat.reduceMul, Nat.reduceSub, Nat.reduceLT, Nat.reduceLeDiff, Nat.reduceEqDiff, Nat.reducePow, Int.reducePow, Int.reduceLE, Int.reduceLT, Int.reduceEq, Int.reduceToNat, reduceCtorEq, R0, hl_0, h0_0, w2a, w2b, w2c, w2e, w2d]
  rintro _ e _ ⟨rfl, u4, k5, rfl, hl_6, h3_6⟩
  have hE := Option.some.inj hF; subst hE
  simp only [↓reduceIte, Nat.reduceAdd, Nat.reduceMul, Nat.reduceSub, Nat.reduceLT, Nat.reduceLeDiff, Nat.reduceEqDiff, Nat.reducePow, Int.reducePow, Int.reduceLE, Int.reduceLT, Int.reduceEq, Int.reduceToNat, reduceCtorEq, R0, opEv, fillV, mapO, mapS, hl_6, h3_6]
  exact tfin_ret (by simp only [↓reduceIte, Nat.reduceAdd, Nat.reduceMul, Nat.reduceSub, Nat.reduceLT, Nat.reduceLeDiff, Nat.reduceEqDiff, Nat.reducePow, Int.reducePow, Int.reduceLE, Int.reduceLT, Int.reduceEq, Int.reduceToNat, reduceCtorEq, R0, fn_out, p47, Rs.ev, mapO, mapS, take_len_self, hl_6, h3_6, frzs (α := Int) zo0_1, takes (α := Int) zo0_1])
def F48_1_B (a0 : List (List Int)) (v4_1 : Int) (o0_1 : (List (List Int))) : Option (((List (List Int))) ⊕ ((List (List Int)))) :=
  (getI a0 v4_1).bind fun x7 =>
(F47 x7).bind fun x9 =>
(getI o0_1 v4_1).bind fun x11 =>
(setI o0_1 v4_1 x9).bind fun l13 =>
some (.inl l13)
def F48_1_D (a0 : List (List Int)) (v4_1 : Int) (o0_1 : (List (List Int))) : Option ((List (List Int))) :=
  some o0_1
def F48 (a0 : List (List Int)) : Option (List (List Int)) :=
  (mkL 24 (a0.length : Int) ([] : List Int)).bind fun l1 =>
  (forR 0 (a0.length : Int) (F48_1_B a0) (F48_1_D a0) l1).bind fun zo0_1 =>
  some zo0_1
theorem d48 (a0 : List (List Int)) {r : List (List Int)} (hF : F48 a0 = some r) : ∃ v h', res A 48 [V.isl (a0.map Enc.enc)] Heap.empty = some (v, h') ∧ ∃ K, Deep.rep h' v r K := by
  refine res_dp (f := p48) rfl rfl rfl fun e hl he => ?_
  have h0_0 : e.at 0 = V.isl (a0.map Enc.enc) := he 0 _ rfl
  have hl_0 : e.length = 23 := hl
  clear he hl
  show W A b48 e ⟨[], 0⟩ _
  unfold F48 at hF
  obtain ⟨l1, gl1, hF⟩ := bS hF
  obtain ⟨zo, gt, hF⟩ := bS hF
  have hE := Option.some.inj hF; subst hE
  obtain ⟨w1a, w1b, w1c, w1d⟩ := mkL_deep gl1
  simp only [Int.toNat_natCast] at w1d
  have w1e : (List.replicate (Int.toNat (a0.length : Int)) [V.nils]).flatten = List.replicate a0.length V.nils := by rw [Int.toNat_natCast, List.flatten_replicate_singleton]
  subst w1d
  simp only [↓reduceIte, Nat.reduceAdd, Nat.reduceMul, Nat.reduceSub, Nat.reduceLT, Nat.reduceLeDiff, Nat.reduceEqDiff, Nat.reducePow, Int.reducePow, Int.reduceLE, Int.reduceLT, Int.reduceEq, Int.reduceToNat, reduceCtorEq, R1, opEv, fillV, mapO, mapS, b48, hl_0, h0_0, w1a, w1b, w1c, w1e, Int.toNat_natCast]
  show W A (.block 0 (.loop true b48_1)) _ _ _
  rw [W_block]
  refine W_forR gt _ rfl (fun i l e h => ∃ vs K, h.ents[0]? = some (0, some vs) ∧ reps h vs l K ∧ ¬ K 0 ∧ l.length = a0.length ∧ e.length = 23 ∧ e.at 0 = V.isl (a0.map Enc.enc) ∧ e.at 3 = V.sl 0 0 0 a0.length 1 ∧ e.at 4 = V.int .i64 i) ?_ ?_ ?_
  · refine ⟨_, fun _ => False, rfl, by rw [List.flatten_replicate_singleton]; exact reps_nils _ _, fun x => x, by simp, ?_⟩
    simp only [↓reduceIte, Nat.reduceAdd, Nat.reduceMul, Nat.reduceSub, Nat.reduceLT, Nat.reduceLeDiff, Nat.reduceEqDiff, Nat.reducePow, Int.reducePow, Int.reduceLE, Int.reduceLT, Int.reduceEq, Int.reduceToNat, reduceCtorEq, R1, hl_0, h0_0]
  · rintro i l e ⟨E, c⟩ ⟨vs, K, g1, g2, g3, g4, hl_1, h0_1, h3_1, h4_1⟩ hlt hw o ho
    unfold F48_1_B at ho
    obtain ⟨x7, gx7, ho⟩ := bS ho
    obtain ⟨w6a, w6b⟩ := getI_w gx7
    obtain ⟨x9, gx9, ho⟩ := bS ho
    have w8 := t47 x7 gx9
    obtain ⟨x11, gx11, ho⟩ := bS ho
    obtain ⟨l13, gl13, ho⟩ := bS ho
    have sm : l13 = l.set i.toNat x9 := setI_eq gl13
    have hE := Option.some.inj ho; subst hE
    have hil : i.toNat < l.length := by omega
    have hln := g2.len
    have hE0 : 0 < E.length := (List.getElem?_eq_some_iff.1 g1).1
    obtain ⟨x, K1, K2, f1, f2, f3, f4, f5⟩ := g2.focus hil
    have p0 : ∀ y, (E ++ [y])[0]? = some (0, some vs) := fun y => (List.getElem?_append_left hE0).trans g1
    have hs : List.take i.toNat vs ++ [V.sl E.length c 0 x9.length 1] ++ List.drop (i.toNat + 1) vs = vs.set i.toNat (V.sl E.length c 0 x9.length 1) := by
      rw [List.set_eq_take_append_cons_drop, if_pos (by omega)]; simp
    have hle : i.toNat + 1 ≤ vs.length := by omega
    simp only [↓reduceIte, Nat.reduceAdd, Nat.reduceMul, Nat.reduceSub, Nat.reduceLT, Nat.reduceLeDiff, Nat.reduceEqDiff, Nat.reducePow, Int.reducePow, Int.reduceLE, Int.reduceLT, Int.reduceEq, Int.reduceToNat, reduceCtorEq, R1, opEv, fillV, mapO, mapS, b48_1, hl_1, h0_1, h3_1, h4_1, eq_true hlt, hw, w6a, w6b, w8, callM_tans, thaw_one, p0, hs, hle]
    have r1 := f5 ⟨(E ++ [(c, some (x9.map Enc.enc))]).set 0 (0, some (vs.set i.toNat (V.sl E.length c 0 x9.length 1))), c + 1⟩ (V.sl E.length c 0 x9.length 1) x9 (fun k => k = E.length) (fun k => k = E.length ∨ K2 k)
      (int_row ((set_ne (by omega)).trans (get_last _ _)) fun k => Iff.rfl)
      (fun k q => set_app_new (fun e => g3 (e ▸ (f4 k).2 (.inr q))) (g2.bd ((f4 k).2 (.inr q))))
      (fun k q q2 => by have := g2.bd ((f4 k).2 (.inr q2)); simp only at this; omega) (fun k => Iff.rfl)
    refine And.intro rfl ⟨_, fun k => k = E.length ∨ K2 k, set_app_key (by simp), by rw [sm]; exact r1, fun q => q.elim (fun q => by omega) (fun q => g3 ((f4 0).2 (.inr q))), by rw [sm, List.length_set]; exact g4, ?_⟩
    simp only [↓reduceIte, Nat.reduceAdd, Nat.reduceMul, Nat.reduceSub, Nat.reduceLT, Nat.reduceLeDiff, Nat.reduceEqDiff, Nat.reducePow, Int.reducePow, Int.reduceLE, Int.reduceLT, Int.reduceEq, Int.reduceToNat, reduceCtorEq, R1, hl_1, h0_1, h3_1, h4_1, hw]
  · rintro i l e ⟨E, c⟩ ⟨vs, K, g1, g2, g3, g4, hl_1, h0_1, h3_1, h4_1⟩ hge t1 ho
    unfold F48_1_D at ho
    have hE := Option.some.inj ho; subst hE
    simp only [↓reduceIte, Nat.reduceAdd, Nat.reduceMul, Nat.reduceSub, Nat.reduceLT, Nat.reduceLeDiff, Nat.reduceEqDiff, Nat.reducePow, Int.reducePow, Int.reduceLE, Int.reduceLT, Int.reduceEq, Int.reduceToNat, reduceCtorEq, R1, opEv, fillV, mapO, mapS, b48_1, hl_1, h0_1, h3_1, h4_1, eq_false hge]
    intro ht; subst ht
    refine And.intro (fun _ => trivial) ⟨_, by simp only [↓reduceIte, Nat.reduceAdd, Nat.reduceMul, Nat.reduceSub, Nat.reduceLT, Nat.reduceLeDiff, Nat.reduceEqDiff, Nat.reducePow, Int.reducePow, Int.reduceLE, Int.reduceLT, Int.reduceEq, Int.reduceToNat, reduceCtorEq, R1, fn_out, p48, Rs.ev, mapO, mapS, hl_1]; rfl, fun k => k = 0 ∨ K k, .inr ⟨0, 0, vs, K, by rw [g4], g1, g2, g3, fun k => Iff.rfl⟩⟩
theorem x48 (a0 : List (List Int)) {r : List (List Int)} (hF : F48 a0 = some r) : tans A 48 [1, 1] [V.isl (a0.map Enc.enc)] = some (Enc.enc r) := tans_of_deep (α := List (List Int)) (by decide) (d48 a0 hF)
def F13_1_B (a0 : List (List (List Int))) (v4_1 : Int) (o0_1 : (List (List (List Int)))) : Option (((List (List (List Int)))) ⊕ ((List (List (List Int))))) :=
  (getI a0 v4_1).bind fun x7 =>
(F48 x7).bind fun x9 =>
(getI o0_1 v4_1).bind fun x11 =>
(setI o0_1 v4_1 x9).bind fun l13 =>
some (.inl l13)
def F13_1_D (a0 : List (List (List Int))) (v4_1 : Int) (o0_1 : (List (List (List Int)))) : Option ((List (List (List Int)))) :=
  some o0_1
def F13 (a0 : List (List (List Int))) : Option (List (List (List Int))) :=
  (mkL 24 (a0.length : Int) ([] : List (List Int))).bind fun l1 =>
  (forR 0 (a0.length : Int) (F13_1_B a0) (F13_1_D a0) l1).bind fun zo0_1 =>
  some zo0_1
theorem d13 (a0 : List (List (List Int))) {r : List (List (List Int))} (hF : F13 a0 = some r) : ∃ v h', res A 13 [V.isl (a0.map Enc.enc)] Heap.empty = some (v, h') ∧ ∃ K, Deep.rep h' v r K := by
  refine res_dp (f := p13) rfl rfl rfl fun e hl he => ?_
  have h0_0 : e.at 0 = V.isl (a0.map Enc.enc) := he 0 _ rfl
  have hl_0 : e.length = 23 := hl
  clear he hl
  show W A b13 e ⟨[], 0⟩ _
  unfold F13 at hF
  obtain ⟨l1, gl1, hF⟩ := bS hF
  obtain ⟨zo, gt, hF⟩ := bS hF
  have hE := Option.some.inj hF; subst hE
  obtain ⟨w1a, w1b, w1c, w1d⟩ := mkL_deep gl1
  simp only [Int.toNat_natCast] at w1d
  have w1e : (List.replicate (Int.toNat (a0.length : Int)) [V.nils]).flatten = List.replicate a0.length V.nils := by rw [Int.toNat_natCast, List.flatten_replicate_singleton]
  subst w1d
  simp only [↓reduceIte, Nat.reduceAdd, Nat.reduceMul, Nat.reduceSub, Nat.reduceLT, Nat.reduceLeDiff, Nat.reduceEqDiff, Nat.reducePow, Int.reducePow, Int.reduceLE, Int.reduceLT, Int.reduceEq, Int.reduceToNat, reduceCtorEq, R1, opEv, fillV, mapO, mapS, b13, hl_0, h0_0, w1a, w1b, w1c, w1e, Int.toNat_natCast]
  show W A (.block 0 (.loop true b13_1)) _ _ _
  rw [W_block]
  refine W_forR gt _ rfl (fun i l e h => ∃ vs K, h.ents[0]? = some (0, some vs) ∧ reps h vs l K ∧ ¬ K 0 ∧ l.length = a0.length ∧ e.length = 23 ∧ e.at 0 = V.isl (a0.map Enc.enc) ∧ e.at 3 = V.sl 0 0 0 a0.length 1 ∧ e.at 4 = V.int .i64 i) ?_ ?_ ?_
  · refine ⟨_, fun _ => False, rfl, by rw [List.flatten_replicate_singleton]; exact reps_nils _ _, fun x => x, by simp, ?_⟩
    simp only [↓reduceIte, Nat.reduceAdd, Nat.reduceMul, Nat.reduceSub, Nat.reduceLT, Nat.reduceLeDiff, Nat.reduceEqDiff, Nat.reducePow, Int.reducePow, Int.reduceLE, Int.reduceLT, Int.reduceEq, Int.reduceToNat, reduceCtorEq, R1, hl_0, h0_0]
  · rintro i l e ⟨E, c⟩ ⟨vs, K, g1, g2, g3, g4, hl_1, h0_1, h3_1, h4_1⟩ hlt hw o ho
    unfold F13_1_B at ho
    obtain ⟨x7, gx7, ho⟩ := bS ho
    obtain ⟨w6a, w6b⟩ := getI_w gx7
    obtain ⟨x9, gx9, ho⟩ := bS ho
    have w8 := x48 x7 gx9
    obtain ⟨x11, gx11, ho⟩ := bS ho
    obtain ⟨l13, gl13, ho⟩ := bS ho
    have sm : l13 = l.set i.toNat x9 := setI_eq gl13
    have hE := Option.some.inj ho; subst hE
    have hil : i.toNat < l.length := by omega
    have hln := g2.len
    have hE0 : 0 < E.length := (List.getElem?_eq_some_iff.1 g1).1
    obtain ⟨x, K1, K2, f1, f2, f3, f4, f5⟩ := g2.focus hil
    obtain ⟨v, ⟨E1, c1⟩, t1, t2, t3, t4⟩ := thaw_deep (α := List (List Int)) (by decide) x9 ⟨E, c⟩
    have t1' : thaw 16 [1, 1] (V.isl (x9.map Enc.enc)) ⟨E, c⟩ = some (v, ⟨E1, c1⟩) := t1
    obtain ⟨v1, v2⟩ := rep_one t2
    simp only at t2 t3 t4 g1
    have p0 : E1[0]? = some (0, some vs) := (t4 0 hE0).trans g1
    have hs : List.take i.toNat vs ++ [v] ++ List.drop (i.toNat + 1) vs = vs.set i.toNat (v) := by
      rw [List.set_eq_take_append_cons_drop, if_pos (by omega)]; simp
    have hle : i.toNat + 1 ≤ vs.length := by omega
    simp only [↓reduceIte, Nat.reduceAdd, Nat.reduceMul, Nat.reduceSub, Nat.reduceLT, Nat.reduceLeDiff, Nat.reduceEqDiff, Nat.reducePow, Int.reducePow, Int.reduceLE, Int.reduceLT, Int.reduceEq, Int.reduceToNat, reduceCtorEq, R1, opEv, fillV, mapO, mapS, b13_1, hl_1, h0_1, h3_1, h4_1, eq_true hlt, hw, w6a, w6b, w8, callM_tans, t1', v1, v2, p0, hs, hle]
    have r1 := f5 ⟨E1.set 0 (0, some (vs.set i.toNat v)), c1⟩ v x9 (fun k => E.length ≤ k ∧ k < E1.length) (fun k => (E.length ≤ k ∧ k < E1.length) ∨ K2 k)
      (Deep.frame t2 fun k q => set_ne (by omega))
      (fun k q => (set_ne (E := E1) (key := 0) (k := k) (fun e : k = 0 => g3 (e ▸ (f4 k).2 (.inr q)))).trans (t4 k (g2.bd ((f4 k).2 (.inr q)))))
      (fun k q q2 => by have := g2.bd ((f4 k).2 (.inr q2)); simp only at this; omega) (fun k => Iff.rfl)
    refine And.intro rfl ⟨_, fun k => (E.length ≤ k ∧ k < E1.length) ∨ K2 k, set_app_key (by omega), by rw [sm]; exact r1, fun q => q.elim (fun q => by omega) (fun q => g3 ((f4 0).2 (.inr q))), by rw [sm, List.length_set]; exact g4, ?_⟩
    simp only [↓reduceIte, Nat.reduceAdd, Nat.reduceMul, Nat.reduceSub, Nat.reduceLT, Nat.reduceLeDiff, Nat.reduceEqDiff, Nat.reducePow, Int.reducePow, Int.reduceLE, Int.reduceLT, Int.reduceEq, Int.reduceToNat, reduceCtorEq, R1, hl_1, h0_1, h3_1, h4_1, hw]
  · rintro i l e ⟨E, c⟩ ⟨vs, K, g1, g2, g3, g4, hl_1, h0_1, h3_1, h4_1⟩ hge t1 ho
    unfold F13_1_D at ho
    have hE := Option.some.inj ho; subst hE
    simp only [↓reduceIte, Nat.reduceAdd, Nat.reduceMul, Nat.reduceSub, Nat.reduceLT, Nat.reduceLeDiff, Nat.reduceEqDiff, Nat.reducePow, Int.reducePow, Int.reduceLE, Int.reduceLT, Int.reduceEq, Int.reduceToNat, reduceCtorEq, R1, opEv, fillV, mapO, mapS, b13_1, hl_1, h0_1, h3_1, h4_1, eq_false hge]
    intro ht; subst ht
    refine And.intro (fun _ => trivial) ⟨_, by simp only [↓reduceIte, Nat.reduceAdd, Nat.reduceMul, Nat.reduceSub, Nat.reduceLT, Nat.reduceLeDiff, Nat.reduceEqDiff, Nat.reducePow, Int.reducePow, Int.reduceLE, Int.reduceLT, Int.reduceEq, Int.reduceToNat, reduceCtorEq, R1, fn_out, p13, Rs.ev, mapO, mapS, hl_1]; rfl, fun k => k = 0 ∨ K k, .inr ⟨0, 0, vs, K, by rw [g4], g1, g2, g3, fun k => Iff.rfl⟩⟩
theorem x13 (a0 : List (List (List Int))) {r : List (List (List Int))} (hF : F13 a0 = some r) : tans A 13 [1, 1, 1] [V.isl (a0.map Enc.enc)] = some (Enc.enc r) := tans_of_deep (α := List (List (List Int))) (by decide) (d13 a0 hF)
def F237_1_B (a0 : List (List (List (List Int)))) (v4_1 : Int) (o0_1 : (List (List (List (List Int))))) : Option (((List (List (List (List Int))))) ⊕ ((List (List (List (List Int)))))) :=
  (getI a0 v4_1).bind fun x7 =>
(F13 x7).bind fun x9 =>
(getI o0_1 v4_1).bind fun x11 =>
(setI o0_1 v4_1 x9).bind fun l13 =>
some (.inl l13)
def F237_1_D (a0 : List (List (List (List Int)))) (v4_1 : Int) (o0_1 : (List (List (List (List Int))))) : Option ((List (List (List (List Int))))) :=
  some o0_1
def F237 (a0 : List (List (List (List Int)))) : Option (List (List (List (List Int)))) :=
  (mkL 24 (a0.length : Int) ([] : List (List (List Int)))).bind fun l1 =>
  (forR 0 (a0.length : Int) (F237_1_B a0) (F237_1_D a0) l1).bind fun zo0_1 =>
  some zo0_1
theorem d237 (a0 : List (List (List (List Int)))) {r : List (List (List (List Int)))} (hF : F237 a0 = some r) : ∃ v h', res A 237 [V.isl (a0.map Enc.enc)] Heap.empty = some (v, h') ∧ ∃ K, Deep.rep h' v r K := by
  refine res_dp (f := p237) rfl rfl rfl fun e hl he => ?_
  have h0_0 : e.at 0 = V.isl (a0.map Enc.enc) := he 0 _ rfl
  have hl_0 : e.length = 23 := hl
  clear he hl
  show W A b237 e ⟨[], 0⟩ _
  unfold F237 at hF
  obtain ⟨l1, gl1, hF⟩ := bS hF
  obtain ⟨zo, gt, hF⟩ := bS hF
  have hE := Option.some.inj hF; subst hE
  obtain ⟨w1a, w1b, w1c, w1d⟩ := mkL_deep gl1
  simp only [Int.toNat_natCast] at w1d
  have w1e : (List.replicate (Int.toNat (a0.length : Int)) [V.nils]).flatten = List.replicate a0.length V.nils := by rw [Int.toNat_natCast, List.flatten_replicate_singleton]
  subst w1d
  simp only [↓reduceIte, Nat.reduceAdd, Nat.reduceMul, Nat.reduceSub, Nat.reduceLT, Nat.reduceLeDiff, Nat.reduceEqDiff, Nat.reducePow, Int.reducePow, Int.reduceLE, Int.reduceLT, Int.reduceEq, Int.reduceToNat, reduceCtorEq, R1, opEv, fillV, mapO, mapS, b237, hl_0, h0_0, w1a, w1b, w1c, w1e, Int.toNat_natCast]
  show W A (.block 0 (.loop true b237_1)) _ _ _
  rw [W_block]
  refine W_forR gt _ rfl (fun i l e h => ∃ vs K, h.ents[0]? = some (0, some vs) ∧ reps h vs l K ∧ ¬ K 0 ∧ l.length = a0.length ∧ e.length = 23 ∧ e.at 0 = V.isl (a0.map Enc.enc) ∧ e.at 3 = V.sl 0 0 0 a0.length 1 ∧ e.at 4 = V.int .i64 i) ?_ ?_ ?_
  · refine ⟨_, fun _ => False, rfl, by rw [List.flatten_replicate_singleton]; exact reps_nils _ _, fun x => x, by simp, ?_⟩
    simp only [↓reduceIte, Nat.reduceAdd, Nat.reduceMul, Nat.reduceSub, Nat.reduceLT, Nat.reduceLeDiff, Nat.reduceEqDiff, Nat.reducePow, Int.reducePow, Int.reduceLE, Int.reduceLT, Int.reduceEq, Int.reduceToNat, reduceCtorEq, R1, hl_0, h0_0]
  · rintro i l e ⟨E, c⟩ ⟨vs, K, g1, g2, g3, g4, hl_1, h0_1, h3_1, h4_1⟩ hlt hw o ho
    unfold F237_1_B at ho
    obtain ⟨x7, gx7, ho⟩ := bS ho
    obtain ⟨w6a, w6b⟩ := getI_w gx7
    obtain ⟨x9, gx9, ho⟩ := bS ho
    have w8 := x13 x7 gx9
    obtain ⟨x11, gx11, ho⟩ := bS ho
    obtain ⟨l13, gl13, ho⟩ := bS ho
    have sm : l13 = l.set i.toNat x9 := setI_eq gl13
    have hE := Option.some.inj ho; subst hE
    have hil : i.toNat < l.length := by omega
    have hln := g2.len
    have hE0 : 0 < E.length := (List.getElem?_eq_some_iff.1 g1).1
    obtain ⟨x, K1, K2, f1, f2, f3, f4, f5⟩ := g2.focus hil
    obtain ⟨v, ⟨E1, c1⟩, t1, t2, t3, t4⟩ := thaw_deep (α := List (List (List Int))) (by decide) x9 ⟨E, c⟩
    have t1' : thaw 16 [1, 1, 1] (V.isl (x9.map Enc.enc)) ⟨E, c⟩ = some (v, ⟨E1, c1⟩) := t1
    obtain ⟨v1, v2⟩ := rep_one t2
    simp only at t2 t3 t4 g1
    have p0 : E1[0]? = some (0, some vs) := (t4 0 hE0).trans g1
    have hs : List.take i.toNat vs ++ [v] ++ List.drop (i.toNat + 1) vs = vs.set i.toNat (v) := by
      rw [List.set_eq_take_append_cons_drop, if_pos (by omega)]; simp
    have hle : i.toNat + 1 ≤ vs.length := by omega
    simp only [↓reduceIte, Nat.reduceAdd, Nat.reduceMul, Nat.reduceSub, Nat.reduceLT, Nat.reduceLeDiff, Nat.reduceEqDiff, Nat.reducePow, Int.reducePow, Int.reduceLE, Int.reduceLT, Int.reduceEq, Int.reduceToNat, reduceCtorEq, R1, opEv, fillV, mapO, mapS, b237_1, hl_1, h0_1, h3_1, h4_1, eq_true hlt, hw, w6a, w6b, w8, callM_tans, t1', v1, v2, p0, hs, hle]
    have r1 := f5 ⟨E1.set 0 (0, some (vs.set i.toNat v)), c1⟩ v x9 (fun k => E.length ≤ k ∧ k < E1.length) (fun k => (E.length ≤ k ∧ k < E1.length) ∨ K2 k)
      (Deep.frame t2 fun k q => set_ne (by omega))
      (fun k q => (set_ne (E := E1) (key := 0) (k := k) (fun e : k = 0 => g3 (e ▸ (f4 k).2 (.inr q)))).trans (t4 k (g2.bd ((f4 k).2 (.inr q)))))
      (fun k q q2 => by have := g2.bd ((f4 k).2 (.inr q2)); simp only at this; omega) (fun k => Iff.rfl)
    refine And.intro rfl ⟨_, fun k => (E.length ≤ k ∧ k < E1.length) ∨ K2 k, set_app_key (by omega), by rw [sm]; exact r1, fun q => q.elim (fun q => by omega) (fun q => g3 ((f4 0).2 (.inr q))), by rw [sm, List.length_set]; exact g4, ?_⟩
    simp only [↓reduceIte, Nat.reduceAdd, Nat.reduceMul, Nat.reduceSub, Nat.reduceLT, Nat.reduceLeDiff, Nat.reduceEqDiff, Nat.reducePow, Int.reducePow, Int.reduceLE, Int.reduceLT, Int.reduceEq, Int.reduceToNat, reduceCtorEq, R1, hl_1, h0_1, h3_1, h4_1, hw]
  · rintro i l e ⟨E, c⟩ ⟨vs, K, g1, g2, g3, g4, hl_1, h0_1, h3_1, h4_1⟩ hge t1 ho
    unfold F237_1_D at ho
    have hE := Option.some.inj ho; subst hE
    simp only [↓reduceIte, Nat.reduceAdd, Nat.reduceMul, Nat.reduceSub, Nat.reduceLT, Nat.reduceLeDiff, Nat.reduceEqDiff, Nat.reducePow, Int.reducePow, Int.reduceLE, Int.reduceLT, Int.reduceEq, Int.reduceToNat, reduceCtorEq, R1, opEv, fillV, mapO, mapS, b237_1, hl_1, h0_1, h3_1, h4_1, eq_false hge]
    intro ht; subst ht
    refine And.intro (fun _ => trivial) ⟨_, by simp only [↓reduceIte, Nat.reduceAdd, Nat.reduceMul, Nat.reduceSub, Nat.reduceLT, Nat.reduceLeDiff, Nat.reduceEqDiff, Nat.reducePow, Int.reducePow, Int.reduceLE, Int.reduceLT, Int.reduceEq, Int.reduceToNat, reduceCtorEq, R1, fn_out, p237, Rs.ev, mapO, mapS, hl_1]; rfl, fun k => k = 0 ∨ K k, .inr ⟨0, 0, vs, K, by rw [g4], g1, g2, g3, fun k => Iff.rfl⟩⟩
theorem x237 (a0 : List (List (List (List Int)))) {r : List (List (List (List Int)))} (hF : F237 a0 = some r) : tans A 237 [1, 1, 1, 1] [V.isl (a0.map Enc.enc)] = some (Enc.enc r) := tans_of_deep (α := List (List (List (List Int)))) (by decide) (d237 a0 hF)
def F216 (a0 : GDouble) : Option GDouble :=
  (F48 a0.Dims).bind fun x1 =>
  (F237 a0.Across).bind fun x3 =>
  (F237 a0.Down).bind fun x5 =>
  some ⟨a0.Prime, x1, x3, x5⟩
theorem d216 (x : GDouble) {r : GDouble} (hF : F216 x = some r) : ∃ v h', res A 216 [V.agg [V.int .i64 x.Prime, V.isl (x.Dims.map Enc.enc), V.isl (x.Across.map Enc.enc), V.isl (x.Down.map Enc.enc)]] Heap.empty = some (v, h') ∧ ∃ K, Deep.rep h' v r K := by
  refine res_dp (f := p216) rfl rfl rfl fun e hl he => ?_
  have h0_0 : e.at 0 = V.agg [V.int .i64 x.Prime, V.isl (x.Dims.map Enc.enc), V.isl (x.Across.map Enc.enc), V.isl (x.Down.map Enc.enc)] := he 0 _ rfl
  have hl_0 : e.length = 20 := hl
  clear he hl
  show W A b216 e ⟨[], 0⟩ _
  unfold F216 at hF
  obtain ⟨dl, gd, hF⟩ := bS hF
  obtain ⟨al, ga, hF⟩ := bS hF
  obtain ⟨bl, gb, hF⟩ := bS hF
  cases hF
  have w1 := x48 x.Dims gd
  have w2 := x237 x.Across ga
  have w3 := x237 x.Down gb
  obtain ⟨dv, ⟨E1, c1⟩, K1, t1, t2, t3, t4, t5⟩ := thawD (α := List (List Int)) (by decide) dl ⟨[(0, none), (1, some [V.int .i64 0, V.nils, V.nils, V.nils]), (2, some [V.int .i64 x.Prime, V.nils, V.nils, V.nils])], 3⟩
  obtain ⟨v1, v2⟩ := rep_one t2
  simp only [List.length_cons, List.length_nil, Nat.zero_add, Nat.reduceAdd] at t3 t4 t5
  have t1' : thaw 16 [1, 1] (V.isl (dl.map Enc.enc)) ⟨[(0, none), (1, some [V.int .i64 0, V.nils, V.nils, V.nils]), (2, some [V.int .i64 x.Prime, V.nils, V.nils, V.nils])], 3⟩ = some (dv, ⟨E1, c1⟩) := t1
  have m1 : E1[1]? = some (1, some [V.int .i64 0, V.nils, V.nils, V.nils]) := t5 1 (by decide)
  have m2 : E1[2]? = some (2, some [V.int .i64 x.Prime, V.nils, V.nils, V.nils]) := t5 2 (by decide)
  have n2 : ∀ z, (E1.set 2 z)[2]? = some z := fun z => set_app_key (by omega)
  obtain ⟨av, ⟨E2, c2⟩, K2, u1, u2, u3, u4, u5⟩ := thawD (α := List (List (List (List Int)))) (by decide) al ⟨E1.set 2 (2, some [V.int .i64 x.Prime, dv, V.nils, V.nils]), c1⟩
  obtain ⟨v3, v4⟩ := rep_one u2
  simp only [List.length_set] at u3 u4 u5
  have u1' : thaw 16 [1, 1, 1, 1] (V.isl (al.map Enc.enc)) ⟨E1.set 2 (2, some [V.int .i64 x.Prime, dv, V.nils, V.nils]), c1⟩ = some (av, ⟨E2, c2⟩) := u1
  have n3 : E2[2]? = some (2, some [V.int .i64 x.Prime, dv, V.nils, V.nils]) := (u5 2 (by omega)).trans (n2 _)
  have n4 : ∀ z, (E2.set 2 z)[2]? = some z := fun z => set_app_key (by omega)
  obtain ⟨bv, ⟨E3, c3⟩, K3, y1, y2, y3, y4, y5⟩ := thawD (α := List (List (List (List Int)))) (by decide) bl ⟨E2.set 2 (2, some [V.int .i64 x.Prime, dv, av, V.nils]), c2⟩
  obtain ⟨v5, v6⟩ := rep_one y2
  simp only [List.length_set] at y3 y4 y5
  have y1' : thaw 16 [1, 1, 1, 1] (V.isl (bl.map Enc.enc)) ⟨E2.set 2 (2, some [V.int .i64 x.Prime, dv, av, V.nils]), c2⟩ = some (bv, ⟨E3, c3⟩) := y1
  have n5 : E3[2]? = some (2, some [V.int .i64 x.Prime, dv, av, V.nils]) := (y5 2 (by omega)).trans (n4 _)
  have n6 : ∀ z, (E3.set 2 z)[2]? = some z := fun z => set_app_key (by omega)
  have n7 : E3[1]? = some (1, some [V.int .i64 0, V.nils, V.nils, V.nils]) := (y5 1 (by omega)).trans ((set_ne (by decide)).trans ((u5 1 (by omega)).trans ((set_ne (by decide)).trans m1)))
  have n8 : ∀ z, (E3.set 2 z)[1]? = some (1, some [V.int .i64 0, V.nils, V.nils, V.nils]) := fun z => (set_ne (by decide)).trans n7
  simp only [simprocAttr, R0, opEv, fillV, mapO, mapS, b216, hl_0, h0_0, w1, w2, w3, callM_tans, t1', u1', y1', v1, v2, v3, v4, v5, v6, m1, m2, n2, n3, n4, n5, n6, n7, n8]
  have f1 : ∀ y z c, Deep.rep ⟨(E3.set 2 y).set 1 z, c⟩ dv dl K1 := fun y z c => Deep.frame t2 fun k q => by
    have := t3 k q
    rw [set_ne (by omega), set_ne (by omega), y5 k (by omega), set_ne (by omega), u5 k (by omega), set_ne (by omega)]
  have f2 : ∀ y z c, Deep.rep ⟨(E3.set 2 y).set 1 z, c⟩ av al K2 := fun y z c => Deep.frame u2 fun k q => by
    have := u3 k q
    rw [set_ne (by omega), set_ne (by omega), y5 k (by omega), set_ne (by omega)]
  have f3 : ∀ y z c, Deep.rep ⟨(E3.set 2 y).set 1 z, c⟩ bv bl K3 := fun y z c => Deep.frame y2 fun k q => by
    have := y3 k q
    rw [set_ne (by omega), set_ne (by omega)]
  have hl2 : ∀ y, 1 < (E3.set 2 y).length := fun y => by rw [List.length_set]; omega
  refine And.intro (fun _ => trivial) ⟨V.agg [V.int .i64 x.Prime, dv, av, bv], by simp only [simprocAttr, R0, fn_out, p216, Rs.ev, mapO, mapS, hl_0, set_app_key (hl2 _)], _, _, rfl, rec4 (f1 _ _ _) (f2 _ _ _) (f3 _ _ _) (fun k y z => by have := t3 k y; have := u3 k z; omega) (fun k y z => by have := t3 k y; have := y3 k z; omega) (fun k y z => by have := u3 k y; have := y3 k z; omega)⟩
theorem s216 (x : GDouble) {r : GDouble} (hF : F216 x = some r) : ans A 216 [V.agg [V.int .i64 x.Prime, V.isl (x.Dims.map Enc.enc), V.isl (x.Across.map Enc.enc), V.isl (x.Down.map Enc.enc)]] = some (Enc.enc r) := ans_of_deep (α := GDouble) (by decide) (d216 x hF)
theorem x216 (x : GDouble) {r : GDouble} (hF : F216 x = some r) : tans A 216 [1, 1, 1, 1] [V.agg [V.int .i64 x.Prime, V.isl (x.Dims.map Enc.enc), V.isl (x.Across.map Enc.enc), V.isl (x.Down.map Enc.enc)]] = some (Enc.enc r) := tans_of_deep (α := GDouble) (by decide) (d216 x hF)
def F54 (a0 : Int) (a1 : Int) (a2 : Int) : Option Bool :=
  if a1 ≤ a0 then
    some (decide (a0 ≤ a2))
  else
    some false
theorem s54 (a0 : Int) (a1 : Int) (a2 : Int)   {r : Bool} (hF : F54 a0 a1 a2 = some r) : ans A 54 [V.int .i64 a0, V.int .i64 a1, V.int .i64 a2] = some (Enc.enc r) := by
  refine ans_of (f := p54) rfl rfl rfl fun e hl he => ?_
  have h0_0 : e.at 0 = V.int .i64 a0 := he 0 _ rfl
  have h1_0 : e.at 1 = V.int .i64 a1 := he 1 _ rfl
  have h2_0 : e.at 2 = V.int .i64 a2 := he 2 _ rfl
  have hl_0 : e.length = 15 := hl
  clear he hl
  have h_0 := And.intro hl_0 (And.intro h0_0 (And.intro h1_0 h2_0))
  show W A b54 e ⟨[], 0⟩ _
  unfold F54 at hF
  by_cases c1 : a1 ≤ a0
  · rw [if_pos c1] at hF
    cases hF
    simp only [simprocAttr, R0, opEv, fillV, mapO, mapS, b54, h_0, eq_true c1]
    exact fin_ret (by simp only [simprocAttr, R0, fn_out, p54, Rs.ev, mapO, mapS, take_len_self, h_0, eq_true c1])
  · rw [if_neg c1] at hF
    cases hF
    simp only [simprocAttr, R0, opEv, fillV, mapO, mapS, b54, h_0, eq_false c1]
    exact fin_ret (by simp only [simprocAttr, R0, fn_out, p54, Rs.ev, mapO, mapS, take_len_self, h_0, eq_false c1])
def F94 (a0 : List Int) : Option (List Int) :=
  (app 8 ([] : List Int) a0).bind fun l2 =>
  some l2
theorem s94 (a0 : List Int)   {r : List Int} (hF : F94 a0 = some r) : ans A 94 [V.isl (a0.map Enc.enc)] = some (Enc.enc r) := by
  refine ans_of (f := p94) rfl rfl rfl fun e hl he => ?_
  have h0_0 : e.at 0 = V.isl (a0.map Enc.enc) := he 0 _ rfl
  have hl_0 : e.length = 6 := hl
  clear he hl
  show W A b94 e ⟨[], 0⟩ _
  unfold F94 at hF
  obtain ⟨l2, gl2, hF⟩ := bS hF
  have w1 := fun ents key uid clk he => appendV_w (α := Int) (n := 0) (m := a0.length) (ds := List.map Enc.enc a0) gl2 (by first | rfl | simp only [List.length_nil]) (by first | rfl | simp only [List.length_nil]) rfl ents key uid clk he
  have w1l := app_len gl2
  have hE := Option.some.inj hF; subst hE
  simp only [simprocAttr, R0, opEv, fillV, mapO, mapS, b94, hl_0, h0_0, w1]
  exact fin_ret (by simp only [simprocAttr, R0, fn_out, p94, Rs.ev, mapO, mapS, take_len_self, hl_0, h0_0, w1, frzs (α := Int) l2, takes (α := Int) l2])
theorem t94 (a0 : List Int)   {r : List Int} (hF : F94 a0 = some r) : tans A 94 [1] [V.isl (a0.map Enc.enc)] = some (Enc.enc r) := by
  refine tans_of (f := p94) rfl rfl rfl fun e hl he => ?_
  have h0_0 : e.at 0 = V.isl (a0.map Enc.enc) := he 0 _ rfl
  have hl_0 : e.length = 6 := hl
  clear he hl
  show W A b94 e ⟨[], 0⟩ _
  unfold F94 at hF
  obtain ⟨l2, gl2, hF⟩ := bS hF
  have w1 := fun ents key uid clk he => appendV_w (α := Int) (n := 0) (m := a0.length) (ds := List.map Enc.enc a0) gl2 (by first | rfl | simp only [List.length_nil]) (by first | rfl | simp only [List.length_nil]) rfl ents key uid clk he
  have w1l := app_len gl2
  have hE := Option.some.inj hF; subst hE
  simp only [simprocAttr, R0, opEv, fillV, mapO, mapS, b94, hl_0, h0_0, w1]
  exact tfin_ret (by simp only [simprocAttr, R0, fn_out, p94, Rs.ev, mapO, mapS, take_len_self, hl_0, h0_0, w1, frzs (α := Int) l2, takes (α := Int) l2])
def F95_1_B (a0 : List (List Int)) (v4_1 : Int) (o0_1 : (List (List Int))) : Option (((List (List Int))) ⊕ ((List (List Int)))) :=
  (getI a0 v4_1).bind fun x5 =>
(F94 x5).bind fun x7 =>
(app 24 o0_1 [x7]).bind fun l10 =>
some (.inl l10)
def F95_1_D (a0 : List (List Int)) (v4_1 : Int) (o0_1 : (List (List Int))) : Option ((List (List Int))) :=
  some o0_1
def F95 (a0 : List (List Int)) : Option (List (List Int)) :=
  (forR 0 (a0.length : Int) (F95_1_B a0) (F95_1_D a0) ([] : (List (List Int)))).bind fun zo0_1 =>
  some zo0_1
theorem d95 (a0 : List (List Int)) {r : List (List Int)} (hF : F95 a0 = some r) : ∃ v h', res A 95 [V.isl (a0.map Enc.enc)] Heap.empty = some (v, h') ∧ ∃ K, Deep.rep h' v r K := by
  refine res_dp (f := p95) rfl rfl rfl fun e hl he => ?_
  have h0_0 : e.at 0 = V.isl (a0.map Enc.enc) := he 0 _ rfl
  have hl_0 : e.length = 21 := hl
  clear he hl
  show W A b95 e ⟨[], 0⟩ _
  unfold F95 at hF
  obtain ⟨zo0_1, gt11, hF⟩ := bS hF
  have hE := Option.some.inj hF; subst hE
  simp only [simprocAttr, R1, opEv, fillV, mapO, mapS, b95, hl_0, h0_0]
  show W A (.block 0 (.loop true b95_1)) _ _ _
  rw [W_block]
  refine W_forR gt11 _ rfl (fun i l e h => ∃ u vs K, h.ents[0]? = some (u, some vs) ∧ reps h vs l K ∧ ¬ K 0 ∧ e.length = 21 ∧ e.at 0 = V.isl (a0.map Enc.enc) ∧ e.at 3 = V.sl 0 u 0 l.length 1 ∧ e.at 4 = V.int .i64 i) ?_ ?_ ?_
  · refine ⟨0, [], fun _ => False, rfl, fun _ x => x, fun x => x, ?_⟩
    simp only [simprocAttr, R1, hl_0, h0_0]
  · rintro i l e ⟨E, c⟩ ⟨u, vs, K, g1, g2, g3, hl_1, h0_1, h3_1, h4_1⟩ hlt hw o ho
    unfold F95_1_B at ho
    obtain ⟨x5, gx5, ho⟩ := bS ho
    obtain ⟨w6a, w6b⟩ := getI_w gx5
    obtain ⟨x7, gx7, ho⟩ := bS ho
    have w8 := t94 x5 gx7
    obtain ⟨l10, gl10, ho⟩ := bS ho
    obtain ⟨q1, q2, rfl⟩ := app_w gl10
    have hE := Option.some.inj ho; subst hE
    have hln := g2.len
    have hE0 : 0 < E.length := (List.getElem?_eq_some_iff.1 g1).1
    have w9 : ∀ x y c', appendV 1 24 (.sl 0 u 0 l.length 1) 1 [V.sl E.length c 0 x7.length 1] ⟨E ++ [x] ++ [y], c'⟩ = _ := fun x y c' => appendV_deep (E := E ++ [x] ++ [y]) (vs := vs) (by rw [List.getElem?_append_left (by simp), List.getElem?_append_left hE0]; exact g1) hln (by simpa using q1) (by simpa using q2)
    simp only [simprocAttr, R1, opEv, fillV, mapO, mapS, b95_1, hl_1, h0_1, h3_1, h4_1, eq_true hlt, hw, w6a, w6b, w8, callM_tans, thaw_one, get_last, w9]
    have r1 := deep_round (h := ⟨E, c⟩) (h1 := ⟨E ++ [(c, some (x7.map Enc.enc))], c + 1⟩) (h2 := ⟨(E ++ [(c, some (x7.map Enc.enc))] ++ [(c + 1, some [V.sl E.length c 0 x7.length 1])]).set 0 (c + 1 + 1, some (vs ++ [V.sl E.length c 0 x7.length 1])), c + 1 + 1 + 1⟩) g2
      (int_row (l := x7) (K := fun k => k = E.length) (get_last _ _) fun k => Iff.rfl) (fun k q => by show E.length ≤ k; omega) (fun k q => List.getElem?_append_left q) (fun k p q => set_app_new (fun e => by subst e; exact q.elim g3 (fun q => by omega)) p) (by simp)
    refine And.intro rfl ⟨_, _, _, set_app_key (by simp), r1, fun q => q.elim g3 (fun q => by omega), ?_⟩
    simp only [simprocAttr, R1, hl_1, h0_1, h3_1, h4_1, eq_true hlt, hw, w6a, w6b, w8, List.length_append]
  · rintro i l e ⟨E, c⟩ ⟨u, vs, K, g1, g2, g3, hl_1, h0_1, h3_1, h4_1⟩ hge t1 ho
    unfold F95_1_D at ho
    have hE := Option.some.inj ho; subst hE
    simp only [simprocAttr, R1, opEv, fillV, mapO, mapS, b95_1, hl_1, h0_1, h3_1, h4_1, eq_false hge]
    intro ht; subst ht
    refine And.intro (fun _ => trivial) ⟨_, by simp only [simprocAttr, R1, fn_out, p95, Rs.ev, mapO, mapS, hl_1], fun k => k = 0 ∨ K k, .inr ⟨0, u, vs, K, rfl, g1, g2, g3, fun k => Iff.rfl⟩⟩
theorem s95 (a0 : List (List Int)) {r : List (List Int)} (hF : F95 a0 = some r) : ans A 95 [V.isl (a0.map Enc.enc)] = some (Enc.enc r) := ans_of_deep (by decide) (d95 a0 hF)
def F78 (a0 : Int) : Option Bool :=
  if a0 = 2 then
    some true
  else
    if a0 = 3 then
      some true
    else
      if a0 = 5 then
        some true
      else
        some (decide (a0 = 7))
theorem s78 (a0 : Int)   {r : Bool} (hF : F78 a0 = some r) : ans A 78 [V.int .i64 a0] = some (Enc.enc r) := by
  refine ans_of (f := p78) rfl rfl rfl fun e hl he => ?_
  have h0_0 : e.at 0 = V.int .i64 a0 := he 0 _ rfl
  have hl_0 : e.length = 17 := hl
  clear he hl
  have h_0 := And.intro hl_0 h0_0
  show W A b78 e ⟨[], 0⟩ _
  unfold F78 at hF
  by_cases c1 : a0 = 2
  · rw [if_pos c1] at hF
    cases hF
    simp only [simprocAttr, R0, opEv, fillV, mapO, mapS, b78, h_0, eq_true c1]
    exact fin_ret (by simp only [simprocAttr, R0, fn_out, p78, Rs.ev, mapO, mapS, take_len_self, h_0, eq_true c1])
  · rw [if_neg c1] at hF
    by_cases c2 : a0 = 3
    · rw [if_pos c2] at hF
      cases hF
      simp only [simprocAttr, R0, opEv, fillV, mapO, mapS, b78, h_0, eq_false c1, eq_true c2]
      exact fin_ret (by simp only [simprocAttr, R0, fn_out, p78, Rs.ev, mapO, mapS, take_len_self, h_0, eq_false c1, eq_true c2])
    · rw [if_neg c2] at hF
      by_cases c3 : a0 = 5
      · rw [if_pos c3] at hF
        cases hF
        simp only [simprocAttr, R0, opEv, fillV, mapO, mapS, b78, h_0, eq_false c1, eq_false c2, eq_true c3]
        exact fin_ret (by simp only [simprocAttr, R0, fn_out, p78, Rs.ev, mapO, mapS, take_len_self, h_0, eq_false c1, eq_false c2, eq_true c3])
      · rw [if_neg c3] at hF
        cases hF
        simp only [simprocAttr, R0, opEv, fillV, mapO, mapS, b78, h_0, eq_false c1, eq_false c2, eq_false c3]
        exact fin_ret (by simp only [simprocAttr, R0, fn_out, p78, Rs.ev, mapO, mapS, take_len_self, h_0, eq_false c1, eq_false c2, eq_false c3])
def F79_2_S (a0 : Int) (a1 : List (List Int)) (a3 : Int) (v9_1 : Int) (v10_2 : Int) : Option ((Int) ⊕ ((Unit) ⊕ Bool)) :=
  (getI a1 v9_1).bind fun x11 =>
if v10_2 < (x11.length : Int) then
  (getI x11 v10_2).bind fun x14 =>
  (chk (a0 - 1)).bind fun x16 =>
  (F54 x14 0 x16).bind fun x17 =>
  if x17 = true then
    (chk (v10_2 + 1)).bind fun x19 =>
    some (.inl x19)
  else
    some (.inr (.inr false))
else
  some (.inr (.inl ()))
def F79_1_B (a0 : Int) (a1 : List (List Int)) (a3 : Int) (v9_1 : Int) (s : Unit) : Option ((Unit) ⊕ ((Unit) ⊕ Bool)) :=
  (getI a1 v9_1).bind fun x5 =>
if (x5.length : Int) = a3 then
  (loopW (F79_2_S a0 a1 a3 v9_1) 0).bind fun t20 => match t20 with
    | .inl _ =>
      some (.inl ())
    | .inr r21 => some (.inr (.inr r21))
else
  some (.inr (.inr false))
def F79_1_D (a0 : Int) (a1 : List (List Int)) (a3 : Int) (v9_1 : Int) (s : Unit) : Option ((Unit) ⊕ Bool) :=
  some (.inl ())
def F79 (a0 : Int) (a1 : List (List Int)) (a2 : Int) (a3 : Int) : Option Bool :=
  if (a1.length : Int) = a2 then
    (forR 0 (a1.length : Int) (F79_1_B a0 a1 a3) (F79_1_D a0 a1 a3) ()).bind fun t22 => match t22 with
      | .inl _ =>
        some true
      | .inr r23 => some r23
  else
    some false
def I79_2 (a0 : Int) (a1 : List (List Int)) (a3 : Int) (v9_1 : Int)  (v10_2 : Int) (e : Env) (h : Heap) : Prop :=
  ∃ k9 : Nat, h = ⟨[], k9⟩ ∧ e.length = 48 ∧ e.at 0 = V.int .i64 a0 ∧ e.at 1 = V.isl (a1.map Enc.enc) ∧ e.at 3 = V.int .i64 a3 ∧ e.at 9 = V.int .i64 v9_1 ∧ e.at 10 = V.int .i64 v10_2
def P79_2 (a0 : Int) (a1 : List (List Int)) (a3 : Int) (v9_1 : Int)  (t : (Unit) ⊕ Bool) (x : Ex) (e : Env) (h : Heap) : Prop :=
  match t with
  | .inl _ => x = .normal ∧ ∃ k9 : Nat, h = ⟨[], k9⟩ ∧ e.length = 48 ∧ e.at 0 = V.int .i64 a0 ∧ e.at 1 = V.isl (a1.map Enc.enc) ∧ e.at 3 = V.int .i64 a3 ∧ e.at 9 = V.int .i64 v9_1
  | .inr r => x = .ret ∧ Fin p79 (Enc.enc r) .ret e h
theorem l79_2 (a0 : Int) (a1 : List (List Int)) (a3 : Int) (v9_1 : Int)   {s : Int} {t : (Unit) ⊕ Bool} (hF : loopW (F79_2_S a0 a1 a3 v9_1) s = some t) {e : Env} {h : Heap} (hI : I79_2 a0 a1 a3 v9_1  s e h) : W A c79_2 e h (P79_2 a0 a1 a3 v9_1  t) := by
  show W A (.block 2 (.loop false b79_2)) e h _
  rw [W_block]
  refine W_loop hF 0 (by obtain ⟨_, rfl, _⟩ := hI; rfl) (I79_2 a0 a1 a3 v9_1 ) hI ?_
  · rintro v10_2 e h ⟨k9, rfl, h_8⟩ o ho
    unfold F79_2_S at ho
    obtain ⟨x11, gx11, ho⟩ := bS ho
    obtain ⟨w12a, w12b⟩ := getI_w gx11
    by_cases c13 : v10_2 < (x11.length : Int)
    · rw [if_pos c13] at ho
      obtain ⟨x14, gx14, ho⟩ := bS ho
      obtain ⟨w15a, w15b⟩ := getI_w gx14
      obtain ⟨x16, gx16, ho⟩ := bS ho
      have wx16 := chk_w gx16
      obtain ⟨x17, gx17, ho⟩ := bS ho
      have w18 : ans A 54 [V.int .i64 x14, V.int .i64 0, V.int .i64 x16] = some (V.bool x17) := s54 x14 0 x16  gx17
      cases x17 with
      | true =>
        rw [if_pos rfl] at ho
        obtain ⟨x19, gx19, ho⟩ := bS ho
        have wx19 := chk_w gx19
        cases ho
        simp only [simprocAttr, R0, opEv, fillV, mapO, mapS, b79_2, h_8, w12a, w12b, eq_true c13, w15a, w15b, wx16, w18, wx19]
        refine And.intro rfl (Exists.intro _ ( And.intro rfl ?_))
        simp only [simprocAttr, R0, h_8, w12a, w12b, eq_true c13, w15a, w15b, wx16, w18, wx19]
      | false =>
        rw [if_neg Bool.false_ne_true] at ho
        cases ho
        simp only [simprocAttr, R0, opEv, fillV, mapO, mapS, b79_2, h_8, w12a, w12b, eq_true c13, w15a, w15b, wx16, w18]
        intro ht; subst ht
        simp only [simprocAttr, RR, RB]
        exact And.intro rfl (fin_ret (by simp only [simprocAttr, R0, fn_out, p79, Rs.ev, mapO, mapS, take_len_self, h_8, w12a, w12b, eq_true c13, w15a, w15b, wx16, w18]))
    · rw [if_neg c13] at ho
      cases ho
      simp only [simprocAttr, R0, opEv, fillV, mapO, mapS, b79_2, h_8, w12a, w12b, eq_false c13]
      intro ht; subst ht
      simp only [simprocAttr, RR, RB]
      refine And.intro rfl (Exists.intro _ ( And.intro rfl ?_))
      simp only [simprocAttr, R0, h_8, w12a, w12b, eq_false c13]
def I79_1 (a0 : Int) (a1 : List (List Int)) (a3 : Int)  (v9_1 : Int) (s : Unit) (e : Env) (h : Heap) : Prop :=
  ∃ k3 : Nat, h = ⟨[], k3⟩ ∧ e.length = 48 ∧ e.at 0 = V.int .i64 a0 ∧ e.at 1 = V.isl (a1.map Enc.enc) ∧ e.at 3 = V.int .i64 a3 ∧ e.at 9 = V.int .i64 v9_1
def P79_1 (a0 : Int) (a1 : List (List Int)) (a3 : Int)  (t : (Unit) ⊕ Bool) (x : Ex) (e : Env) (h : Heap) : Prop :=
  match t with
  | .inl _ => x = .normal ∧ ∃ k3 : Nat, h = ⟨[], k3⟩ ∧ e.length = 48
  | .inr r => x = .ret ∧ Fin p79 (Enc.enc r) .ret e h
theorem l79_1 (a0 : Int) (a1 : List (List Int)) (a3 : Int)   {lo : Int} {s : Unit} {t : (Unit) ⊕ Bool} (hF : forR lo (a1.length : Int) (F79_1_B a0 a1 a3) (F79_1_D a0 a1 a3) s = some t) {e : Env} {h : Heap} (hI : I79_1 a0 a1 a3  lo s e h) : W A c79_1 e h (P79_1 a0 a1 a3  t) := by
  show W A (.block 0 (.loop false b79_1)) e h _
  rw [W_block]
  refine W_forR hF 0 (by obtain ⟨_, rfl, _⟩ := hI; rfl) (I79_1 a0 a1 a3 ) hI ?_ ?_
  · rintro v9_1 _ e h ⟨k3, rfl, h_2⟩ hlt hw o ho
    unfold F79_1_B at ho
    obtain ⟨x5, gx5, ho⟩ := bS ho
    obtain ⟨w6a, w6b⟩ := getI_w gx5
    by_cases c7 : (x5.length : Int) = a3
    · rw [if_pos c7] at ho
      obtain ⟨t20, gt20, ho⟩ := bS ho
      rcases t20 with _ | r21
      · dsimp only at ho
        simp only [simprocAttr, R0, opEv, fillV, mapO, mapS, b79_1, h_2, eq_true hlt, hw, w6a, w6b, eq_true c7]
        refine W.mono (l79_2 a0 a1 a3 v9_1   gt20 (Exists.intro _ ( And.intro rfl ?_))) ?_
        · simp only [simprocAttr, R0, h_2, eq_true hlt, hw, w6a, w6b, eq_true c7]
        rintro _ e _ ⟨rfl, k9, rfl, h_10⟩
        cases ho
        simp only [simprocAttr, R0, opEv, fillV, mapO, mapS, h_10, eq_true hlt, hw, eq_true c7]
        refine And.intro rfl (Exists.intro _ ( And.intro rfl ?_))
        simp only [simprocAttr, R0, h_10, eq_true hlt, hw, eq_true c7]
      · dsimp only at ho
        cases ho
        simp only [simprocAttr, R0, opEv, fillV, mapO, mapS, b79_1, h_2, eq_true hlt, hw, w6a, w6b, eq_true c7]
        refine W.mono (l79_2 a0 a1 a3 v9_1   gt20 (Exists.intro _ ( And.intro rfl ?_))) ?_
        · simp only [simprocAttr, R0, h_2, eq_true hlt, hw, w6a, w6b, eq_true c7]
        rintro _ e h ⟨rfl, hq⟩
        simp only [simprocAttr, RR, RB]
        intro ht; subst ht
        simp only [simprocAttr, RR, RB]
        exact And.intro rfl hq
    · rw [if_neg c7] at ho
      cases ho
      simp only [simprocAttr, R0, opEv, fillV, mapO, mapS, b79_1, h_2, eq_true hlt, hw, w6a, w6b, eq_false c7]
      intro ht; subst ht
      simp only [simprocAttr, RR, RB]
      exact And.intro rfl (fin_ret (by simp only [simprocAttr, R0, fn_out, p79, Rs.ev, mapO, mapS, take_len_self, h_2, eq_true hlt, hw, w6a, w6b, eq_false c7]))
  · rintro v9_1 _ e h ⟨k3, rfl, h_2⟩ hge t1 ho
    unfold F79_1_D at ho
    cases ho
    simp only [simprocAttr, R0, opEv, fillV, mapO, mapS, b79_1, h_2, eq_false hge]
    intro ht; subst ht
    refine And.intro rfl (Exists.intro _ ( And.intro rfl ?_))
    simp only [simprocAttr, R0, h_2, eq_false hge]
theorem s79 (a0 : Int) (a1 : List (List Int)) (a2 : Int) (a3 : Int)   {r : Bool} (hF : F79 a0 a1 a2 a3 = some r) : ans A 79 [V.int .i64 a0, V.isl (a1.map Enc.enc), V.int .i64 a2, V.int .i64 a3] = some (Enc.enc r) := by
  refine ans_of (f := p79) rfl rfl rfl fun e hl he => ?_
  have h0_0 : e.at 0 = V.int .i64 a0 := he 0 _ rfl
  have h1_0 : e.at 1 = V.isl (a1.map Enc.enc) := he 1 _ rfl
  have h2_0 : e.at 2 = V.int .i64 a2 := he 2 _ rfl
  have h3_0 : e.at 3 = V.int .i64 a3 := he 3 _ rfl
  have hl_0 : e.length = 48 := hl
  clear he hl
  have h_0 := And.intro hl_0 (And.intro h0_0 (And.intro h1_0 (And.intro h2_0 h3_0)))
  show W A b79 e ⟨[], 0⟩ _
  unfold F79 at hF
  by_cases c1 : (a1.length : Int) = a2
  · rw [if_pos c1] at hF
    obtain ⟨t22, gt22, hF⟩ := bS hF
    rcases t22 with _ | r23
    · dsimp only at hF
      simp only [simprocAttr, R0, opEv, fillV, mapO, mapS, b79, h_0, eq_true c1]
      refine W.mono (l79_1 a0 a1 a3   gt22 (Exists.intro _ ( And.intro rfl ?_))) ?_
      · simp only [simprocAttr, R0, h_0, eq_true c1]
      rintro _ e _ ⟨rfl, k3, rfl, hl_4⟩
      cases hF
      simp only [simprocAttr, R0, opEv, fillV, mapO, mapS, hl_4, eq_true c1]
      exact fin_ret (by simp only [simprocAttr, R0, fn_out, p79, Rs.ev, mapO, mapS, take_len_self, hl_4, eq_true c1])
    · dsimp only at hF
      cases hF
      simp only [simprocAttr, R0, opEv, fillV, mapO, mapS, b79, h_0, eq_true c1]
      refine W.mono (l79_1 a0 a1 a3   gt22 (Exists.intro _ ( And.intro rfl ?_))) ?_
      · simp only [simprocAttr, R0, h_0, eq_true c1]
      rintro _ e h ⟨rfl, hq⟩
      simp only [simprocAttr, RR, RB]
      exact hq
  · rw [if_neg c1] at hF
    cases hF
    simp only [simprocAttr, R0, opEv, fillV, mapO, mapS, b79, h_0, eq_false c1]
    exact fin_ret (by simp only [simprocAttr, R0, fn_out, p79, Rs.ev, mapO, mapS, take_len_self, h_0, eq_false c1])
def F261 (a0 : GDouble) (a1 : Int) (a2 : Int) : Option Int :=
  (chk ((a0.Dims.length : Int) - 1)).bind fun x1 =>
  (F54 a1 0 x1).bind fun x2 =>
  if x2 = true then
    (getI a0.Dims 0).bind fun x4 =>
    (chk ((x4.length : Int) - 1)).bind fun x6 =>
    (F54 a2 0 x6).bind fun x7 =>
    if x7 = true then
      (getI a0.Dims a1).bind fun x9 =>
      (getI x9 a2).bind fun x11 =>
      some x11
    else
      some 0
  else
    some 0
theorem s261 (a0 : GDouble) (a1 : Int) (a2 : Int)   {r : Int} (hF : F261 a0 a1 a2 = some r) : ans A 261 [V.agg [V.int .i64 a0.Prime, V.isl (a0.Dims.map Enc.enc), V.isl (a0.Across.map Enc.enc), V.isl (a0.Down.map Enc.enc)], V.int .i64 a1, V.int .i64 a2] = some (Enc.enc r) := by
  refine ans_of (f := p261) rfl rfl rfl fun e hl he => ?_
  have h0_0 : e.at 0 = V.agg [V.int .i64 a0.Prime, V.isl (a0.Dims.map Enc.enc), V.isl (a0.Across.map Enc.enc), V.isl (a0.Down.map Enc.enc)] := he 0 _ rfl
  have h1_0 : e.at 1 = V.int .i64 a1 := he 1 _ rfl
  have h2_0 : e.at 2 = V.int .i64 a2 := he 2 _ rfl
  have hl_0 : e.length = 33 := hl
  clear he hl
  have h_0 := And.intro hl_0 (And.intro h0_0 (And.intro h1_0 h2_0))
  show W A b261 e ⟨[], 0⟩ _
  unfold F261 at hF
  obtain ⟨x1, gx1, hF⟩ := bS hF
  have wx1 := chk_w gx1
  obtain ⟨x2, gx2, hF⟩ := bS hF
  have w3 : ans A 54 [V.int .i64 a1, V.int .i64 0, V.int .i64 x1] = some (V.bool x2) := s54 a1 0 x1  gx2
  cases x2 with
  | true =>
    rw [if_pos rfl] at hF
    obtain ⟨x4, gx4, hF⟩ := bS hF
    obtain ⟨w5a, w5b⟩ := getI_w gx4
    replace w5b : a0.Dims[0]? = some x4 := w5b
    obtain ⟨x6, gx6, hF⟩ := bS hF
    have wx6 := chk_w gx6
    obtain ⟨x7, gx7, hF⟩ := bS hF
    have w8 : ans A 54 [V.int .i64 a2, V.int .i64 0, V.int .i64 x6] = some (V.bool x7) := s54 a2 0 x6  gx7
    cases x7 with
    | true =>
      rw [if_pos rfl] at hF
      obtain ⟨x9, gx9, hF⟩ := bS hF
      obtain ⟨w10a, w10b⟩ := getI_w gx9
      obtain ⟨x11, gx11, hF⟩ := bS hF
      obtain ⟨w12a, w12b⟩ := getI_w gx11
      cases hF
      simp only [simprocAttr, R0, opEv, fillV, mapO, mapS, b261, h_0, wx1, w3, w5a, w5b, wx6, w8, w10a, w10b, w12a, w12b]
      exact fin_ret (by simp only [simprocAttr, R0, fn_out, p261, Rs.ev, mapO, mapS, take_len_self, h_0, wx1, w3, w5a, w5b, wx6, w8, w10a, w10b, w12a, w12b])
    | false =>
      rw [if_neg Bool.false_ne_true] at hF
      cases hF
      simp only [simprocAttr, R0, opEv, fillV, mapO, mapS, b261, h_0, wx1, w3, w5a, w5b, wx6, w8]
      exact fin_ret (by simp only [simprocAttr, R0, fn_out, p261, Rs.ev, mapO, mapS, take_len_self, h_0, wx1, w3, w5a, w5b, wx6, w8])
  | false =>
    rw [if_neg Bool.false_ne_true] at hF
    cases hF
    simp only [simprocAttr, R0, opEv, fillV, mapO, mapS, b261, h_0, wx1, w3]
    exact fin_ret (by simp only [simprocAttr, R0, fn_out, p261, Rs.ev, mapO, mapS, take_len_self, h_0, wx1, w3])
def F81_1_B (a0 : List Int) (v3_1 : Int) (s : Unit) : Option ((Unit) ⊕ ((Unit) ⊕ Int)) :=
  (getI a0 v3_1).bind fun x4 =>
if x4 = 0 then
  some (.inl ())
else
  some (.inr (.inr v3_1))
def F81_1_D (a0 : List Int) (v3_1 : Int) (s : Unit) : Option ((Unit) ⊕ Int) :=
  some (.inl ())
def F81 (a0 : List Int) : Option Int :=
  (forR 0 (a0.length : Int) (F81_1_B a0) (F81_1_D a0) ()).bind fun t7 => match t7 with
    | .inl _ =>
      some (-1)
    | .inr r8 => some r8
def I81_1 (a0 : List Int)  (v3_1 : Int) (s : Unit) (e : Env) (h : Heap) : Prop :=
  ∃ k2 : Nat, h = ⟨[], k2⟩ ∧ e.length = 16 ∧ e.at 0 = V.isl (a0.map Enc.enc) ∧ e.at 3 = V.int .i64 v3_1
def P81_1 (a0 : List Int)  (t : (Unit) ⊕ Int) (x : Ex) (e : Env) (h : Heap) : Prop :=
  match t with
  | .inl _ => x = .normal ∧ ∃ k2 : Nat, h = ⟨[], k2⟩ ∧ e.length = 16
  | .inr r => x = .ret ∧ Fin p81 (Enc.enc r) .ret e h
theorem l81_1 (a0 : List Int)   {lo : Int} {s : Unit} {t : (Unit) ⊕ Int} (hF : forR lo (a0.length : Int) (F81_1_B a0) (F81_1_D a0) s = some t) {e : Env} {h : Heap} (hI : I81_1 a0  lo s e h) : W A c81_1 e h (P81_1 a0  t) := by
  show W A (.block 0 (.loop false b81_1)) e h _
  rw [W_block]
  refine W_forR hF 0 (by obtain ⟨_, rfl, _⟩ := hI; rfl) (I81_1 a0 ) hI ?_ ?_
  · rintro v3_1 _ e h ⟨k2, rfl, h_1⟩ hlt hw o ho
    unfold F81_1_B at ho
    obtain ⟨x4, gx4, ho⟩ := bS ho
    obtain ⟨w5a, w5b⟩ := getI_w gx4
    by_cases c6 : x4 = 0
    · rw [if_pos c6] at ho
      cases ho
      simp only [simprocAttr, R0, opEv, fillV, mapO, mapS, b81_1, h_1, eq_true hlt, hw, w5a, w5b, eq_true c6]
      refine And.intro rfl (Exists.intro _ ( And.intro rfl ?_))
      simp only [simprocAttr, R0, h_1, eq_true hlt, hw, w5a, w5b, eq_true c6]
    · rw [if_neg c6] at ho
      cases ho
      simp only [simprocAttr, R0, opEv, fillV, mapO, mapS, b81_1, h_1, eq_true hlt, hw, w5a, w5b, eq_false c6]
      intro ht; subst ht
      simp only [simprocAttr, RR, RB]
      exact And.intro rfl (fin_ret (by simp only [simprocAttr, R0, fn_out, p81, Rs.ev, mapO, mapS, take_len_self, h_1, eq_true hlt, hw, w5a, w5b, eq_false c6]))
  · rintro v3_1 _ e h ⟨k2, rfl, h_1⟩ hge t1 ho
    unfold F81_1_D at ho
    cases ho
    simp only [simprocAttr, R0, opEv, fillV, mapO, mapS, b81_1, h_1, eq_false hge]
    intro ht; subst ht
    refine And.intro rfl (Exists.intro _ ( And.intro rfl ?_))
    simp only [simprocAttr, R0, h_1, eq_false hge]
theorem s81 (a0 : List Int)   {r : Int} (hF : F81 a0 = some r) : ans A 81 [V.isl (a0.map Enc.enc)] = some (Enc.enc r) := by
  refine ans_of (f := p81) rfl rfl rfl fun e hl he => ?_
  have h0_0 : e.at 0 = V.isl (a0.map Enc.enc) := he 0 _ rfl
  have hl_0 : e.length = 16 := hl
  clear he hl
  have h_0 := And.intro hl_0 h0_0
  show W A b81 e ⟨[], 0⟩ _
  unfold F81 at hF
  obtain ⟨t7, gt7, hF⟩ := bS hF
  rcases t7 with _ | r8
  · dsimp only at hF
    simp only [simprocAttr, R0, opEv, fillV, mapO, mapS, b81, h_0]
    refine W.mono (l81_1 a0   gt7 (Exists.intro _ ( And.intro rfl ?_))) ?_
    · simp only [simprocAttr, R0, h_0]
    rintro _ e _ ⟨rfl, k2, rfl, hl_3⟩
    cases hF
    simp only [simprocAttr, R0, opEv, fillV, mapO, mapS, hl_3]
    exact fin_ret (by simp only [simprocAttr, R0, fn_out, p81, Rs.ev, mapO, mapS, take_len_self, hl_3])
  · dsimp only at hF
    cases hF
    simp only [simprocAttr, R0, opEv, fillV, mapO, mapS, b81, h_0]
    refine W.mono (l81_1 a0   gt7 (Exists.intro _ ( And.intro rfl ?_))) ?_
    · simp only [simprocAttr, R0, h_0]
    rintro _ e h ⟨rfl, hq⟩
    simp only [simprocAttr, RR, RB]
    exact hq
def F127 (a0 : Int) (a1 : Int) : Option Int :=
  (remI a1 a0).bind fun x1 =>
  (chk (x1 + a0)).bind fun x3 =>
  (remI x3 a0).bind fun x4 =>
  some x4
theorem s127 (a0 : Int) (a1 : Int)   {r : Int} (hF : F127 a0 a1 = some r) : ans A 127 [V.int .i64 a0, V.int .i64 a1] = some (Enc.enc r) := by
  refine ans_of (f := p127) rfl rfl rfl fun e hl he => ?_
  have h0_0 : e.at 0 = V.int .i64 a0 := he 0 _ rfl
  have h1_0 : e.at 1 = V.int .i64 a1 := he 1 _ rfl
  have hl_0 : e.length = 12 := hl
  clear he hl
  show W A b127 e ⟨[], 0⟩ _
  unfold F127 at hF
  obtain ⟨x1, gx1, hF⟩ := bS hF
  obtain ⟨w2a, w2b⟩ := rem_w gx1
  obtain ⟨x3, gx3, hF⟩ := bS hF
  have wx3 := chk_w gx3
  obtain ⟨x4, gx4, hF⟩ := bS hF
  obtain ⟨w5a, w5b⟩ := rem_w gx4
  cases hF
  simp only [simprocAttr, R0, opEv, fillV, mapO, mapS, b127, hl_0, h0_0, h1_0, eq_false w2a, w2b, wx3, eq_false w5a, w5b]
  exact fin_ret (by simp only [simprocAttr, R0, fn_out, p127, Rs.ev, mapO, mapS, take_len_self, hl_0, h0_0, h1_0, eq_false w2a, w2b, wx3, eq_false w5a, w5b])
def F136_1_B (a0 : Int) (a1 : List Int) (a2 : List Int) (a3 : Int) (v10_1 : Int) (o0_1 : (List Int)) : Option (((List Int)) ⊕ ((List Int))) :=
  (getI a1 v10_1).bind fun x5 =>
(getI a2 v10_1).bind fun x7 =>
(chk (a3 * x7)).bind fun x9 =>
(chk (x5 - x9)).bind fun x10 =>
(F127 a0 x10).bind fun x11 =>
(app 8 o0_1 [x11]).bind fun l14 =>
some (.inl l14)
def F136_1_D (a0 : Int) (a1 : List Int) (a2 : List Int) (a3 : Int) (v10_1 : Int) (o0_1 : (List Int)) : Option ((List Int)) :=
  some o0_1
def F136 (a0 : Int) (a1 : List Int) (a2 : List Int) (a3 : Int) : Option (List Int) :=
  (forR 0 (a1.length : Int) (F136_1_B a0 a1 a2 a3) (F136_1_D a0 a1 a2 a3) ([] : (List Int))).bind fun zo0_1 =>
  some zo0_1
def I136_1 (a0 : Int) (a1 : List Int) (a2 : List Int) (a3 : Int)  (v10_1 : Int) (o0_1 : (List Int)) (e : Env) (h : Heap) : Prop :=
  ∃ u2 k3 : Nat, h = ⟨[(u2, some (o0_1.map Enc.enc))], k3⟩ ∧ e.length = 35 ∧ e.at 0 = V.int .i64 a0 ∧ e.at 1 = V.isl (a1.map Enc.enc) ∧ e.at 2 = V.isl (a2.map Enc.enc) ∧ e.at 3 = V.int .i64 a3 ∧ e.at 9 = V.sl 0 u2 0 o0_1.length 1 ∧ e.at 10 = V.int .i64 v10_1
def P136_1 (a0 : Int) (a1 : List Int) (a2 : List Int) (a3 : Int)  (zo0_1 : (List Int)) (x : Ex) (e : Env) (h : Heap) : Prop :=
  x = .normal ∧ ∃ u2 k3 : Nat, h = ⟨[(u2, some (zo0_1.map Enc.enc))], k3⟩ ∧ e.length = 35 ∧ e.at 9 = V.sl 0 u2 0 zo0_1.length 1
theorem l136_1 (a0 : Int) (a1 : List Int) (a2 : List Int) (a3 : Int)   {lo : Int} {s : (List Int)} {t : (List Int)} (hF : forR lo (a1.length : Int) (F136_1_B a0 a1 a2 a3) (F136_1_D a0 a1 a2 a3) s = some t) {e : Env} {h : Heap} (hI : I136_1 a0 a1 a2 a3  lo s e h) : W A c136_1 e h (P136_1 a0 a1 a2 a3  t) := by
  show W A (.block 0 (.loop false b136_1)) e h _
  rw [W_block]
  refine W_forR hF 1 (by obtain ⟨_, _, rfl, _⟩ := hI; rfl) (I136_1 a0 a1 a2 a3 ) hI ?_ ?_
  · rintro v10_1 o0_1 e h ⟨u2, k3, rfl, h_1⟩ hlt hw o ho
    unfold F136_1_B at ho
    obtain ⟨x5, gx5, ho⟩ := bS ho
    obtain ⟨w6a, w6b⟩ := getI_w gx5
    obtain ⟨x7, gx7, ho⟩ := bS ho
    obtain ⟨w8a, w8b⟩ := getI_w gx7
    obtain ⟨x9, gx9, ho⟩ := bS ho
    have wx9 := chk_w gx9
    obtain ⟨x10, gx10, ho⟩ := bS ho
    have wx10 := chk_w gx10
    obtain ⟨x11, gx11, ho⟩ := bS ho
    have w12 : ans A 127 [V.int .i64 a0, V.int .i64 x10] = some (V.int .i64 x11) := s127 a0 x10  gx11
    obtain ⟨l14, gl14, ho⟩ := bS ho
    have w13 := fun a b c d e => appendV_w (α := Int) (n := o0_1.length) (m := 1) (ds := [V.int .i64 x11]) gl14 (by first | rfl | simp) (by first | rfl | simp) rfl a b c d e
    have w13l := app_len gl14
    cases ho
    simp only [simprocAttr, R0, opEv, fillV, mapO, mapS, b136_1, h_1, eq_true hlt, hw, w6a, w6b, w8a, w8b, wx9, wx10, w12, w13]
    refine And.intro rfl (Exists.intro _ ( Exists.intro _ ( And.intro rfl ?_)))
    simp only [simprocAttr, R0, h_1, eq_true hlt, hw, w6a, w6b, w8a, w8b, wx9, wx10, w12, w13]
  · rintro v10_1 o0_1 e h ⟨u2, k3, rfl, h_1⟩ hge t1 ho
    unfold F136_1_D at ho
    cases ho
    simp only [simprocAttr, R0, opEv, fillV, mapO, mapS, b136_1, h_1, eq_false hge]
    intro ht; subst ht
    refine And.intro rfl (Exists.intro _ ( Exists.intro _ ( And.intro rfl ?_)))
    simp only [simprocAttr, R0, h_1, eq_false hge]
theorem s136 (a0 : Int) (a1 : List Int) (a2 : List Int) (a3 : Int)   {r : List Int} (hF : F136 a0 a1 a2 a3 = some r) : ans A 136 [V.int .i64 a0, V.isl (a1.map Enc.enc), V.isl (a2.map Enc.enc), V.int .i64 a3] = some (Enc.enc r) := by
  refine ans_of (f := p136) rfl rfl rfl fun e hl he => ?_
  have h0_0 : e.at 0 = V.int .i64 a0 := he 0 _ rfl
  have h1_0 : e.at 1 = V.isl (a1.map Enc.enc) := he 1 _ rfl
  have h2_0 : e.at 2 = V.isl (a2.map Enc.enc) := he 2 _ rfl
  have h3_0 : e.at 3 = V.int .i64 a3 := he 3 _ rfl
  have hl_0 : e.length = 35 := hl
  clear he hl
  show W A b136 e ⟨[], 0⟩ _
  unfold F136 at hF
  obtain ⟨zo0_1, gt15, hF⟩ := bS hF
  simp only [simprocAttr, R0, opEv, fillV, mapO, mapS, b136, hl_0, h0_0, h1_0, h2_0, h3_0]
  refine W.mono (l136_1 a0 a1 a2 a3   gt15 (Exists.intro _ ( Exists.intro _ ( And.intro rfl ?_)))) ?_
  · simp only [simprocAttr, R0, hl_0, h0_0, h1_0, h2_0, h3_0]
  rintro _ e _ ⟨rfl, u2, k3, rfl, h_4⟩
  have hE := Option.some.inj hF; subst hE
  simp only [simprocAttr, R0, opEv, fillV, mapO, mapS, h_4]
  exact fin_ret (by simp only [simprocAttr, R0, fn_out, p136, Rs.ev, mapO, mapS, take_len_self, h_4, frzs (α := Int) zo0_1, takes (α := Int) zo0_1])
def F80_2_S (a0 : Int) (a1 : List (List Int)) (a2 : List Int) (v10_1 : Int) (s : (List Int) × Int) : Option (((List Int) × Int) ⊕ ((List Int))) :=
  match s with
  | (o0_2, v11_2) =>
    if v11_2 < ((o0_2.length : Nat) : Int) then
      (getI o0_2 v11_2).bind fun x12 =>
      (getI a2 v10_1).bind fun x14 =>
      (getI a1 v10_1).bind fun x16 =>
      (getI x16 v11_2).bind fun x18 =>
      (chk (x14 * x18)).bind fun x20 =>
      (chk (x12 + x20)).bind fun x21 =>
      (remI x21 a0).bind fun x22 =>
      (setI o0_2 v11_2 x22).bind fun l24 =>
      (chk (v11_2 + 1)).bind fun x26 =>
      some (.inl (l24, x26))
    else
      some (.inr o0_2)
def F80_1_B (a0 : Int) (a1 : List (List Int)) (a2 : List Int) (v10_1 : Int) (o0_1 : (List Int)) : Option (((List Int)) ⊕ ((List Int))) :=
  (loopW (F80_2_S a0 a1 a2 v10_1) (o0_1, 0)).bind fun zo0_2 =>
some (.inl zo0_2)
def F80_1_D (a0 : Int) (a1 : List (List Int)) (a2 : List Int) (v10_1 : Int) (o0_1 : (List Int)) : Option ((List Int)) :=
  some o0_1
def F80 (a0 : Int) (a1 : List (List Int)) (a2 : List Int) (a3 : Int) : Option (List Int) :=
  (mkL 8 a3 0).bind fun l1 =>
  (forR 0 (a2.length : Int) (F80_1_B a0 a1 a2) (F80_1_D a0 a1 a2) l1).bind fun zo0_1 =>
  some zo0_1
def I80_2 (a0 : Int) (a1 : List (List Int)) (a2 : List Int) (v10_1 : Int)  (s : (List Int) × Int) (e : Env) (h : Heap) : Prop :=
  match s with
  | (o0_2, v11_2) =>
    ∃ u8 k9 : Nat, h = ⟨[(u8, some (o0_2.map Enc.enc))], k9⟩ ∧ e.length = 49 ∧ e.at 0 = V.int .i64 a0 ∧ e.at 1 = V.isl (a1.map Enc.enc) ∧ e.at 2 = V.isl (a2.map Enc.enc) ∧ e.at 9 = V.sl 0 u8 0 o0_2.length 1 ∧ e.at 10 = V.int .i64 v10_1 ∧ e.at 11 = V.int .i64 v11_2
def P80_2 (a0 : Int) (a1 : List (List Int)) (a2 : List Int) (v10_1 : Int)  (zo0_2 : (List Int)) (x : Ex) (e : Env) (h : Heap) : Prop :=
  x = .normal ∧ ∃ u8 k9 : Nat, h = ⟨[(u8, some (zo0_2.map Enc.enc))], k9⟩ ∧ e.length = 49 ∧ e.at 0 = V.int .i64 a0 ∧ e.at 1 = V.isl (a1.map Enc.enc) ∧ e.at 2 = V.isl (a2.map Enc.enc) ∧ e.at 9 = V.sl 0 u8 0 zo0_2.length 1 ∧ e.at 10 = V.int .i64 v10_1
theorem l80_2 (a0 : Int) (a1 : List (List Int)) (a2 : List Int) (v10_1 : Int)   {s : (List Int) × Int} {t : (List Int)} (hF : loopW (F80_2_S a0 a1 a2 v10_1) s = some t) {e : Env} {h : Heap} (hI : I80_2 a0 a1 a2 v10_1  s e h) : W A c80_2 e h (P80_2 a0 a1 a2 v10_1  t) := by
  show W A (.block 2 (.loop false b80_2)) e h _
  rw [W_block]
  refine W_loop hF 1 (by rcases s with ⟨_, _⟩; obtain ⟨_, _, rfl, _⟩ := hI; rfl) (I80_2 a0 a1 a2 v10_1 ) hI ?_
  · rintro ⟨o0_2, v11_2⟩ e h ⟨u8, k9, rfl, h_7⟩ o ho
    unfold F80_2_S at ho
    dsimp only at ho
    by_cases c11 : v11_2 < ((o0_2.length : Nat) : Int)
    · rw [if_pos c11] at ho
      obtain ⟨x12, gx12, ho⟩ := bS ho
      obtain ⟨w13a, w13b⟩ := getI_w gx12
      have w13c := getI_lt gx12
      have w13d : List.drop (Int.toNat v11_2) (o0_2.map Enc.enc) = (V.int .i64 x12) :: List.drop ((Int.toNat v11_2) + 1) (o0_2.map Enc.enc) := drop_enc w13b
      obtain ⟨x14, gx14, ho⟩ := bS ho
      obtain ⟨w15a, w15b⟩ := getI_w gx14
      obtain ⟨x16, gx16, ho⟩ := bS ho
      obtain ⟨w17a, w17b⟩ := getI_w gx16
      obtain ⟨x18, gx18, ho⟩ := bS ho
      obtain ⟨w19a, w19b⟩ := getI_w gx18
      obtain ⟨x20, gx20, ho⟩ := bS ho
      have wx20 := chk_w gx20
      obtain ⟨x21, gx21, ho⟩ := bS ho
      have wx21 := chk_w gx21
      obtain ⟨x22, gx22, ho⟩ := bS ho
      obtain ⟨w23a, w23b⟩ := rem_w gx22
      obtain ⟨l24, gl24, ho⟩ := bS ho
      obtain ⟨w25a, w25b, w25c, w25d, w25e⟩ := setI_w gl24
      replace w25e : List.take (Int.toNat v11_2) (o0_2.map Enc.enc) ++ [V.int .i64 x22] ++ List.drop (Int.toNat v11_2 + 1) (o0_2.map Enc.enc) = List.map Enc.enc l24 := w25e
      obtain ⟨x26, gx26, ho⟩ := bS ho
      have wx26 := chk_w gx26
      cases ho
      simp only [simprocAttr, R0, opEv, fillV, mapO, mapS, b80_2, h_7, eq_true c11, w13a, w13b, w13c, w13d, w15a, w15b, w17a, w17b, w19a, w19b, wx20, wx21, eq_false w23a, w23b, w25a, w25b, w25c, w25e, wx26]
      refine And.intro rfl (Exists.intro _ ( Exists.intro _ ( And.intro rfl ?_)))
      simp only [simprocAttr, R0, h_7, eq_true c11, w13a, w13b, w13c, w13d, w15a, w15b, w17a, w17b, w19a, w19b, wx20, wx21, eq_false w23a, w23b, w25a, w25b, w25c, w25e, wx26, w25d]
    · rw [if_neg c11] at ho
      cases ho
      simp only [simprocAttr, R0, opEv, fillV, mapO, mapS, b80_2, h_7, eq_false c11]
      intro ht; subst ht
      simp only [simprocAttr, RR, RB]
      refine And.intro rfl (Exists.intro _ ( Exists.intro _ ( And.intro rfl ?_)))
      simp only [simprocAttr, R0, h_7, eq_false c11]
def I80_1 (a0 : Int) (a1 : List (List Int)) (a2 : List Int)  (v10_1 : Int) (o0_1 : (List Int)) (e : Env) (h : Heap) : Prop :=
  ∃ u4 k5 : Nat, h = ⟨[(u4, some (o0_1.map Enc.enc))], k5⟩ ∧ e.length = 49 ∧ e.at 0 = V.int .i64 a0 ∧ e.at 1 = V.isl (a1.map Enc.enc) ∧ e.at 2 = V.isl (a2.map Enc.enc) ∧ e.at 9 = V.sl 0 u4 0 o0_1.length 1 ∧ e.at 10 = V.int .i64 v10_1
def P80_1 (a0 : Int) (a1 : List (List Int)) (a2 : List Int)  (zo0_1 : (List Int)) (x : Ex) (e : Env) (h : Heap) : Prop :=
  x = .normal ∧ ∃ u4 k5 : Nat, h = ⟨[(u4, some (zo0_1.map Enc.enc))], k5⟩ ∧ e.length = 49 ∧ e.at 9 = V.sl 0 u4 0 zo0_1.length 1
theorem l80_1 (a0 : Int) (a1 : List (List Int)) (a2 : List Int)   {lo : Int} {s : (List Int)} {t : (List Int)} (hF : forR lo (a2.length : Int) (F80_1_B a0 a1 a2) (F80_1_D a0 a1 a2) s = some t) {e : Env} {h : Heap} (hI : I80_1 a0 a1 a2  lo s e h) : W A c80_1 e h (P80_1 a0 a1 a2  t) := by
  show W A (.block 0 (.loop false b80_1)) e h _
  rw [W_block]
  refine W_forR hF 1 (by obtain ⟨_, _, rfl, _⟩ := hI; rfl) (I80_1 a0 a1 a2 ) hI ?_ ?_
  · rintro v10_1 o0_1 e h ⟨u4, k5, rfl, h_3⟩ hlt hw o ho
    unfold F80_1_B at ho
    obtain ⟨zo0_2, gt27, ho⟩ := bS ho
    simp only [simprocAttr, R0, opEv, fillV, mapO, mapS, b80_1, h_3, eq_true hlt, hw]
    refine W.mono (l80_2 a0 a1 a2 v10_1   gt27 (Exists.intro _ ( Exists.intro _ ( And.intro rfl ?_)))) ?_
    · simp only [simprocAttr, R0, h_3, eq_true hlt, hw]
    rintro _ e _ ⟨rfl, u8, k9, rfl, h_10⟩
    cases ho
    simp only [simprocAttr, R0, opEv, fillV, mapO, mapS, h_10, eq_true hlt, hw]
    refine And.intro rfl (Exists.intro _ ( Exists.intro _ ( And.intro rfl ?_)))
    simp only [simprocAttr, R0, h_10, eq_true hlt, hw]
  · rintro v10_1 o0_1 e h ⟨u4, k5, rfl, h_3⟩ hge t1 ho
    unfold F80_1_D at ho
    cases ho
    simp only [simprocAttr, R0, opEv, fillV, mapO, mapS, b80_1, h_3, eq_false hge]
    intro ht; subst ht
    refine And.intro rfl (Exists.intro _ ( Exists.intro _ ( And.intro rfl ?_)))
    simp only [simprocAttr, R0, h_3, eq_false hge]
theorem s80 (a0 : Int) (a1 : List (List Int)) (a2 : List Int) (a3 : Int)   {r : List Int} (hF : F80 a0 a1 a2 a3 = some r) : ans A 80 [V.int .i64 a0, V.isl (a1.map Enc.enc), V.isl (a2.map Enc.enc), V.int .i64 a3] = some (Enc.enc r) := by
  refine ans_of (f := p80) rfl rfl rfl fun e hl he => ?_
  have h0_0 : e.at 0 = V.int .i64 a0 := he 0 _ rfl
  have h1_0 : e.at 1 = V.isl (a1.map Enc.enc) := he 1 _ rfl
  have h2_0 : e.at 2 = V.isl (a2.map Enc.enc) := he 2 _ rfl
  have h3_0 : e.at 3 = V.int .i64 a3 := he 3 _ rfl
  have hl_0 : e.length = 49 := hl
  clear he hl
  show W A b80 e ⟨[], 0⟩ _
  unfold F80 at hF
  obtain ⟨l1, gl1, hF⟩ := bS hF
  obtain ⟨w2a, w2b, w2c, w2d, w2e⟩ := mkL_w gl1
  replace w2e : (List.replicate (Int.toNat a3) [V.int .i64 0]).flatten = List.map Enc.enc l1 := w2e
  obtain ⟨zo0_1, gt28, hF⟩ := bS hF
  simp only [↓reduceIte, Nat.reduceAdd, Nat.reduceMul, Nat.reduceSub, Nat.reduceLT, Nat.reduceLeDiff, Nat.reduceEqDiff, Nat.reducePow, Int.reducePow, Int.reduceLE, Int.reduceLT, Int.reduceEq, Int.reduceToNat, reduceCtorEq, R0, opEv, fillV, mapO, mapS, b80, hl_0, h0_0, h1_0, h2_0, h3_0, w2a, w2b, w2c, w2e]
  refine W.mono (l80_1 a0 a1 a2   gt28 (Exists.intro _ ( Exists.intro _ ( And.intro rfl ?_)))) ?_
  · simp only [↓reduceIte, Nat.reduceAdd, Nat.reduceMul, Nat.reduceSub, Nat.reduceLT, Nat.reduceLeDiff, Nat.reduceEqDiff, Nat.reducePow, Int.reducePow, Int.reduceLE, Int.reduceLT, Int.reduceEq, Int.reduceToNat, reduceCtorEq, R0, hl_0, h0_0, h1_0, h2_0, h3_0, w2a, w2b, w2c, w2e, w2d]
  rintro _ e _ ⟨rfl, u4, k5, rfl, hl_6, h9_6⟩
  have hE := Option.some.inj hF; subst hE
  simp only [↓reduceIte, Nat.reduceAdd, Nat.reduceMul, Nat.reduceSub, Nat.reduceLT, Nat.reduceLeDiff, Nat.reduceEqDiff, Nat.reducePow, Int.reducePow, Int.reduceLE, Int.reduceLT, Int.reduceEq, Int.reduceToNat, reduceCtorEq, R0, opEv, fillV, mapO, mapS, hl_6, h9_6]
  exact fin_ret (by simp only [↓reduceIte, Nat.reduceAdd, Nat.reduceMul, Nat.reduceSub, Nat.reduceLT, Nat.reduceLeDiff, Nat.reduceEqDiff, Nat.reducePow, Int.reducePow, Int.reduceLE, Int.reduceLT, Int.reduceEq, Int.reduceToNat, reduceCtorEq, R0, fn_out, p80, Rs.ev, mapO, mapS, take_len_self, hl_6, h9_6, frzs (α := Int) zo0_1, takes (α := Int) zo0_1])
def F298 (a0 : GDouble) (a1 : Int) (a2 : Int) (a3 : List Int) (a4 : Bool) : Option (List Int) :=
  (chk (a2 - 1)).bind fun x1 =>
  (F261 a0 a1 x1).bind fun x2 =>
  if a4 = true then
    (chk (a1 - 1)).bind fun x5 =>
    (F261 a0 x5 a2).bind fun x6 =>
    (chk ((a0.Dims.length : Int) - 1)).bind fun x8 =>
    (F54 a1 0 x8).bind fun x9 =>
    if x9 = true then
      (getI a0.Dims 0).bind fun x11 =>
      (chk ((x11.length : Int) - 1)).bind fun x13 =>
      (F54 a2 0 x13).bind fun x14 =>
      if x14 = true then
        (getI a0.Across a1).bind fun x16 =>
        (getI x16 a2).bind fun x18 =>
        (F80 a0.Prime x18 a3 x6).bind fun x20 =>
        some x20
      else
        (mkL 8 x6 0).bind fun l22 =>
        some l22
    else
      (mkL 8 x6 0).bind fun l24 =>
      some l24
  else
    (chk ((a0.Dims.length : Int) - 1)).bind fun x26 =>
    (F54 a1 0 x26).bind fun x27 =>
    if x27 = true then
      (getI a0.Dims 0).bind fun x29 =>
      (chk ((x29.length : Int) - 1)).bind fun x31 =>
      (F54 a2 0 x31).bind fun x32 =>
      if x32 = true then
        (getI a0.Down a1).bind fun x34 =>
        (getI x34 a2).bind fun x36 =>
        (F80 a0.Prime x36 a3 x2).bind fun x38 =>
        some x38
      else
        (mkL 8 x2 0).bind fun l40 =>
        some l40
    else
      (mkL 8 x2 0).bind fun l42 =>
      some l42
theorem s298 (a0 : GDouble) (a1 : Int) (a2 : Int) (a3 : List Int) (a4 : Bool)   {r : List Int} (hF : F298 a0 a1 a2 a3 a4 = some r) : ans A 298 [V.agg [V.int .i64 a0.Prime, V.isl (a0.Dims.map Enc.enc), V.isl (a0.Across.map Enc.enc), V.isl (a0.Down.map Enc.enc)], V.int .i64 a1, V.int .i64 a2, V.isl (a3.map Enc.enc), V.bool a4] = some (Enc.enc r) := by
  refine ans_of (f := p298) rfl rfl rfl fun e hl he => ?_
  have h0_0 : e.at 0 = V.agg [V.int .i64 a0.Prime, V.isl (a0.Dims.map Enc.enc), V.isl (a0.Across.map Enc.enc), V.isl (a0.Down.map Enc.enc)] := he 0 _ rfl
  have h1_0 : e.at 1 = V.int .i64 a1 := he 1 _ rfl
  have h2_0 : e.at 2 = V.int .i64 a2 := he 2 _ rfl
  have h3_0 : e.at 3 = V.isl (a3.map Enc.enc) := he 3 _ rfl
  have h4_0 : e.at 4 = V.bool a4 := he 4 _ rfl
  have hl_0 : e.length = 70 := hl
  clear he hl
  show W A b298 e ⟨[], 0⟩ _
  unfold F298 at hF
  obtain ⟨x1, gx1, hF⟩ := bS hF
  have wx1 := chk_w gx1
  obtain ⟨x2, gx2, hF⟩ := bS hF
  have w3 : ans A 261 [V.agg [V.int .i64 a0.Prime, V.isl (a0.Dims.map Enc.enc), V.isl (a0.Across.map Enc.enc), V.isl (a0.Down.map Enc.enc)], V.int .i64 a1, V.int .i64 x1] = some (V.int .i64 x2) := s261 a0 a1 x1  gx2
  by_cases c4 : a4 = true
  · rw [if_pos c4] at hF
    obtain ⟨x5, gx5, hF⟩ := bS hF
    have wx5 := chk_w gx5
    obtain ⟨x6, gx6, hF⟩ := bS hF
    have w7 : ans A 261 [V.agg [V.int .i64 a0.Prime, V.isl (a0.Dims.map Enc.enc), V.isl (a0.Across.map Enc.enc), V.isl (a0.Down.map Enc.enc)], V.int .i64 x5, V.int .i64 a2] = some (V.int .i64 x6) := s261 a0 x5 a2  gx6
    obtain ⟨x8, gx8, hF⟩ := bS hF
    have wx8 := chk_w gx8
    obtain ⟨x9, gx9, hF⟩ := bS hF
    have w10 : ans A 54 [V.int .i64 a1, V.int .i64 0, V.int .i64 x8] = some (V.bool x9) := s54 a1 0 x8  gx9
    cases x9 with
    | true =>
      rw [if_pos rfl] at hF
      obtain ⟨x11, gx11, hF⟩ := bS hF
      obtain ⟨w12a, w12b⟩ := getI_w gx11
      replace w12b : a0.Dims[0]? = some x11 := w12b
      obtain ⟨x13, gx13, hF⟩ := bS hF
      have wx13 := chk_w gx13
      obtain ⟨x14, gx14, hF⟩ := bS hF
      have w15 : ans A 54 [V.int .i64 a2, V.int .i64 0, V.int .i64 x13] = some (V.bool x14) := s54 a2 0 x13  gx14
      cases x14 with
      | true =>
        rw [if_pos rfl] at hF
        obtain ⟨x16, gx16, hF⟩ := bS hF
        obtain ⟨w17a, w17b⟩ := getI_w gx16
        obtain ⟨x18, gx18, hF⟩ := bS hF
        obtain ⟨w19a, w19b⟩ := getI_w gx18
        obtain ⟨x20, gx20, hF⟩ := bS hF
        have w21 : ans A 80 [V.int .i64 a0.Prime, V.isl (x18.map Enc.enc), V.isl (a3.map Enc.enc), V.int .i64 x6] = some (V.isl (x20.map Enc.enc)) := s80 a0.Prime x18 a3 x6  gx20
        have hE := Option.some.inj hF; subst hE
        simp only [↓reduceIte, Nat.reduceAdd, Nat.reduceMul, Nat.reduceSub, Nat.reduceLT, Nat.reduceLeDiff, Nat.reduceEqDiff, Nat.reducePow, Int.reducePow, Int.reduceLE, Int.reduceLT, Int.reduceEq, Int.reduceToNat, reduceCtorEq, R0, opEv, fillV, mapO, mapS, b298, hl_0, h0_0, h1_0, h2_0, h3_0, h4_0, wx1, w3, c4, wx5, w7, wx8, w10, w12a, w12b, wx13, w15, w17a, w17b, w19a, w19b, w21]
        exact fin_ret (by simp only [↓reduceIte, Nat.reduceAdd, Nat.reduceMul, Nat.reduceSub, Nat.reduceLT, Nat.reduceLeDiff, Nat.reduceEqDiff, Nat.reducePow, Int.reducePow, Int.reduceLE, Int.reduceLT, Int.reduceEq, Int.reduceToNat, reduceCtorEq, R0, fn_out, p298, Rs.ev, mapO, mapS, take_len_self, hl_0, h0_0, h1_0, h2_0, h3_0, h4_0, wx1, w3, c4, wx5, w7, wx8, w10, w12a, w12b, wx13, w15, w17a, w17b, w19a, w19b, w21])
      | false =>
        rw [if_neg Bool.false_ne_true] at hF
        obtain ⟨l22, gl22, hF⟩ := bS hF
        obtain ⟨w23a, w23b, w23c, w23d, w23e⟩ := mkL_w gl22
        replace w23e : (List.replicate (Int.toNat x6) [V.int .i64 0]).flatten = List.map Enc.enc l22 := w23e
        have hE := Option.some.inj hF; subst hE
        simp only [↓reduceIte, Nat.reduceAdd, Nat.reduceMul, Nat.reduceSub, Nat.reduceLT, Nat.reduceLeDiff, Nat.reduceEqDiff, Nat.reducePow, Int.reducePow, Int.reduceLE, Int.reduceLT, Int.reduceEq, Int.reduceToNat, reduceCtorEq, R0, opEv, fillV, mapO, mapS, b298, hl_0, h0_0, h1_0, h2_0, h3_0, h4_0, wx1, w3, c4, wx5, w7, wx8, w10, w12a, w12b, wx13, w15, w23a, w23b, w23c, w23e]
        exact fin_ret (by simp only [↓reduceIte, Nat.reduceAdd, Nat.reduceMul, Nat.reduceSub, Nat.reduceLT, Nat.reduceLeDiff, Nat.reduceEqDiff, Nat.reducePow, Int.reducePow, Int.reduceLE, Int.reduceLT, Int.reduceEq, Int.reduceToNat, reduceCtorEq, R0, fn_out, p298, Rs.ev, mapO, mapS, take_len_self, hl_0, h0_0, h1_0, h2_0, h3_0, h4_0, wx1, w3, c4, wx5, w7, wx8, w10, w12a, w12b, wx13, w15, w23a, w23b, w23c, w23e, frzs (α := Int) l22, takes (α := Int) l22, take_len (α := Int) (l := l22) (n := (Int.toNat x6)) (by first | rfl | simp only [w23d]), w23d])
    | false =>
      rw [if_neg Bool.false_ne_true] at hF
      obtain ⟨l24, gl24, hF⟩ := bS hF
      obtain ⟨w25a, w25b, w25c, w25d, w25e⟩ := mkL_w gl24
      replace w25e : (List.replicate (Int.toNat x6) [V.int .i64 0]).flatten = List.map Enc.enc l24 := w25e
      have hE := Option.some.inj hF; subst hE
      simp only [↓reduceIte, Nat.reduceAdd, Nat.reduceMul, Nat.reduceSub, Nat.reduceLT, Nat.reduceLeDiff, Nat.reduceEqDiff, Nat.reducePow, Int.reducePow, Int.reduceLE, Int.reduceLT, Int.reduceEq, Int.reduceToNat, reduceCtorEq, R0, opEv, fillV, mapO, mapS, b298, hl_0, h0_0, h1_0, h2_0, h3_0, h4_0, wx1, w3, c4, wx5, w7, wx8, w10, w25a, w25b, w25c, w25e]
      exact fin_ret (by simp only [↓reduceIte, Nat.reduceAdd, Nat.reduceMul, Nat.reduceSub, Nat.reduceLT, Nat.reduceLeDiff, Nat.reduceEqDiff, Nat.reducePow, Int.reducePow, Int.reduceLE, Int.reduceLT, Int.reduceEq, Int.reduceToNat, reduceCtorEq, R0, fn_out, p298, Rs.ev, mapO, mapS, take_len_self, hl_0, h0_0, h1_0, h2_0, h3_0, h4_0, wx1, w3, c4, wx5, w7, wx8, w10, w25a, w25b, w25c, w25e, frzs (α := Int) l24, takes (α := Int) l24, take_len (α := Int) (l := l24) (n := (Int.toNat x6)) (by first | rfl | simp only [w25d]), w25d])
  · rw [if_neg c4] at hF
    obtain ⟨x26, gx26, hF⟩ := bS hF
    have wx26 := chk_w gx26
    obtain ⟨x27, gx27, hF⟩ := bS hF
    have w28 : ans A 54 [V.int .i64 a1, V.int .i64 0, V.int .i64 x26] = some (V.bool x27) := s54 a1 0 x26  gx27
    cases x27 with
    | true =>
      rw [if_pos rfl] at hF
      obtain ⟨x29, gx29, hF⟩ := bS hF
      obtain ⟨w30a, w30b⟩ := getI_w gx29
      replace w30b : a0.Dims[0]? = some x29 := w30b
      obtain ⟨x31, gx31, hF⟩ := bS hF
      have wx31 := chk_w gx31
      obtain ⟨x32, gx32, hF⟩ := bS hF
      have w33 : ans A 54 [V.int .i64 a2, V.int .i64 0, V.int .i64 x31] = some (V.bool x32) := s54 a2 0 x31  gx32
      cases x32 with
      | true =>
        rw [if_pos rfl] at hF
        obtain ⟨x34, gx34, hF⟩ := bS hF
        obtain ⟨w35a, w35b⟩ := getI_w gx34
        obtain ⟨x36, gx36, hF⟩ := bS hF
        obtain ⟨w37a, w37b⟩ := getI_w gx36
        obtain ⟨x38, gx38, hF⟩ := bS hF
        have w39 : ans A 80 [V.int .i64 a0.Prime, V.isl (x36.map Enc.enc), V.isl (a3.map Enc.enc), V.int .i64 x2] = some (V.isl (x38.map Enc.enc)) := s80 a0.Prime x36 a3 x2  gx38
        have hE := Option.some.inj hF; subst hE
        simp only [↓reduceIte, Nat.reduceAdd, Nat.reduceMul, Nat.reduceSub, Nat.reduceLT, Nat.reduceLeDiff, Nat.reduceEqDiff, Nat.reducePow, Int.reducePow, Int.reduceLE, Int.reduceLT, Int.reduceEq, Int.reduceToNat, reduceCtorEq, R0, opEv, fillV, mapO, mapS, b298, hl_0, h0_0, h1_0, h2_0, h3_0, h4_0, wx1, w3, Bool.eq_false_iff.2 c4, wx26, w28, w30a, w30b, wx31, w33, w35a, w35b, w37a, w37b, w39]
        exact fin_ret (by simp only [↓reduceIte, Nat.reduceAdd, Nat.reduceMul, Nat.reduceSub, Nat.reduceLT, Nat.reduceLeDiff, Nat.reduceEqDiff, Nat.reducePow, Int.reducePow, Int.reduceLE, Int.reduceLT, Int.reduceEq, Int.reduceToNat, reduceCtorEq, R0, fn_out, p298, Rs.ev, mapO, mapS, take_len_self, hl_0, h0_0, h1_0, h2_0, h3_0, h4_0, wx1, w3, Bool.eq_false_iff.2 c4, wx26, w28, w30a, w30b, wx31, w33, w35a, w35b, w37a, w37b, w39])
      | false =>
        rw [if_neg Bool.false_ne_true] at hF
        obtain ⟨l40, gl40, hF⟩ := bS hF
        obtain ⟨w41a, w41b, w41c, w41d, w41e⟩ := mkL_w gl40
        replace w41e : (List.replicate (Int.toNat x2) [V.int .i64 0]).flatten = List.map Enc.enc l40 := w41e
        have hE := Option.some.inj hF; subst hE
        simp only [↓reduceIte, Nat.reduceAdd, Nat.reduceMul, Nat.reduceSub, Nat.reduceLT, Nat.reduceLeDiff, Nat.reduceEqDiff, Nat.reducePow, Int.reducePow, Int.reduceLE, Int.reduceLT, Int.reduceEq, Int.reduceToNat, reduceCtorEq, R0, opEv, fillV, mapO, mapS, b298, hl_0, h0_0, h1_0, h2_0, h3_0, h4_0, wx1, w3, Bool.eq_false_iff.2 c4, wx26, w28, w30a, w30b, wx31, w33, w41a, w41b, w41c, w41e]
        exact fin_ret (by simp only [↓reduceIte, Nat.reduceAdd, Nat.reduceMul, Nat.reduceSub, Nat.reduceLT, Nat.reduceLeDiff, Nat.reduceEqDiff, Nat.reducePow, Int.reducePow, Int.reduceLE, Int.reduceLT, Int.reduceEq, Int.reduceToNat, reduceCtorEq, R0, fn_out, p298, Rs.ev, mapO, mapS, take_len_self, hl_0, h0_0, h1_0, h2_0, h3_0, h4_0, wx1, w3, Bool.eq_false_iff.2 c4, wx26, w28, w30a, w30b, wx31, w33, w41a, w41b, w41c, w41e, frzs (α := Int) l40, takes (α := Int) l40, take_len (α := Int) (l := l40) (n := (Int.toNat x2)) (by first | rfl | simp only [w41d]), w41d])
    | false =>
      rw [if_neg Bool.false_ne_true] at hF
      obtain ⟨l42, gl42, hF⟩ := bS hF
      obtain ⟨w43a, w43b, w43c, w43d, w43e⟩ := mkL_w gl42
      replace w43e : (List.replicate (Int.toNat x2) [V.int .i64 0]).flatten = List.map Enc.enc l42 := w43e
      have hE := Option.some.inj hF; subst hE
      simp only [↓reduceIte, Nat.reduceAdd, Nat.reduceMul, Nat.reduceSub, Nat.reduceLT, Nat.reduceLeDiff, Nat.reduceEqDiff, Nat.reducePow, Int.reducePow, Int.reduceLE, Int.reduceLT, Int.reduceEq, Int.reduceToNat, reduceCtorEq, R0, opEv, fillV, mapO, mapS, b298, hl_0, h0_0, h1_0, h2_0, h3_0, h4_0, wx1, w3, Bool.eq_false_iff.2 c4, wx26, w28, w43a, w43b, w43c, w43e]
      exact fin_ret (by simp only [↓reduceIte, Nat.reduceAdd, Nat.reduceMul, Nat.reduceSub, Nat.reduceLT, Nat.reduceLeDiff, Nat.reduceEqDiff, Nat.reducePow, Int.reducePow, Int.reduceLE, Int.reduceLT, Int.reduceEq, Int.reduceToNat, reduceCtorEq, R0, fn_out, p298, Rs.ev, mapO, mapS, take_len_self, hl_0, h0_0, h1_0, h2_0, h3_0, h4_0, wx1, w3, Bool.eq_false_iff.2 c4, wx26, w28, w43a, w43b, w43c, w43e, frzs (α := Int) l42, takes (α := Int) l42, take_len (α := Int) (l := l42) (n := (Int.toNat x2)) (by first | rfl | simp only [w43d]), w43d])
def F262_3_S (a0 : GDouble) (v4_1 : Int) (v5_2 : Int) (v6_3 : Int) : Option ((Int) ⊕ ((Unit) ⊕ Bool)) :=
  (getI a0.Dims v4_1).bind fun x13 =>
(getI x13 v5_2).bind fun x15 =>
if v6_3 < x15 then
  (getI a0.Across v4_1).bind fun x18 =>
  (getI x18 v5_2).bind fun x20 =>
  (getI x20 v6_3).bind fun x22 =>
  (getI a0.Down v4_1).bind fun x24 =>
  (getI x24 v5_2).bind fun x26 =>
  (getI x26 v6_3).bind fun x28 =>
  (chk (v4_1 - 1)).bind fun x30 =>
  (F298 a0 x30 v5_2 x22 true).bind fun x31 =>
  (F81 x31).bind fun x33 =>
  if 0 ≤ x33 then
    some (.inr (.inr false))
  else
    (chk (v5_2 - 1)).bind fun x36 =>
    (F298 a0 v4_1 x36 x28 false).bind fun x37 =>
    (F81 x37).bind fun x39 =>
    if 0 ≤ x39 then
      some (.inr (.inr false))
    else
      (F298 a0 x30 v5_2 x22 false).bind fun x42 =>
      (F298 a0 v4_1 x36 x28 true).bind fun x44 =>
      (F136 a0.Prime x42 x44 (-1)).bind fun x46 =>
      (F81 x46).bind fun x48 =>
      if 0 ≤ x48 then
        some (.inr (.inr false))
      else
        (chk (v6_3 + 1)).bind fun x51 =>
        some (.inl x51)
else
  some (.inr (.inl ()))
def F262_2_S (a0 : GDouble) (v4_1 : Int) (v5_2 : Int) : Option ((Int) ⊕ ((Unit) ⊕ Bool)) :=
  (getI a0.Dims 0).bind fun x7 =>
if v5_2 < (x7.length : Int) then
  (loopW (F262_3_S a0 v4_1 v5_2) 0).bind fun t52 => match t52 with
    | .inl _ =>
      (chk (v5_2 + 1)).bind fun x53 =>
      some (.inl x53)
    | .inr r54 => some (.inr (.inr r54))
else
  some (.inr (.inl ()))
def F262_1_B (a0 : GDouble) (v4_1 : Int) (s : Unit) : Option ((Unit) ⊕ ((Unit) ⊕ Bool)) :=
  (loopW (F262_2_S a0 v4_1) 0).bind fun t55 => match t55 with
  | .inl _ =>
    some (.inl ())
  | .inr r56 => some (.inr (.inr r56))
def F262_1_D (a0 : GDouble) (v4_1 : Int) (s : Unit) : Option ((Unit) ⊕ Bool) :=
  some (.inl ())
def F262 (a0 : GDouble) : Option Bool :=
  (forR 0 (a0.Dims.length : Int) (F262_1_B a0) (F262_1_D a0) ()).bind fun t57 => match t57 with
    | .inl _ =>
      some true
    | .inr r58 => some r58
def I262_3 (a0 : GDouble) (v4_1 : Int) (v5_2 : Int)  (v6_3 : Int) (e : Env) (h : Heap) : Prop :=
  ∃ k11 : Nat, h = ⟨[(0, none)], k11⟩ ∧ e.length = 99 ∧ e.at 1 = V.iptr [V.int .i64 a0.Prime, V.isl (a0.Dims.map Enc.enc), V.isl (a0.Across.map Enc.enc), V.isl (a0.Down.map Enc.enc)] ∧ e.at 3 = V.int .i64 a0.Prime ∧ e.at 4 = V.int .i64 v4_1 ∧ e.at 5 = V.int .i64 v5_2 ∧ e.at 6 = V.int .i64 v6_3
def P262_3 (a0 : GDouble) (v4_1 : Int) (v5_2 : Int)  (t : (Unit) ⊕ Bool) (x : Ex) (e : Env) (h : Heap) : Prop :=
  match t with
  | .inl _ => x = .normal ∧ ∃ k11 : Nat, h = ⟨[(0, none)], k11⟩ ∧ e.length = 99 ∧ e.at 1 = V.iptr [V.int .i64 a0.Prime, V.isl (a0.Dims.map Enc.enc), V.isl (a0.Across.map Enc.enc), V.isl (a0.Down.map Enc.enc)] ∧ e.at 3 = V.int .i64 a0.Prime ∧ e.at 4 = V.int .i64 v4_1 ∧ e.at 5 = V.int .i64 v5_2
  | .inr r => x = .ret ∧ Fin p262 (Enc.enc r) .ret e h
theorem l262_3 (a0 : GDouble) (v4_1 : Int) (v5_2 : Int)   {s : Int} {t : (Unit) ⊕ Bool} (hF : loopW (F262_3_S a0 v4_1 v5_2) s = some t) {e : Env} {h : Heap} (hI : I262_3 a0 v4_1 v5_2  s e h) : W A c262_3 e h (P262_3 a0 v4_1 v5_2  t) := by
  show W A (.block 4 (.loop false b262_3)) e h _
  rw [W_block]
  refine W_loop hF 1 (by obtain ⟨_, rfl, _⟩ := hI; rfl) (I262_3 a0 v4_1 v5_2 ) hI ?_
  · rintro v6_3 e h ⟨k11, rfl, h_10⟩ o ho
    unfold F262_3_S at ho
    obtain ⟨x13, gx13, ho⟩ := bS ho
    obtain ⟨w14a, w14b⟩ := getI_w gx13
    obtain ⟨x15, gx15, ho⟩ := bS ho
    obtain ⟨w16a, w16b⟩ := getI_w gx15
    by_cases c17 : v6_3 < x15
    · rw [if_pos c17] at ho
      obtain ⟨x18, gx18, ho⟩ := bS ho
      obtain ⟨w19a, w19b⟩ := getI_w gx18
      obtain ⟨x20, gx20, ho⟩ := bS ho
      obtain ⟨w21a, w21b⟩ := getI_w gx20
      obtain ⟨x22, gx22, ho⟩ := bS ho
      obtain ⟨w23a, w23b⟩ := getI_w gx22
      obtain ⟨x24, gx24, ho⟩ := bS ho
      obtain ⟨w25a, w25b⟩ := getI_w gx24
      obtain ⟨x26, gx26, ho⟩ := bS ho
      obtain ⟨w27a, w27b⟩ := getI_w gx26
      obtain ⟨x28, gx28, ho⟩ := bS ho
      obtain ⟨w29a, w29b⟩ := getI_w gx28
      obtain ⟨x30, gx30, ho⟩ := bS ho
      have wx30 := chk_w gx30
      obtain ⟨x31, gx31, ho⟩ := bS ho
      have w32 : ans A 298 [V.agg [V.int .i64 a0.Prime, V.isl (a0.Dims.map Enc.enc), V.isl (a0.Across.map Enc.enc), V.isl (a0.Down.map Enc.enc)], V.int .i64 x30, V.int .i64 v5_2, V.isl (x22.map Enc.enc), V.bool true] = some (V.isl (x31.map Enc.enc)) := s298 a0 x30 v5_2 x22 true  gx31
      obtain ⟨x33, gx33, ho⟩ := bS ho
      have w34 : ans A 81 [V.isl (x31.map Enc.enc)] = some (V.int .i64 x33) := s81 x31  gx33
      by_cases c35 : 0 ≤ x33
      · rw [if_pos c35] at ho
        cases ho
        simp only [simprocAttr, R0, opEv, fillV, mapO, mapS, b262_3, h_10, w14a, w14b, w16a, w16b, eq_true c17, w19a, w19b, w21a, w21b, w23a, w23b, w25a, w25b, w27a, w27b, w29a, w29b, wx30, w32, w34, eq_true c35]
        intro ht; subst ht
        simp only [simprocAttr, RR, RB]
        exact And.intro rfl (fin_ret (by simp only [simprocAttr, R0, fn_out, p262, Rs.ev, mapO, mapS, take_len_self, h_10, w14a, w14b, w16a, w16b, eq_true c17, w19a, w19b, w21a, w21b, w23a, w23b, w25a, w25b, w27a, w27b, w29a, w29b, wx30, w32, w34, eq_true c35]))
      · rw [if_neg c35] at ho
        obtain ⟨x36, gx36, ho⟩ := bS ho
        have wx36 := chk_w gx36
        obtain ⟨x37, gx37, ho⟩ := bS ho
        have w38 : ans A 298 [V.agg [V.int .i64 a0.Prime, V.isl (a0.Dims.map Enc.enc), V.isl (a0.Across.map Enc.enc), V.isl (a0.Down.map Enc.enc)], V.int .i64 v4_1, V.int .i64 x36, V.isl (x28.map Enc.enc), V.bool false] = some (V.isl (x37.map Enc.enc)) := s298 a0 v4_1 x36 x28 false  gx37
        obtain ⟨x39, gx39, ho⟩ := bS ho
        have w40 : ans A 81 [V.isl (x37.map Enc.enc)] = some (V.int .i64 x39) := s81 x37  gx39
        by_cases c41 : 0 ≤ x39
        · rw [if_pos c41] at ho
          cases ho
          simp only [simprocAttr, R0, opEv, fillV, mapO, mapS, b262_3, h_10, w14a, w14b, w16a, w16b, eq_true c17, w19a, w19b, w21a, w21b, w23a, w23b, w25a, w25b, w27a, w27b, w29a, w29b, wx30, w32, w34, eq_false c35, wx36, w38, w40, eq_true c41]
          intro ht; subst ht
          simp only [simprocAttr, RR, RB]
          exact And.intro rfl (fin_ret (by simp only [simprocAttr, R0, fn_out, p262, Rs.ev, mapO, mapS, take_len_self, h_10, w14a, w14b, w16a, w16b, eq_true c17, w19a, w19b, w21a, w21b, w23a, w23b, w25a, w25b, w27a, w27b, w29a, w29b, wx30, w32, w34, eq_false c35, wx36, w38, w40, eq_true c41]))
        · rw [if_neg c41] at ho
          obtain ⟨x42, gx42, ho⟩ := bS ho
          have w43 : ans A 298 [V.agg [V.int .i64 a0.Prime, V.isl (a0.Dims.map Enc.enc), V.isl (a0.Across.map Enc.enc), V.isl (a0.Down.map Enc.enc)], V.int .i64 x30, V.int .i64 v5_2, V.isl (x22.map Enc.enc), V.bool false] = some (V.isl (x42.map Enc.enc)) := s298 a0 x30 v5_2 x22 false  gx42
          obtain ⟨x44, gx44, ho⟩ := bS ho
          have w45 : ans A 298 [V.agg [V.int .i64 a0.Prime, V.isl (a0.Dims.map Enc.enc), V.isl (a0.Across.map Enc.enc), V.isl (a0.Down.map Enc.enc)], V.int .i64 v4_1, V.int .i64 x36, V.isl (x28.map Enc.enc), V.bool true] = some (V.isl (x44.map Enc.enc)) := s298 a0 v4_1 x36 x28 true  gx44
          obtain ⟨x46, gx46, ho⟩ := bS ho
          have w47 : ans A 136 [V.int .i64 a0.Prime, V.isl (x42.map Enc.enc), V.isl (x44.map Enc.enc), V.int .i64 (-1)] = some (V.isl (x46.map Enc.enc)) := s136 a0.Prime x42 x44 (-1)  gx46
          obtain ⟨x48, gx48, ho⟩ := bS ho
          have w49 : ans A 81 [V.isl (x46.map Enc.enc)] = some (V.int .i64 x48) := s81 x46  gx48
          by_cases c50 : 0 ≤ x48
          · rw [if_pos c50] at ho
            cases ho
            simp only [simprocAttr, R0, opEv, fillV, mapO, mapS, b262_3, h_10, w14a, w14b, w16a, w16b, eq_true c17, w19a, w19b, w21a, w21b, w23a, w23b, w25a, w25b, w27a, w27b, w29a, w29b, wx30, w32, w34, eq_false c35, wx36, w38, w40, eq_false c41, w43, w45, w47, w49, eq_true c50]
            intro ht; subst ht
            simp only [simprocAttr, RR, RB]
            exact And.intro rfl (fin_ret (by simp only [simprocAttr, R0, fn_out, p262, Rs.ev, mapO, mapS, take_len_self, h_10, w14a, w14b, w16a, w16b, eq_true c17, w19a, w19b, w21a, w21b, w23a, w23b, w25a, w25b, w27a, w27b, w29a, w29b, wx30, w32, w34, eq_false c35, wx36, w38, w40, eq_false c41, w43, w45, w47, w49, eq_true c50]))
          · rw [if_neg c50] at ho
            obtain ⟨x51, gx51, ho⟩ := bS ho
            have wx51 := chk_w gx51
            cases ho
            simp only [simprocAttr, R0, opEv, fillV, mapO, mapS, b262_3, h_10, w14a, w14b, w16a, w16b, eq_true c17, w19a, w19b, w21a, w21b, w23a, w23b, w25a, w25b, w27a, w27b, w29a, w29b, wx30, w32, w34, eq_false c35, wx36, w38, w40, eq_false c41, w43, w45, w47, w49, eq_false c50, wx51]
            refine And.intro rfl (Exists.intro _ ( And.intro rfl ?_))
            simp only [simprocAttr, R0, h_10, w14a, w14b, w16a, w16b, eq_true c17, w19a, w19b, w21a, w21b, w23a, w23b, w25a, w25b, w27a, w27b, w29a, w29b, wx30, w32, w34, eq_false c35, wx36, w38, w40, eq_false c41, w43, w45, w47, w49, eq_false c50, wx51]
    · rw [if_neg c17] at ho
      cases ho
      simp only [simprocAttr, R0, opEv, fillV, mapO, mapS, b262_3, h_10, w14a, w14b, w16a, w16b, eq_false c17]
      intro ht; subst ht
      simp only [simprocAttr, RR, RB]
      refine And.intro rfl (Exists.intro _ ( And.intro rfl ?_))
      simp only [simprocAttr, R0, h_10, w14a, w14b, w16a, w16b, eq_false c17]
def I262_2 (a0 : GDouble) (v4_1 : Int)  (v5_2 : Int) (e : Env) (h : Heap) : Prop :=
  ∃ k5 : Nat, h = ⟨[(0, none)], k5⟩ ∧ e.length = 99 ∧ e.at 1 = V.iptr [V.int .i64 a0.Prime, V.isl (a0.Dims.map Enc.enc), V.isl (a0.Across.map Enc.enc), V.isl (a0.Down.map Enc.enc)] ∧ e.at 3 = V.int .i64 a0.Prime ∧ e.at 4 = V.int .i64 v4_1 ∧ e.at 5 = V.int .i64 v5_2
def P262_2 (a0 : GDouble) (v4_1 : Int)  (t : (Unit) ⊕ Bool) (x : Ex) (e : Env) (h : Heap) : Prop :=
  match t with
  | .inl _ => x = .normal ∧ ∃ k5 : Nat, h = ⟨[(0, none)], k5⟩ ∧ e.length = 99 ∧ e.at 1 = V.iptr [V.int .i64 a0.Prime, V.isl (a0.Dims.map Enc.enc), V.isl (a0.Across.map Enc.enc), V.isl (a0.Down.map Enc.enc)] ∧ e.at 3 = V.int .i64 a0.Prime ∧ e.at 4 = V.int .i64 v4_1
  | .inr r => x = .ret ∧ Fin p262 (Enc.enc r) .ret e h
theorem l262_2 (a0 : GDouble) (v4_1 : Int)   {s : Int} {t : (Unit) ⊕ Bool} (hF : loopW (F262_2_S a0 v4_1) s = some t) {e : Env} {h : Heap} (hI : I262_2 a0 v4_1  s e h) : W A c262_2 e h (P262_2 a0 v4_1  t) := by
  show W A (.block 2 (.loop false b262_2)) e h _
  rw [W_block]
  refine W_loop hF 1 (by obtain ⟨_, rfl, _⟩ := hI; rfl) (I262_2 a0 v4_1 ) hI ?_
  · rintro v5_2 e h ⟨k5, rfl, h_4⟩ o ho
    unfold F262_2_S at ho
    obtain ⟨x7, gx7, ho⟩ := bS ho
    obtain ⟨w8a, w8b⟩ := getI_w gx7
    replace w8b : a0.Dims[0]? = some x7 := w8b
    by_cases c9 : v5_2 < (x7.length : Int)
    · rw [if_pos c9] at ho
      obtain ⟨t52, gt52, ho⟩ := bS ho
      rcases t52 with _ | r54
      · dsimp only at ho
        simp only [simprocAttr, R0, opEv, fillV, mapO, mapS, b262_2, h_4, w8a, w8b, eq_true c9]
        refine W.mono (l262_3 a0 v4_1 v5_2   gt52 (Exists.intro _ ( And.intro rfl ?_))) ?_
        · simp only [simprocAttr, R0, h_4, w8a, w8b, eq_true c9]
        rintro _ e _ ⟨rfl, k11, rfl, h_12⟩
        obtain ⟨x53, gx53, ho⟩ := bS ho
        have wx53 := chk_w gx53
        cases ho
        simp only [simprocAttr, R0, opEv, fillV, mapO, mapS, h_12, eq_true c9, wx53]
        refine And.intro rfl (Exists.intro _ ( And.intro rfl ?_))
        simp only [simprocAttr, R0, h_12, eq_true c9, wx53]
      · dsimp only at ho
        cases ho
        simp only [simprocAttr, R0, opEv, fillV, mapO, mapS, b262_2, h_4, w8a, w8b, eq_true c9]
        refine W.mono (l262_3 a0 v4_1 v5_2   gt52 (Exists.intro _ ( And.intro rfl ?_))) ?_
        · simp only [simprocAttr, R0, h_4, w8a, w8b, eq_true c9]
        rintro _ e h ⟨rfl, hq⟩
        simp only [simprocAttr, RR, RB]
        intro ht; subst ht
        simp only [simprocAttr, RR, RB]
        exact And.intro rfl hq
    · rw [if_neg c9] at ho
      cases ho
      simp only [simprocAttr, R0, opEv, fillV, mapO, mapS, b262_2, h_4, w8a, w8b, eq_false c9]
      intro ht; subst ht
      simp only [simprocAttr, RR, RB]
      refine And.intro rfl (Exists.intro _ ( And.intro rfl ?_))
      simp only [simprocAttr, R0, h_4, w8a, w8b, eq_false c9]
def I262_1 (a0 : GDouble)  (v4_1 : Int) (s : Unit) (e : Env) (h : Heap) : Prop :=
  ∃ k2 : Nat, h = ⟨[(0, none)], k2⟩ ∧ e.length = 99 ∧ e.at 1 = V.iptr [V.int .i64 a0.Prime, V.isl (a0.Dims.map Enc.enc), V.isl (a0.Across.map Enc.enc), V.isl (a0.Down.map Enc.enc)] ∧ e.at 3 = V.int .i64 a0.Prime ∧ e.at 4 = V.int .i64 v4_1
def P262_1 (a0 : GDouble)  (t : (Unit) ⊕ Bool) (x : Ex) (e : Env) (h : Heap) : Prop :=
  match t with
  | .inl _ => x = .normal ∧ ∃ k2 : Nat, h = ⟨[(0, none)], k2⟩ ∧ e.length = 99
  | .inr r => x = .ret ∧ Fin p262 (Enc.enc r) .ret e h
theorem l262_1 (a0 : GDouble)   {lo : Int} {s : Unit} {t : (Unit) ⊕ Bool} (hF : forR lo (a0.Dims.length : Int) (F262_1_B a0) (F262_1_D a0) s = some t) {e : Env} {h : Heap} (hI : I262_1 a0  lo s e h) : W A c262_1 e h (P262_1 a0  t) := by
  show W A (.block 0 (.loop false b262_1)) e h _
  rw [W_block]
  refine W_forR hF 1 (by obtain ⟨_, rfl, _⟩ := hI; rfl) (I262_1 a0 ) hI ?_ ?_
  · rintro v4_1 _ e h ⟨k2, rfl, h_1⟩ hlt hw o ho
    unfold F262_1_B at ho
    obtain ⟨t55, gt55, ho⟩ := bS ho
    rcases t55 with _ | r56
    · dsimp only at ho
      simp only [simprocAttr, R0, opEv, fillV, mapO, mapS, b262_1, h_1, eq_true hlt, hw]
      refine W.mono (l262_2 a0 v4_1   gt55 (Exists.intro _ ( And.intro rfl ?_))) ?_
      · simp only [simprocAttr, R0, h_1, eq_true hlt, hw]
      rintro _ e _ ⟨rfl, k5, rfl, h_6⟩
      cases ho
      simp only [simprocAttr, R0, opEv, fillV, mapO, mapS, h_6, eq_true hlt, hw]
      refine And.intro rfl (Exists.intro _ ( And.intro rfl ?_))
      simp only [simprocAttr, R0, h_6, eq_true hlt, hw]
    · dsimp only at ho
      cases ho
      simp only [simprocAttr, R0, opEv, fillV, mapO, mapS, b262_1, h_1, eq_true hlt, hw]
      refine W.mono (l262_2 a0 v4_1   gt55 (Exists.intro _ ( And.intro rfl ?_))) ?_
      · simp only [simprocAttr, R0, h_1, eq_true hlt, hw]
      rintro _ e h ⟨rfl, hq⟩
      simp only [simprocAttr, RR, RB]
      intro ht; subst ht
      simp only [simprocAttr, RR, RB]
      exact And.intro rfl hq
  · rintro v4_1 _ e h ⟨k2, rfl, h_1⟩ hge t1 ho
    unfold F262_1_D at ho
    cases ho
    simp only [simprocAttr, R0, opEv, fillV, mapO, mapS, b262_1, h_1, eq_false hge]
    intro ht; subst ht
    refine And.intro rfl (Exists.intro _ ( And.intro rfl ?_))
    simp only [simprocAttr, R0, h_1, eq_false hge]
theorem s262 (a0 : GDouble)   {r : Bool} (hF : F262 a0 = some r) : ans A 262 [V.agg [V.int .i64 a0.Prime, V.isl (a0.Dims.map Enc.enc), V.isl (a0.Across.map Enc.enc), V.isl (a0.Down.map Enc.enc)]] = some (Enc.enc r) := by
  refine ans_of (f := p262) rfl rfl rfl fun e hl he => ?_
  have h0_0 : e.at 0 = V.agg [V.int .i64 a0.Prime, V.isl (a0.Dims.map Enc.enc), V.isl (a0.Across.map Enc.enc), V.isl (a0.Down.map Enc.enc)] := he 0 _ rfl
  have hl_0 : e.length = 99 := hl
  clear he hl
  have h_0 := And.intro hl_0 h0_0
  show W A b262 e ⟨[], 0⟩ _
  unfold F262 at hF
  obtain ⟨t57, gt57, hF⟩ := bS hF
  rcases t57 with _ | r58
  · dsimp only at hF
    simp only [simprocAttr, R0, opEv, fillV, mapO, mapS, b262, h_0]
    refine W.mono (l262_1 a0   gt57 (Exists.intro _ ( And.intro rfl ?_))) ?_
    · simp only [simprocAttr, R0, h_0]
    rintro _ e _ ⟨rfl, k2, rfl, hl_3⟩
    cases hF
    simp only [simprocAttr, R0, opEv, fillV, mapO, mapS, hl_3]
    exact fin_ret (by simp only [simprocAttr, R0, fn_out, p262, Rs.ev, mapO, mapS, take_len_self, hl_3])
  · dsimp only at hF
    cases hF
    simp only [simprocAttr, R0, opEv, fillV, mapO, mapS, b262, h_0]
    refine W.mono (l262_1 a0   gt57 (Exists.intro _ ( And.intro rfl ?_))) ?_
    · simp only [simprocAttr, R0, h_0]
    rintro _ e h ⟨rfl, hq⟩
    simp only [simprocAttr, RR, RB]
    exact hq
def F236_2_B (a0 : GDouble) (x7 : List Int) (v5_1 : Int) (v6_2 : Int) (s : Unit) : Option ((Unit) ⊕ ((Unit) ⊕ Bool)) :=
  (getI a0.Dims v5_1).bind fun x26 =>
(getI x26 v6_2).bind fun x28 =>
(F54 x28 0 4).bind fun x30 =>
if x30 = true then
  some (.inl ())
else
  some (.inr (.inr false))
def F236_2_D (a0 : GDouble) (x7 : List Int) (v5_1 : Int) (v6_2 : Int) (s : Unit) : Option ((Unit) ⊕ Bool) :=
  some (.inl ())
def F236_1_B (a0 : GDouble) (x7 : List Int) (v5_1 : Int) (s : Unit) : Option ((Unit) ⊕ ((Unit) ⊕ Bool)) :=
  (getI a0.Dims v5_1).bind fun x14 =>
if (x14.length : Int) = (x7.length : Int) then
  (getI a0.Across v5_1).bind fun x17 =>
  if (x17.length : Int) = (x7.length : Int) then
    (getI a0.Down v5_1).bind fun x20 =>
    if (x20.length : Int) = (x7.length : Int) then
      (forR 0 (x7.length : Int) (F236_2_B a0 x7 v5_1) (F236_2_D a0 x7 v5_1) ()).bind fun t32 => match t32 with
        | .inl _ =>
          some (.inl ())
        | .inr r33 => some (.inr (.inr r33))
    else
      some (.inr (.inr false))
  else
    some (.inr (.inr false))
else
  some (.inr (.inr false))
def F236_1_D (a0 : GDouble) (x7 : List Int) (v5_1 : Int) (s : Unit) : Option ((Unit) ⊕ Bool) :=
  some (.inl ())
def F236_4_B (a0 : GDouble) (x7 : List Int) (v7_3 : Int) (v8_4 : Int) (s : Unit) : Option ((Unit) ⊕ ((Unit) ⊕ Bool)) :=
  (getI a0.Across v7_3).bind fun x41 =>
(getI x41 v8_4).bind fun x43 =>
(getI a0.Dims v7_3).bind fun x45 =>
(getI x45 v8_4).bind fun x47 =>
(chk (v7_3 - 1)).bind fun x49 =>
(F261 a0 x49 v8_4).bind fun x50 =>
(F79 a0.Prime x43 x47 x50).bind fun x52 =>
if x52 = true then
  (getI a0.Down v7_3).bind fun x54 =>
  (getI x54 v8_4).bind fun x56 =>
  (chk (v8_4 - 1)).bind fun x58 =>
  (F261 a0 v7_3 x58).bind fun x59 =>
  (F79 a0.Prime x56 x47 x59).bind fun x61 =>
  if x61 = true then
    some (.inl ())
  else
    some (.inr (.inr false))
else
  some (.inr (.inr false))
def F236_4_D (a0 : GDouble) (x7 : List Int) (v7_3 : Int) (v8_4 : Int) (s : Unit) : Option ((Unit) ⊕ Bool) :=
  some (.inl ())
def F236_3_B (a0 : GDouble) (x7 : List Int) (v7_3 : Int) (s : Unit) : Option ((Unit) ⊕ ((Unit) ⊕ Bool)) :=
  (forR 0 (x7.length : Int) (F236_4_B a0 x7 v7_3) (F236_4_D a0 x7 v7_3) ()).bind fun t63 => match t63 with
  | .inl _ =>
    some (.inl ())
  | .inr r64 => some (.inr (.inr r64))
def F236_3_D (a0 : GDouble) (x7 : List Int) (v7_3 : Int) (s : Unit) : Option ((Unit) ⊕ Bool) :=
  some (.inl ())
def F236 (a0 : GDouble) : Option Bool :=
  (F78 a0.Prime).bind fun x1 =>
  if x1 = true then
    if (a0.Dims.length : Int) < 1 then
      some false
    else
      if 4 < (a0.Dims.length : Int) then
        some false
      else
        if (a0.Across.length : Int) = (a0.Dims.length : Int) then
          if (a0.Down.length : Int) = (a0.Dims.length : Int) then
            (getI a0.Dims 0).bind fun x7 =>
            if (x7.length : Int) < 1 then
              some false
            else
              if 4 < (x7.length : Int) then
                some false
              else
                (forR 0 (a0.Dims.length : Int) (F236_1_B a0 x7) (F236_1_D a0 x7) ()).bind fun t34 => match t34 with
                  | .inl _ =>
                    (forR 0 (a0.Dims.length : Int) (F236_3_B a0 x7) (F236_3_D a0 x7) ()).bind fun t65 => match t65 with
                      | .inl _ =>
                        (F262 a0).bind fun x66 =>
                        some x66
                      | .inr r68 => some r68
                  | .inr r69 => some r69
          else
            some false
        else
          some false
  else
    some false
def I236_2 (a0 : GDouble) (x7 : List Int) (v5_1 : Int)  (v6_2 : Int) (s : Unit) (e : Env) (h : Heap) : Prop :=
  ∃ k24 : Nat, h = ⟨[(0, none)], k24⟩ ∧ e.length = 161 ∧ e.at 1 = V.iptr [V.int .i64 a0.Prime, V.isl (a0.Dims.map Enc.enc), V.isl (a0.Across.map Enc.enc), V.isl (a0.Down.map Enc.enc)] ∧ e.at 3 = V.int .i64 (a0.Dims.length : Int) ∧ e.at 4 = V.int .i64 (x7.length : Int) ∧ e.at 5 = V.int .i64 v5_1 ∧ e.at 6 = V.int .i64 v6_2
def P236_2 (a0 : GDouble) (x7 : List Int) (v5_1 : Int)  (t : (Unit) ⊕ Bool) (x : Ex) (e : Env) (h : Heap) : Prop :=
  match t with
  | .inl _ => x = .normal ∧ ∃ k24 : Nat, h = ⟨[(0, none)], k24⟩ ∧ e.length = 161 ∧ e.at 1 = V.iptr [V.int .i64 a0.Prime, V.isl (a0.Dims.map Enc.enc), V.isl (a0.Across.map Enc.enc), V.isl (a0.Down.map Enc.enc)] ∧ e.at 3 = V.int .i64 (a0.Dims.length : Int) ∧ e.at 4 = V.int .i64 (x7.length : Int) ∧ e.at 5 = V.int .i64 v5_1
  | .inr r => x = .ret ∧ Fin p236 (Enc.enc r) .ret e h
theorem l236_2 (a0 : GDouble) (x7 : List Int) (v5_1 : Int)   {lo : Int} {s : Unit} {t : (Unit) ⊕ Bool} (hF : forR lo (x7.length : Int) (F236_2_B a0 x7 v5_1) (F236_2_D a0 x7 v5_1) s = some t) {e : Env} {h : Heap} (hI : I236_2 a0 x7 v5_1  lo s e h) : W A c236_2 e h (P236_2 a0 x7 v5_1  t) := by
  show W A (.block 2 (.loop false b236_2)) e h _
  rw [W_block]
  refine W_forR hF 1 (by obtain ⟨_, rfl, _⟩ := hI; rfl) (I236_2 a0 x7 v5_1 ) hI ?_ ?_
  · rintro v6_2 _ e h ⟨k24, rfl, h_23⟩ hlt hw o ho
    unfold F236_2_B at ho
    obtain ⟨x26, gx26, ho⟩ := bS ho
    obtain ⟨w27a, w27b⟩ := getI_w gx26
    obtain ⟨x28, gx28, ho⟩ := bS ho
    obtain ⟨w29a, w29b⟩ := getI_w gx28
    obtain ⟨x30, gx30, ho⟩ := bS ho
    have w31 : ans A 54 [V.int .i64 x28, V.int .i64 0, V.int .i64 4] = some (V.bool x30) := s54 x28 0 4  gx30
    cases x30 with
    | true =>
      rw [if_pos rfl] at ho
      cases ho
      simp only [simprocAttr, R0, opEv, fillV, mapO, mapS, b236_2, h_23, eq_true hlt, hw, w27a, w27b, w29a, w29b, w31]
      refine And.intro rfl (Exists.intro _ ( And.intro rfl ?_))
      simp only [simprocAttr, R0, h_23, eq_true hlt, hw, w27a, w27b, w29a, w29b, w31]
    | false =>
      rw [if_neg Bool.false_ne_true] at ho
      cases ho
      simp only [simprocAttr, R0, opEv, fillV, mapO, mapS, b236_2, h_23, eq_true hlt, hw, w27a, w27b, w29a, w29b, w31]
      intro ht; subst ht
      simp only [simprocAttr, RR, RB]
      exact And.intro rfl (fin_ret (by simp only [simprocAttr, R0, fn_out, p236, Rs.ev, mapO, mapS, take_len_self, h_23, eq_true hlt, hw, w27a, w27b, w29a, w29b, w31]))
  · rintro v6_2 _ e h ⟨k24, rfl, h_23⟩ hge t1 ho
    unfold F236_2_D at ho
    cases ho
    simp only [simprocAttr, R0, opEv, fillV, mapO, mapS, b236_2, h_23, eq_false hge]
    intro ht; subst ht
    refine And.intro rfl (Exists.intro _ ( And.intro rfl ?_))
    simp only [simprocAttr, R0, h_23, eq_false hge]
def I236_1 (a0 : GDouble) (x7 : List Int)  (v5_1 : Int) (s : Unit) (e : Env) (h : Heap) : Prop :=
  ∃ k12 : Nat, h = ⟨[(0, none)], k12⟩ ∧ e.length = 161 ∧ e.at 1 = V.iptr [V.int .i64 a0.Prime, V.isl (a0.Dims.map Enc.enc), V.isl (a0.Across.map Enc.enc), V.isl (a0.Down.map Enc.enc)] ∧ e.at 3 = V.int .i64 (a0.Dims.length : Int) ∧ e.at 4 = V.int .i64 (x7.length : Int) ∧ e.at 5 = V.int .i64 v5_1
def P236_1 (a0 : GDouble) (x7 : List Int)  (t : (Unit) ⊕ Bool) (x : Ex) (e : Env) (h : Heap) : Prop :=
  match t with
  | .inl _ => x = .normal ∧ ∃ k12 : Nat, h = ⟨[(0, none)], k12⟩ ∧ e.length = 161 ∧ e.at 1 = V.iptr [V.int .i64 a0.Prime, V.isl (a0.Dims.map Enc.enc), V.isl (a0.Across.map Enc.enc), V.isl (a0.Down.map Enc.enc)] ∧ e.at 3 = V.int .i64 (a0.Dims.length : Int) ∧ e.at 4 = V.int .i64 (x7.length : Int)
  | .inr r => x = .ret ∧ Fin p236 (Enc.enc r) .ret e h
theorem l236_1 (a0 : GDouble) (x7 : List Int)   {lo : Int} {s : Unit} {t : (Unit) ⊕ Bool} (hF : forR lo (a0.Dims.length : Int) (F236_1_B a0 x7) (F236_1_D a0 x7) s = some t) {e : Env} {h : Heap} (hI : I236_1 a0 x7  lo s e h) : W A c236_1 e h (P236_1 a0 x7  t) := by
  show W A (.block 0 (.loop false b236_1)) e h _
  rw [W_block]
  refine W_forR hF 1 (by obtain ⟨_, rfl, _⟩ := hI; rfl) (I236_1 a0 x7 ) hI ?_ ?_
  · rintro v5_1 _ e h ⟨k12, rfl, h_11⟩ hlt hw o ho
    unfold F236_1_B at ho
    obtain ⟨x14, gx14, ho⟩ := bS ho
    obtain ⟨w15a, w15b⟩ := getI_w gx14
    by_cases c16 : (x14.length : Int) = (x7.length : Int)
    · rw [if_pos c16] at ho
      obtain ⟨x17, gx17, ho⟩ := bS ho
      obtain ⟨w18a, w18b⟩ := getI_w gx17
      by_cases c19 : (x17.length : Int) = (x7.length : Int)
      · rw [if_pos c19] at ho
        obtain ⟨x20, gx20, ho⟩ := bS ho
        obtain ⟨w21a, w21b⟩ := getI_w gx20
        by_cases c22 : (x20.length : Int) = (x7.length : Int)
        · rw [if_pos c22] at ho
          obtain ⟨t32, gt32, ho⟩ := bS ho
          rcases t32 with _ | r33
          · dsimp only at ho
            simp only [simprocAttr, R0, opEv, fillV, mapO, mapS, b236_1, h_11, eq_true hlt, hw, w15a, w15b, eq_true c16, w18a, w18b, eq_true c19, w21a, w21b, eq_true c22]
            refine W.mono (l236_2 a0 x7 v5_1   gt32 (Exists.intro _ ( And.intro rfl ?_))) ?_
            · simp only [simprocAttr, R0, h_11, eq_true hlt, hw, w15a, w15b, eq_true c16, w18a, w18b, eq_true c19, w21a, w21b, eq_true c22]
            rintro _ e _ ⟨rfl, k24, rfl, h_25⟩
            cases ho
            simp only [simprocAttr, R0, opEv, fillV, mapO, mapS, h_25, eq_true hlt, hw, eq_true c16, eq_true c19, eq_true c22]
            refine And.intro rfl (Exists.intro _ ( And.intro rfl ?_))
            simp only [simprocAttr, R0, h_25, eq_true hlt, hw, eq_true c16, eq_true c19, eq_true c22]
          · dsimp only at ho
            cases ho
            simp only [simprocAttr, R0, opEv, fillV, mapO, mapS, b236_1, h_11, eq_true hlt, hw, w15a, w15b, eq_true c16, w18a, w18b, eq_true c19, w21a, w21b, eq_true c22]
            refine W.mono (l236_2 a0 x7 v5_1   gt32 (Exists.intro _ ( And.intro rfl ?_))) ?_
            · simp only [simprocAttr, R0, h_11, eq_true hlt, hw, w15a, w15b, eq_true c16, w18a, w18b, eq_true c19, w21a, w21b, eq_true c22]
            rintro _ e h ⟨rfl, hq⟩
            simp only [simprocAttr, RR, RB]
            intro ht; subst ht
            simp only [simprocAttr, RR, RB]
            exact And.intro rfl hq
        · rw [if_neg c22] at ho
          cases ho
          simp only [simprocAttr, R0, opEv, fillV, mapO, mapS, b236_1, h_11, eq_true hlt, hw, w15a, w15b, eq_true c16, w18a, w18b, eq_true c19, w21a, w21b, eq_false c22]
          intro ht; subst ht
          simp only [simprocAttr, RR, RB]
          exact And.intro rfl (fin_ret (by simp only [simprocAttr, R0, fn_out, p236, Rs.ev, mapO, mapS, take_len_self, h_11, eq_true hlt, hw, w15a, w15b, eq_true c16, w18a, w18b, eq_true c19, w21a, w21b, eq_false c22]))
      · rw [if_neg c19] at ho
        cases ho
        simp only [simprocAttr, R0, opEv, fillV, mapO, mapS, b236_1, h_11, eq_true hlt, hw, w15a, w15b, eq_true c16, w18a, w18b, eq_false c19]
        intro ht; subst ht
        simp only [simprocAttr, RR, RB]
        exact And.intro rfl (fin_ret (by simp only [simprocAttr, R0, fn_out, p236, Rs.ev, mapO, mapS, take_len_self, h_11, eq_true hlt, hw, w15a, w15b, eq_true c16, w18a, w18b, eq_false c19]))
    · rw [if_neg c16] at ho
      cases ho
      simp only [simprocAttr, R0, opEv, fillV, mapO, mapS, b236_1, h_11, eq_true hlt, hw, w15a, w15b, eq_false c16]
      intro ht; subst ht
      simp only [simprocAttr, RR, RB]
      exact And.intro rfl (fin_ret (by simp only [simprocAttr, R0, fn_out, p236, Rs.ev, mapO, mapS, take_len_self, h_11, eq_true hlt, hw, w15a, w15b, eq_false c16]))
  · rintro v5_1 _ e h ⟨k12, rfl, h_11⟩ hge t1 ho
    unfold F236_1_D at ho
    cases ho
    simp only [simprocAttr, R0, opEv, fillV, mapO, mapS, b236_1, h_11, eq_false hge]
    intro ht; subst ht
    refine And.intro rfl (Exists.intro _ ( And.intro rfl ?_))
    simp only [simprocAttr, R0, h_11, eq_false hge]
def I236_4 (a0 : GDouble) (x7 : List Int) (v7_3 : Int)  (v8_4 : Int) (s : Unit) (e : Env) (h : Heap) : Prop :=
  ∃ k39 : Nat, h = ⟨[(0, none)], k39⟩ ∧ e.length = 161 ∧ e.at 1 = V.iptr [V.int .i64 a0.Prime, V.isl (a0.Dims.map Enc.enc), V.isl (a0.Across.map Enc.enc), V.isl (a0.Down.map Enc.enc)] ∧ e.at 3 = V.int .i64 (a0.Dims.length : Int) ∧ e.at 4 = V.int .i64 (x7.length : Int) ∧ e.at 7 = V.int .i64 v7_3 ∧ e.at 8 = V.int .i64 v8_4
def P236_4 (a0 : GDouble) (x7 : List Int) (v7_3 : Int)  (t : (Unit) ⊕ Bool) (x : Ex) (e : Env) (h : Heap) : Prop :=
  match t with
  | .inl _ => x = .normal ∧ ∃ k39 : Nat, h = ⟨[(0, none)], k39⟩ ∧ e.length = 161 ∧ e.at 1 = V.iptr [V.int .i64 a0.Prime, V.isl (a0.Dims.map Enc.enc), V.isl (a0.Across.map Enc.enc), V.isl (a0.Down.map Enc.enc)] ∧ e.at 3 = V.int .i64 (a0.Dims.length : Int) ∧ e.at 4 = V.int .i64 (x7.length : Int) ∧ e.at 7 = V.int .i64 v7_3
  | .inr r => x = .ret ∧ Fin p236 (Enc.enc r) .ret e h
theorem l236_4 (a0 : GDouble) (x7 : List Int) (v7_3 : Int)   {lo : Int} {s : Unit} {t : (Unit) ⊕ Bool} (hF : forR lo (x7.length : Int) (F236_4_B a0 x7 v7_3) (F236_4_D a0 x7 v7_3) s = some t) {e : Env} {h : Heap} (hI : I236_4 a0 x7 v7_3  lo s e h) : W A c236_4 e h (P236_4 a0 x7 v7_3  t) := by
  show W A (.block 6 (.loop false b236_4)) e h _
  rw [W_block]
  refine W_forR hF 1 (by obtain ⟨_, rfl, _⟩ := hI; rfl) (I236_4 a0 x7 v7_3 ) hI ?_ ?_
  · rintro v8_4 _ e h ⟨k39, rfl, h_38⟩ hlt hw o ho
    unfold F236_4_B at ho
    obtain ⟨x41, gx41, ho⟩ := bS ho
    obtain ⟨w42a, w42b⟩ := getI_w gx41
    obtain ⟨x43, gx43, ho⟩ := bS ho
    obtain ⟨w44a, w44b⟩ := getI_w gx43
    obtain ⟨x45, gx45, ho⟩ := bS ho
    obtain ⟨w46a, w46b⟩ := getI_w gx45
    obtain ⟨x47, gx47, ho⟩ := bS ho
    obtain ⟨w48a, w48b⟩ := getI_w gx47
    obtain ⟨x49, gx49, ho⟩ := bS ho
    have wx49 := chk_w gx49
    obtain ⟨x50, gx50, ho⟩ := bS ho
    have w51 : ans A 261 [V.agg [V.int .i64 a0.Prime, V.isl (a0.Dims.map Enc.enc), V.isl (a0.Across.map Enc.enc), V.isl (a0.Down.map Enc.enc)], V.int .i64 x49, V.int .i64 v8_4] = some (V.int .i64 x50) := s261 a0 x49 v8_4  gx50
    obtain ⟨x52, gx52, ho⟩ := bS ho
    have w53 : ans A 79 [V.int .i64 a0.Prime, V.isl (x43.map Enc.enc), V.int .i64 x47, V.int .i64 x50] = some (V.bool x52) := s79 a0.Prime x43 x47 x50  gx52
    cases x52 with
    | true =>
      rw [if_pos rfl] at ho
      obtain ⟨x54, gx54, ho⟩ := bS ho
      obtain ⟨w55a, w55b⟩ := getI_w gx54
      obtain ⟨x56, gx56, ho⟩ := bS ho
      obtain ⟨w57a, w57b⟩ := getI_w gx56
      obtain ⟨x58, gx58, ho⟩ := bS ho
      have wx58 := chk_w gx58
      obtain ⟨x59, gx59, ho⟩ := bS ho
      have w60 : ans A 261 [V.agg [V.int .i64 a0.Prime, V.isl (a0.Dims.map Enc.enc), V.isl (a0.Across.map Enc.enc), V.isl (a0.Down.map Enc.enc)], V.int .i64 v7_3, V.int .i64 x58] = some (V.int .i64 x59) := s261 a0 v7_3 x58  gx59
      obtain ⟨x61, gx61, ho⟩ := bS ho
      have w62 : ans A 79 [V.int .i64 a0.Prime, V.isl (x56.map Enc.enc), V.int .i64 x47, V.int .i64 x59] = some (V.bool x61) := s79 a0.Prime x56 x47 x59  gx61
      cases x61 with
      | true =>
        rw [if_pos rfl] at ho
        cases ho
        simp only [simprocAttr, R0, opEv, fillV, mapO, mapS, b236_4, h_38, eq_true hlt, hw, w42a, w42b, w44a, w44b, w46a, w46b, w48a, w48b, wx49, w51, w53, w55a, w55b, w57a, w57b, wx58, w60, w62]
        refine And.intro rfl (Exists.intro _ ( And.intro rfl ?_))
        simp only [simprocAttr, R0, h_38, eq_true hlt, hw, w42a, w42b, w44a, w44b, w46a, w46b, w48a, w48b, wx49, w51, w53, w55a, w55b, w57a, w57b, wx58, w60, w62]
      | false =>
        rw [if_neg Bool.false_ne_true] at ho
        cases ho
        simp only [simprocAttr, R0, opEv, fillV, mapO, mapS, b236_4, h_38, eq_true hlt, hw, w42a, w42b, w44a, w44b, w46a, w46b, w48a, w48b, wx49, w51, w53, w55a, w55b, w57a, w57b, wx58, w60, w62]
        intro ht; subst ht
        simp only [simprocAttr, RR, RB]
        exact And.intro rfl (fin_ret (by simp only [simprocAttr, R0, fn_out, p236, Rs.ev, mapO, mapS, take_len_self, h_38, eq_true hlt, hw, w42a, w42b, w44a, w44b, w46a, w46b, w48a, w48b, wx49, w51, w53, w55a, w55b, w57a, w57b, wx58, w60, w62]))
    | false =>
      rw [if_neg Bool.false_ne_true] at ho
      cases ho
      simp only [simprocAttr, R0, opEv, fillV, mapO, mapS, b236_4, h_38, eq_true hlt, hw, w42a, w42b, w44a, w44b, w46a, w46b, w48a, w48b, wx49, w51, w53]
      intro ht; subst ht
      simp only [simprocAttr, RR, RB]
      exact And.intro rfl (fin_ret (by simp only [simprocAttr, R0, fn_out, p236, Rs.ev, mapO, mapS, take_len_self, h_38, eq_true hlt, hw, w42a, w42b, w44a, w44b, w46a, w46b, w48a, w48b, wx49, w51, w53]))
  · rintro v8_4 _ e h ⟨k39, rfl, h_38⟩ hge t1 ho
    unfold F236_4_D at ho
    cases ho
    simp only [simprocAttr, R0, opEv, fillV, mapO, mapS, b236_4, h_38, eq_false hge]
    intro ht; subst ht
    refine And.intro rfl (Exists.intro _ ( And.intro rfl ?_))
    simp only [simprocAttr, R0, h_38, eq_false hge]
def I236_3 (a0 : GDouble) (x7 : List Int)  (v7_3 : Int) (s : Unit) (e : Env) (h : Heap) : Prop :=
  ∃ k36 : Nat, h = ⟨[(0, none)], k36⟩ ∧ e.length = 161 ∧ e.at 1 = V.iptr [V.int .i64 a0.Prime, V.isl (a0.Dims.map Enc.enc), V.isl (a0.Across.map Enc.enc), V.isl (a0.Down.map Enc.enc)] ∧ e.at 3 = V.int .i64 (a0.Dims.length : Int) ∧ e.at 4 = V.int .i64 (x7.length : Int) ∧ e.at 7 = V.int .i64 v7_3
def P236_3 (a0 : GDouble) (x7 : List Int)  (t : (Unit) ⊕ Bool) (x : Ex) (e : Env) (h : Heap) : Prop :=
  match t with
  | .inl _ => x = .normal ∧ ∃ k36 : Nat, h = ⟨[(0, none)], k36⟩ ∧ e.length = 161 ∧ e.at 1 = V.iptr [V.int .i64 a0.Prime, V.isl (a0.Dims.map Enc.enc), V.isl (a0.Across.map Enc.enc), V.isl (a0.Down.map Enc.enc)]
  | .inr r => x = .ret ∧ Fin p236 (Enc.enc r) .ret e h
theorem l236_3 (a0 : GDouble) (x7 : List Int)   {lo : Int} {s : Unit} {t : (Unit) ⊕ Bool} (hF : forR lo (a0.Dims.length : Int) (F236_3_B a0 x7) (F236_3_D a0 x7) s = some t) {e : Env} {h : Heap} (hI : I236_3 a0 x7  lo s e h) : W A c236_3 e h (P236_3 a0 x7  t) := by
  show W A (.block 4 (.loop false b236_3)) e h _
  rw [W_block]
  refine W_forR hF 1 (by obtain ⟨_, rfl, _⟩ := hI; rfl) (I236_3 a0 x7 ) hI ?_ ?_
  · rintro v7_3 _ e h ⟨k36, rfl, h_35⟩ hlt hw o ho
    unfold F236_3_B at ho
    obtain ⟨t63, gt63, ho⟩ := bS ho
    rcases t63 with _ | r64
    · dsimp only at ho
      simp only [simprocAttr, R0, opEv, fillV, mapO, mapS, b236_3, h_35, eq_true hlt, hw]
      refine W.mono (l236_4 a0 x7 v7_3   gt63 (Exists.intro _ ( And.intro rfl ?_))) ?_
      · simp only [simprocAttr, R0, h_35, eq_true hlt, hw]
      rintro _ e _ ⟨rfl, k39, rfl, h_40⟩
      cases ho
      simp only [simprocAttr, R0, opEv, fillV, mapO, mapS, h_40, eq_true hlt, hw]
      refine And.intro rfl (Exists.intro _ ( And.intro rfl ?_))
      simp only [simprocAttr, R0, h_40, eq_true hlt, hw]
    · dsimp only at ho
      cases ho
      simp only [simprocAttr, R0, opEv, fillV, mapO, mapS, b236_3, h_35, eq_true hlt, hw]
      refine W.mono (l236_4 a0 x7 v7_3   gt63 (Exists.intro _ ( And.intro rfl ?_))) ?_
      · simp only [simprocAttr, R0, h_35, eq_true hlt, hw]
      rintro _ e h ⟨rfl, hq⟩
      simp only [simprocAttr, RR, RB]
      intro ht; subst ht
      simp only [simprocAttr, RR, RB]
      exact And.intro rfl hq
  · rintro v7_3 _ e h ⟨k36, rfl, h_35⟩ hge t1 ho
    unfold F236_3_D at ho
    cases ho
    simp only [simprocAttr, R0, opEv, fillV, mapO, mapS, b236_3, h_35, eq_false hge]
    intro ht; subst ht
    refine And.intro rfl (Exists.intro _ ( And.intro rfl ?_))
    simp only [simprocAttr, R0, h_35, eq_false hge]
theorem s236 (a0 : GDouble)   {r : Bool} (hF : F236 a0 = some r) : ans A 236 [V.agg [V.int .i64 a0.Prime, V.isl (a0.Dims.map Enc.enc), V.isl (a0.Across.map Enc.enc), V.isl (a0.Down.map Enc.enc)]] = some (Enc.enc r) := by
  refine ans_of (f := p236) rfl rfl rfl fun e hl he => ?_
  have h0_0 : e.at 0 = V.agg [V.int .i64 a0.Prime, V.isl (a0.Dims.map Enc.enc), V.isl (a0.Across.map Enc.enc), V.isl (a0.Down.map Enc.enc)] := he 0 _ rfl
  have hl_0 : e.length = 161 := hl
  clear he hl
  have h_0 := And.intro hl_0 h0_0
  show W A b236 e ⟨[], 0⟩ _
  unfold F236 at hF
  obtain ⟨x1, gx1, hF⟩ := bS hF
  have w2 : ans A 78 [V.int .i64 a0.Prime] = some (V.bool x1) := s78 a0.Prime  gx1
  cases x1 with
  | true =>
    rw [if_pos rfl] at hF
    by_cases c3 : (a0.Dims.length : Int) < 1
    · rw [if_pos c3] at hF
      cases hF
      simp only [simprocAttr, R0, opEv, fillV, mapO, mapS, b236, h_0, w2, eq_true c3]
      exact fin_ret (by simp only [simprocAttr, R0, fn_out, p236, Rs.ev, mapO, mapS, take_len_self, h_0, w2, eq_true c3])
    · rw [if_neg c3] at hF
      by_cases c4 : 4 < (a0.Dims.length : Int)
      · rw [if_pos c4] at hF
        cases hF
        simp only [simprocAttr, R0, opEv, fillV, mapO, mapS, b236, h_0, w2, eq_false c3, eq_true c4]
        exact fin_ret (by simp only [simprocAttr, R0, fn_out, p236, Rs.ev, mapO, mapS, take_len_self, h_0, w2, eq_false c3, eq_true c4])
      · rw [if_neg c4] at hF
        by_cases c5 : (a0.Across.length : Int) = (a0.Dims.length : Int)
        · rw [if_pos c5] at hF
          by_cases c6 : (a0.Down.length : Int) = (a0.Dims.length : Int)
          · rw [if_pos c6] at hF
            obtain ⟨x7, gx7, hF⟩ := bS hF
            obtain ⟨w8a, w8b⟩ := getI_w gx7
            replace w8b : a0.Dims[0]? = some x7 := w8b
            by_cases c9 : (x7.length : Int) < 1
            · rw [if_pos c9] at hF
              cases hF
              simp only [simprocAttr, R0, opEv, fillV, mapO, mapS, b236, h_0, w2, eq_false c3, eq_false c4, eq_true c5, eq_true c6, w8a, w8b, eq_true c9]
              exact fin_ret (by simp only [simprocAttr, R0, fn_out, p236, Rs.ev, mapO, mapS, take_len_self, h_0, w2, eq_false c3, eq_false c4, eq_true c5, eq_true c6, w8a, w8b, eq_true c9])
            · rw [if_neg c9] at hF
              by_cases c10 : 4 < (x7.length : Int)
              · rw [if_pos c10] at hF
                cases hF
                simp only [simprocAttr, R0, opEv, fillV, mapO, mapS, b236, h_0, w2, eq_false c3, eq_false c4, eq_true c5, eq_true c6, w8a, w8b, eq_false c9, eq_true c10]
                exact fin_ret (by simp only [simprocAttr, R0, fn_out, p236, Rs.ev, mapO, mapS, take_len_self, h_0, w2, eq_false c3, eq_false c4, eq_true c5, eq_true c6, w8a, w8b, eq_false c9, eq_true c10])
              · rw [if_neg c10] at hF
                obtain ⟨t34, gt34, hF⟩ := bS hF
                rcases t34 with _ | r69
                · dsimp only at hF
                  simp only [simprocAttr, R0, opEv, fillV, mapO, mapS, b236, h_0, w2, eq_false c3, eq_false c4, eq_true c5, eq_true c6, w8a, w8b, eq_false c9, eq_false c10]
                  refine W.mono (l236_1 a0 x7   gt34 (Exists.intro _ ( And.intro rfl ?_))) ?_
                  · simp only [simprocAttr, R0, h_0, w2, eq_false c3, eq_false c4, eq_true c5, eq_true c6, w8a, w8b, eq_false c9, eq_false c10]
                  rintro _ e _ ⟨rfl, k12, rfl, h_13⟩
                  obtain ⟨t65, gt65, hF⟩ := bS hF
                  rcases t65 with _ | r68
                  · dsimp only at hF
                    simp only [simprocAttr, R0, opEv, fillV, mapO, mapS, h_13, eq_false c3, eq_false c4, eq_true c5, eq_true c6, eq_false c9, eq_false c10]
                    refine W.mono (l236_3 a0 x7   gt65 (Exists.intro _ ( And.intro rfl ?_))) ?_
                    · simp only [simprocAttr, R0, h_13, eq_false c3, eq_false c4, eq_true c5, eq_true c6, eq_false c9, eq_false c10]
                    rintro _ e _ ⟨rfl, k36, rfl, h_37⟩
                    obtain ⟨x66, gx66, hF⟩ := bS hF
                    have w67 : ans A 262 [V.agg [V.int .i64 a0.Prime, V.isl (a0.Dims.map Enc.enc), V.isl (a0.Across.map Enc.enc), V.isl (a0.Down.map Enc.enc)]] = some (V.bool x66) := s262 a0  gx66
                    cases hF
                    simp only [simprocAttr, R0, opEv, fillV, mapO, mapS, h_37, eq_false c3, eq_false c4, eq_true c5, eq_true c6, eq_false c9, eq_false c10, w67]
                    exact fin_ret (by simp only [simprocAttr, R0, fn_out, p236, Rs.ev, mapO, mapS, take_len_self, h_37, eq_false c3, eq_false c4, eq_true c5, eq_true c6, eq_false c9, eq_false c10, w67])
                  · dsimp only at hF
                    cases hF
                    simp only [simprocAttr, R0, opEv, fillV, mapO, mapS, h_13, eq_false c3, eq_false c4, eq_true c5, eq_true c6, eq_false c9, eq_false c10]
                    refine W.mono (l236_3 a0 x7   gt65 (Exists.intro _ ( And.intro rfl ?_))) ?_
                    · simp only [simprocAttr, R0, h_13, eq_false c3, eq_false c4, eq_true c5, eq_true c6, eq_false c9, eq_false c10]
                    rintro _ e h ⟨rfl, hq⟩
                    simp only [simprocAttr, RR, RB]
                    exact hq
                · dsimp only at hF
                  cases hF
                  simp only [simprocAttr, R0, opEv, fillV, mapO, mapS, b236, h_0, w2, eq_false c3, eq_false c4, eq_true c5, eq_true c6, w8a, w8b, eq_false c9, eq_false c10]
                  refine W.mono (l236_1 a0 x7   gt34 (Exists.intro _ ( And.intro rfl ?_))) ?_
                  · simp only [simprocAttr, R0, h_0, w2, eq_false c3, eq_false c4, eq_true c5, eq_true c6, w8a, w8b, eq_false c9, eq_false c10]
                  rintro _ e h ⟨rfl, hq⟩
                  simp only [simprocAttr, RR, RB]
                  exact hq
          · rw [if_neg c6] at hF
            cases hF
            simp only [simprocAttr, R0, opEv, fillV, mapO, mapS, b236, h_0, w2, eq_false c3, eq_false c4, eq_true c5, eq_false c6]
            exact fin_ret (by simp only [simprocAttr, R0, fn_out, p236, Rs.ev, mapO, mapS, take_len_self, h_0, w2, eq_false c3, eq_false c4, eq_true c5, eq_false c6])
        · rw [if_neg c5] at hF
          cases hF
          simp only [simprocAttr, R0, opEv, fillV, mapO, mapS, b236, h_0, w2, eq_false c3, eq_false c4, eq_false c5]
          exact fin_ret (by simp only [simprocAttr, R0, fn_out, p236, Rs.ev, mapO, mapS, take_len_self, h_0, w2, eq_false c3, eq_false c4, eq_false c5])
  | false =>
    rw [if_neg Bool.false_ne_true] at hF
    cases hF
    simp only [simprocAttr, R0, opEv, fillV, mapO, mapS, b236, h_0, w2]
    exact fin_ret (by simp only [simprocAttr, R0, fn_out, p236, Rs.ev, mapO, mapS, take_len_self, h_0, w2])
def F217_1_S (a0 : GDouble) (a1 : Int) (s : (List (List (List Int))) × Int × (List Int) × Int) : Option (((List (List (List Int))) × Int × (List Int) × Int) ⊕ ((List (List (List Int))) × Int × (List Int))) :=
  match s with
  | (o2_1, q3_0_1, q3_1_1, v7_1) =>
    (getI a0.Dims a1).bind fun x14 =>
    if v7_1 < (x14.length : Int) then
      (getI a0.Down a1).bind fun x17 =>
      (getI x17 v7_1).bind fun x19 =>
      (F95 x19).bind fun x21 =>
      (app 24 o2_1 [x21]).bind fun l24 =>
      (chk (v7_1 + 1)).bind fun x25 =>
      some (.inl (l24, q3_0_1, q3_1_1, x25))
    else
      some (.inr (o2_1, q3_0_1, q3_1_1))
def F217 (a0 : GDouble) (a1 : Int) : Option (T2 GComplex Int) :=
  (F236 a0).bind fun x1 =>
  if x1 = true then
    (chk ((a0.Dims.length : Int) - 1)).bind fun x3 =>
    (F54 a1 0 x3).bind fun x4 =>
    if x4 = true then
      (getI a0.Dims a1).bind fun x6 =>
      (F94 x6).bind fun x8 =>
      (loopW (F217_1_S a0 a1) ([], a0.Prime, x8, 1)).bind fun t26 => match t26 with
        | (zo2_1, zq3_0_1, zq3_1_1) =>
          some ⟨⟨zq3_0_1, zq3_1_1, zo2_1⟩, 0⟩
    else
      some ⟨⟨0, [], []⟩, 2⟩
  else
    some ⟨⟨0, [], []⟩, 1⟩
def I217_1 (a0 : GDouble) (a1 : Int)  (s : (List (List (List Int))) × Int × (List Int) × Int) (e : Env) (h : Heap) : Prop :=
  match s with
  | (o2_1, q3_0_1, q3_1_1, v7_1) =>
    ∃ u11 k12 : Nat, h = ⟨[(0, none), (1, some [V.int .i64 0, V.nils, V.nils]), (u11, some (o2_1.map Enc.enc)), (3, some [V.int .i64 q3_0_1, V.isl (q3_1_1.map Enc.enc), V.sl 2 u11 0 o2_1.length 1])], k12⟩ ∧ e.length = 57 ∧ e.at 1 = V.int .i64 a1 ∧ e.at 2 = V.iptr [V.int .i64 a0.Prime, V.isl (a0.Dims.map Enc.enc), V.isl (a0.Across.map Enc.enc), V.isl (a0.Down.map Enc.enc)] ∧ e.at 4 = V.ptr 1 1 0 ∧ e.at 6 = V.ptr 3 3 0 ∧ e.at 7 = V.int .i64 v7_1
def P217_1 (a0 : GDouble) (a1 : Int)  (t : (List (List (List Int))) × Int × (List Int)) (x : Ex) (e : Env) (h : Heap) : Prop :=
  match t with
  | (zo2_1, zq3_0_1, zq3_1_1) =>
    x = .normal ∧ ∃ u11 k12 : Nat, h = ⟨[(0, none), (1, some [V.int .i64 0, V.nils, V.nils]), (u11, some (zo2_1.map Enc.enc)), (3, some [V.int .i64 zq3_0_1, V.isl (zq3_1_1.map Enc.enc), V.sl 2 u11 0 zo2_1.length 1])], k12⟩ ∧ e.length = 57 ∧ e.at 4 = V.ptr 1 1 0 ∧ e.at 6 = V.ptr 3 3 0
theorem l217_1 (a0 : GDouble) (a1 : Int)   {s : (List (List (List Int))) × Int × (List Int) × Int} {t : (List (List (List Int))) × Int × (List Int)} (hF : loopW (F217_1_S a0 a1) s = some t) {e : Env} {h : Heap} (hI : I217_1 a0 a1  s e h) : W A c217_1 e h (P217_1 a0 a1  t) := by
  show W A (.block 1 (.loop false b217_1)) e h _
  rw [W_block]
  refine W_loop hF 4 (by rcases s with ⟨_, _, _, _⟩; obtain ⟨_, _, rfl, _⟩ := hI; rfl) (I217_1 a0 a1 ) hI ?_
  · rintro ⟨o2_1, q3_0_1, q3_1_1, v7_1⟩ e h ⟨u11, k12, rfl, h_10⟩ o ho
    unfold F217_1_S at ho
    dsimp only at ho
    obtain ⟨x14, gx14, ho⟩ := bS ho
    obtain ⟨w15a, w15b⟩ := getI_w gx14
    by_cases c16 : v7_1 < (x14.length : Int)
    · rw [if_pos c16] at ho
      obtain ⟨x17, gx17, ho⟩ := bS ho
      obtain ⟨w18a, w18b⟩ := getI_w gx17
      obtain ⟨x19, gx19, ho⟩ := bS ho
      obtain ⟨w20a, w20b⟩ := getI_w gx19
      obtain ⟨x21, gx21, ho⟩ := bS ho
      have w22 : ans A 95 [V.isl (x19.map Enc.enc)] = some (V.isl (x21.map Enc.enc)) := s95 x19  gx21
      obtain ⟨l24, gl24, ho⟩ := bS ho
      have w23 := fun a b c d e => appendV_w (α := List (List Int)) (n := o2_1.length) (m := 1) (ds := [V.isl (x21.map Enc.enc)]) gl24 (by first | rfl | simp) (by first | rfl | simp) rfl a b c d e
      have w23l := app_len gl24
      obtain ⟨x25, gx25, ho⟩ := bS ho
      have wx25 := chk_w gx25
      cases ho
      simp only [simprocAttr, R0, opEv, fillV, mapO, mapS, b217_1, h_10, w15a, w15b, eq_true c16, w18a, w18b, w20a, w20b, w22, w23, wx25]
      refine And.intro rfl (Exists.intro _ ( Exists.intro _ ( And.intro rfl ?_)))
      simp only [simprocAttr, R0, h_10, w15a, w15b, eq_true c16, w18a, w18b, w20a, w20b, w22, w23, wx25]
    · rw [if_neg c16] at ho
      cases ho
      simp only [simprocAttr, R0, opEv, fillV, mapO, mapS, b217_1, h_10, w15a, w15b, eq_false c16]
      intro ht; subst ht
      simp only [simprocAttr, RR, RB]
      refine And.intro rfl (Exists.intro _ ( Exists.intro _ ( And.intro rfl ?_)))
      simp only [simprocAttr, R0, h_10, w15a, w15b, eq_false c16]
theorem s217 (a0 : GDouble) (a1 : Int)   {r : T2 GComplex Int} (hF : F217 a0 a1 = some r) : ans A 217 [V.agg [V.int .i64 a0.Prime, V.isl (a0.Dims.map Enc.enc), V.isl (a0.Across.map Enc.enc), V.isl (a0.Down.map Enc.enc)], V.int .i64 a1] = some (EncR.enc r) := by
  refine ans_of (f := p217) rfl rfl rfl fun e hl he => ?_
  have h0_0 : e.at 0 = V.agg [V.int .i64 a0.Prime, V.isl (a0.Dims.map Enc.enc), V.isl (a0.Across.map Enc.enc), V.isl (a0.Down.map Enc.enc)] := he 0 _ rfl
  have h1_0 : e.at 1 = V.int .i64 a1 := he 1 _ rfl
  have hl_0 : e.length = 57 := hl
  clear he hl
  have h_0 := And.intro hl_0 (And.intro h0_0 h1_0)
  show W A b217 e ⟨[], 0⟩ _
  unfold F217 at hF
  obtain ⟨x1, gx1, hF⟩ := bS hF
  have w2 : ans A 236 [V.agg [V.int .i64 a0.Prime, V.isl (a0.Dims.map Enc.enc), V.isl (a0.Across.map Enc.enc), V.isl (a0.Down.map Enc.enc)]] = some (V.bool x1) := s236 a0  gx1
  cases x1 with
  | true =>
    rw [if_pos rfl] at hF
    obtain ⟨x3, gx3, hF⟩ := bS hF
    have wx3 := chk_w gx3
    obtain ⟨x4, gx4, hF⟩ := bS hF
    have w5 : ans A 54 [V.int .i64 a1, V.int .i64 0, V.int .i64 x3] = some (V.bool x4) := s54 a1 0 x3  gx4
    cases x4 with
    | true =>
      rw [if_pos rfl] at hF
      obtain ⟨x6, gx6, hF⟩ := bS hF
      obtain ⟨w7a, w7b⟩ := getI_w gx6
      obtain ⟨x8, gx8, hF⟩ := bS hF
      have w9 : ans A 94 [V.isl (x6.map Enc.enc)] = some (V.isl (x8.map Enc.enc)) := s94 x6  gx8
      obtain ⟨⟨zo2_1, zq3_0_1, zq3_1_1⟩, gt26, hF⟩ := bS hF
      dsimp only at hF
      simp only [simprocAttr, R0, opEv, fillV, mapO, mapS, b217, h_0, w2, wx3, w5, w7a, w7b, w9]
      refine W.mono (l217_1 a0 a1   gt26 (Exists.intro _ ( Exists.intro _ ( And.intro rfl ?_)))) ?_
      · simp only [simprocAttr, R0, h_0, w2, wx3, w5, w7a, w7b, w9]
      rintro _ e _ ⟨rfl, u11, k12, rfl, h_13⟩
      cases hF
      simp only [simprocAttr, R0, opEv, fillV, mapO, mapS, h_13]
      exact fin_ret (by simp only [simprocAttr, R0, fn_out, p217, Rs.ev, mapO, mapS, take_len_self, h_13, frzs (α := List (List Int)) zo2_1, takes (α := List (List Int)) zo2_1])
    | false =>
      rw [if_neg Bool.false_ne_true] at hF
      cases hF
      simp only [simprocAttr, R0, opEv, fillV, mapO, mapS, b217, h_0, w2, wx3, w5]
      exact fin_ret (by simp only [simprocAttr, R0, fn_out, p217, Rs.ev, mapO, mapS, take_len_self, h_0, w2, wx3, w5])
  | false =>
    rw [if_neg Bool.false_ne_true] at hF
    cases hF
    simp only [simprocAttr, R0, opEv, fillV, mapO, mapS, b217, h_0, w2]
    exact fin_ret (by simp only [simprocAttr, R0, fn_out, p217, Rs.ev, mapO, mapS, take_len_self, h_0, w2])
def F56 (a0 : Int) (a1 : Int) (a2 : Int) : Option Bool :=
  if a1 ≤ a0 then
    some (decide (a0 ≤ a2))
  else
    some false
theorem s56 (a0 : Int) (a1 : Int) (a2 : Int)   {r : Bool} (hF : F56 a0 a1 a2 = some r) : ans A 56 [V.int .i64 a0, V.int .i64 a1, V.int .i64 a2] = some (Enc.enc r) := by
  refine ans_of (f := p56) rfl rfl rfl fun e hl he => ?_
  have h0_0 : e.at 0 = V.int .i64 a0 := he 0 _ rfl
  have h1_0 : e.at 1 = V.int .i64 a1 := he 1 _ rfl
  have h2_0 : e.at 2 = V.int .i64 a2 := he 2 _ rfl
  have hl_0 : e.length = 15 := hl
  clear he hl
  have h_0 := And.intro hl_0 (And.intro h0_0 (And.intro h1_0 h2_0))
  show W A b56 e ⟨[], 0⟩ _
  unfold F56 at hF
  by_cases c1 : a1 ≤ a0
  · rw [if_pos c1] at hF
    cases hF
    simp only [simprocAttr, R0, opEv, fillV, mapO, mapS, b56, h_0, eq_true c1]
    exact fin_ret (by simp only [simprocAttr, R0, fn_out, p56, Rs.ev, mapO, mapS, take_len_self, h_0, eq_true c1])
  · rw [if_neg c1] at hF
    cases hF
    simp only [simprocAttr, R0, opEv, fillV, mapO, mapS, b56, h_0, eq_false c1]
    exact fin_ret (by simp only [simprocAttr, R0, fn_out, p56, Rs.ev, mapO, mapS, take_len_self, h_0, eq_false c1])
def F73 (a0 : List Int) : Option Int :=
  some (a0.length : Int)
theorem s73 (a0 : List Int)   {r : Int} (hF : F73 a0 = some r) : ans A 73 [V.isl (a0.map Enc.enc)] = some (Enc.enc r) := by
  refine ans_of (f := p73) rfl rfl rfl fun e hl he => ?_
  have h0_0 : e.at 0 = V.isl (a0.map Enc.enc) := he 0 _ rfl
  have hl_0 : e.length = 5 := hl
  clear he hl
  show W A b73 e ⟨[], 0⟩ _
  unfold F73 at hF
  cases hF
  simp only [simprocAttr, R0, opEv, fillV, mapO, mapS, b73, hl_0, h0_0]
  exact fin_ret (by simp only [simprocAttr, R0, fn_out, p73, Rs.ev, mapO, mapS, take_len_self, hl_0, h0_0])
def F74_2_B (a1 : List Int) (o1_1 : List (List (List Int))) (q2_0_1 : Int) (q2_1_1 : List Int) (v6_1 : Int) (x7 : Int) (v22_2 : Int) (o3_2 : (List (List Int))) : Option (((List (List Int))) ⊕ ((List (List Int)))) :=
  (chk (v6_1 - 1)).bind fun x13 =>
(getI a1 x13).bind fun x14 =>
(mkL 8 x14 0).bind fun l16 =>
(app 24 o3_2 [l16]).bind fun l19 =>
some (.inl l19)
def F74_2_D (a1 : List Int) (o1_1 : List (List (List Int))) (q2_0_1 : Int) (q2_1_1 : List Int) (v6_1 : Int) (x7 : Int) (v22_2 : Int) (o3_2 : (List (List Int))) : Option ((List (List Int))) :=
  some o3_2
def F74_1_B (a1 : List Int) (v6_1 : Int) (s : (List (List (List Int))) × Int × (List Int)) : Option (((List (List (List Int))) × Int × (List Int)) ⊕ ((List (List (List Int))) × Int × (List Int))) :=
  match s with
  | (o1_1, q2_0_1, q2_1_1) =>
    (getI a1 v6_1).bind fun x7 =>
    (forR 0 x7 (F74_2_B a1 o1_1 q2_0_1 q2_1_1 v6_1 x7) (F74_2_D a1 o1_1 q2_0_1 q2_1_1 v6_1 x7) ([] : (List (List Int)))).bind fun zo3_2 =>
    (app 24 o1_1 [zo3_2]).bind fun l22 =>
    some (.inl (l22, q2_0_1, q2_1_1))
def F74_1_D (a1 : List Int) (v6_1 : Int) (s : (List (List (List Int))) × Int × (List Int)) : Option ((List (List (List Int))) × Int × (List Int)) :=
  match s with
  | (o1_1, q2_0_1, q2_1_1) =>
    some (o1_1, q2_0_1, q2_1_1)
def F74 (a0 : Int) (a1 : List Int) : Option GComplex :=
  (forR 1 (a1.length : Int) (F74_1_B a1) (F74_1_D a1) ([], a0, a1)).bind fun t25 => match t25 with
    | (zo1_1, zq2_0_1, zq2_1_1) =>
      some ⟨zq2_0_1, zq2_1_1, zo1_1⟩
theorem d74 (a0 : Int) (a1 : List Int) {r : GComplex} (hF : F74 a0 a1 = some r) (E0 : List (Nat × Option (List V))) (c0 : Nat) {dk du : Nat} (hd0 : E0[dk]? = some (du, some (a1.map Enc.enc))) : ∃ v h', res A 74 [V.int .i64 a0, V.sl dk du 0 a1.length 1] ⟨E0, c0⟩ = some (v, h') ∧ r.Prime = a0 ∧ r.Dims = a1 ∧ ∃ m K, v = V.agg [V.int .i64 r.Prime, V.sl dk du 0 a1.length 1, m] ∧ Deep.rep h' m r.Maps K ∧ (∀ k, K k → E0.length ≤ k) ∧ (∀ k, k < E0.length → h'.ents[k]? = E0[k]?) ∧ E0.length ≤ h'.ents.length := by
  have hdk : dk < E0.length := (List.getElem?_eq_some_iff.1 hd0).1
  refine res_dp (f := p74) rfl rfl rfl fun e hl he => ?_
  have h0_0 : e.at 0 = V.int .i64 a0 := he 0 _ rfl
  have h1_0 : e.at 1 = V.sl dk du 0 a1.length 1 := he 1 _ rfl
  have hl_0 : e.length = 41 := hl
  clear he hl
  show W A b74 e ⟨E0, c0⟩ _
  unfold F74 at hF
  obtain ⟨t13, gt13, hF⟩ := bS hF
  have ws : ans A 73 [V.isl (a1.map Enc.enc)] = some (V.int .i64 (a1.length : Int)) := s73 a1 rfl
  simp only [↓reduceIte, Nat.reduceAdd, Nat.reduceMul, Nat.reduceSub, Nat.reduceLT, Nat.reduceLeDiff, Nat.reduceEqDiff, Nat.reducePow, Int.reducePow, Int.reduceLE, Int.reduceLT, Int.reduceEq, Int.reduceToNat, reduceCtorEq, R0, opEv, fillV, mapO, mapS, b74, hl_0, h0_0, h1_0, le1, get_last, ge2a, ge2b, ge3a, ge3b, ge3c, se2a, se2b, se3a, se3b, se3c, set_last]
  show W A (.block 0 (.loop true b74_1)) _ _ _
  rw [W_block]
  refine W_forR gt13 _ rfl (fun i s e h => s.2 = (a0, a1) ∧ ∃ u vs K, h.ents[E0.length]? = some (c0, some [V.int .i64 0, V.nils, V.nils]) ∧ h.ents[E0.length + 1]? = some (u, some vs) ∧ h.ents[E0.length + 2]? = some (c0 + 2, some [V.int .i64 a0, V.sl dk du 0 a1.length 1, V.sl (E0.length + 1) u 0 s.1.length 1]) ∧ reps h vs s.1 K ∧ (∀ k, K k → E0.length + 3 ≤ k) ∧ (∀ k, k < E0.length → h.ents[k]? = E0[k]?) ∧ e.length = 41 ∧ e.at 1 = V.sl dk du 0 a1.length 1 ∧ e.at 4 = V.ptr E0.length c0 0 ∧ e.at 5 = V.ptr (E0.length + 2) (c0 + 2) 0 ∧ e.at 6 = V.int .i64 i) ?_ ?_ ?_
  · refine ⟨rfl, c0 + 1, [], fun _ => False, ge3a .., ge3b .., ge3c .., fun _ x => x, fun _ x => x.elim, fun k q => ?_, ?_⟩
    · rw [List.append_assoc, List.append_assoc]; exact List.getElem?_append_left q
    simp only [↓reduceIte, Nat.reduceAdd, Nat.reduceMul, Nat.reduceSub, Nat.reduceLT, Nat.reduceLeDiff, Nat.reduceEqDiff, Nat.reducePow, Int.reducePow, Int.reduceLE, Int.reduceLT, Int.reduceEq, Int.reduceToNat, reduceCtorEq, R0, hl_0, h0_0, h1_0]
  · clear hl_0 h0_0 h1_0
    rintro i ⟨l, q⟩ e ⟨E, c⟩ ⟨rfl, u, vs, K, g1, g2, g3, g4, g5, g6, hl_1, h1_1, h4_1, h5_1, h6_1⟩ hlt hw o ho
    unfold F74_1_B at ho
    simp only at ho g1 g2 g3 g4 g6
    have hDd : E[dk]? = some (du, some (a1.map Enc.enc)) := (g6 dk hdk).trans hd0
    have wfz : frz ⟨E, c⟩ 16 (V.sl dk du 0 a1.length 1) = _ := frz_row hDd
    obtain ⟨x7, gx7, ho⟩ := bS ho
    obtain ⟨w8a, w8b⟩ := getI_w gx7
    have w8c := getI_lt gx7
    have w8d : ofCells none (List.drop (Int.toNat i) (a1.map Enc.enc)) = some (V.int .i64 x7) := ofCells_drop (by rw [List.getElem?_map, w8b]; rfl)
    have hDx : ∀ x, (E ++ [x])[dk]? = some (du, some (a1.map Enc.enc)) := fun x => (List.getElem?_append_left (List.getElem?_eq_some_iff.1 hDd).1).trans hDd
    obtain ⟨rows, gt20, ho⟩ := bS ho
    obtain ⟨l22, gl22, ho⟩ := bS ho
    obtain ⟨q1, q2, rfl⟩ := app_w gl22
    have hE := Option.some.inj ho; subst hE
    have hE0 : E0.length + 2 < E.length := (List.getElem?_eq_some_iff.1 g3).1
    simp only [↓reduceIte, Nat.reduceAdd, Nat.reduceMul, Nat.reduceSub, Nat.reduceLT, Nat.reduceLeDiff, Nat.reduceEqDiff, Nat.reducePow, Int.reducePow, Int.reduceLE, Int.reduceLT, Int.reduceEq, Int.reduceToNat, reduceCtorEq, R0, opEv, fillV, mapO, mapS, b74_1, hl_1, h1_1, h4_1, h5_1, h6_1, eq_true hlt, hw, ws, wfz, w8a, eq_true w8c, w8d, hDd, hDx]
    refine W.mono (Q := fun x' e h => x' = .normal ∧ ∃ u' vs' K', h.ents[E.length]? = some (u', some vs') ∧ reps h vs' rows K' ∧ (∀ k, K' k → E.length + 1 ≤ k) ∧ (∀ k, k < E.length → h.ents[k]? = E[k]?) ∧ e.length = 41 ∧ e.at 1 = V.sl dk du 0 a1.length 1 ∧ e.at 4 = V.ptr E0.length c0 0 ∧ e.at 5 = V.ptr (E0.length + 2) (c0 + 2) 0 ∧ e.at 6 = V.int .i64 i ∧ e.at 7 = V.sl E.length u' 0 rows.length 1) ?_ ?_
    rotate_left
    · rintro _ e ⟨E1, c1⟩ ⟨rfl, u', vs', K', f1, f2, f3, f4, hl_2, h1_2, h4_2, h5_2, h6_2, h7_2⟩
      simp only at f1 f4
      have hln := g4.len
      have hE1 : E.length < E1.length := (List.getElem?_eq_some_iff.1 f1).1
      have m0 := (f4 E0.length (by omega)).trans g1
      have m1 := (f4 (E0.length + 1) (by omega)).trans g2
      have m2 := (f4 (E0.length + 2) (by omega)).trans g3
      have n2 : ∀ y, (E1 ++ [y])[E0.length + 2]? = _ := fun y => (List.getElem?_append_left (by omega)).trans m2
      have n2' : ∀ y z, ((E1 ++ [y]).set (E0.length + 1) z)[E0.length + 2]? = _ := fun y z => (set_app_new (by omega) (by omega)).trans m2
      have w9 : ∀ y c', appendV 1 24 (.sl (E0.length + 1) u 0 l.length 1) 1 [V.sl E.length u' 0 rows.length 1] ⟨E1 ++ [y], c'⟩ = _ := fun y c' => appendV_deep (E := E1 ++ [y]) (vs := vs) (by rw [List.getElem?_append_left (by omega)]; exact m1) hln (by simpa using q1) (by simpa using q2)
      simp only [↓reduceIte, Nat.reduceAdd, Nat.reduceMul, Nat.reduceSub, Nat.reduceLT, Nat.reduceLeDiff, Nat.reduceEqDiff, Nat.reducePow, Int.reducePow, Int.reduceLE, Int.reduceLT, Int.reduceEq, Int.reduceToNat, reduceCtorEq, R0, opEv, fillV, mapO, mapS, hl_2, h1_2, h4_2, h5_2, h6_2, h7_2, hw, m2, n2, n2', get_last, w9]
      have r0 : Deep.rep ⟨E1, c1⟩ (V.sl E.length u' 0 rows.length 1) rows (fun k => k = E.length ∨ K' k) := rep_at f1 f2 (fun q => by have := f3 _ q; omega)
      have hk : ∀ k, K k ∨ (k = E.length ∨ K' k) → E0.length + 3 ≤ k := fun k q => q.elim (g5 k) (fun q => q.elim (fun q => by omega) (fun q => by have := f3 k q; omega))
      have r1 := deep_round (h := ⟨E, c⟩) (h1 := ⟨E1, c1⟩) (h2 := ⟨((E1 ++ [(c1, some [V.sl E.length u' 0 rows.length 1])]).set (E0.length + 1) (c1 + 1, some (vs ++ [V.sl E.length u' 0 rows.length 1]))).set (E0.length + 2) (c0 + 2, some [V.int .i64 a0, V.sl dk du 0 a1.length 1, V.sl (E0.length + 1) (c1 + 1) 0 (l.length + 1) 1]), c1 + 1 + 1⟩) (K := K) g4
        r0 (fun k q => q.elim (fun q => by show E.length ≤ k; omega) (fun q => by have := f3 k q; show E.length ≤ k; omega)) f4 (fun k p q => by
          have := hk k q
          rw [set_ne (by omega)]
          exact set_app_new (by omega) p) (by show E.length ≤ E1.length; omega)
      refine And.intro rfl (And.intro rfl ⟨c1 + 1, vs ++ [V.sl E.length u' 0 rows.length 1], _, ?_, ?_, ?_, r1, hk, fun k q => ?_, ?_⟩)
      · exact (set_ne (by omega)).trans ((set_app_new (by omega) (by omega)).trans m0)
      · exact (set_ne (by omega)).trans (set_app_key (by simp; omega))
      · simp only [List.length_append, List.length_cons, List.length_nil, Nat.zero_add]
        exact set_app_key (by simp; omega)
      · exact (set_ne (by omega)).trans ((set_app_new (by omega) (by omega)).trans ((f4 k (by omega)).trans (g6 k q)))
      · simp only [↓reduceIte, Nat.reduceAdd, Nat.reduceMul, Nat.reduceSub, Nat.reduceLT, Nat.reduceLeDiff, Nat.reduceEqDiff, Nat.reducePow, Int.reducePow, Int.reduceLE, Int.reduceLT, Int.reduceEq, Int.reduceToNat, reduceCtorEq, R0, hl_2, h1_2, h4_2, h5_2, h6_2, h7_2, hw]
    show W A (.block 2 (.loop true b74_2)) _ _ _
    rw [W_block]
    refine W_forR gt20 _ rfl (fun j rs e h => ∃ u' vs' K', h.ents[E.length]? = some (u', some vs') ∧ reps h vs' rs K' ∧ (∀ k, K' k → E.length + 1 ≤ k) ∧ (∀ k, k < E.length → h.ents[k]? = E[k]?) ∧ e.length = 41 ∧ e.at 1 = V.sl dk du 0 a1.length 1 ∧ e.at 4 = V.ptr E0.length c0 0 ∧ e.at 5 = V.ptr (E0.length + 2) (c0 + 2) 0 ∧ e.at 6 = V.int .i64 i ∧ e.at 7 = V.sl E.length u' 0 rs.length 1 ∧ e.at 21 = V.int .i64 x7 ∧ e.at 22 = V.int .i64 j) ?_ ?_ ?_
    · refine ⟨c, [], fun _ => False, get_last _ _, fun _ x => x, fun _ x => x.elim, fun k q => List.getElem?_append_left q, ?_⟩
      simp only [↓reduceIte, Nat.reduceAdd, Nat.reduceMul, Nat.reduceSub, Nat.reduceLT, Nat.reduceLeDiff, Nat.reduceEqDiff, Nat.reducePow, Int.reducePow, Int.reduceLE, Int.reduceLT, Int.reduceEq, Int.reduceToNat, reduceCtorEq, R0, hl_1, h1_1, h4_1, h5_1, h6_1]
    · clear hl_1 h1_1 h4_1 h5_1 h6_1
      rintro j rs e ⟨E1, c1⟩ ⟨u', vs', K', f1, f2, f3, f4, hl_1, h1_1, h4_1, h5_1, h6_1, h7_1, h21_1, h22_1⟩ hlt2 hw2 o ho
      unfold F74_2_B at ho
      obtain ⟨x13, gx13, ho⟩ := bS ho
      have wx13 := chk_w gx13
      obtain ⟨x14, gx14, ho⟩ := bS ho
      obtain ⟨w15a, w15b⟩ := getI_w gx14
      have w15c := getI_lt gx14
      have w15d : ofCells none (List.drop (Int.toNat x13) (a1.map Enc.enc)) = some (V.int .i64 x14) := ofCells_drop (by rw [List.getElem?_map, w15b]; rfl)
      obtain ⟨l16, gl16, ho⟩ := bS ho
      obtain ⟨w17a, w17b, w17c, w17d, w17e⟩ := mkL_w gl16
      replace w17e : (List.replicate (Int.toNat x14) [V.int .i64 0]).flatten = List.map Enc.enc l16 := w17e
      obtain ⟨l19, gl19, ho⟩ := bS ho
      obtain ⟨q1, q2, rfl⟩ := app_w gl19
      have hE := Option.some.inj ho; subst hE
      simp only at f1 f4
      have hln := f2.len
      have hE1 : E.length < E1.length := (List.getElem?_eq_some_iff.1 f1).1
      have hD1 : E1[dk]? = some (du, some (a1.map Enc.enc)) := (f4 dk (by omega)).trans hDd
      have w9 : ∀ x y c', appendV 1 24 (.sl E.length u' 0 rs.length 1) 1 [V.sl E1.length c1 0 (Int.toNat x14) 1] ⟨E1 ++ [x] ++ [y], c'⟩ = _ := fun x y c' => appendV_deep (E := E1 ++ [x] ++ [y]) (vs := vs') (by rw [List.getElem?_append_left (by simp; omega), List.getElem?_append_left hE1]; exact f1) hln (by simpa using q1) (by simpa using q2)
      simp only [↓reduceIte, Nat.reduceAdd, Nat.reduceMul, Nat.reduceSub, Nat.reduceLT, Nat.reduceLeDiff, Nat.reduceEqDiff, Nat.reducePow, Int.reducePow, Int.reduceLE, Int.reduceLT, Int.reduceEq, Int.reduceToNat, reduceCtorEq, R0, opEv, fillV, mapO, mapS, b74_2, hl_1, h1_1, h4_1, h5_1, h6_1, h7_1, h21_1, h22_1, eq_true hlt2, hw2, wx13, w15a, eq_true w15c, w15d, hD1, w17a, w17b, w17c, w17e, get_last, w9]
      have r0 : Deep.rep ⟨E1 ++ [(c1, some (l16.map Enc.enc))], c1 + 1⟩ (V.sl E1.length c1 0 (Int.toNat x14) 1) l16 (fun k => k = E1.length) := by
        rw [← w17d]; exact int_row (get_last _ _) fun k => Iff.rfl
      have r1 := deep_round (h := ⟨E1, c1⟩) (h1 := ⟨E1 ++ [(c1, some (l16.map Enc.enc))], c1 + 1⟩) (h2 := ⟨(E1 ++ [(c1, some (l16.map Enc.enc))] ++ [(c1 + 1, some [V.sl E1.length c1 0 (Int.toNat x14) 1])]).set E.length (c1 + 1 + 1, some (vs' ++ [V.sl E1.length c1 0 (Int.toNat x14) 1])), c1 + 1 + 1 + 1⟩) f2
        r0 (fun k q => by show E1.length ≤ k; omega) (fun k q => List.getElem?_append_left q) (fun k p q => set_app_new (fun e => by subst e; exact q.elim (fun q => by have := f3 _ q; omega) (fun q => by omega)) p) (by simp)
      refine And.intro rfl ⟨_, _, _, set_app_key (by simp; omega), r1, fun k q => q.elim (f3 k) (fun q => by omega), fun k q => ?_, ?_⟩
      · refine (set_app_new (by omega) (by simp; omega)).trans ((List.getElem?_append_left (by omega)).trans (f4 k q))
      · simp only [↓reduceIte, Nat.reduceAdd, Nat.reduceMul, Nat.reduceSub, Nat.reduceLT, Nat.reduceLeDiff, Nat.reduceEqDiff, Nat.reducePow, Int.reducePow, Int.reduceLE, Int.reduceLT, Int.reduceEq, Int.reduceToNat, reduceCtorEq, R0, hl_1, h1_1, h4_1, h5_1, h6_1, h7_1, h21_1, h22_1, hw2, List.length_append]
    · clear hl_1 h1_1 h4_1 h5_1 h6_1
      rintro j rs e ⟨E1, c1⟩ ⟨u', vs', K', f1, f2, f3, f4, hl_1, h1_1, h4_1, h5_1, h6_1, h7_1, h21_1, h22_1⟩ hge t1 ho
      have hE := Option.some.inj ho; subst hE
      simp only [↓reduceIte, Nat.reduceAdd, Nat.reduceMul, Nat.reduceSub, Nat.reduceLT, Nat.reduceLeDiff, Nat.reduceEqDiff, Nat.reducePow, Int.reducePow, Int.reduceLE, Int.reduceLT, Int.reduceEq, Int.reduceToNat, reduceCtorEq, R0, opEv, fillV, mapO, mapS, b74_2, hl_1, h1_1, h4_1, h5_1, h6_1, h7_1, h21_1, h22_1, eq_false hge]
      intro ht; subst ht
      exact ⟨u', vs', K', f1, f2, f3, f4, rfl⟩
  · rintro i ⟨l, q⟩ e ⟨E, c⟩ ⟨rfl, u, vs, K, g1, g2, g3, g4, g5, g6, hl_1, h1_1, h4_1, h5_1, h6_1⟩ hge t1 ho
    unfold F74_1_D at ho
    have hE := Option.some.inj ho; subst hE
    simp only at hF g1 g2 g3 g4 g6
    have hDd : E[dk]? = some (du, some (a1.map Enc.enc)) := (g6 dk hdk).trans hd0
    have wfz : frz ⟨E, c⟩ 16 (V.sl dk du 0 a1.length 1) = _ := frz_row hDd
    simp only [↓reduceIte, Nat.reduceAdd, Nat.reduceMul, Nat.reduceSub, Nat.reduceLT, Nat.reduceLeDiff, Nat.reduceEqDiff, Nat.reducePow, Int.reducePow, Int.reduceLE, Int.reduceLT, Int.reduceEq, Int.reduceToNat, reduceCtorEq, R0, opEv, fillV, mapO, mapS, b74_1, hl_1, h1_1, h4_1, h5_1, h6_1, eq_false hge, ws, wfz, g1, g2, g3]
    intro ht; subst ht
    have hE := Option.some.inj hF; subst hE
    have hE0 : E0.length + 2 < E.length := (List.getElem?_eq_some_iff.1 g3).1
    refine And.intro (fun _ => trivial) ⟨_, by simp only [↓reduceIte, Nat.reduceAdd, Nat.reduceMul, Nat.reduceSub, Nat.reduceLT, Nat.reduceLeDiff, Nat.reduceEqDiff, Nat.reducePow, Int.reducePow, Int.reduceLE, Int.reduceLT, Int.reduceEq, Int.reduceToNat, reduceCtorEq, R0, fn_out, p74, Rs.ev, mapO, mapS, hl_1, h4_1, set_app_key (show E0.length < E.length by omega)]; rfl, rfl, rfl, _, _, rfl, rep_at (α := List (List Int)) (K := K) ?_ (g4.frame fun k q => set_ne (by have := g5 k q; omega)) (fun q => by have := g5 _ q; omega), fun k q => q.elim (fun q => by omega) (fun q => by have := g5 k q; omega), fun k q => (set_ne (by omega)).trans (g6 k q), by simp; omega⟩
    exact (set_ne (by omega)).trans g2
def F75 (p : Int) (n r pl v : Int) (s : List (List (List Int))) : Option (List (List (List Int))) :=
  (chk (n - 1)).bind fun i => (getI s i).bind fun t => (getI t r).bind fun row => (getI row pl).bind fun old => (chk (old + v)).bind fun a => (remI a p).bind fun b => (chk (b + p)).bind fun d => (remI d p).bind fun z =>
  (setI row pl z).bind fun row' => (setI t r row').bind fun t' => setI s i t'
theorem d75 {p n r pl v : Int} {dv : V} {s s' : List (List (List Int))} (hF : F75 p n r pl v s = some s') (E : List (Nat × Option (List V))) (c : Nat) {m : V} {K : Ks} (hr : Deep.rep ⟨E, c⟩ m s K) :
    ∃ h', res A 75 [V.agg [V.int .i64 p, dv, m], V.int .i64 n, V.int .i64 r, V.int .i64 pl, V.int .i64 v] ⟨E, c⟩ = some (V.undef, h') ∧ Deep.rep h' m s' K ∧ (∀ k, k < E.length → ¬ K k → h'.ents[k]? = E[k]?) ∧ E.length ≤ h'.ents.length := by
  refine res_ex (f := p75) rfl rfl rfl fun e hl he => ?_
  have h0 : e.at 0 = V.agg [V.int .i64 p, dv, m] := he 0 _ rfl
  have h1 : e.at 1 = V.int .i64 n := he 1 _ rfl
  have h2 : e.at 2 = V.int .i64 r := he 2 _ rfl
  have h3 : e.at 3 = V.int .i64 pl := he 3 _ rfl
  have h4 : e.at 4 = V.int .i64 v := he 4 _ rfl
  have hl_0 : e.length = 38 := hl
  clear he hl
  show W A b75 e ⟨E, c⟩ _
  unfold F75 at hF
  obtain ⟨i, gi, hF⟩ := bS hF
  have wi := chk_w gi
  obtain ⟨t, gt, hF⟩ := bS hF
  obtain ⟨ta, tb⟩ := getI_w gt
  have tc := getI_lt gt
  obtain ⟨row, gr, hF⟩ := bS hF
  obtain ⟨ra, rb⟩ := getI_w gr
  have rc := getI_lt gr
  obtain ⟨old, go, hF⟩ := bS hF
  obtain ⟨oa, ob⟩ := getI_w go
  have oc := getI_lt go
  obtain ⟨a, ga, hF⟩ := bS hF
  have wa := chk_w ga
  obtain ⟨b, gb, hF⟩ := bS hF
  obtain ⟨wb0, wb⟩ := rem_w gb
  obtain ⟨d, gd, hF⟩ := bS hF
  have wd := chk_w gd
  obtain ⟨z, gz, hF⟩ := bS hF
  obtain ⟨_, wz⟩ := rem_w gz
  obtain ⟨row', gs, hF⟩ := bS hF
  obtain ⟨s1, s2, s3, s4, s5⟩ := setI_w gs
  obtain ⟨t', gt', hF⟩ := bS hF
  have st : t' = t.set r.toNat row' := setI_eq gt'
  have sm : s' = s.set i.toNat t' := setI_eq hF
  obtain ⟨key, uid, vs, x1, K1, hm, a1, a2, a3, a4, a5, a6⟩ := rep_focus hr tb
  obtain ⟨key2, uid2, vs2, x2, K2, hx1, b1, b2, b3, b4, b5, b6⟩ := rep_focus a4 rb
  rcases row_int b4 with ⟨_, rfl, _⟩ | ⟨key3, uid3, hx2, d1, d2⟩
  · exact absurd ob (by simp)
  have o1 := ofCells_drop a2
  have o2 := ofCells_drop b2
  have o3 : ofCells none (List.drop pl.toNat (row.map Enc.enc)) = some (V.int .i64 old) := ofCells_drop (by rw [List.getElem?_map, ob]; rfl)
  have s5' : List.take pl.toNat (row.map Enc.enc) ++ [V.int .i64 z] ++ List.drop (pl.toNat + 1) (row.map Enc.enc) = List.map Enc.enc row' := s5
  simp only at a1 b1 d1
  have k1 : key < E.length := (List.getElem?_eq_some_iff.1 a1).1
  have k2 : key2 < E.length := (List.getElem?_eq_some_iff.1 b1).1
  have k3 : key3 < E.length := (List.getElem?_eq_some_iff.1 d1).1
  have p1 : ∀ x, (E ++ [x])[key]? = some (uid, some vs) := fun x => (List.getElem?_append_left k1).trans a1
  have p2 : ∀ x, (E ++ [x])[key2]? = some (uid2, some vs2) := fun x => (List.getElem?_append_left k2).trans b1
  have p3 : ∀ x, (E ++ [x])[key3]? = some (uid3, some (row.map Enc.enc)) := fun x => (List.getElem?_append_left k3).trans d1
  simp only [simprocAttr, R0, opEv, fillV, mapO, mapS, b75, hl_0, h0, h1, h2, h3, h4, get_last, hm, wi, ta, eq_true tc, p1, o1, hx1, ra, eq_true rc, p2, o2, hx2, oa, eq_true oc, p3, o3, wa, wb0, wb, wd, wz, s3, s5']
  rw [← hm]
  have q : ∀ k, k ≠ key3 → k < E.length → ((E ++ [(c, some [V.int .i64 p, dv, m])]).set key3 (uid3, some (List.map Enc.enc row')))[k]? = E[k]? := fun k h1 h2 => set_app_new h1 h2
  have r0 : Deep.rep ⟨(E ++ [(c, some [V.int .i64 p, dv, m])]).set key3 (uid3, some (List.map Enc.enc row')), c + 1⟩ x2 row' K2 := by
    rw [hx2, ← s4]; exact int_row (set_app_key (by simp; omega)) d2
  have r1 := b6 _ _ r0 (fun k hk nk => q k (fun e => nk ((d2 k).2 e)) (Deep.bd a4 hk))
  rw [← st] at r1
  have r2 := a6 _ _ r1 (fun k hk nk => q k (fun e => nk (b5 k ((d2 k).2 e))) (Deep.bd hr hk))
  rw [← sm] at r2
  refine And.intro (fun _ => trivial) ⟨?_, r2, fun k hk nk => q k (fun e => nk (a5 k (b5 k ((d2 k).2 e)))) hk, by simp⟩
  simp only [simprocAttr, R1, fn_out, p75, mapO]
  rfl
def F85 {σ : Type} (ms : List (List (List Int))) (f : Int → Int → Int → Int → σ → Option σ) (s : σ) : Option σ :=
  forR 0 (ms.length : Int) (fun k s => (getI ms k).bind fun rows => (forR 0 (rows.length : Int) (fun i s => (getI rows i).bind fun row =>
    (forR 0 (row.length : Int) (fun j s => (getI row j).bind fun v => (chk (k + 1)).bind fun n => (f n i j v s).bind fun s' => some (.inl s')) (fun _ s => some s) s).bind fun s' => some (.inl s')) (fun _ s => some s) s).bind fun s' => some (.inl s')) (fun _ s => some s) s
structure Step4 (g : Nat) (fs cs : List V) {σ : Type} (S : σ → List (Nat × Option (List V)) → Prop) (f : Int → Int → Int → Int → σ → Option σ) : Prop where
  call : ∀ n r p v s s', f n r p v s = some s' → ∀ E c, S s E → ∃ E' c', res A g (fs ++ [V.int .i64 n, V.int .i64 r, V.int .i64 p, V.int .i64 v] ++ cs) ⟨E, c⟩ = some (V.undef, ⟨E', c'⟩) ∧ S s' E'
  pad : ∀ s E x, S s E → S s (E ++ [x])
theorem e85 {g : Nat} {fs cs : List V} {σ : Type} {S : σ → List (Nat × Option (List V)) → Prop} {f : Int → Int → Int → Int → σ → Option σ} (st : Step4 g fs cs S f) (x : GComplex) {s s' : σ} (hF : F85 x.Maps f s = some s') (E : List (Nat × Option (List V))) (c : Nat) (hS : S s E) :
    ∃ h', res A 85 [V.agg [V.int .i64 x.Prime, V.isl (List.map Enc.enc x.Dims), V.isl (List.map Enc.enc x.Maps)], V.fn g fs cs] ⟨E, c⟩ = some (V.undef, h') ∧ S s' h'.ents := by
  refine res_ex (f := p85) rfl rfl rfl fun e hl he => ?_
  have h0 : e.at 0 = V.agg [V.int .i64 x.Prime, V.isl (List.map Enc.enc x.Dims), V.isl (List.map Enc.enc x.Maps)] := he 0 _ rfl
  have h1 : e.at 1 = V.fn g fs cs := he 1 _ rfl
  have hl_0 : e.length = 42 := hl
  clear he hl
  show W A b85 e ⟨E, c⟩ _
  unfold F85 at hF
  simp only [simprocAttr, R0, opEv, fillV, mapO, mapS, b85, hl_0, h0, h1, get_last, set_last]
  show W A (.block 0 (.loop true b85_1)) _ _ _
  rw [W_block]
  refine W_forR hF _ rfl (fun i s e h => S s h.ents ∧ e.length = 42 ∧ e.at 1 = V.fn g fs cs ∧ e.at 11 = V.isl (List.map Enc.enc x.Maps) ∧ e.at 12 = V.int .i64 (x.Maps.length : Int) ∧ e.at 13 = V.int .i64 i) ?_ ?_ ?_
  · refine And.intro (st.pad _ _ _ hS) ?_
    simp only [simprocAttr, R0, hl_0, h0, h1]
  · rintro i s e ⟨E, c⟩ ⟨hS, hl_1, h1_1, h11_1, h12_1, h13_1⟩ hlt hw o ho
    obtain ⟨rows, g1, ho⟩ := bS ho
    obtain ⟨w1a, w1b⟩ := getI_w g1
    obtain ⟨z, g2, ho⟩ := bS ho
    have hE := Option.some.inj ho; subst hE
    simp only [simprocAttr, R0, opEv, fillV, mapO, mapS, b85_1, hl_1, h1_1, h11_1, h12_1, h13_1, eq_true hlt, hw, w1a, w1b]
    refine W.mono (Q := fun x' e h => x' = .normal ∧ S z h.ents ∧ e.length = 42 ∧ e.at 1 = V.fn g fs cs ∧ e.at 11 = V.isl (List.map Enc.enc x.Maps) ∧ e.at 12 = V.int .i64 (x.Maps.length : Int) ∧ e.at 13 = V.int .i64 i) ?_ ?_
    rotate_left
    · rintro _ e ⟨E2, c2⟩ ⟨rfl, hS2, hl_2, h1_2, h11_2, h12_2, h13_2⟩
      simp only [simprocAttr, R0, opEv, fillV, mapO, mapS, hl_2, h1_2, h11_2, h12_2, h13_2, hw]
      refine And.intro rfl (And.intro hS2 ?_)
      simp only [simprocAttr, R0, hl_2, h1_2, h11_2, h12_2, h13_2, hw]
    show W A (.block 2 (.loop true b85_2)) _ _ _
    rw [W_block]
    refine W_forR g2 _ rfl (fun j s e h => S s h.ents ∧ e.length = 42 ∧ e.at 1 = V.fn g fs cs ∧ e.at 11 = V.isl (List.map Enc.enc x.Maps) ∧ e.at 12 = V.int .i64 (x.Maps.length : Int) ∧ e.at 13 = V.int .i64 i ∧ e.at 4 = V.int .i64 i ∧ e.at 18 = V.isl (List.map Enc.enc rows) ∧ e.at 19 = V.int .i64 (rows.length : Int) ∧ e.at 20 = V.int .i64 j) ?_ ?_ ?_
    · refine And.intro hS ?_
      simp only [simprocAttr, R0, hl_1, h1_1, h11_1, h12_1, h13_1]
    · clear hl_1 h1_1 h11_1 h12_1 h13_1
      rintro j s e ⟨E, c⟩ ⟨hS, hl_1, h1_1, h11_1, h12_1, h13_1, h4_1, h18_1, h19_1, h20_1⟩ hlt2 hw2 o ho
      obtain ⟨row, g3, ho⟩ := bS ho
      obtain ⟨w3a, w3b⟩ := getI_w g3
      obtain ⟨z2, g4, ho⟩ := bS ho
      have hE := Option.some.inj ho; subst hE
      simp only [simprocAttr, R0, opEv, fillV, mapO, mapS, b85_2, hl_1, h1_1, h11_1, h12_1, h13_1, h4_1, h18_1, h19_1, h20_1, eq_true hlt2, hw2, w3a, w3b]
      refine W.mono (Q := fun x' e h => x' = .normal ∧ S z2 h.ents ∧ e.length = 42 ∧ e.at 1 = V.fn g fs cs ∧ e.at 11 = V.isl (List.map Enc.enc x.Maps) ∧ e.at 12 = V.int .i64 (x.Maps.length : Int) ∧ e.at 13 = V.int .i64 i ∧ e.at 4 = V.int .i64 i ∧ e.at 18 = V.isl (List.map Enc.enc rows) ∧ e.at 19 = V.int .i64 (rows.length : Int) ∧ e.at 20 = V.int .i64 j) ?_ ?_
      rotate_left
      · rintro _ e ⟨E2, c2⟩ ⟨rfl, hS2, hl_2, h1_2, h11_2, h12_2, h13_2, h4_2, h18_2, h19_2, h20_2⟩
        simp only [simprocAttr, R0, opEv, fillV, mapO, mapS, hl_2, h1_2, h11_2, h12_2, h13_2, h4_2, h18_2, h19_2, h20_2, hw2]
        refine And.intro rfl (And.intro hS2 ?_)
        simp only [simprocAttr, R0, hl_2, h1_2, h11_2, h12_2, h13_2, h4_2, h18_2, h19_2, h20_2, hw2]
      show W A (.block 4 (.loop true b85_3)) _ _ _
      rw [W_block]
      refine W_forR g4 _ rfl (fun k s e h => S s h.ents ∧ e.length = 42 ∧ e.at 1 = V.fn g fs cs ∧ e.at 11 = V.isl (List.map Enc.enc x.Maps) ∧ e.at 12 = V.int .i64 (x.Maps.length : Int) ∧ e.at 13 = V.int .i64 i ∧ e.at 4 = V.int .i64 i ∧ e.at 18 = V.isl (List.map Enc.enc rows) ∧ e.at 19 = V.int .i64 (rows.length : Int) ∧ e.at 20 = V.int .i64 j ∧ e.at 6 = V.int .i64 j ∧ e.at 25 = V.isl (List.map Enc.enc row) ∧ e.at 26 = V.int .i64 (row.length : Int) ∧ e.at 27 = V.int .i64 k) ?_ ?_ ?_
      · refine And.intro hS ?_
        simp only [simprocAttr, R0, hl_1, h1_1, h11_1, h12_1, h13_1, h4_1, h18_1, h19_1, h20_1]
      · clear hl_1 h1_1 h11_1 h12_1 h13_1 h4_1 h18_1 h19_1 h20_1
        rintro k s e ⟨E, c⟩ ⟨hS, hl_1, h1_1, h11_1, h12_1, h13_1, h4_1, h18_1, h19_1, h20_1, h6_1, h25_1, h26_1, h27_1⟩ hlt3 hw3 o ho
        obtain ⟨v, g5, ho⟩ := bS ho
        obtain ⟨w5a, w5b⟩ := getI_w g5
        obtain ⟨n, g6, ho⟩ := bS ho
        have w6 := chk_w g6
        obtain ⟨s2, g7, ho⟩ := bS ho
        have hE := Option.some.inj ho; subst hE
        obtain ⟨E2, c2, hr, hS2⟩ := st.call _ _ _ _ _ _ g7 E c hS
        simp only [simprocAttr, R0, opEv, fillV, mapO, mapS, b85_3, hl_1, h1_1, h11_1, h12_1, h13_1, h4_1, h18_1, h19_1, h20_1, h6_1, h25_1, h26_1, h27_1, eq_true hlt3, hw3, w5a, w5b, w6, callM_plain_eq, List.append_assoc] at hr ⊢
        simp only [simprocAttr, R0, opEv, fillV, mapO, mapS, hr, hl_1, h1_1, h11_1, h12_1, h13_1, h4_1, h18_1, h19_1, h20_1, h6_1, h25_1, h26_1, h27_1, eq_true hlt3, hw3]
        refine And.intro rfl (And.intro hS2 ?_)
        simp only [simprocAttr, R0, hl_1, h1_1, h11_1, h12_1, h13_1, h4_1, h18_1, h19_1, h20_1, h6_1, h25_1, h26_1, h27_1, hw3]
      · clear hl_1 h1_1 h11_1 h12_1 h13_1 h4_1 h18_1 h19_1 h20_1
        rintro k s e ⟨E, c⟩ ⟨hS, hl_1, h1_1, h11_1, h12_1, h13_1, h4_1, h18_1, h19_1, h20_1, h6_1, h25_1, h26_1, h27_1⟩ hge t1 ho
        have hE := Option.some.inj ho; subst hE
        simp only [simprocAttr, R0, opEv, fillV, mapO, mapS, b85_3, hl_1, h1_1, h11_1, h12_1, h13_1, h4_1, h18_1, h19_1, h20_1, h6_1, h25_1, h26_1, h27_1, eq_false hge]
        intro ht; subst ht
        exact hS
    · clear hl_1 h1_1 h11_1 h12_1 h13_1
      rintro j s e ⟨E, c⟩ ⟨hS, hl_1, h1_1, h11_1, h12_1, h13_1, h4_1, h18_1, h19_1, h20_1⟩ hge t1 ho
      have hE := Option.some.inj ho; subst hE
      simp only [simprocAttr, R0, opEv, fillV, mapO, mapS, b85_2, hl_1, h1_1, h11_1, h12_1, h13_1, h4_1, h18_1, h19_1, h20_1, eq_false hge]
      intro ht; subst ht
      exact hS
  · rintro i s e ⟨E, c⟩ ⟨hS, hl_1, h1_1, h11_1, h12_1, h13_1⟩ hge t1 ho
    have hE := Option.some.inj ho; subst hE
    simp only [simprocAttr, R0, opEv, fillV, mapO, mapS, b85_1, hl_1, h1_1, h11_1, h12_1, h13_1, eq_false hge]
    intro ht; subst ht
    refine And.intro (fun i => by simp only [ne_eq, reduceCtorEq, not_false_eq_true]) (And.intro ?_ hS)
    simp only [simprocAttr, R1, fn_out, p85, mapO]
    rfl
def F96 (a0 : List Int) : Option (List Int) := app 8 [] a0
theorem t96 (a0 : List Int) {r : List Int} (hF : F96 a0 = some r) : tans A 96 [1] [V.isl (a0.map Enc.enc)] = some (Enc.enc r) := clone_tans rfl hF
def F57 (x : GComplex) : Option GComplex :=
  (F96 x.Dims).bind fun d => (F74 x.Prime d).bind fun b => (F85 x.Maps (fun n r pl v s => F75 b.Prime n r pl v s) b.Maps).bind fun ms => some ⟨b.Prime, b.Dims, ms⟩
def S57 (p : Int) (dv m : V) (N c1 : Nat) (K : Ks) (R : List (Nat × Option (List V)) → Prop) (s : List (List (List Int))) (E : List (Nat × Option (List V))) : Prop :=
  Deep.rep ⟨E, 0⟩ m s K ∧ R E ∧ E[N]? = some (c1, some [V.int .i64 p, dv, m])
theorem st57 (p : Int) (dv m : V) (N c1 : Nat) (K : Ks) (R : List (Nat × Option (List V)) → Prop) (hN : ¬ K N) (hR : ∀ E E', R E → (∀ k, k < E.length → ¬ K k → E'[k]? = E[k]?) → R E') : Step4 75 [V.agg [V.int .i64 p, dv, m]] [] (S57 p dv m N c1 K R) (fun n r pl v s => F75 p n r pl v s) where
  call := by
    rintro n r pl v s s' hF E c ⟨h1, h2, h3⟩
    have r1 : Deep.rep ⟨E, c⟩ m s K := Deep.frame h1 fun _ _ => rfl
    obtain ⟨⟨E', c'⟩, q1, q2, q3, q4⟩ := d75 (dv := dv) hF E c r1
    exact ⟨E', c', q1, Deep.frame q2 fun _ _ => rfl, hR E E' h2 q3, (q3 N (List.getElem?_eq_some_iff.1 h3).1 hN).trans h3⟩
  pad := by
    rintro s E x ⟨h1, h2, h3⟩
    exact ⟨Deep.frame h1 fun k q => List.getElem?_append_left (Deep.bd h1 q), hR E _ h2 fun k q _ => List.getElem?_append_left q, (List.getElem?_append_left (List.getElem?_eq_some_iff.1 h3).1).trans h3⟩
theorem d57 (x : GComplex) {r : GComplex} (hF : F57 x = some r) : ∃ v h', res A 57 [(eC x)] Heap.empty = some (v, h') ∧ ∃ K, Deep.rep h' v r K := by
  refine res_dp (f := p57) rfl rfl rfl fun e hl he => ?_
  have h0_0 : e.at 0 = (eC x) := he 0 _ rfl
  have hl_0 : e.length = 15 := hl
  clear he hl
  show W A b57 e ⟨[], 0⟩ _
  unfold F57 at hF
  obtain ⟨d, gd, hF⟩ := bS hF
  have wd := t96 x.Dims gd
  obtain ⟨o, go, hF⟩ := bS hF
  obtain ⟨ms, gt, hF⟩ := bS hF
  cases hF
  obtain ⟨_, ⟨E1, c1⟩, w1, e1, e2, m, K, rfl, t1, t2, t3, t4⟩ := d74 x.Prime d go [(0, none), (1, some [V.int .i64 0, V.nils, V.nils]), (2, some (d.map Enc.enc))] 3 (dk := 2) (du := 2) rfl
  simp only [List.length_cons, List.length_nil, Nat.zero_add, Nat.reduceAdd] at t2 t3 t4
  have m1 : E1[1]? = some (1, some [V.int .i64 0, V.nils, V.nils]) := t3 1 (by decide)
  have m2 : E1[2]? = some (2, some (d.map Enc.enc)) := t3 2 (by decide)
  obtain ⟨⟨E2, c2⟩, w2, q1, q2, q3⟩ := e85 (st57 o.Prime (V.sl 2 2 0 d.length 1) m E1.length c1 K (fun E => E[1]? = some (1, some [V.int .i64 0, V.nils, V.nils]) ∧ E[2]? = some (2, some (d.map Enc.enc))) (fun q => by have := Deep.bd t1 q; simp at this)
    (fun E E' h hk => ⟨(hk 1 (List.getElem?_eq_some_iff.1 h.1).1 (fun q => by have := t2 _ q; omega)).trans h.1, (hk 2 (List.getElem?_eq_some_iff.1 h.2).1 (fun q => by have := t2 _ q; omega)).trans h.2⟩)) x gt (E1 ++ [(c1, some [V.int .i64 o.Prime, V.sl 2 2 0 d.length 1, m])]) (c1 + 1) ⟨Deep.frame t1 fun k q => List.getElem?_append_left (Deep.bd t1 q), ⟨by rw [List.getElem?_append_left (by omega)]; exact m1, by rw [List.getElem?_append_left (by omega)]; exact m2⟩, get_last _ _⟩
  obtain ⟨q2, q4⟩ := q2
  simp only at q2 q3 q4
  simp only [simprocAttr, R0, opEv, fillV, mapO, mapS, b57, hl_0, h0_0, wd, w1, thaw_one, get_last, set_last, callM_plain_eq, w2, q2, q3]
  have hE0 : 1 < E2.length := (List.getElem?_eq_some_iff.1 q2).1
  refine And.intro (fun _ => trivial) ⟨V.agg [V.int .i64 o.Prime, V.sl 2 2 0 d.length 1, m], by simp only [simprocAttr, R0, fn_out, p57, Rs.ev, mapO, mapS, hl_0, set_app_key hE0], _, _, rfl, rec3 (K1 := fun k => k = 2) (K2 := K) ?_ (Deep.frame q1 fun k q => set_ne (by have := t2 _ q; omega)) (fun k p q => by have := t2 _ q; omega)⟩
  have hq : (E2.set 1 (1, some [V.int .i64 o.Prime, V.sl 2 2 0 d.length 1, m]))[2]? = some (2, some (d.map Enc.enc)) := (set_ne (by decide)).trans q4
  show Deep.rep _ _ o.Dims _
  rw [e2]
  exact int_row hq fun k => Iff.rfl
theorem x57 (x : GComplex) {r : GComplex} (hF : F57 x = some r) : tans A 57 [1, 1, 1] [(eC x)] = some (Enc.enc r) := tans_of_deep (α := GComplex) (by decide) (d57 x hF)
def F67 (a0 : Int) : Option Bool :=
  if a0 = 2 then
    some true
  else
    if a0 = 3 then
      some true
    else
      if a0 = 5 then
        some true
      else
        some (decide (a0 = 7))
theorem s67 (a0 : Int)   {r : Bool} (hF : F67 a0 = some r) : ans A 67 [V.int .i64 a0] = some (Enc.enc r) := by
  refine ans_of (f := p67) rfl rfl rfl fun e hl he => ?_
  have h0_0 : e.at 0 = V.int .i64 a0 := he 0 _ rfl
  have hl_0 : e.length = 17 := hl
  clear he hl
  have h_0 := And.intro hl_0 h0_0
  show W A b67 e ⟨[], 0⟩ _
  unfold F67 at hF
  by_cases c1 : a0 = 2
  · rw [if_pos c1] at hF
    cases hF
    simp only [simprocAttr, R0, opEv, fillV, mapO, mapS, b67, h_0, eq_true c1]
    exact fin_ret (by simp only [simprocAttr, R0, fn_out, p67, Rs.ev, mapO, mapS, take_len_self, h_0, eq_true c1])
  · rw [if_neg c1] at hF
    by_cases c2 : a0 = 3
    · rw [if_pos c2] at hF
      cases hF
      simp only [simprocAttr, R0, opEv, fillV, mapO, mapS, b67, h_0, eq_false c1, eq_true c2]
      exact fin_ret (by simp only [simprocAttr, R0, fn_out, p67, Rs.ev, mapO, mapS, take_len_self, h_0, eq_false c1, eq_true c2])
    · rw [if_neg c2] at hF
      by_cases c3 : a0 = 5
      · rw [if_pos c3] at hF
        cases hF
        simp only [simprocAttr, R0, opEv, fillV, mapO, mapS, b67, h_0, eq_false c1, eq_false c2, eq_true c3]
        exact fin_ret (by simp only [simprocAttr, R0, fn_out, p67, Rs.ev, mapO, mapS, take_len_self, h_0, eq_false c1, eq_false c2, eq_true c3])
      · rw [if_neg c3] at hF
        cases hF
        simp only [simprocAttr, R0, opEv, fillV, mapO, mapS, b67, h_0, eq_false c1, eq_false c2, eq_false c3]
        exact fin_ret (by simp only [simprocAttr, R0, fn_out, p67, Rs.ev, mapO, mapS, take_len_self, h_0, eq_false c1, eq_false c2, eq_false c3])
def F115_1_B (a0 : List Int) (f1 : Int → Option Bool) (v8_1 : Int) (s : Unit) : Option ((Unit) ⊕ ((Unit) ⊕ Int)) :=
  (getI a0 v8_1).bind fun x4 =>
(f1 x4).bind fun x6 =>
if x6 = true then
  some (.inr (.inr v8_1))
else
  some (.inl ())
def F115_1_D (a0 : List Int) (f1 : Int → Option Bool) (v8_1 : Int) (s : Unit) : Option ((Unit) ⊕ Int) :=
  some (.inl ())
def F115 (a0 : List Int) (f1 : Int → Option Bool) : Option Int :=
  (forR 0 (a0.length : Int) (F115_1_B a0 f1) (F115_1_D a0 f1) ()).bind fun t8 => match t8 with
    | .inl _ =>
      some (-1)
    | .inr r9 => some r9
def I115_1 (a0 : List Int) (f1 : Int → Option Bool) (vf1 : V) (v8_1 : Int) (s : Unit) (e : Env) (h : Heap) : Prop :=
  ∃ k2 : Nat, h = ⟨[], k2⟩ ∧ e.length = 19 ∧ e.at 0 = V.isl (a0.map Enc.enc) ∧ e.at 1 = vf1 ∧ e.at 7 = V.int .i64 (a0.length : Int) ∧ e.at 8 = V.int .i64 v8_1
def P115_1 (a0 : List Int) (f1 : Int → Option Bool) (vf1 : V) (t : (Unit) ⊕ Int) (x : Ex) (e : Env) (h : Heap) : Prop :=
  match t with
  | .inl _ => x = .normal ∧ ∃ k2 : Nat, h = ⟨[], k2⟩ ∧ e.length = 19
  | .inr r => x = .ret ∧ Fin p115 (Enc.enc r) .ret e h
theorem l115_1 (a0 : List Int) (f1 : Int → Option Bool) (vf1 : V) (hf1 : Clo1 A vf1 f1) {lo : Int} {s : Unit} {t : (Unit) ⊕ Int} (hF : forR lo (a0.length : Int) (F115_1_B a0 f1) (F115_1_D a0 f1) s = some t) {e : Env} {h : Heap} (hI : I115_1 a0 f1 vf1 lo s e h) : W A c115_1 e h (P115_1 a0 f1 vf1 t) := by
  obtain ⟨g_f1, fs_f1, cs_f1, hv_f1, hc_f1⟩ := id hf1
  show W A (.block 0 (.loop false b115_1)) e h _
  rw [W_block]
  refine W_forR hF 0 (by obtain ⟨_, rfl, _⟩ := hI; rfl) (I115_1 a0 f1 vf1) hI ?_ ?_
  · rintro v8_1 _ e h ⟨k2, rfl, h_1⟩ hlt hw o ho
    unfold F115_1_B at ho
    obtain ⟨x4, gx4, ho⟩ := bS ho
    obtain ⟨w5a, w5b⟩ := getI_w gx4
    obtain ⟨x6, gx6, ho⟩ := bS ho
    have w7a : ∀ h, mapO (frz h 16) (fs_f1 ++ [V.int .i64 x4] ++ cs_f1) = some (fs_f1 ++ [V.int .i64 x4] ++ cs_f1) := fun h => hc_f1.zf x4 h
    have w7b : List.all (fs_f1 ++ [V.int .i64 x4] ++ cs_f1) (refless 16) = true := hc_f1.zr x4
    have w7c : ans A g_f1 (fs_f1 ++ [V.int .i64 x4] ++ cs_f1) = some (V.bool x6) := hc_f1.ka x4 _ gx6
    cases x6 with
    | true =>
      rw [if_pos rfl] at ho
      cases ho
      simp only [simprocAttr, R0, opEv, fillV, mapO, mapS, b115_1, h_1, eq_true hlt, hw, w5a, w5b, hv_f1, w7a, w7b, w7c]
      intro ht; subst ht
      simp only [simprocAttr, RR, RB]
      exact And.intro rfl (fin_ret (by simp only [simprocAttr, R0, fn_out, p115, Rs.ev, mapO, mapS, take_len_self, h_1, eq_true hlt, hw, w5a, w5b, hv_f1, w7a, w7b, w7c]))
    | false =>
      rw [if_neg Bool.false_ne_true] at ho
      cases ho
      simp only [simprocAttr, R0, opEv, fillV, mapO, mapS, b115_1, h_1, eq_true hlt, hw, w5a, w5b, hv_f1, w7a, w7b, w7c]
      refine And.intro rfl (Exists.intro _ ( And.intro rfl ?_))
      simp only [simprocAttr, R0, h_1, eq_true hlt, hw, w5a, w5b, hv_f1, w7a, w7b, w7c]
  · rintro v8_1 _ e h ⟨k2, rfl, h_1⟩ hge t1 ho
    unfold F115_1_D at ho
    cases ho
    simp only [simprocAttr, R0, opEv, fillV, mapO, mapS, b115_1, h_1, eq_false hge]
    intro ht; subst ht
    refine And.intro rfl (Exists.intro _ ( And.intro rfl ?_))
    simp only [simprocAttr, R0, h_1, eq_false hge]
theorem s115 (a0 : List Int) (f1 : Int → Option Bool) {vf1 : V} (hf1 : Clo1 A vf1 f1) {r : Int} (hF : F115 a0 f1 = some r) : ans A 115 [V.isl (a0.map Enc.enc), vf1] = some (Enc.enc r) := by
  refine ans_of (f := p115) rfl rfl rfl fun e hl he => ?_
  have h0_0 : e.at 0 = V.isl (a0.map Enc.enc) := he 0 _ rfl
  have h1_0 : e.at 1 = vf1 := he 1 _ rfl
  obtain ⟨g_f1, fs_f1, cs_f1, hv_f1, hc_f1⟩ := id hf1
  have hl_0 : e.length = 19 := hl
  clear he hl
  have h_0 := And.intro hl_0 (And.intro h0_0 h1_0)
  show W A b115 e ⟨[], 0⟩ _
  unfold F115 at hF
  obtain ⟨t8, gt8, hF⟩ := bS hF
  rcases t8 with _ | r9
  · dsimp only at hF
    simp only [simprocAttr, R0, opEv, fillV, mapO, mapS, b115, h_0]
    refine W.mono (l115_1 a0 f1 vf1 hf1 gt8 (Exists.intro _ ( And.intro rfl ?_))) ?_
    · simp only [simprocAttr, R0, h_0]
    rintro _ e _ ⟨rfl, k2, rfl, hl_3⟩
    cases hF
    simp only [simprocAttr, R0, opEv, fillV, mapO, mapS, hl_3]
    exact fin_ret (by simp only [simprocAttr, R0, fn_out, p115, Rs.ev, mapO, mapS, take_len_self, hl_3])
  · dsimp only at hF
    cases hF
    simp only [simprocAttr, R0, opEv, fillV, mapO, mapS, b115, h_0]
    refine W.mono (l115_1 a0 f1 vf1 hf1 gt8 (Exists.intro _ ( And.intro rfl ?_))) ?_
    · simp only [simprocAttr, R0, h_0]
    rintro _ e h ⟨rfl, hq⟩
    simp only [simprocAttr, RR, RB]
    exact hq
def F82 (a0 : List Int) (f1 : Int → Option Bool) : Option Bool :=
  (F115 a0 f1).bind fun x1 =>
  some (decide (0 ≤ x1))
theorem s82 (a0 : List Int) (f1 : Int → Option Bool) {vf1 : V} (hf1 : Clo1 A vf1 f1) {r : Bool} (hF : F82 a0 f1 = some r) : ans A 82 [V.isl (a0.map Enc.enc), vf1] = some (Enc.enc r) := by
  refine ans_of (f := p82) rfl rfl rfl fun e hl he => ?_
  have h0_0 : e.at 0 = V.isl (a0.map Enc.enc) := he 0 _ rfl
  have h1_0 : e.at 1 = vf1 := he 1 _ rfl
  obtain ⟨g_f1, fs_f1, cs_f1, hv_f1, hc_f1⟩ := id hf1
  have hl_0 : e.length = 9 := hl
  clear he hl
  show W A b82 e ⟨[], 0⟩ _
  unfold F82 at hF
  obtain ⟨x1, gx1, hF⟩ := bS hF
  have w2 : ans A 115 [V.isl (a0.map Enc.enc), vf1] = some (V.int .i64 x1) := s115 a0 f1 hf1 gx1
  cases hF
  simp only [simprocAttr, R0, opEv, fillV, mapO, mapS, b82, hl_0, h0_0, h1_0, hf1.fz, hf1.rl, w2]
  exact fin_ret (by simp only [simprocAttr, R0, fn_out, p82, Rs.ev, mapO, mapS, take_len_self, hl_0, h0_0, h1_0, hf1.fz, hf1.rl, w2])
def F89 (a0 : List (List Int)) : Option Int :=
  some (a0.length : Int)
theorem s89 (a0 : List (List Int))   {r : Int} (hF : F89 a0 = some r) : ans A 89 [V.isl (a0.map Enc.enc)] = some (Enc.enc r) := by
  refine ans_of (f := p89) rfl rfl rfl fun e hl he => ?_
  have h0_0 : e.at 0 = V.isl (a0.map Enc.enc) := he 0 _ rfl
  have hl_0 : e.length = 5 := hl
  clear he hl
  show W A b89 e ⟨[], 0⟩ _
  unfold F89 at hF
  cases hF
  simp only [simprocAttr, R0, opEv, fillV, mapO, mapS, b89, hl_0, h0_0]
  exact fin_ret (by simp only [simprocAttr, R0, fn_out, p89, Rs.ev, mapO, mapS, take_len_self, hl_0, h0_0])
def F239 (a0 : GDouble) : Option Int :=
  some (a0.Dims.length : Int)
theorem s239 (a0 : GDouble)   {r : Int} (hF : F239 a0 = some r) : ans A 239 [V.agg [V.int .i64 a0.Prime, V.isl (a0.Dims.map Enc.enc), V.isl (a0.Across.map Enc.enc), V.isl (a0.Down.map Enc.enc)]] = some (Enc.enc r) := by
  refine ans_of (f := p239) rfl rfl rfl fun e hl he => ?_
  have h0_0 : e.at 0 = V.agg [V.int .i64 a0.Prime, V.isl (a0.Dims.map Enc.enc), V.isl (a0.Across.map Enc.enc), V.isl (a0.Down.map Enc.enc)] := he 0 _ rfl
  have hl_0 : e.length = 6 := hl
  clear he hl
  show W A b239 e ⟨[], 0⟩ _
  unfold F239 at hF
  have w2 : ans A 89 [V.isl (a0.Dims.map Enc.enc)] = some (V.int .i64 (a0.Dims.length : Int)) := s89 a0.Dims  rfl
  cases hF
  simp only [simprocAttr, R0, opEv, fillV, mapO, mapS, b239, hl_0, h0_0, w2]
  exact fin_ret (by simp only [simprocAttr, R0, fn_out, p239, Rs.ev, mapO, mapS, take_len_self, hl_0, h0_0, w2])
def F263 (a0 : GDouble) : Option Int :=
  (getI a0.Dims 0).bind fun x1 =>
  some (x1.length : Int)
theorem s263 (a0 : GDouble)   {r : Int} (hF : F263 a0 = some r) : ans A 263 [V.agg [V.int .i64 a0.Prime, V.isl (a0.Dims.map Enc.enc), V.isl (a0.Across.map Enc.enc), V.isl (a0.Down.map Enc.enc)]] = some (Enc.enc r) := by
  refine ans_of (f := p263) rfl rfl rfl fun e hl he => ?_
  have h0_0 : e.at 0 = V.agg [V.int .i64 a0.Prime, V.isl (a0.Dims.map Enc.enc), V.isl (a0.Across.map Enc.enc), V.isl (a0.Down.map Enc.enc)] := he 0 _ rfl
  have hl_0 : e.length = 8 := hl
  clear he hl
  show W A b263 e ⟨[], 0⟩ _
  unfold F263 at hF
  obtain ⟨x1, gx1, hF⟩ := bS hF
  obtain ⟨w2a, w2b⟩ := getI_w gx1
  replace w2b : a0.Dims[0]? = some x1 := w2b
  have w4 : ans A 73 [V.isl (x1.map Enc.enc)] = some (V.int .i64 (x1.length : Int)) := s73 x1  rfl
  cases hF
  simp only [simprocAttr, R0, opEv, fillV, mapO, mapS, b263, hl_0, h0_0, w2a, w2b, w4]
  exact fin_ret (by simp only [simprocAttr, R0, fn_out, p263, Rs.ev, mapO, mapS, take_len_self, hl_0, h0_0, w2a, w2b, w4])
def F264 (a0 : Int) : Option Bool :=
  (F56 a0 0 4).bind fun x1 =>
  some (!x1)
theorem s264 (a0 : Int)   {r : Bool} (hF : F264 a0 = some r) : ans A 264 [V.int .i64 a0] = some (Enc.enc r) := by
  refine ans_of (f := p264) rfl rfl rfl fun e hl he => ?_
  have h0_0 : e.at 0 = V.int .i64 a0 := he 0 _ rfl
  have hl_0 : e.length = 6 := hl
  clear he hl
  show W A b264 e ⟨[], 0⟩ _
  unfold F264 at hF
  obtain ⟨x1, gx1, hF⟩ := bS hF
  have w2 : ans A 56 [V.int .i64 a0, V.int .i64 0, V.int .i64 4] = some (V.bool x1) := s56 a0 0 4  gx1
  cases hF
  simp only [simprocAttr, R0, opEv, fillV, mapO, mapS, b264, hl_0, h0_0, w2]
  exact fin_ret (by simp only [simprocAttr, R0, fn_out, p264, Rs.ev, mapO, mapS, take_len_self, hl_0, h0_0, w2])
def F299 (a0 : GDouble) (a1 : Int) (a2 : Int) : Option Int :=
  (F239 a0).bind fun x1 =>
  (chk (x1 - 1)).bind fun x3 =>
  (F56 a1 0 x3).bind fun x4 =>
  if x4 = true then
    (F263 a0).bind fun x6 =>
    (chk (x6 - 1)).bind fun x8 =>
    (F56 a2 0 x8).bind fun x9 =>
    if x9 = true then
      (getI a0.Dims a1).bind fun x11 =>
      (getI x11 a2).bind fun x13 =>
      some x13
    else
      some 0
  else
    some 0
theorem s299 (a0 : GDouble) (a1 : Int) (a2 : Int)   {r : Int} (hF : F299 a0 a1 a2 = some r) : ans A 299 [V.agg [V.int .i64 a0.Prime, V.isl (a0.Dims.map Enc.enc), V.isl (a0.Across.map Enc.enc), V.isl (a0.Down.map Enc.enc)], V.int .i64 a1, V.int .i64 a2] = some (Enc.enc r) := by
  refine ans_of (f := p299) rfl rfl rfl fun e hl he => ?_
  have h0_0 : e.at 0 = V.agg [V.int .i64 a0.Prime, V.isl (a0.Dims.map Enc.enc), V.isl (a0.Across.map Enc.enc), V.isl (a0.Down.map Enc.enc)] := he 0 _ rfl
  have h1_0 : e.at 1 = V.int .i64 a1 := he 1 _ rfl
  have h2_0 : e.at 2 = V.int .i64 a2 := he 2 _ rfl
  have hl_0 : e.length = 29 := hl
  clear he hl
  have h_0 := And.intro hl_0 (And.intro h0_0 (And.intro h1_0 h2_0))
  show W A b299 e ⟨[], 0⟩ _
  unfold F299 at hF
  obtain ⟨x1, gx1, hF⟩ := bS hF
  have w2 : ans A 239 [V.agg [V.int .i64 a0.Prime, V.isl (a0.Dims.map Enc.enc), V.isl (a0.Across.map Enc.enc), V.isl (a0.Down.map Enc.enc)]] = some (V.int .i64 x1) := s239 a0  gx1
  obtain ⟨x3, gx3, hF⟩ := bS hF
  have wx3 := chk_w gx3
  obtain ⟨x4, gx4, hF⟩ := bS hF
  have w5 : ans A 56 [V.int .i64 a1, V.int .i64 0, V.int .i64 x3] = some (V.bool x4) := s56 a1 0 x3  gx4
  cases x4 with
  | true =>
    rw [if_pos rfl] at hF
    obtain ⟨x6, gx6, hF⟩ := bS hF
    have w7 : ans A 263 [V.agg [V.int .i64 a0.Prime, V.isl (a0.Dims.map Enc.enc), V.isl (a0.Across.map Enc.enc), V.isl (a0.Down.map Enc.enc)]] = some (V.int .i64 x6) := s263 a0  gx6
    obtain ⟨x8, gx8, hF⟩ := bS hF
    have wx8 := chk_w gx8
    obtain ⟨x9, gx9, hF⟩ := bS hF
    have w10 : ans A 56 [V.int .i64 a2, V.int .i64 0, V.int .i64 x8] = some (V.bool x9) := s56 a2 0 x8  gx9
    cases x9 with
    | true =>
      rw [if_pos rfl] at hF
      obtain ⟨x11, gx11, hF⟩ := bS hF
      obtain ⟨w12a, w12b⟩ := getI_w gx11
      obtain ⟨x13, gx13, hF⟩ := bS hF
      obtain ⟨w14a, w14b⟩ := getI_w gx13
      cases hF
      simp only [simprocAttr, R0, opEv, fillV, mapO, mapS, b299, h_0, w2, wx3, w5, w7, wx8, w10, w12a, w12b, w14a, w14b]
      exact fin_ret (by simp only [simprocAttr, R0, fn_out, p299, Rs.ev, mapO, mapS, take_len_self, h_0, w2, wx3, w5, w7, wx8, w10, w12a, w12b, w14a, w14b])
    | false =>
      rw [if_neg Bool.false_ne_true] at hF
      cases hF
      simp only [simprocAttr, R0, opEv, fillV, mapO, mapS, b299, h_0, w2, wx3, w5, w7, wx8, w10]
      exact fin_ret (by simp only [simprocAttr, R0, fn_out, p299, Rs.ev, mapO, mapS, take_len_self, h_0, w2, wx3, w5, w7, wx8, w10])
  | false =>
    rw [if_neg Bool.false_ne_true] at hF
    cases hF
    simp only [simprocAttr, R0, opEv, fillV, mapO, mapS, b299, h_0, w2, wx3, w5]
    exact fin_ret (by simp only [simprocAttr, R0, fn_out, p299, Rs.ev, mapO, mapS, take_len_self, h_0, w2, wx3, w5])
def F265 (a0 : Int) (a1 : Int) (d0 : GDouble) : Option Int :=
  (chk (a0 - 1)).bind fun x1 =>
  (F299 d0 x1 a1).bind fun x2 =>
  some x2
theorem s265 (a0 : Int) (a1 : Int) (d0 : GDouble)   {r : Int} (hF : F265 a0 a1 d0 = some r) : ans A 265 [V.int .i64 a0, V.int .i64 a1, V.iptr [V.int .i64 d0.Prime, V.isl (d0.Dims.map Enc.enc), V.isl (d0.Across.map Enc.enc), V.isl (d0.Down.map Enc.enc)]] = some (Enc.enc r) := by
  refine ans_of (f := p265) rfl rfl rfl fun e hl he => ?_
  have h0_0 : e.at 0 = V.int .i64 a0 := he 0 _ rfl
  have h1_0 : e.at 1 = V.int .i64 a1 := he 1 _ rfl
  have h2_0 : e.at 2 = V.iptr [V.int .i64 d0.Prime, V.isl (d0.Dims.map Enc.enc), V.isl (d0.Across.map Enc.enc), V.isl (d0.Down.map Enc.enc)] := he 2 _ rfl
  have hl_0 : e.length = 11 := hl
  clear he hl
  show W A b265 e ⟨[], 0⟩ _
  unfold F265 at hF
  obtain ⟨x1, gx1, hF⟩ := bS hF
  have wx1 := chk_w gx1
  obtain ⟨x2, gx2, hF⟩ := bS hF
  have w3 : ans A 299 [V.agg [V.int .i64 d0.Prime, V.isl (d0.Dims.map Enc.enc), V.isl (d0.Across.map Enc.enc), V.isl (d0.Down.map Enc.enc)], V.int .i64 x1, V.int .i64 a1] = some (V.int .i64 x2) := s299 d0 x1 a1  gx2
  cases hF
  simp only [simprocAttr, R0, opEv, fillV, mapO, mapS, b265, hl_0, h0_0, h1_0, h2_0, wx1, w3]
  exact fin_ret (by simp only [simprocAttr, R0, fn_out, p265, Rs.ev, mapO, mapS, take_len_self, hl_0, h0_0, h1_0, h2_0, wx1, w3])
def F266 (a0 : Int) (a1 : Int) (d0 : GDouble) : Option Int :=
  (chk (a1 - 1)).bind fun x1 =>
  (F299 d0 a0 x1).bind fun x2 =>
  some x2
theorem s266 (a0 : Int) (a1 : Int) (d0 : GDouble)   {r : Int} (hF : F266 a0 a1 d0 = some r) : ans A 266 [V.int .i64 a0, V.int .i64 a1, V.iptr [V.int .i64 d0.Prime, V.isl (d0.Dims.map Enc.enc), V.isl (d0.Across.map Enc.enc), V.isl (d0.Down.map Enc.enc)]] = some (Enc.enc r) := by
  refine ans_of (f := p266) rfl rfl rfl fun e hl he => ?_
  have h0_0 : e.at 0 = V.int .i64 a0 := he 0 _ rfl
  have h1_0 : e.at 1 = V.int .i64 a1 := he 1 _ rfl
  have h2_0 : e.at 2 = V.iptr [V.int .i64 d0.Prime, V.isl (d0.Dims.map Enc.enc), V.isl (d0.Across.map Enc.enc), V.isl (d0.Down.map Enc.enc)] := he 2 _ rfl
  have hl_0 : e.length = 11 := hl
  clear he hl
  show W A b266 e ⟨[], 0⟩ _
  unfold F266 at hF
  obtain ⟨x1, gx1, hF⟩ := bS hF
  have wx1 := chk_w gx1
  obtain ⟨x2, gx2, hF⟩ := bS hF
  have w3 : ans A 299 [V.agg [V.int .i64 d0.Prime, V.isl (d0.Dims.map Enc.enc), V.isl (d0.Across.map Enc.enc), V.isl (d0.Down.map Enc.enc)], V.int .i64 a0, V.int .i64 x1] = some (V.int .i64 x2) := s299 d0 a0 x1  gx2
  cases hF
  simp only [simprocAttr, R0, opEv, fillV, mapO, mapS, b266, hl_0, h0_0, h1_0, h2_0, wx1, w3]
  exact fin_ret (by simp only [simprocAttr, R0, fn_out, p266, Rs.ev, mapO, mapS, take_len_self, hl_0, h0_0, h1_0, h2_0, wx1, w3])
def F130 (a0 : Int) (d0 : Int) : Option Bool :=
  (chk (d0 - 1)).bind fun x1 =>
  (F56 a0 0 x1).bind fun x2 =>
  some (!x2)
theorem s130 (a0 : Int) (d0 : Int)   {r : Bool} (hF : F130 a0 d0 = some r) : ans A 130 [V.int .i64 a0, V.iptr [V.int .i64 d0]] = some (Enc.enc r) := by
  refine ans_of (f := p130) rfl rfl rfl fun e hl he => ?_
  have h0_0 : e.at 0 = V.int .i64 a0 := he 0 _ rfl
  have h1_0 : e.at 1 = V.iptr [V.int .i64 d0] := he 1 _ rfl
  have hl_0 : e.length = 9 := hl
  clear he hl
  show W A b130 e ⟨[], 0⟩ _
  unfold F130 at hF
  obtain ⟨x1, gx1, hF⟩ := bS hF
  have wx1 := chk_w gx1
  obtain ⟨x2, gx2, hF⟩ := bS hF
  have w3 : ans A 56 [V.int .i64 a0, V.int .i64 0, V.int .i64 x1] = some (V.bool x2) := s56 a0 0 x1  gx2
  cases hF
  simp only [simprocAttr, R0, opEv, fillV, mapO, mapS, b130, hl_0, h0_0, h1_0, wx1, w3]
  exact fin_ret (by simp only [simprocAttr, R0, fn_out, p130, Rs.ev, mapO, mapS, take_len_self, hl_0, h0_0, h1_0, wx1, w3])
def F129 (a0 : Int) (a1 : Int) (a2 : List Int) : Option Bool :=
  if (a2.length : Int) = a1 then
    (F82 a2 (fun x => F130 x a0)).bind fun x4 =>
    some (!x4)
  else
    some false
theorem s129 (a0 : Int) (a1 : Int) (a2 : List Int)   {r : Bool} (hF : F129 a0 a1 a2 = some r) : ans A 129 [V.int .i64 a0, V.int .i64 a1, V.isl (a2.map Enc.enc)] = some (Enc.enc r) := by
  refine ans_of (f := p129) rfl rfl rfl fun e hl he => ?_
  have h0_0 : e.at 0 = V.int .i64 a0 := he 0 _ rfl
  have h1_0 : e.at 1 = V.int .i64 a1 := he 1 _ rfl
  have h2_0 : e.at 2 = V.isl (a2.map Enc.enc) := he 2 _ rfl
  have hl_0 : e.length = 17 := hl
  clear he hl
  have h_0 := And.intro hl_0 (And.intro h0_0 (And.intro h1_0 h2_0))
  show W A b129 e ⟨[], 0⟩ _
  unfold F129 at hF
  have w2 : ans A 73 [V.isl (a2.map Enc.enc)] = some (V.int .i64 (a2.length : Int)) := s73 a2  rfl
  by_cases c3 : (a2.length : Int) = a1
  · rw [if_pos c3] at hF
    obtain ⟨x4, gx4, hF⟩ := bS hF
    have w5 : ans A 82 [V.isl (a2.map Enc.enc), V.fn 130 [] [V.iptr [V.int .i64 a0]]] = some (V.bool x4) := s82 a2 (fun x => F130 x a0) (Clo1.of (by intro h f; simp only [RZ, mapO]) (by intro h f; simp only [RZ, mapO]) (by intro f; simp only [RZ, RB]) (by intro f; simp only [RZ, RB]) (fun x _ hr => s130 x a0 hr)) gx4
    cases hF
    simp only [simprocAttr, R0, opEv, fillV, mapO, mapS, b129, h_0, w2, eq_true c3, w5]
    exact fin_ret (by simp only [simprocAttr, R0, fn_out, p129, Rs.ev, mapO, mapS, take_len_self, h_0, w2, eq_true c3, w5])
  · rw [if_neg c3] at hF
    cases hF
    simp only [simprocAttr, R0, opEv, fillV, mapO, mapS, b129, h_0, w2, eq_false c3]
    exact fin_ret (by simp only [simprocAttr, R0, fn_out, p129, Rs.ev, mapO, mapS, take_len_self, h_0, w2, eq_false c3])
def F116 (a0 : List Int) (d0 : Int) (d1 : Int) : Option Bool :=
  (F129 d0 d1 a0).bind fun x1 =>
  some (!x1)
theorem s116 (a0 : List Int) (d0 : Int) (d1 : Int)   {r : Bool} (hF : F116 a0 d0 d1 = some r) : ans A 116 [V.isl (a0.map Enc.enc), V.iptr [V.int .i64 d0], V.iptr [V.int .i64 d1]] = some (Enc.enc r) := by
  refine ans_of (f := p116) rfl rfl rfl fun e hl he => ?_
  have h0_0 : e.at 0 = V.isl (a0.map Enc.enc) := he 0 _ rfl
  have h1_0 : e.at 1 = V.iptr [V.int .i64 d0] := he 1 _ rfl
  have h2_0 : e.at 2 = V.iptr [V.int .i64 d1] := he 2 _ rfl
  have hl_0 : e.length = 10 := hl
  clear he hl
  show W A b116 e ⟨[], 0⟩ _
  unfold F116 at hF
  obtain ⟨x1, gx1, hF⟩ := bS hF
  have w2 : ans A 129 [V.int .i64 d0, V.int .i64 d1, V.isl (a0.map Enc.enc)] = some (V.bool x1) := s129 d0 d1 a0  gx1
  cases hF
  simp only [simprocAttr, R0, opEv, fillV, mapO, mapS, b116, hl_0, h0_0, h1_0, h2_0, w2]
  exact fin_ret (by simp only [simprocAttr, R0, fn_out, p116, Rs.ev, mapO, mapS, take_len_self, hl_0, h0_0, h1_0, h2_0, w2])
def F128_1_B (a0 : List (List Int)) (f1 : (List Int) → Option Bool) (v8_1 : Int) (s : Unit) : Option ((Unit) ⊕ ((Unit) ⊕ Int)) :=
  (getI a0 v8_1).bind fun x4 =>
(f1 x4).bind fun x6 =>
if x6 = true then
  some (.inr (.inr v8_1))
else
  some (.inl ())
def F128_1_D (a0 : List (List Int)) (f1 : (List Int) → Option Bool) (v8_1 : Int) (s : Unit) : Option ((Unit) ⊕ Int) :=
  some (.inl ())
def F128 (a0 : List (List Int)) (f1 : (List Int) → Option Bool) : Option Int :=
  (forR 0 (a0.length : Int) (F128_1_B a0 f1) (F128_1_D a0 f1) ()).bind fun t8 => match t8 with
    | .inl _ =>
      some (-1)
    | .inr r9 => some r9
def I128_1 (a0 : List (List Int)) (f1 : (List Int) → Option Bool) (vf1 : V) (v8_1 : Int) (s : Unit) (e : Env) (h : Heap) : Prop :=
  ∃ k2 : Nat, h = ⟨[], k2⟩ ∧ e.length = 19 ∧ e.at 0 = V.isl (a0.map Enc.enc) ∧ e.at 1 = vf1 ∧ e.at 7 = V.int .i64 (a0.length : Int) ∧ e.at 8 = V.int .i64 v8_1
def P128_1 (a0 : List (List Int)) (f1 : (List Int) → Option Bool) (vf1 : V) (t : (Unit) ⊕ Int) (x : Ex) (e : Env) (h : Heap) : Prop :=
  match t with
  | .inl _ => x = .normal ∧ ∃ k2 : Nat, h = ⟨[], k2⟩ ∧ e.length = 19
  | .inr r => x = .ret ∧ Fin p128 (Enc.enc r) .ret e h
theorem l128_1 (a0 : List (List Int)) (f1 : (List Int) → Option Bool) (vf1 : V) (hf1 : Clo1 A vf1 f1) {lo : Int} {s : Unit} {t : (Unit) ⊕ Int} (hF : forR lo (a0.length : Int) (F128_1_B a0 f1) (F128_1_D a0 f1) s = some t) {e : Env} {h : Heap} (hI : I128_1 a0 f1 vf1 lo s e h) : W A c128_1 e h (P128_1 a0 f1 vf1 t) := by
  obtain ⟨g_f1, fs_f1, cs_f1, hv_f1, hc_f1⟩ := id hf1
  show W A (.block 0 (.loop false b128_1)) e h _
  rw [W_block]
  refine W_forR hF 0 (by obtain ⟨_, rfl, _⟩ := hI; rfl) (I128_1 a0 f1 vf1) hI ?_ ?_
  · rintro v8_1 _ e h ⟨k2, rfl, h_1⟩ hlt hw o ho
    unfold F128_1_B at ho
    obtain ⟨x4, gx4, ho⟩ := bS ho
    obtain ⟨w5a, w5b⟩ := getI_w gx4
    obtain ⟨x6, gx6, ho⟩ := bS ho
    have w7a : ∀ h, mapO (frz h 16) (fs_f1 ++ [V.isl (x4.map Enc.enc)] ++ cs_f1) = some (fs_f1 ++ [V.isl (x4.map Enc.enc)] ++ cs_f1) := fun h => hc_f1.zf x4 h
    have w7b : List.all (fs_f1 ++ [V.isl (x4.map Enc.enc)] ++ cs_f1) (refless 16) = true := hc_f1.zr x4
    have w7c : ans A g_f1 (fs_f1 ++ [V.isl (x4.map Enc.enc)] ++ cs_f1) = some (V.bool x6) := hc_f1.ka x4 _ gx6
    cases x6 with
    | true =>
      rw [if_pos rfl] at ho
      cases ho
      simp only [simprocAttr, R0, opEv, fillV, mapO, mapS, b128_1, h_1, eq_true hlt, hw, w5a, w5b, hv_f1, w7a, w7b, w7c]
      intro ht; subst ht
      simp only [simprocAttr, RR, RB]
      exact And.intro rfl (fin_ret (by simp only [simprocAttr, R0, fn_out, p128, Rs.ev, mapO, mapS, take_len_self, h_1, eq_true hlt, hw, w5a, w5b, hv_f1, w7a, w7b, w7c]))
    | false =>
      rw [if_neg Bool.false_ne_true] at ho
      cases ho
      simp only [simprocAttr, R0, opEv, fillV, mapO, mapS, b128_1, h_1, eq_true hlt, hw, w5a, w5b, hv_f1, w7a, w7b, w7c]
      refine And.intro rfl (Exists.intro _ ( And.intro rfl ?_))
      simp only [simprocAttr, R0, h_1, eq_true hlt, hw, w5a, w5b, hv_f1, w7a, w7b, w7c]
  · rintro v8_1 _ e h ⟨k2, rfl, h_1⟩ hge t1 ho
    unfold F128_1_D at ho
    cases ho
    simp only [simprocAttr, R0, opEv, fillV, mapO, mapS, b128_1, h_1, eq_false hge]
    intro ht; subst ht
    refine And.intro rfl (Exists.intro _ ( And.intro rfl ?_))
    simp only [simprocAttr, R0, h_1, eq_false hge]
theorem s128 (a0 : List (List Int)) (f1 : (List Int) → Option Bool) {vf1 : V} (hf1 : Clo1 A vf1 f1) {r : Int} (hF : F128 a0 f1 = some r) : ans A 128 [V.isl (a0.map Enc.enc), vf1] = some (Enc.enc r) := by
  refine ans_of (f := p128) rfl rfl rfl fun e hl he => ?_
  have h0_0 : e.at 0 = V.isl (a0.map Enc.enc) := he 0 _ rfl
  have h1_0 : e.at 1 = vf1 := he 1 _ rfl
  obtain ⟨g_f1, fs_f1, cs_f1, hv_f1, hc_f1⟩ := id hf1
  have hl_0 : e.length = 19 := hl
  clear he hl
  have h_0 := And.intro hl_0 (And.intro h0_0 h1_0)
  show W A b128 e ⟨[], 0⟩ _
  unfold F128 at hF
  obtain ⟨t8, gt8, hF⟩ := bS hF
  rcases t8 with _ | r9
  · dsimp only at hF
    simp only [simprocAttr, R0, opEv, fillV, mapO, mapS, b128, h_0]
    refine W.mono (l128_1 a0 f1 vf1 hf1 gt8 (Exists.intro _ ( And.intro rfl ?_))) ?_
    · simp only [simprocAttr, R0, h_0]
    rintro _ e _ ⟨rfl, k2, rfl, hl_3⟩
    cases hF
    simp only [simprocAttr, R0, opEv, fillV, mapO, mapS, hl_3]
    exact fin_ret (by simp only [simprocAttr, R0, fn_out, p128, Rs.ev, mapO, mapS, take_len_self, hl_3])
  · dsimp only at hF
    cases hF
    simp only [simprocAttr, R0, opEv, fillV, mapO, mapS, b128, h_0]
    refine W.mono (l128_1 a0 f1 vf1 hf1 gt8 (Exists.intro _ ( And.intro rfl ?_))) ?_
    · simp only [simprocAttr, R0, h_0]
    rintro _ e h ⟨rfl, hq⟩
    simp only [simprocAttr, RR, RB]
    exact hq
def F117 (a0 : List (List Int)) (f1 : (List Int) → Option Bool) : Option Bool :=
  (F128 a0 f1).bind fun x1 =>
  some (decide (0 ≤ x1))
theorem s117 (a0 : List (List Int)) (f1 : (List Int) → Option Bool) {vf1 : V} (hf1 : Clo1 A vf1 f1) {r : Bool} (hF : F117 a0 f1 = some r) : ans A 117 [V.isl (a0.map Enc.enc), vf1] = some (Enc.enc r) := by
  refine ans_of (f := p117) rfl rfl rfl fun e hl he => ?_
  have h0_0 : e.at 0 = V.isl (a0.map Enc.enc) := he 0 _ rfl
  have h1_0 : e.at 1 = vf1 := he 1 _ rfl
  obtain ⟨g_f1, fs_f1, cs_f1, hv_f1, hc_f1⟩ := id hf1
  have hl_0 : e.length = 9 := hl
  clear he hl
  show W A b117 e ⟨[], 0⟩ _
  unfold F117 at hF
  obtain ⟨x1, gx1, hF⟩ := bS hF
  have w2 : ans A 128 [V.isl (a0.map Enc.enc), vf1] = some (V.int .i64 x1) := s128 a0 f1 hf1 gx1
  cases hF
  simp only [simprocAttr, R0, opEv, fillV, mapO, mapS, b117, hl_0, h0_0, h1_0, hf1.fz, hf1.rl, w2]
  exact fin_ret (by simp only [simprocAttr, R0, fn_out, p117, Rs.ev, mapO, mapS, take_len_self, hl_0, h0_0, h1_0, hf1.fz, hf1.rl, w2])
def F90 (a0 : Int) (a1 : Int) (a2 : List (List Int)) : Option Bool :=
  (F117 a2 (fun x => F116 x a0 a1)).bind fun x1 =>
  some (!x1)
theorem s90 (a0 : Int) (a1 : Int) (a2 : List (List Int))   {r : Bool} (hF : F90 a0 a1 a2 = some r) : ans A 90 [V.int .i64 a0, V.int .i64 a1, V.isl (a2.map Enc.enc)] = some (Enc.enc r) := by
  refine ans_of (f := p90) rfl rfl rfl fun e hl he => ?_
  have h0_0 : e.at 0 = V.int .i64 a0 := he 0 _ rfl
  have h1_0 : e.at 1 = V.int .i64 a1 := he 1 _ rfl
  have h2_0 : e.at 2 = V.isl (a2.map Enc.enc) := he 2 _ rfl
  have hl_0 : e.length = 11 := hl
  clear he hl
  show W A b90 e ⟨[], 0⟩ _
  unfold F90 at hF
  obtain ⟨x1, gx1, hF⟩ := bS hF
  have w2 : ans A 117 [V.isl (a2.map Enc.enc), V.fn 116 [] [V.iptr [V.int .i64 a0], V.iptr [V.int .i64 a1]]] = some (V.bool x1) := s117 a2 (fun x => F116 x a0 a1) (Clo1.of (by intro h f; simp only [RZ, mapO]) (by intro h f; simp only [RZ, mapO]) (by intro f; simp only [RZ, RB]) (by intro f; simp only [RZ, RB]) (fun x _ hr => s116 x a0 a1 hr)) gx1
  cases hF
  simp only [simprocAttr, R0, opEv, fillV, mapO, mapS, b90, hl_0, h0_0, h1_0, h2_0, w2]
  exact fin_ret (by simp only [simprocAttr, R0, fn_out, p90, Rs.ev, mapO, mapS, take_len_self, hl_0, h0_0, h1_0, h2_0, w2])
end
end Rv
