/- What the abstract code answers: typed functions, part 1. -/
import Derived.Test.YthdaojcekpelgaaIpp
namespace Rv
set_option linter.unusedVariables false
set_option linter.unusedSimpArgs false
set_option maxRecDepth 100000
noncomputable section

/-! loop.example/g01273/laws.eqInt64S -/
def F30_1_B (a0 : List Int) (a1 : List Int) (v5_1 : Int) (s : Unit) : Option ((Unit) ⊕ ((Unit) ⊕ Bool)) :=
  (getI a0 v5_1).bind fun x5 =>
(getI a1 v5_1).bind fun x7 =>
if x5 = x7 then
  some (.inl ())
else
  some (.inr (.inr false))
def F30_1_D (a0 : List Int) (a1 : List Int) (v5_1 : Int) (s : Unit) : Option ((Unit) ⊕ Bool) :=
  some (.inl ())
def F30 (a0 : List Int) (a1 : List Int) : Option Bool :=
  if (a0.length : Int) = (a1.length : Int) then
    (forR 0 (a0.length : Int) (F30_1_B a0 a1) (F30_1_D a0 a1) ()).bind fun t10 => match t10 with
      | .inl _ =>
        some true
      | .inr r11 => some r11
  else
    some false
def I30_1 (a0 : List Int) (a1 : List Int)  (v5_1 : Int) (s : Unit) (e : Env) (h : Heap) : Prop :=
  ∃ k3 : Nat, h = ⟨[], k3⟩ ∧ e.length = 26 ∧ e.at 0 = V.isl (List.map Enc.enc a0) ∧ e.at 1 = V.isl (List.map Enc.enc a1) ∧ e.at 5 = V.int .i64 v5_1
def P30_1 (a0 : List Int) (a1 : List Int)  (t : (Unit) ⊕ Bool) (x : Ex) (e : Env) (h : Heap) : Prop :=
  match t with
  | .inl _ => x = .normal ∧ ∃ k3 : Nat, h = ⟨[], k3⟩ ∧ e.length = 26
  | .inr r => x = .ret ∧ Fin p30 (Enc.enc r) .ret e h
theorem l30_1 (a0 : List Int) (a1 : List Int)   {lo : Int} {s : Unit} {t : (Unit) ⊕ Bool} (hF : forR lo (a0.length : Int) (F30_1_B a0 a1) (F30_1_D a0 a1) s = some t) {e : Env} {h : Heap} (hI : I30_1 a0 a1  lo s e h) : W A c30_1 e h (P30_1 a0 a1  t) := by
  show W A (.block 0 (.loop false b30_1)) e h _
  rw [W_block]
  refine W_forR hF 0 (by obtain ⟨_, rfl, _⟩ := hI; rfl) (I30_1 a0 a1 ) hI ?_ ?_
  · rintro v5_1 _ e h ⟨k3, rfl, hl_2, h0_2, h1_2, h5_2⟩ hlt hw o ho
    unfold F30_1_B at ho
    obtain ⟨x5, gx5, ho⟩ := bS ho
    obtain ⟨w6a, w6b⟩ := getI_w gx5
    obtain ⟨x7, gx7, ho⟩ := bS ho
    obtain ⟨w8a, w8b⟩ := getI_w gx7
    by_cases c9 : x5 = x7
    · rw [if_pos c9] at ho
      have hE := Option.some.inj ho; subst hE
      simp only [↓reduceIte, Nat.reduceAdd, Nat.reduceMul, Nat.reduceSub, Nat.reduceLT, Nat.reduceLeDiff, Nat.reduceEqDiff, Nat.reducePow, Int.reducePow, Int.reduceLE, Int.reduceLT, Int.reduceEq, Int.reduceToNat, reduceCtorEq, RR, RB, RZ, RE, opEv, fillV, mapO, mapS, b30_1, hl_2, h0_2, h1_2, h5_2, eq_true hlt, hw, w6a, w6b, w8a, w8b, eq_true c9]
      refine And.intro rfl (Exists.intro _ ( And.intro rfl ?_))
      simp only [↓reduceIte, Nat.reduceAdd, Nat.reduceMul, Nat.reduceSub, Nat.reduceLT, Nat.reduceLeDiff, Nat.reduceEqDiff, Nat.reducePow, Int.reducePow, Int.reduceLE, Int.reduceLT, Int.reduceEq, Int.reduceToNat, reduceCtorEq, RR, RB, RZ, RE, hl_2, h0_2, h1_2, h5_2, eq_true hlt, hw, w6a, w6b, w8a, w8b, eq_true c9]
    · rw [if_neg c9] at ho
      have hE := Option.some.inj ho; subst hE
      simp only [↓reduceIte, Nat.reduceAdd, Nat.reduceMul, Nat.reduceSub, Nat.reduceLT, Nat.reduceLeDiff, Nat.reduceEqDiff, Nat.reducePow, Int.reducePow, Int.reduceLE, Int.reduceLT, Int.reduceEq, Int.reduceToNat, reduceCtorEq, RR, RB, RZ, RE, opEv, fillV, mapO, mapS, b30_1, hl_2, h0_2, h1_2, h5_2, eq_true hlt, hw, w6a, w6b, w8a, w8b, eq_false c9]
      intro ht; subst ht
      simp only [↓reduceIte, Nat.reduceAdd, Nat.reduceMul, Nat.reduceSub, Nat.reduceLT, Nat.reduceLeDiff, Nat.reduceEqDiff, Nat.reducePow, Int.reducePow, Int.reduceLE, Int.reduceLT, Int.reduceEq, Int.reduceToNat, reduceCtorEq, RR, RB]
      exact And.intro rfl (fin_ret (by simp only [↓reduceIte, Nat.reduceAdd, Nat.reduceMul, Nat.reduceSub, Nat.reduceLT, Nat.reduceLeDiff, Nat.reduceEqDiff, Nat.reducePow, Int.reducePow, Int.reduceLE, Int.reduceLT, Int.reduceEq, Int.reduceToNat, reduceCtorEq, RR, RB, RZ, RE, fn_out, p30, Rs.ev, mapO, mapS, take_len_self, hl_2, h0_2, h1_2, h5_2, eq_true hlt, hw, w6a, w6b, w8a, w8b, eq_false c9]))
  · rintro v5_1 _ e h ⟨k3, rfl, hl_2, h0_2, h1_2, h5_2⟩ hge t1 ho
    unfold F30_1_D at ho
    have hE := Option.some.inj ho; subst hE
    simp only [↓reduceIte, Nat.reduceAdd, Nat.reduceMul, Nat.reduceSub, Nat.reduceLT, Nat.reduceLeDiff, Nat.reduceEqDiff, Nat.reducePow, Int.reducePow, Int.reduceLE, Int.reduceLT, Int.reduceEq, Int.reduceToNat, reduceCtorEq, RR, RB, RZ, RE, opEv, fillV, mapO, mapS, b30_1, hl_2, h0_2, h1_2, h5_2, eq_false hge]
    intro ht; subst ht
    refine And.intro rfl (Exists.intro _ ( And.intro rfl ?_))
    simp only [↓reduceIte, Nat.reduceAdd, Nat.reduceMul, Nat.reduceSub, Nat.reduceLT, Nat.reduceLeDiff, Nat.reduceEqDiff, Nat.reducePow, Int.reducePow, Int.reduceLE, Int.reduceLT, Int.reduceEq, Int.reduceToNat, reduceCtorEq, RR, RB, RZ, RE, hl_2, h0_2, h1_2, h5_2, eq_false hge]
theorem s30 (a0 : List Int) (a1 : List Int)   {r : Bool} (hF : F30 a0 a1 = some r) : ans A 30 [V.isl (List.map Enc.enc a0), V.isl (List.map Enc.enc a1)] = some (Enc.enc r) := by
  refine ans_of (f := p30) rfl rfl rfl fun e hl he => ?_
  have h0_0 : e.at 0 = V.isl (List.map Enc.enc a0) := he 0 _ rfl
  have h1_0 : e.at 1 = V.isl (List.map Enc.enc a1) := he 1 _ rfl
  have hl_0 : e.length = 26 := hl
  clear he hl
  show W A b30 e ⟨[], 0⟩ _
  unfold F30 at hF
  by_cases c1 : (a0.length : Int) = (a1.length : Int)
  · rw [if_pos c1] at hF
    obtain ⟨t10, gt10, hF⟩ := bS hF
    rcases t10 with _ | r11
    · dsimp only at hF
      simp only [↓reduceIte, Nat.reduceAdd, Nat.reduceMul, Nat.reduceSub, Nat.reduceLT, Nat.reduceLeDiff, Nat.reduceEqDiff, Nat.reducePow, Int.reducePow, Int.reduceLE, Int.reduceLT, Int.reduceEq, Int.reduceToNat, reduceCtorEq, RR, RB, RZ, RE, opEv, fillV, mapO, mapS, b30, hl_0, h0_0, h1_0, eq_true c1]
      refine W.mono (l30_1 a0 a1   gt10 (Exists.intro _ ( And.intro rfl ?_))) ?_
      · simp only [↓reduceIte, Nat.reduceAdd, Nat.reduceMul, Nat.reduceSub, Nat.reduceLT, Nat.reduceLeDiff, Nat.reduceEqDiff, Nat.reducePow, Int.reducePow, Int.reduceLE, Int.reduceLT, Int.reduceEq, Int.reduceToNat, reduceCtorEq, RR, RB, RZ, RE, hl_0, h0_0, h1_0, eq_true c1]
      rintro _ e _ ⟨rfl, k3, rfl, hl_4⟩
      have hE := Option.some.inj hF; subst hE
      simp only [↓reduceIte, Nat.reduceAdd, Nat.reduceMul, Nat.reduceSub, Nat.reduceLT, Nat.reduceLeDiff, Nat.reduceEqDiff, Nat.reducePow, Int.reducePow, Int.reduceLE, Int.reduceLT, Int.reduceEq, Int.reduceToNat, reduceCtorEq, RR, RB, RZ, RE, opEv, fillV, mapO, mapS, hl_4, eq_true c1]
      exact fin_ret (by simp only [↓reduceIte, Nat.reduceAdd, Nat.reduceMul, Nat.reduceSub, Nat.reduceLT, Nat.reduceLeDiff, Nat.reduceEqDiff, Nat.reducePow, Int.reducePow, Int.reduceLE, Int.reduceLT, Int.reduceEq, Int.reduceToNat, reduceCtorEq, RR, RB, RZ, RE, fn_out, p30, Rs.ev, mapO, mapS, take_len_self, hl_4, eq_true c1])
    · dsimp only at hF
      have hE := Option.some.inj hF; subst hE
      simp only [↓reduceIte, Nat.reduceAdd, Nat.reduceMul, Nat.reduceSub, Nat.reduceLT, Nat.reduceLeDiff, Nat.reduceEqDiff, Nat.reducePow, Int.reducePow, Int.reduceLE, Int.reduceLT, Int.reduceEq, Int.reduceToNat, reduceCtorEq, RR, RB, RZ, RE, opEv, fillV, mapO, mapS, b30, hl_0, h0_0, h1_0, eq_true c1]
      refine W.mono (l30_1 a0 a1   gt10 (Exists.intro _ ( And.intro rfl ?_))) ?_
      · simp only [↓reduceIte, Nat.reduceAdd, Nat.reduceMul, Nat.reduceSub, Nat.reduceLT, Nat.reduceLeDiff, Nat.reduceEqDiff, Nat.reducePow, Int.reducePow, Int.reduceLE, Int.reduceLT, Int.reduceEq, Int.reduceToNat, reduceCtorEq, RR, RB, RZ, RE, hl_0, h0_0, h1_0, eq_true c1]
      rintro _ e h ⟨rfl, hq⟩
      simp only [↓reduceIte, Nat.reduceAdd, Nat.reduceMul, Nat.reduceSub, Nat.reduceLT, Nat.reduceLeDiff, Nat.reduceEqDiff, Nat.reducePow, Int.reducePow, Int.reduceLE, Int.reduceLT, Int.reduceEq, Int.reduceToNat, reduceCtorEq, RR, RB]
      exact hq
  · rw [if_neg c1] at hF
    have hE := Option.some.inj hF; subst hE
    simp only [↓reduceIte, Nat.reduceAdd, Nat.reduceMul, Nat.reduceSub, Nat.reduceLT, Nat.reduceLeDiff, Nat.reduceEqDiff, Nat.reducePow, Int.reducePow, Int.reduceLE, Int.reduceLT, Int.reduceEq, Int.reduceToNat, reduceCtorEq, RR, RB, RZ, RE, opEv, fillV, mapO, mapS, b30, hl_0, h0_0, h1_0, eq_false c1]
    exact fin_ret (by simp only [↓reduceIte, Nat.reduceAdd, Nat.reduceMul, Nat.reduceSub, Nat.reduceLT, Nat.reduceLeDiff, Nat.reduceEqDiff, Nat.reducePow, Int.reducePow, Int.reduceLE, Int.reduceLT, Int.reduceEq, Int.reduceToNat, reduceCtorEq, RR, RB, RZ, RE, fn_out, p30, Rs.ev, mapO, mapS, take_len_self, hl_0, h0_0, h1_0, eq_false c1])
/-! loop.example/g01273/laws.eqInt64SS -/
def F51_1_B (a0 : List (List Int)) (a1 : List (List Int)) (v5_1 : Int) (s : Unit) : Option ((Unit) ⊕ ((Unit) ⊕ Bool)) :=
  (getI a0 v5_1).bind fun x5 =>
(getI a1 v5_1).bind fun x7 =>
(F30 x5 x7).bind fun x9 =>
if x9 = true then
  some (.inl ())
else
  some (.inr (.inr false))
def F51_1_D (a0 : List (List Int)) (a1 : List (List Int)) (v5_1 : Int) (s : Unit) : Option ((Unit) ⊕ Bool) :=
  some (.inl ())
def F51 (a0 : List (List Int)) (a1 : List (List Int)) : Option Bool :=
  if (a0.length : Int) = (a1.length : Int) then
    (forR 0 (a0.length : Int) (F51_1_B a0 a1) (F51_1_D a0 a1) ()).bind fun t11 => match t11 with
      | .inl _ =>
        some true
      | .inr r12 => some r12
  else
    some false
def I51_1 (a0 : List (List Int)) (a1 : List (List Int))  (v5_1 : Int) (s : Unit) (e : Env) (h : Heap) : Prop :=
  ∃ k3 : Nat, h = ⟨[], k3⟩ ∧ e.length = 27 ∧ e.at 0 = V.isl (List.map Enc.enc a0) ∧ e.at 1 = V.isl (List.map Enc.enc a1) ∧ e.at 5 = V.int .i64 v5_1
def P51_1 (a0 : List (List Int)) (a1 : List (List Int))  (t : (Unit) ⊕ Bool) (x : Ex) (e : Env) (h : Heap) : Prop :=
  match t with
  | .inl _ => x = .normal ∧ ∃ k3 : Nat, h = ⟨[], k3⟩ ∧ e.length = 27
  | .inr r => x = .ret ∧ Fin p51 (Enc.enc r) .ret e h
theorem l51_1 (a0 : List (List Int)) (a1 : List (List Int))   {lo : Int} {s : Unit} {t : (Unit) ⊕ Bool} (hF : forR lo (a0.length : Int) (F51_1_B a0 a1) (F51_1_D a0 a1) s = some t) {e : Env} {h : Heap} (hI : I51_1 a0 a1  lo s e h) : W A c51_1 e h (P51_1 a0 a1  t) := by
  show W A (.block 0 (.loop false b51_1)) e h _
  rw [W_block]
  refine W_forR hF 0 (by obtain ⟨_, rfl, _⟩ := hI; rfl) (I51_1 a0 a1 ) hI ?_ ?_
  · rintro v5_1 _ e h ⟨k3, rfl, hl_2, h0_2, h1_2, h5_2⟩ hlt hw o ho
    unfold F51_1_B at ho
    obtain ⟨x5, gx5, ho⟩ := bS ho
    obtain ⟨w6a, w6b⟩ := getI_w gx5
    obtain ⟨x7, gx7, ho⟩ := bS ho
    obtain ⟨w8a, w8b⟩ := getI_w gx7
    obtain ⟨x9, gx9, ho⟩ := bS ho
    have w10 : ans A 30 [V.isl (List.map Enc.enc x5), V.isl (List.map Enc.enc x7)] = some (V.bool x9) := s30 x5 x7  gx9
    cases x9 with
    | true =>
      rw [if_pos rfl] at ho
      have hE := Option.some.inj ho; subst hE
      simp only [↓reduceIte, Nat.reduceAdd, Nat.reduceMul, Nat.reduceSub, Nat.reduceLT, Nat.reduceLeDiff, Nat.reduceEqDiff, Nat.reducePow, Int.reducePow, Int.reduceLE, Int.reduceLT, Int.reduceEq, Int.reduceToNat, reduceCtorEq, RR, RB, RZ, RE, opEv, fillV, mapO, mapS, b51_1, hl_2, h0_2, h1_2, h5_2, eq_true hlt, hw, w6a, w6b, w8a, w8b, w10]
      refine And.intro rfl (Exists.intro _ ( And.intro rfl ?_))
      simp only [↓reduceIte, Nat.reduceAdd, Nat.reduceMul, Nat.reduceSub, Nat.reduceLT, Nat.reduceLeDiff, Nat.reduceEqDiff, Nat.reducePow, Int.reducePow, Int.reduceLE, Int.reduceLT, Int.reduceEq, Int.reduceToNat, reduceCtorEq, RR, RB, RZ, RE, hl_2, h0_2, h1_2, h5_2, eq_true hlt, hw, w6a, w6b, w8a, w8b, w10]
    | false =>
      rw [if_neg Bool.false_ne_true] at ho
      have hE := Option.some.inj ho; subst hE
      simp only [↓reduceIte, Nat.reduceAdd, Nat.reduceMul, Nat.reduceSub, Nat.reduceLT, Nat.reduceLeDiff, Nat.reduceEqDiff, Nat.reducePow, Int.reducePow, Int.reduceLE, Int.reduceLT, Int.reduceEq, Int.reduceToNat, reduceCtorEq, RR, RB, RZ, RE, opEv, fillV, mapO, mapS, b51_1, hl_2, h0_2, h1_2, h5_2, eq_true hlt, hw, w6a, w6b, w8a, w8b, w10]
      intro ht; subst ht
      simp only [↓reduceIte, Nat.reduceAdd, Nat.reduceMul, Nat.reduceSub, Nat.reduceLT, Nat.reduceLeDiff, Nat.reduceEqDiff, Nat.reducePow, Int.reducePow, Int.reduceLE, Int.reduceLT, Int.reduceEq, Int.reduceToNat, reduceCtorEq, RR, RB]
      exact And.intro rfl (fin_ret (by simp only [↓reduceIte, Nat.reduceAdd, Nat.reduceMul, Nat.reduceSub, Nat.reduceLT, Nat.reduceLeDiff, Nat.reduceEqDiff, Nat.reducePow, Int.reducePow, Int.reduceLE, Int.reduceLT, Int.reduceEq, Int.reduceToNat, reduceCtorEq, RR, RB, RZ, RE, fn_out, p51, Rs.ev, mapO, mapS, take_len_self, hl_2, h0_2, h1_2, h5_2, eq_true hlt, hw, w6a, w6b, w8a, w8b, w10]))
  · rintro v5_1 _ e h ⟨k3, rfl, hl_2, h0_2, h1_2, h5_2⟩ hge t1 ho
    unfold F51_1_D at ho
    have hE := Option.some.inj ho; subst hE
    simp only [↓reduceIte, Nat.reduceAdd, Nat.reduceMul, Nat.reduceSub, Nat.reduceLT, Nat.reduceLeDiff, Nat.reduceEqDiff, Nat.reducePow, Int.reducePow, Int.reduceLE, Int.reduceLT, Int.reduceEq, Int.reduceToNat, reduceCtorEq, RR, RB, RZ, RE, opEv, fillV, mapO, mapS, b51_1, hl_2, h0_2, h1_2, h5_2, eq_false hge]
    intro ht; subst ht
    refine And.intro rfl (Exists.intro _ ( And.intro rfl ?_))
    simp only [↓reduceIte, Nat.reduceAdd, Nat.reduceMul, Nat.reduceSub, Nat.reduceLT, Nat.reduceLeDiff, Nat.reduceEqDiff, Nat.reducePow, Int.reducePow, Int.reduceLE, Int.reduceLT, Int.reduceEq, Int.reduceToNat, reduceCtorEq, RR, RB, RZ, RE, hl_2, h0_2, h1_2, h5_2, eq_false hge]
theorem s51 (a0 : List (List Int)) (a1 : List (List Int))   {r : Bool} (hF : F51 a0 a1 = some r) : ans A 51 [V.isl (List.map Enc.enc a0), V.isl (List.map Enc.enc a1)] = some (Enc.enc r) := by
  refine ans_of (f := p51) rfl rfl rfl fun e hl he => ?_
  have h0_0 : e.at 0 = V.isl (List.map Enc.enc a0) := he 0 _ rfl
  have h1_0 : e.at 1 = V.isl (List.map Enc.enc a1) := he 1 _ rfl
  have hl_0 : e.length = 27 := hl
  clear he hl
  show W A b51 e ⟨[], 0⟩ _
  unfold F51 at hF
  by_cases c1 : (a0.length : Int) = (a1.length : Int)
  · rw [if_pos c1] at hF
    obtain ⟨t11, gt11, hF⟩ := bS hF
    rcases t11 with _ | r12
    · dsimp only at hF
      simp only [↓reduceIte, Nat.reduceAdd, Nat.reduceMul, Nat.reduceSub, Nat.reduceLT, Nat.reduceLeDiff, Nat.reduceEqDiff, Nat.reducePow, Int.reducePow, Int.reduceLE, Int.reduceLT, Int.reduceEq, Int.reduceToNat, reduceCtorEq, RR, RB, RZ, RE, opEv, fillV, mapO, mapS, b51, hl_0, h0_0, h1_0, eq_true c1]
      refine W.mono (l51_1 a0 a1   gt11 (Exists.intro _ ( And.intro rfl ?_))) ?_
      · simp only [↓reduceIte, Nat.reduceAdd, Nat.reduceMul, Nat.reduceSub, Nat.reduceLT, Nat.reduceLeDiff, Nat.reduceEqDiff, Nat.reducePow, Int.reducePow, Int.reduceLE, Int.reduceLT, Int.reduceEq, Int.reduceToNat, reduceCtorEq, RR, RB, RZ, RE, hl_0, h0_0, h1_0, eq_true c1]
      rintro _ e _ ⟨rfl, k3, rfl, hl_4⟩
      have hE := Option.some.inj hF; subst hE
      simp only [↓reduceIte, Nat.reduceAdd, Nat.reduceMul, Nat.reduceSub, Nat.reduceLT, Nat.reduceLeDiff, Nat.reduceEqDiff, Nat.reducePow, Int.reducePow, Int.reduceLE, Int.reduceLT, Int.reduceEq, Int.reduceToNat, reduceCtorEq, RR, RB, RZ, RE, opEv, fillV, mapO, mapS, hl_4, eq_true c1]
      exact fin_ret (by simp only [↓reduceIte, Nat.reduceAdd, Nat.reduceMul, Nat.reduceSub, Nat.reduceLT, Nat.reduceLeDiff, Nat.reduceEqDiff, Nat.reducePow, Int.reducePow, Int.reduceLE, Int.reduceLT, Int.reduceEq, Int.reduceToNat, reduceCtorEq, RR, RB, RZ, RE, fn_out, p51, Rs.ev, mapO, mapS, take_len_self, hl_4, eq_true c1])
    · dsimp only at hF
      have hE := Option.some.inj hF; subst hE
      simp only [↓reduceIte, Nat.reduceAdd, Nat.reduceMul, Nat.reduceSub, Nat.reduceLT, Nat.reduceLeDiff, Nat.reduceEqDiff, Nat.reducePow, Int.reducePow, Int.reduceLE, Int.reduceLT, Int.reduceEq, Int.reduceToNat, reduceCtorEq, RR, RB, RZ, RE, opEv, fillV, mapO, mapS, b51, hl_0, h0_0, h1_0, eq_true c1]
      refine W.mono (l51_1 a0 a1   gt11 (Exists.intro _ ( And.intro rfl ?_))) ?_
      · simp only [↓reduceIte, Nat.reduceAdd, Nat.reduceMul, Nat.reduceSub, Nat.reduceLT, Nat.reduceLeDiff, Nat.reduceEqDiff, Nat.reducePow, Int.reducePow, Int.reduceLE, Int.reduceLT, Int.reduceEq, Int.reduceToNat, reduceCtorEq, RR, RB, RZ, RE, hl_0, h0_0, h1_0, eq_true c1]
      rintro _ e h ⟨rfl, hq⟩
      simp only [↓reduceIte, Nat.reduceAdd, Nat.reduceMul, Nat.reduceSub, Nat.reduceLT, Nat.reduceLeDiff, Nat.reduceEqDiff, Nat.reducePow, Int.reducePow, Int.reduceLE, Int.reduceLT, Int.reduceEq, Int.reduceToNat, reduceCtorEq, RR, RB]
      exact hq
  · rw [if_neg c1] at hF
    have hE := Option.some.inj hF; subst hE
    simp only [↓reduceIte, Nat.reduceAdd, Nat.reduceMul, Nat.reduceSub, Nat.reduceLT, Nat.reduceLeDiff, Nat.reduceEqDiff, Nat.reducePow, Int.reducePow, Int.reduceLE, Int.reduceLT, Int.reduceEq, Int.reduceToNat, reduceCtorEq, RR, RB, RZ, RE, opEv, fillV, mapO, mapS, b51, hl_0, h0_0, h1_0, eq_false c1]
    exact fin_ret (by simp only [↓reduceIte, Nat.reduceAdd, Nat.reduceMul, Nat.reduceSub, Nat.reduceLT, Nat.reduceLeDiff, Nat.reduceEqDiff, Nat.reducePow, Int.reducePow, Int.reduceLE, Int.reduceLT, Int.reduceEq, Int.reduceToNat, reduceCtorEq, RR, RB, RZ, RE, fn_out, p51, Rs.ev, mapO, mapS, take_len_self, hl_0, h0_0, h1_0, eq_false c1])
/-! loop.example/g01273/laws.eqInt64SSS -/
def F17_1_B (a0 : List (List (List Int))) (a1 : List (List (List Int))) (v5_1 : Int) (s : Unit) : Option ((Unit) ⊕ ((Unit) ⊕ Bool)) :=
  (getI a0 v5_1).bind fun x5 =>
(getI a1 v5_1).bind fun x7 =>
(F51 x5 x7).bind fun x9 =>
if x9 = true then
  some (.inl ())
else
  some (.inr (.inr false))
def F17_1_D (a0 : List (List (List Int))) (a1 : List (List (List Int))) (v5_1 : Int) (s : Unit) : Option ((Unit) ⊕ Bool) :=
  some (.inl ())
def F17 (a0 : List (List (List Int))) (a1 : List (List (List Int))) : Option Bool :=
  if (a0.length : Int) = (a1.length : Int) then
    (forR 0 (a0.length : Int) (F17_1_B a0 a1) (F17_1_D a0 a1) ()).bind fun t11 => match t11 with
      | .inl _ =>
        some true
      | .inr r12 => some r12
  else
    some false
def I17_1 (a0 : List (List (List Int))) (a1 : List (List (List Int)))  (v5_1 : Int) (s : Unit) (e : Env) (h : Heap) : Prop :=
  ∃ k3 : Nat, h = ⟨[], k3⟩ ∧ e.length = 27 ∧ e.at 0 = V.isl (List.map Enc.enc a0) ∧ e.at 1 = V.isl (List.map Enc.enc a1) ∧ e.at 5 = V.int .i64 v5_1
def P17_1 (a0 : List (List (List Int))) (a1 : List (List (List Int)))  (t : (Unit) ⊕ Bool) (x : Ex) (e : Env) (h : Heap) : Prop :=
  match t with
  | .inl _ => x = .normal ∧ ∃ k3 : Nat, h = ⟨[], k3⟩ ∧ e.length = 27
  | .inr r => x = .ret ∧ Fin p17 (Enc.enc r) .ret e h
theorem l17_1 (a0 : List (List (List Int))) (a1 : List (List (List Int)))   {lo : Int} {s : Unit} {t : (Unit) ⊕ Bool} (hF : forR lo (a0.length : Int) (F17_1_B a0 a1) (F17_1_D a0 a1) s = some t) {e : Env} {h : Heap} (hI : I17_1 a0 a1  lo s e h) : W A c17_1 e h (P17_1 a0 a1  t) := by
  show W A (.block 0 (.loop false b17_1)) e h _
  rw [W_block]
  refine W_forR hF 0 (by obtain ⟨_, rfl, _⟩ := hI; rfl) (I17_1 a0 a1 ) hI ?_ ?_
  · rintro v5_1 _ e h ⟨k3, rfl, hl_2, h0_2, h1_2, h5_2⟩ hlt hw o ho
    unfold F17_1_B at ho
    obtain ⟨x5, gx5, ho⟩ := bS ho
    obtain ⟨w6a, w6b⟩ := getI_w gx5
    obtain ⟨x7, gx7, ho⟩ := bS ho
    obtain ⟨w8a, w8b⟩ := getI_w gx7
    obtain ⟨x9, gx9, ho⟩ := bS ho
    have w10 : ans A 51 [V.isl (List.map Enc.enc x5), V.isl (List.map Enc.enc x7)] = some (V.bool x9) := s51 x5 x7  gx9
    cases x9 with
    | true =>
      rw [if_pos rfl] at ho
      have hE := Option.some.inj ho; subst hE
      simp only [↓reduceIte, Nat.reduceAdd, Nat.reduceMul, Nat.reduceSub, Nat.reduceLT, Nat.reduceLeDiff, Nat.reduceEqDiff, Nat.reducePow, Int.reducePow, Int.reduceLE, Int.reduceLT, Int.reduceEq, Int.reduceToNat, reduceCtorEq, RR, RB, RZ, RE, opEv, fillV, mapO, mapS, b17_1, hl_2, h0_2, h1_2, h5_2, eq_true hlt, hw, w6a, w6b, w8a, w8b, w10]
      refine And.intro rfl (Exists.intro _ ( And.intro rfl ?_))
      simp only [↓reduceIte, Nat.reduceAdd, Nat.reduceMul, Nat.reduceSub, Nat.reduceLT, Nat.reduceLeDiff, Nat.reduceEqDiff, Nat.reducePow, Int.reducePow, Int.reduceLE, Int.reduceLT, Int.reduceEq, Int.reduceToNat, reduceCtorEq, RR, RB, RZ, RE, hl_2, h0_2, h1_2, h5_2, eq_true hlt, hw, w6a, w6b, w8a, w8b, w10]
    | false =>
      rw [if_neg Bool.false_ne_true] at ho
      have hE := Option.some.inj ho; subst hE
      simp only [↓reduceIte, Nat.reduceAdd, Nat.reduceMul, Nat.reduceSub, Nat.reduceLT, Nat.reduceLeDiff, Nat.reduceEqDiff, Nat.reducePow, Int.reducePow, Int.reduceLE, Int.reduceLT, Int.reduceEq, Int.reduceToNat, reduceCtorEq, RR, RB, RZ, RE, opEv, fillV, mapO, mapS, b17_1, hl_2, h0_2, h1_2, h5_2, eq_true hlt, hw, w6a, w6b, w8a, w8b, w10]
      intro ht; subst ht
      simp only [↓reduceIte, Nat.reduceAdd, Nat.reduceMul, Nat.reduceSub, Nat.reduceLT, Nat.reduceLeDiff, Nat.reduceEqDiff, Nat.reducePow, Int.reducePow, Int.reduceLE, Int.reduceLT, Int.reduceEq, Int.reduceToNat, reduceCtorEq, RR, RB]
      exact And.intro rfl (fin_ret (by simp only [↓reduceIte, Nat.reduceAdd, Nat.reduceMul, Nat.reduceSub, Nat.reduceLT, Nat.reduceLeDiff, Nat.reduceEqDiff, Nat.reducePow, Int.reducePow, Int.reduceLE, Int.reduceLT, Int.reduceEq, Int.reduceToNat, reduceCtorEq, RR, RB, RZ, RE, fn_out, p17, Rs.ev, mapO, mapS, take_len_self, hl_2, h0_2, h1_2, h5_2, eq_true hlt, hw, w6a, w6b, w8a, w8b, w10]))
  · rintro v5_1 _ e h ⟨k3, rfl, hl_2, h0_2, h1_2, h5_2⟩ hge t1 ho
    unfold F17_1_D at ho
    have hE := Option.some.inj ho; subst hE
    simp only [↓reduceIte, Nat.reduceAdd, Nat.reduceMul, Nat.reduceSub, Nat.reduceLT, Nat.reduceLeDiff, Nat.reduceEqDiff, Nat.reducePow, Int.reducePow, Int.reduceLE, Int.reduceLT, Int.reduceEq, Int.reduceToNat, reduceCtorEq, RR, RB, RZ, RE, opEv, fillV, mapO, mapS, b17_1, hl_2, h0_2, h1_2, h5_2, eq_false hge]
    intro ht; subst ht
    refine And.intro rfl (Exists.intro _ ( And.intro rfl ?_))
    simp only [↓reduceIte, Nat.reduceAdd, Nat.reduceMul, Nat.reduceSub, Nat.reduceLT, Nat.reduceLeDiff, Nat.reduceEqDiff, Nat.reducePow, Int.reducePow, Int.reduceLE, Int.reduceLT, Int.reduceEq, Int.reduceToNat, reduceCtorEq, RR, RB, RZ, RE, hl_2, h0_2, h1_2, h5_2, eq_false hge]
theorem s17 (a0 : List (List (List Int))) (a1 : List (List (List Int)))   {r : Bool} (hF : F17 a0 a1 = some r) : ans A 17 [V.isl (List.map Enc.enc a0), V.isl (List.map Enc.enc a1)] = some (Enc.enc r) := by
  refine ans_of (f := p17) rfl rfl rfl fun e hl he => ?_
  have h0_0 : e.at 0 = V.isl (List.map Enc.enc a0) := he 0 _ rfl
  have h1_0 : e.at 1 = V.isl (List.map Enc.enc a1) := he 1 _ rfl
  have hl_0 : e.length = 27 := hl
  clear he hl
  show W A b17 e ⟨[], 0⟩ _
  unfold F17 at hF
  by_cases c1 : (a0.length : Int) = (a1.length : Int)
  · rw [if_pos c1] at hF
    obtain ⟨t11, gt11, hF⟩ := bS hF
    rcases t11 with _ | r12
    · dsimp only at hF
      simp only [↓reduceIte, Nat.reduceAdd, Nat.reduceMul, Nat.reduceSub, Nat.reduceLT, Nat.reduceLeDiff, Nat.reduceEqDiff, Nat.reducePow, Int.reducePow, Int.reduceLE, Int.reduceLT, Int.reduceEq, Int.reduceToNat, reduceCtorEq, RR, RB, RZ, RE, opEv, fillV, mapO, mapS, b17, hl_0, h0_0, h1_0, eq_true c1]
      refine W.mono (l17_1 a0 a1   gt11 (Exists.intro _ ( And.intro rfl ?_))) ?_
      · simp only [↓reduceIte, Nat.reduceAdd, Nat.reduceMul, Nat.reduceSub, Nat.reduceLT, Nat.reduceLeDiff, Nat.reduceEqDiff, Nat.reducePow, Int.reducePow, Int.reduceLE, Int.reduceLT, Int.reduceEq, Int.reduceToNat, reduceCtorEq, RR, RB, RZ, RE, hl_0, h0_0, h1_0, eq_true c1]
      rintro _ e _ ⟨rfl, k3, rfl, hl_4⟩
      have hE := Option.some.inj hF; subst hE
      simp only [↓reduceIte, Nat.reduceAdd, Nat.reduceMul, Nat.reduceSub, Nat.reduceLT, Nat.reduceLeDiff, Nat.reduceEqDiff, Nat.reducePow, Int.reducePow, Int.reduceLE, Int.reduceLT, Int.reduceEq, Int.reduceToNat, reduceCtorEq, RR, RB, RZ, RE, opEv, fillV, mapO, mapS, hl_4, eq_true c1]
      exact fin_ret (by simp only [↓reduceIte, Nat.reduceAdd, Nat.reduceMul, Nat.reduceSub, Nat.reduceLT, Nat.reduceLeDiff, Nat.reduceEqDiff, Nat.reducePow, Int.reducePow, Int.reduceLE, Int.reduceLT, Int.reduceEq, Int.reduceToNat, reduceCtorEq, RR, RB, RZ, RE, fn_out, p17, Rs.ev, mapO, mapS, take_len_self, hl_4, eq_true c1])
    · dsimp only at hF
      have hE := Option.some.inj hF; subst hE
      simp only [↓reduceIte, Nat.reduceAdd, Nat.reduceMul, Nat.reduceSub, Nat.reduceLT, Nat.reduceLeDiff, Nat.reduceEqDiff, Nat.reducePow, Int.reducePow, Int.reduceLE, Int.reduceLT, Int.reduceEq, Int.reduceToNat, reduceCtorEq, RR, RB, RZ, RE, opEv, fillV, mapO, mapS, b17, hl_0, h0_0, h1_0, eq_true c1]
      refine W.mono (l17_1 a0 a1   gt11 (Exists.intro _ ( And.intro rfl ?_))) ?_
      · simp only [↓reduceIte, Nat.reduceAdd, Nat.reduceMul, Nat.reduceSub, Nat.reduceLT, Nat.reduceLeDiff, Nat.reduceEqDiff, Nat.reducePow, Int.reducePow, Int.reduceLE, Int.reduceLT, Int.reduceEq, Int.reduceToNat, reduceCtorEq, RR, RB, RZ, RE, hl_0, h0_0, h1_0, eq_true c1]
      rintro _ e h ⟨rfl, hq⟩
      simp only [↓reduceIte, Nat.reduceAdd, Nat.reduceMul, Nat.reduceSub, Nat.reduceLT, Nat.reduceLeDiff, Nat.reduceEqDiff, Nat.reducePow, Int.reducePow, Int.reduceLE, Int.reduceLT, Int.reduceEq, Int.reduceToNat, reduceCtorEq, RR, RB]
      exact hq
  · rw [if_neg c1] at hF
    have hE := Option.some.inj hF; subst hE
    simp only [↓reduceIte, Nat.reduceAdd, Nat.reduceMul, Nat.reduceSub, Nat.reduceLT, Nat.reduceLeDiff, Nat.reduceEqDiff, Nat.reducePow, Int.reducePow, Int.reduceLE, Int.reduceLT, Int.reduceEq, Int.reduceToNat, reduceCtorEq, RR, RB, RZ, RE, opEv, fillV, mapO, mapS, b17, hl_0, h0_0, h1_0, eq_false c1]
    exact fin_ret (by simp only [↓reduceIte, Nat.reduceAdd, Nat.reduceMul, Nat.reduceSub, Nat.reduceLT, Nat.reduceLeDiff, Nat.reduceEqDiff, Nat.reducePow, Int.reducePow, Int.reduceLE, Int.reduceLT, Int.reduceEq, Int.reduceToNat, reduceCtorEq, RR, RB, RZ, RE, fn_out, p17, Rs.ev, mapO, mapS, take_len_self, hl_0, h0_0, h1_0, eq_false c1])
/-! loop.example/g01273/laws.eqComplex -/
def F16 (a0 : GComplex) (a1 : GComplex) : Option Bool :=
  if a0.Prime = a1.Prime then
    (F30 a0.Dims a1.Dims).bind fun x2 =>
    if x2 = true then
      (F17 a0.Maps a1.Maps).bind fun x4 =>
      if x4 = true then
        some true
      else
        some false
    else
      some false
  else
    some false
theorem s16 (a0 : GComplex) (a1 : GComplex)   {r : Bool} (hF : F16 a0 a1 = some r) : ans A 16 [V.agg [V.int .i64 a0.Prime, V.isl (List.map Enc.enc a0.Dims), V.isl (List.map Enc.enc a0.Maps)], V.agg [V.int .i64 a1.Prime, V.isl (List.map Enc.enc a1.Dims), V.isl (List.map Enc.enc a1.Maps)]] = some (Enc.enc r) := by
  refine ans_of (f := p16) rfl rfl rfl fun e hl he => ?_
  have h0_0 : e.at 0 = V.agg [V.int .i64 a0.Prime, V.isl (List.map Enc.enc a0.Dims), V.isl (List.map Enc.enc a0.Maps)] := he 0 _ rfl
  have h1_0 : e.at 1 = V.agg [V.int .i64 a1.Prime, V.isl (List.map Enc.enc a1.Dims), V.isl (List.map Enc.enc a1.Maps)] := he 1 _ rfl
  have hl_0 : e.length = 22 := hl
  clear he hl
  show W A b16 e ⟨[], 0⟩ _
  unfold F16 at hF
  by_cases c1 : a0.Prime = a1.Prime
  · rw [if_pos c1] at hF
    obtain ⟨x2, gx2, hF⟩ := bS hF
    have w3 : ans A 30 [V.isl (List.map Enc.enc a0.Dims), V.isl (List.map Enc.enc a1.Dims)] = some (V.bool x2) := s30 a0.Dims a1.Dims  gx2
    cases x2 with
    | true =>
      rw [if_pos rfl] at hF
      obtain ⟨x4, gx4, hF⟩ := bS hF
      have w5 : ans A 17 [V.isl (List.map Enc.enc a0.Maps), V.isl (List.map Enc.enc a1.Maps)] = some (V.bool x4) := s17 a0.Maps a1.Maps  gx4
      cases x4 with
      | true =>
        rw [if_pos rfl] at hF
        have hE := Option.some.inj hF; subst hE
        simp only [↓reduceIte, Nat.reduceAdd, Nat.reduceMul, Nat.reduceSub, Nat.reduceLT, Nat.reduceLeDiff, Nat.reduceEqDiff, Nat.reducePow, Int.reducePow, Int.reduceLE, Int.reduceLT, Int.reduceEq, Int.reduceToNat, reduceCtorEq, RR, RB, RZ, RE, opEv, fillV, mapO, mapS, b16, hl_0, h0_0, h1_0, eq_true c1, w3, w5]
        exact fin_ret (by simp only [↓reduceIte, Nat.reduceAdd, Nat.reduceMul, Nat.reduceSub, Nat.reduceLT, Nat.reduceLeDiff, Nat.reduceEqDiff, Nat.reducePow, Int.reducePow, Int.reduceLE, Int.reduceLT, Int.reduceEq, Int.reduceToNat, reduceCtorEq, RR, RB, RZ, RE, fn_out, p16, Rs.ev, mapO, mapS, take_len_self, hl_0, h0_0, h1_0, eq_true c1, w3, w5])
      | false =>
        rw [if_neg Bool.false_ne_true] at hF
        have hE := Option.some.inj hF; subst hE
        simp only [↓reduceIte, Nat.reduceAdd, Nat.reduceMul, Nat.reduceSub, Nat.reduceLT, Nat.reduceLeDiff, Nat.reduceEqDiff, Nat.reducePow, Int.reducePow, Int.reduceLE, Int.reduceLT, Int.reduceEq, Int.reduceToNat, reduceCtorEq, RR, RB, RZ, RE, opEv, fillV, mapO, mapS, b16, hl_0, h0_0, h1_0, eq_true c1, w3, w5]
        exact fin_ret (by simp only [↓reduceIte, Nat.reduceAdd, Nat.reduceMul, Nat.reduceSub, Nat.reduceLT, Nat.reduceLeDiff, Nat.reduceEqDiff, Nat.reducePow, Int.reducePow, Int.reduceLE, Int.reduceLT, Int.reduceEq, Int.reduceToNat, reduceCtorEq, RR, RB, RZ, RE, fn_out, p16, Rs.ev, mapO, mapS, take_len_self, hl_0, h0_0, h1_0, eq_true c1, w3, w5])
    | false =>
      rw [if_neg Bool.false_ne_true] at hF
      have hE := Option.some.inj hF; subst hE
      simp only [↓reduceIte, Nat.reduceAdd, Nat.reduceMul, Nat.reduceSub, Nat.reduceLT, Nat.reduceLeDiff, Nat.reduceEqDiff, Nat.reducePow, Int.reducePow, Int.reduceLE, Int.reduceLT, Int.reduceEq, Int.reduceToNat, reduceCtorEq, RR, RB, RZ, RE, opEv, fillV, mapO, mapS, b16, hl_0, h0_0, h1_0, eq_true c1, w3]
      exact fin_ret (by simp only [↓reduceIte, Nat.reduceAdd, Nat.reduceMul, Nat.reduceSub, Nat.reduceLT, Nat.reduceLeDiff, Nat.reduceEqDiff, Nat.reducePow, Int.reducePow, Int.reduceLE, Int.reduceLT, Int.reduceEq, Int.reduceToNat, reduceCtorEq, RR, RB, RZ, RE, fn_out, p16, Rs.ev, mapO, mapS, take_len_self, hl_0, h0_0, h1_0, eq_true c1, w3])
  · rw [if_neg c1] at hF
    have hE := Option.some.inj hF; subst hE
    simp only [↓reduceIte, Nat.reduceAdd, Nat.reduceMul, Nat.reduceSub, Nat.reduceLT, Nat.reduceLeDiff, Nat.reduceEqDiff, Nat.reducePow, Int.reducePow, Int.reduceLE, Int.reduceLT, Int.reduceEq, Int.reduceToNat, reduceCtorEq, RR, RB, RZ, RE, opEv, fillV, mapO, mapS, b16, hl_0, h0_0, h1_0, eq_false c1]
    exact fin_ret (by simp only [↓reduceIte, Nat.reduceAdd, Nat.reduceMul, Nat.reduceSub, Nat.reduceLT, Nat.reduceLeDiff, Nat.reduceEqDiff, Nat.reducePow, Int.reducePow, Int.reduceLE, Int.reduceLT, Int.reduceEq, Int.reduceToNat, reduceCtorEq, RR, RB, RZ, RE, fn_out, p16, Rs.ev, mapO, mapS, take_len_self, hl_0, h0_0, h1_0, eq_false c1])
/-! loop.example/g01273/laws.eqFiltered -/
def F25 (a0 : GFiltered) (a1 : GFiltered) : Option Bool :=
  (F16 a0.Complex a1.Complex).bind fun x1 =>
  if x1 = true then
    (F51 a0.Levels a1.Levels).bind fun x3 =>
    if x3 = true then
      some true
    else
      some false
  else
    some false
theorem s25 (a0 : GFiltered) (a1 : GFiltered)   {r : Bool} (hF : F25 a0 a1 = some r) : ans A 25 [V.agg [V.int .i64 a0.Complex.Prime, V.isl (List.map Enc.enc a0.Complex.Dims), V.isl (List.map Enc.enc a0.Complex.Maps), V.isl (List.map Enc.enc a0.Levels)], V.agg [V.int .i64 a1.Complex.Prime, V.isl (List.map Enc.enc a1.Complex.Dims), V.isl (List.map Enc.enc a1.Complex.Maps), V.isl (List.map Enc.enc a1.Levels)]] = some (Enc.enc r) := by
  refine ans_of (f := p25) rfl rfl rfl fun e hl he => ?_
  have h0_0 : e.at 0 = V.agg [V.int .i64 a0.Complex.Prime, V.isl (List.map Enc.enc a0.Complex.Dims), V.isl (List.map Enc.enc a0.Complex.Maps), V.isl (List.map Enc.enc a0.Levels)] := he 0 _ rfl
  have h1_0 : e.at 1 = V.agg [V.int .i64 a1.Complex.Prime, V.isl (List.map Enc.enc a1.Complex.Dims), V.isl (List.map Enc.enc a1.Complex.Maps), V.isl (List.map Enc.enc a1.Levels)] := he 1 _ rfl
  have hl_0 : e.length = 17 := hl
  clear he hl
  show W A b25 e ⟨[], 0⟩ _
  unfold F25 at hF
  obtain ⟨x1, gx1, hF⟩ := bS hF
  have w2 : ans A 16 [V.agg [V.int .i64 a0.Complex.Prime, V.isl (List.map Enc.enc a0.Complex.Dims), V.isl (List.map Enc.enc a0.Complex.Maps)], V.agg [V.int .i64 a1.Complex.Prime, V.isl (List.map Enc.enc a1.Complex.Dims), V.isl (List.map Enc.enc a1.Complex.Maps)]] = some (V.bool x1) := s16 a0.Complex a1.Complex  gx1
  cases x1 with
  | true =>
    rw [if_pos rfl] at hF
    obtain ⟨x3, gx3, hF⟩ := bS hF
    have w4 : ans A 51 [V.isl (List.map Enc.enc a0.Levels), V.isl (List.map Enc.enc a1.Levels)] = some (V.bool x3) := s51 a0.Levels a1.Levels  gx3
    cases x3 with
    | true =>
      rw [if_pos rfl] at hF
      have hE := Option.some.inj hF; subst hE
      simp only [↓reduceIte, Nat.reduceAdd, Nat.reduceMul, Nat.reduceSub, Nat.reduceLT, Nat.reduceLeDiff, Nat.reduceEqDiff, Nat.reducePow, Int.reducePow, Int.reduceLE, Int.reduceLT, Int.reduceEq, Int.reduceToNat, reduceCtorEq, RR, RB, RZ, RE, opEv, fillV, mapO, mapS, b25, hl_0, h0_0, h1_0, w2, w4]
      exact fin_ret (by simp only [↓reduceIte, Nat.reduceAdd, Nat.reduceMul, Nat.reduceSub, Nat.reduceLT, Nat.reduceLeDiff, Nat.reduceEqDiff, Nat.reducePow, Int.reducePow, Int.reduceLE, Int.reduceLT, Int.reduceEq, Int.reduceToNat, reduceCtorEq, RR, RB, RZ, RE, fn_out, p25, Rs.ev, mapO, mapS, take_len_self, hl_0, h0_0, h1_0, w2, w4])
    | false =>
      rw [if_neg Bool.false_ne_true] at hF
      have hE := Option.some.inj hF; subst hE
      simp only [↓reduceIte, Nat.reduceAdd, Nat.reduceMul, Nat.reduceSub, Nat.reduceLT, Nat.reduceLeDiff, Nat.reduceEqDiff, Nat.reducePow, Int.reducePow, Int.reduceLE, Int.reduceLT, Int.reduceEq, Int.reduceToNat, reduceCtorEq, RR, RB, RZ, RE, opEv, fillV, mapO, mapS, b25, hl_0, h0_0, h1_0, w2, w4]
      exact fin_ret (by simp only [↓reduceIte, Nat.reduceAdd, Nat.reduceMul, Nat.reduceSub, Nat.reduceLT, Nat.reduceLeDiff, Nat.reduceEqDiff, Nat.reducePow, Int.reducePow, Int.reduceLE, Int.reduceLT, Int.reduceEq, Int.reduceToNat, reduceCtorEq, RR, RB, RZ, RE, fn_out, p25, Rs.ev, mapO, mapS, take_len_self, hl_0, h0_0, h1_0, w2, w4])
  | false =>
    rw [if_neg Bool.false_ne_true] at hF
    have hE := Option.some.inj hF; subst hE
    simp only [↓reduceIte, Nat.reduceAdd, Nat.reduceMul, Nat.reduceSub, Nat.reduceLT, Nat.reduceLeDiff, Nat.reduceEqDiff, Nat.reducePow, Int.reducePow, Int.reduceLE, Int.reduceLT, Int.reduceEq, Int.reduceToNat, reduceCtorEq, RR, RB, RZ, RE, opEv, fillV, mapO, mapS, b25, hl_0, h0_0, h1_0, w2]
    exact fin_ret (by simp only [↓reduceIte, Nat.reduceAdd, Nat.reduceMul, Nat.reduceSub, Nat.reduceLT, Nat.reduceLeDiff, Nat.reduceEqDiff, Nat.reducePow, Int.reducePow, Int.reduceLE, Int.reduceLT, Int.reduceEq, Int.reduceToNat, reduceCtorEq, RR, RB, RZ, RE, fn_out, p25, Rs.ev, mapO, mapS, take_len_self, hl_0, h0_0, h1_0, w2])
/-! loop.example/g01273/laws.eqDesk -/
def F3 (a0 : GDesk) (a1 : GDesk) : Option Bool :=
  (F25 a0.First a1.First).bind fun x1 =>
  if x1 = true then
    (F16 a0.Second a1.Second).bind fun x3 =>
    if x3 = true then
      some true
    else
      some false
  else
    some false
theorem s3 (a0 : GDesk) (a1 : GDesk)   {r : Bool} (hF : F3 a0 a1 = some r) : ans A 3 [V.agg [V.int .i64 a0.First.Complex.Prime, V.isl (List.map Enc.enc a0.First.Complex.Dims), V.isl (List.map Enc.enc a0.First.Complex.Maps), V.isl (List.map Enc.enc a0.First.Levels), V.int .i64 a0.Second.Prime, V.isl (List.map Enc.enc a0.Second.Dims), V.isl (List.map Enc.enc a0.Second.Maps)], V.agg [V.int .i64 a1.First.Complex.Prime, V.isl (List.map Enc.enc a1.First.Complex.Dims), V.isl (List.map Enc.enc a1.First.Complex.Maps), V.isl (List.map Enc.enc a1.First.Levels), V.int .i64 a1.Second.Prime, V.isl (List.map Enc.enc a1.Second.Dims), V.isl (List.map Enc.enc a1.Second.Maps)]] = some (Enc.enc r) := by
  refine ans_of (f := p3) rfl rfl rfl fun e hl he => ?_
  have h0_0 : e.at 0 = V.agg [V.int .i64 a0.First.Complex.Prime, V.isl (List.map Enc.enc a0.First.Complex.Dims), V.isl (List.map Enc.enc a0.First.Complex.Maps), V.isl (List.map Enc.enc a0.First.Levels), V.int .i64 a0.Second.Prime, V.isl (List.map Enc.enc a0.Second.Dims), V.isl (List.map Enc.enc a0.Second.Maps)] := he 0 _ rfl
  have h1_0 : e.at 1 = V.agg [V.int .i64 a1.First.Complex.Prime, V.isl (List.map Enc.enc a1.First.Complex.Dims), V.isl (List.map Enc.enc a1.First.Complex.Maps), V.isl (List.map Enc.enc a1.First.Levels), V.int .i64 a1.Second.Prime, V.isl (List.map Enc.enc a1.Second.Dims), V.isl (List.map Enc.enc a1.Second.Maps)] := he 1 _ rfl
  have hl_0 : e.length = 17 := hl
  clear he hl
  show W A b3 e ⟨[], 0⟩ _
  unfold F3 at hF
  obtain ⟨x1, gx1, hF⟩ := bS hF
  have w2 : ans A 25 [V.agg [V.int .i64 a0.First.Complex.Prime, V.isl (List.map Enc.enc a0.First.Complex.Dims), V.isl (List.map Enc.enc a0.First.Complex.Maps), V.isl (List.map Enc.enc a0.First.Levels)], V.agg [V.int .i64 a1.First.Complex.Prime, V.isl (List.map Enc.enc a1.First.Complex.Dims), V.isl (List.map Enc.enc a1.First.Complex.Maps), V.isl (List.map Enc.enc a1.First.Levels)]] = some (V.bool x1) := s25 a0.First a1.First  gx1
  cases x1 with
  | true =>
    rw [if_pos rfl] at hF
    obtain ⟨x3, gx3, hF⟩ := bS hF
    have w4 : ans A 16 [V.agg [V.int .i64 a0.Second.Prime, V.isl (List.map Enc.enc a0.Second.Dims), V.isl (List.map Enc.enc a0.Second.Maps)], V.agg [V.int .i64 a1.Second.Prime, V.isl (List.map Enc.enc a1.Second.Dims), V.isl (List.map Enc.enc a1.Second.Maps)]] = some (V.bool x3) := s16 a0.Second a1.Second  gx3
    cases x3 with
    | true =>
      rw [if_pos rfl] at hF
      have hE := Option.some.inj hF; subst hE
      simp only [↓reduceIte, Nat.reduceAdd, Nat.reduceMul, Nat.reduceSub, Nat.reduceLT, Nat.reduceLeDiff, Nat.reduceEqDiff, Nat.reducePow, Int.reducePow, Int.reduceLE, Int.reduceLT, Int.reduceEq, Int.reduceToNat, reduceCtorEq, RR, RB, RZ, RE, opEv, fillV, mapO, mapS, b3, hl_0, h0_0, h1_0, w2, w4]
      exact fin_ret (by simp only [↓reduceIte, Nat.reduceAdd, Nat.reduceMul, Nat.reduceSub, Nat.reduceLT, Nat.reduceLeDiff, Nat.reduceEqDiff, Nat.reducePow, Int.reducePow, Int.reduceLE, Int.reduceLT, Int.reduceEq, Int.reduceToNat, reduceCtorEq, RR, RB, RZ, RE, fn_out, p3, Rs.ev, mapO, mapS, take_len_self, hl_0, h0_0, h1_0, w2, w4])
    | false =>
      rw [if_neg Bool.false_ne_true] at hF
      have hE := Option.some.inj hF; subst hE
      simp only [↓reduceIte, Nat.reduceAdd, Nat.reduceMul, Nat.reduceSub, Nat.reduceLT, Nat.reduceLeDiff, Nat.reduceEqDiff, Nat.reducePow, Int.reducePow, Int.reduceLE, Int.reduceLT, Int.reduceEq, Int.reduceToNat, reduceCtorEq, RR, RB, RZ, RE, opEv, fillV, mapO, mapS, b3, hl_0, h0_0, h1_0, w2, w4]
      exact fin_ret (by simp only [↓reduceIte, Nat.reduceAdd, Nat.reduceMul, Nat.reduceSub, Nat.reduceLT, Nat.reduceLeDiff, Nat.reduceEqDiff, Nat.reducePow, Int.reducePow, Int.reduceLE, Int.reduceLT, Int.reduceEq, Int.reduceToNat, reduceCtorEq, RR, RB, RZ, RE, fn_out, p3, Rs.ev, mapO, mapS, take_len_self, hl_0, h0_0, h1_0, w2, w4])
  | false =>
    rw [if_neg Bool.false_ne_true] at hF
    have hE := Option.some.inj hF; subst hE
    simp only [↓reduceIte, Nat.reduceAdd, Nat.reduceMul, Nat.reduceSub, Nat.reduceLT, Nat.reduceLeDiff, Nat.reduceEqDiff, Nat.reducePow, Int.reducePow, Int.reduceLE, Int.reduceLT, Int.reduceEq, Int.reduceToNat, reduceCtorEq, RR, RB, RZ, RE, opEv, fillV, mapO, mapS, b3, hl_0, h0_0, h1_0, w2]
    exact fin_ret (by simp only [↓reduceIte, Nat.reduceAdd, Nat.reduceMul, Nat.reduceSub, Nat.reduceLT, Nat.reduceLeDiff, Nat.reduceEqDiff, Nat.reducePow, Int.reducePow, Int.reduceLE, Int.reduceLT, Int.reduceEq, Int.reduceToNat, reduceCtorEq, RR, RB, RZ, RE, fn_out, p3, Rs.ev, mapO, mapS, take_len_self, hl_0, h0_0, h1_0, w2])
/-! loop.example/g01273/laws.szInt64S -/
def F43 (a0 : List Int) (a1 : Int) : Option Int :=
  (chk (a1 - (a0.length : Int))).bind fun x1 =>
  if x1 < 0 then
    some (-1)
  else
    some x1
theorem s43 (a0 : List Int) (a1 : Int)   {r : Int} (hF : F43 a0 a1 = some r) : ans A 43 [V.isl (List.map Enc.enc a0), V.int .i64 a1] = some (Enc.enc r) := by
  refine ans_of (f := p43) rfl rfl rfl fun e hl he => ?_
  have h0_0 : e.at 0 = V.isl (List.map Enc.enc a0) := he 0 _ rfl
  have h1_0 : e.at 1 = V.int .i64 a1 := he 1 _ rfl
  have hl_0 : e.length = 12 := hl
  clear he hl
  show W A b43 e ⟨[], 0⟩ _
  unfold F43 at hF
  obtain ⟨x1, gx1, hF⟩ := bS hF
  have wx1 := chk_w gx1
  by_cases c2 : x1 < 0
  · rw [if_pos c2] at hF
    have hE := Option.some.inj hF; subst hE
    simp only [↓reduceIte, Nat.reduceAdd, Nat.reduceMul, Nat.reduceSub, Nat.reduceLT, Nat.reduceLeDiff, Nat.reduceEqDiff, Nat.reducePow, Int.reducePow, Int.reduceLE, Int.reduceLT, Int.reduceEq, Int.reduceToNat, reduceCtorEq, RR, RB, RZ, RE, opEv, fillV, mapO, mapS, b43, hl_0, h0_0, h1_0, wx1, eq_true c2]
    exact fin_ret (by simp only [↓reduceIte, Nat.reduceAdd, Nat.reduceMul, Nat.reduceSub, Nat.reduceLT, Nat.reduceLeDiff, Nat.reduceEqDiff, Nat.reducePow, Int.reducePow, Int.reduceLE, Int.reduceLT, Int.reduceEq, Int.reduceToNat, reduceCtorEq, RR, RB, RZ, RE, fn_out, p43, Rs.ev, mapO, mapS, take_len_self, hl_0, h0_0, h1_0, wx1, eq_true c2])
  · rw [if_neg c2] at hF
    have hE := Option.some.inj hF; subst hE
    simp only [↓reduceIte, Nat.reduceAdd, Nat.reduceMul, Nat.reduceSub, Nat.reduceLT, Nat.reduceLeDiff, Nat.reduceEqDiff, Nat.reducePow, Int.reducePow, Int.reduceLE, Int.reduceLT, Int.reduceEq, Int.reduceToNat, reduceCtorEq, RR, RB, RZ, RE, opEv, fillV, mapO, mapS, b43, hl_0, h0_0, h1_0, wx1, eq_false c2]
    exact fin_ret (by simp only [↓reduceIte, Nat.reduceAdd, Nat.reduceMul, Nat.reduceSub, Nat.reduceLT, Nat.reduceLeDiff, Nat.reduceEqDiff, Nat.reducePow, Int.reducePow, Int.reduceLE, Int.reduceLT, Int.reduceEq, Int.reduceToNat, reduceCtorEq, RR, RB, RZ, RE, fn_out, p43, Rs.ev, mapO, mapS, take_len_self, hl_0, h0_0, h1_0, wx1, eq_false c2])
/-! loop.example/g01273/laws.szInt64SS -/
def F44_1_B (a0 : List (List Int)) (v5_1 : Int) (v1_1 : Int) : Option ((Int) ⊕ ((Int) ⊕ Int)) :=
  (getI a0 v5_1).bind fun x6 =>
(F43 x6 v1_1).bind fun x8 =>
if x8 < 0 then
  some (.inr (.inr (-1)))
else
  some (.inl x8)
def F44_1_D (a0 : List (List Int)) (v5_1 : Int) (v1_1 : Int) : Option ((Int) ⊕ Int) :=
  some (.inl v1_1)
def F44 (a0 : List (List Int)) (a1 : Int) : Option Int :=
  (chk (a1 - (a0.length : Int))).bind fun x1 =>
  if x1 < 0 then
    some (-1)
  else
    (forR 0 (a0.length : Int) (F44_1_B a0) (F44_1_D a0) x1).bind fun t11 => match t11 with
      | .inl zv1_1 =>
        some zv1_1
      | .inr r12 => some r12
def I44_1 (a0 : List (List Int))  (v5_1 : Int) (v1_1 : Int) (e : Env) (h : Heap) : Prop :=
  ∃ k4 : Nat, h = ⟨[], k4⟩ ∧ e.length = 27 ∧ e.at 0 = V.isl (List.map Enc.enc a0) ∧ e.at 1 = V.int .i64 v1_1 ∧ e.at 5 = V.int .i64 v5_1
def P44_1 (a0 : List (List Int))  (t : (Int) ⊕ Int) (x : Ex) (e : Env) (h : Heap) : Prop :=
  match t with
  | .inl zv1_1 => x = .normal ∧ ∃ k4 : Nat, h = ⟨[], k4⟩ ∧ e.length = 27 ∧ e.at 1 = V.int .i64 zv1_1
  | .inr r => x = .ret ∧ Fin p44 (Enc.enc r) .ret e h
theorem l44_1 (a0 : List (List Int))   {lo : Int} {s : Int} {t : (Int) ⊕ Int} (hF : forR lo (a0.length : Int) (F44_1_B a0) (F44_1_D a0) s = some t) {e : Env} {h : Heap} (hI : I44_1 a0  lo s e h) : W A c44_1 e h (P44_1 a0  t) := by
  show W A (.block 0 (.loop false b44_1)) e h _
  rw [W_block]
  refine W_forR hF 0 (by obtain ⟨_, rfl, _⟩ := hI; rfl) (I44_1 a0 ) hI ?_ ?_
  · rintro v5_1 v1_1 e h ⟨k4, rfl, hl_3, h0_3, h1_3, h5_3⟩ hlt hw o ho
    unfold F44_1_B at ho
    obtain ⟨x6, gx6, ho⟩ := bS ho
    obtain ⟨w7a, w7b⟩ := getI_w gx6
    obtain ⟨x8, gx8, ho⟩ := bS ho
    have w9 : ans A 43 [V.isl (List.map Enc.enc x6), V.int .i64 v1_1] = some (V.int .i64 x8) := s43 x6 v1_1  gx8
    by_cases c10 : x8 < 0
    · rw [if_pos c10] at ho
      have hE := Option.some.inj ho; subst hE
      simp only [↓reduceIte, Nat.reduceAdd, Nat.reduceMul, Nat.reduceSub, Nat.reduceLT, Nat.reduceLeDiff, Nat.reduceEqDiff, Nat.reducePow, Int.reducePow, Int.reduceLE, Int.reduceLT, Int.reduceEq, Int.reduceToNat, reduceCtorEq, RR, RB, RZ, RE, opEv, fillV, mapO, mapS, b44_1, hl_3, h0_3, h1_3, h5_3, eq_true hlt, hw, w7a, w7b, w9, eq_true c10]
      intro ht; subst ht
      simp only [↓reduceIte, Nat.reduceAdd, Nat.reduceMul, Nat.reduceSub, Nat.reduceLT, Nat.reduceLeDiff, Nat.reduceEqDiff, Nat.reducePow, Int.reducePow, Int.reduceLE, Int.reduceLT, Int.reduceEq, Int.reduceToNat, reduceCtorEq, RR, RB]
      exact And.intro rfl (fin_ret (by simp only [↓reduceIte, Nat.reduceAdd, Nat.reduceMul, Nat.reduceSub, Nat.reduceLT, Nat.reduceLeDiff, Nat.reduceEqDiff, Nat.reducePow, Int.reducePow, Int.reduceLE, Int.reduceLT, Int.reduceEq, Int.reduceToNat, reduceCtorEq, RR, RB, RZ, RE, fn_out, p44, Rs.ev, mapO, mapS, take_len_self, hl_3, h0_3, h1_3, h5_3, eq_true hlt, hw, w7a, w7b, w9, eq_true c10]))
    · rw [if_neg c10] at ho
      have hE := Option.some.inj ho; subst hE
      simp only [↓reduceIte, Nat.reduceAdd, Nat.reduceMul, Nat.reduceSub, Nat.reduceLT, Nat.reduceLeDiff, Nat.reduceEqDiff, Nat.reducePow, Int.reducePow, Int.reduceLE, Int.reduceLT, Int.reduceEq, Int.reduceToNat, reduceCtorEq, RR, RB, RZ, RE, opEv, fillV, mapO, mapS, b44_1, hl_3, h0_3, h1_3, h5_3, eq_true hlt, hw, w7a, w7b, w9, eq_false c10]
      refine And.intro rfl (Exists.intro _ ( And.intro rfl ?_))
      simp only [↓reduceIte, Nat.reduceAdd, Nat.reduceMul, Nat.reduceSub, Nat.reduceLT, Nat.reduceLeDiff, Nat.reduceEqDiff, Nat.reducePow, Int.reducePow, Int.reduceLE, Int.reduceLT, Int.reduceEq, Int.reduceToNat, reduceCtorEq, RR, RB, RZ, RE, hl_3, h0_3, h1_3, h5_3, eq_true hlt, hw, w7a, w7b, w9, eq_false c10]
  · rintro v5_1 v1_1 e h ⟨k4, rfl, hl_3, h0_3, h1_3, h5_3⟩ hge t1 ho
    unfold F44_1_D at ho
    have hE := Option.some.inj ho; subst hE
    simp only [↓reduceIte, Nat.reduceAdd, Nat.reduceMul, Nat.reduceSub, Nat.reduceLT, Nat.reduceLeDiff, Nat.reduceEqDiff, Nat.reducePow, Int.reducePow, Int.reduceLE, Int.reduceLT, Int.reduceEq, Int.reduceToNat, reduceCtorEq, RR, RB, RZ, RE, opEv, fillV, mapO, mapS, b44_1, hl_3, h0_3, h1_3, h5_3, eq_false hge]
    intro ht; subst ht
    refine And.intro rfl (Exists.intro _ ( And.intro rfl ?_))
    simp only [↓reduceIte, Nat.reduceAdd, Nat.reduceMul, Nat.reduceSub, Nat.reduceLT, Nat.reduceLeDiff, Nat.reduceEqDiff, Nat.reducePow, Int.reducePow, Int.reduceLE, Int.reduceLT, Int.reduceEq, Int.reduceToNat, reduceCtorEq, RR, RB, RZ, RE, hl_3, h0_3, h1_3, h5_3, eq_false hge]
theorem s44 (a0 : List (List Int)) (a1 : Int)   {r : Int} (hF : F44 a0 a1 = some r) : ans A 44 [V.isl (List.map Enc.enc a0), V.int .i64 a1] = some (Enc.enc r) := by
  refine ans_of (f := p44) rfl rfl rfl fun e hl he => ?_
  have h0_0 : e.at 0 = V.isl (List.map Enc.enc a0) := he 0 _ rfl
  have h1_0 : e.at 1 = V.int .i64 a1 := he 1 _ rfl
  have hl_0 : e.length = 27 := hl
  clear he hl
  show W A b44 e ⟨[], 0⟩ _
  unfold F44 at hF
  obtain ⟨x1, gx1, hF⟩ := bS hF
  have wx1 := chk_w gx1
  by_cases c2 : x1 < 0
  · rw [if_pos c2] at hF
    have hE := Option.some.inj hF; subst hE
    simp only [↓reduceIte, Nat.reduceAdd, Nat.reduceMul, Nat.reduceSub, Nat.reduceLT, Nat.reduceLeDiff, Nat.reduceEqDiff, Nat.reducePow, Int.reducePow, Int.reduceLE, Int.reduceLT, Int.reduceEq, Int.reduceToNat, reduceCtorEq, RR, RB, RZ, RE, opEv, fillV, mapO, mapS, b44, hl_0, h0_0, h1_0, wx1, eq_true c2]
    exact fin_ret (by simp only [↓reduceIte, Nat.reduceAdd, Nat.reduceMul, Nat.reduceSub, Nat.reduceLT, Nat.reduceLeDiff, Nat.reduceEqDiff, Nat.reducePow, Int.reducePow, Int.reduceLE, Int.reduceLT, Int.reduceEq, Int.reduceToNat, reduceCtorEq, RR, RB, RZ, RE, fn_out, p44, Rs.ev, mapO, mapS, take_len_self, hl_0, h0_0, h1_0, wx1, eq_true c2])
  · rw [if_neg c2] at hF
    obtain ⟨t11, gt11, hF⟩ := bS hF
    rcases t11 with zv1_1 | r12
    · dsimp only at hF
      simp only [↓reduceIte, Nat.reduceAdd, Nat.reduceMul, Nat.reduceSub, Nat.reduceLT, Nat.reduceLeDiff, Nat.reduceEqDiff, Nat.reducePow, Int.reducePow, Int.reduceLE, Int.reduceLT, Int.reduceEq, Int.reduceToNat, reduceCtorEq, RR, RB, RZ, RE, opEv, fillV, mapO, mapS, b44, hl_0, h0_0, h1_0, wx1, eq_false c2]
      refine W.mono (l44_1 a0   gt11 (Exists.intro _ ( And.intro rfl ?_))) ?_
      · simp only [↓reduceIte, Nat.reduceAdd, Nat.reduceMul, Nat.reduceSub, Nat.reduceLT, Nat.reduceLeDiff, Nat.reduceEqDiff, Nat.reducePow, Int.reducePow, Int.reduceLE, Int.reduceLT, Int.reduceEq, Int.reduceToNat, reduceCtorEq, RR, RB, RZ, RE, hl_0, h0_0, h1_0, wx1, eq_false c2]
      rintro _ e _ ⟨rfl, k4, rfl, hl_5, h1_5⟩
      have hE := Option.some.inj hF; subst hE
      simp only [↓reduceIte, Nat.reduceAdd, Nat.reduceMul, Nat.reduceSub, Nat.reduceLT, Nat.reduceLeDiff, Nat.reduceEqDiff, Nat.reducePow, Int.reducePow, Int.reduceLE, Int.reduceLT, Int.reduceEq, Int.reduceToNat, reduceCtorEq, RR, RB, RZ, RE, opEv, fillV, mapO, mapS, hl_5, h1_5, eq_false c2]
      exact fin_ret (by simp only [↓reduceIte, Nat.reduceAdd, Nat.reduceMul, Nat.reduceSub, Nat.reduceLT, Nat.reduceLeDiff, Nat.reduceEqDiff, Nat.reducePow, Int.reducePow, Int.reduceLE, Int.reduceLT, Int.reduceEq, Int.reduceToNat, reduceCtorEq, RR, RB, RZ, RE, fn_out, p44, Rs.ev, mapO, mapS, take_len_self, hl_5, h1_5, eq_false c2])
    · dsimp only at hF
      have hE := Option.some.inj hF; subst hE
      simp only [↓reduceIte, Nat.reduceAdd, Nat.reduceMul, Nat.reduceSub, Nat.reduceLT, Nat.reduceLeDiff, Nat.reduceEqDiff, Nat.reducePow, Int.reducePow, Int.reduceLE, Int.reduceLT, Int.reduceEq, Int.reduceToNat, reduceCtorEq, RR, RB, RZ, RE, opEv, fillV, mapO, mapS, b44, hl_0, h0_0, h1_0, wx1, eq_false c2]
      refine W.mono (l44_1 a0   gt11 (Exists.intro _ ( And.intro rfl ?_))) ?_
      · simp only [↓reduceIte, Nat.reduceAdd, Nat.reduceMul, Nat.reduceSub, Nat.reduceLT, Nat.reduceLeDiff, Nat.reduceEqDiff, Nat.reducePow, Int.reducePow, Int.reduceLE, Int.reduceLT, Int.reduceEq, Int.reduceToNat, reduceCtorEq, RR, RB, RZ, RE, hl_0, h0_0, h1_0, wx1, eq_false c2]
      rintro _ e h ⟨rfl, hq⟩
      simp only [↓reduceIte, Nat.reduceAdd, Nat.reduceMul, Nat.reduceSub, Nat.reduceLT, Nat.reduceLeDiff, Nat.reduceEqDiff, Nat.reducePow, Int.reducePow, Int.reduceLE, Int.reduceLT, Int.reduceEq, Int.reduceToNat, reduceCtorEq, RR, RB]
      exact hq
/-! loop.example/g01273/laws.szInt64SSS -/
def F11_1_B (a0 : List (List (List Int))) (v5_1 : Int) (v1_1 : Int) : Option ((Int) ⊕ ((Int) ⊕ Int)) :=
  (getI a0 v5_1).bind fun x6 =>
(F44 x6 v1_1).bind fun x8 =>
if x8 < 0 then
  some (.inr (.inr (-1)))
else
  some (.inl x8)
def F11_1_D (a0 : List (List (List Int))) (v5_1 : Int) (v1_1 : Int) : Option ((Int) ⊕ Int) :=
  some (.inl v1_1)
def F11 (a0 : List (List (List Int))) (a1 : Int) : Option Int :=
  (chk (a1 - (a0.length : Int))).bind fun x1 =>
  if x1 < 0 then
    some (-1)
  else
    (forR 0 (a0.length : Int) (F11_1_B a0) (F11_1_D a0) x1).bind fun t11 => match t11 with
      | .inl zv1_1 =>
        some zv1_1
      | .inr r12 => some r12
def I11_1 (a0 : List (List (List Int)))  (v5_1 : Int) (v1_1 : Int) (e : Env) (h : Heap) : Prop :=
  ∃ k4 : Nat, h = ⟨[], k4⟩ ∧ e.length = 27 ∧ e.at 0 = V.isl (List.map Enc.enc a0) ∧ e.at 1 = V.int .i64 v1_1 ∧ e.at 5 = V.int .i64 v5_1
def P11_1 (a0 : List (List (List Int)))  (t : (Int) ⊕ Int) (x : Ex) (e : Env) (h : Heap) : Prop :=
  match t with
  | .inl zv1_1 => x = .normal ∧ ∃ k4 : Nat, h = ⟨[], k4⟩ ∧ e.length = 27 ∧ e.at 1 = V.int .i64 zv1_1
  | .inr r => x = .ret ∧ Fin p11 (Enc.enc r) .ret e h
theorem l11_1 (a0 : List (List (List Int)))   {lo : Int} {s : Int} {t : (Int) ⊕ Int} (hF : forR lo (a0.length : Int) (F11_1_B a0) (F11_1_D a0) s = some t) {e : Env} {h : Heap} (hI : I11_1 a0  lo s e h) : W A c11_1 e h (P11_1 a0  t) := by
  show W A (.block 0 (.loop false b11_1)) e h _
  rw [W_block]
  refine W_forR hF 0 (by obtain ⟨_, rfl, _⟩ := hI; rfl) (I11_1 a0 ) hI ?_ ?_
  · rintro v5_1 v1_1 e h ⟨k4, rfl, hl_3, h0_3, h1_3, h5_3⟩ hlt hw o ho
    unfold F11_1_B at ho
    obtain ⟨x6, gx6, ho⟩ := bS ho
    obtain ⟨w7a, w7b⟩ := getI_w gx6
    obtain ⟨x8, gx8, ho⟩ := bS ho
    have w9 : ans A 44 [V.isl (List.map Enc.enc x6), V.int .i64 v1_1] = some (V.int .i64 x8) := s44 x6 v1_1  gx8
    by_cases c10 : x8 < 0
    · rw [if_pos c10] at ho
      have hE := Option.some.inj ho; subst hE
      simp only [↓reduceIte, Nat.reduceAdd, Nat.reduceMul, Nat.reduceSub, Nat.reduceLT, Nat.reduceLeDiff, Nat.reduceEqDiff, Nat.reducePow, Int.reducePow, Int.reduceLE, Int.reduceLT, Int.reduceEq, Int.reduceToNat, reduceCtorEq, RR, RB, RZ, RE, opEv, fillV, mapO, mapS, b11_1, hl_3, h0_3, h1_3, h5_3, eq_true hlt, hw, w7a, w7b, w9, eq_true c10]
      intro ht; subst ht
      simp only [↓reduceIte, Nat.reduceAdd, Nat.reduceMul, Nat.reduceSub, Nat.reduceLT, Nat.reduceLeDiff, Nat.reduceEqDiff, Nat.reducePow, Int.reducePow, Int.reduceLE, Int.reduceLT, Int.reduceEq, Int.reduceToNat, reduceCtorEq, RR, RB]
      exact And.intro rfl (fin_ret (by simp only [↓reduceIte, Nat.reduceAdd, Nat.reduceMul, Nat.reduceSub, Nat.reduceLT, Nat.reduceLeDiff, Nat.reduceEqDiff, Nat.reducePow, Int.reducePow, Int.reduceLE, Int.reduceLT, Int.reduceEq, Int.reduceToNat, reduceCtorEq, RR, RB, RZ, RE, fn_out, p11, Rs.ev, mapO, mapS, take_len_self, hl_3, h0_3, h1_3, h5_3, eq_true hlt, hw, w7a, w7b, w9, eq_true c10]))
    · rw [if_neg c10] at ho
      have hE := Option.some.inj ho; subst hE
      simp only [↓reduceIte, Nat.reduceAdd, Nat.reduceMul, Nat.reduceSub, Nat.reduceLT, Nat.reduceLeDiff, Nat.reduceEqDiff, Nat.reducePow, Int.reducePow, Int.reduceLE, Int.reduceLT, Int.reduceEq, Int.reduceToNat, reduceCtorEq, RR, RB, RZ, RE, opEv, fillV, mapO, mapS, b11_1, hl_3, h0_3, h1_3, h5_3, eq_true hlt, hw, w7a, w7b, w9, eq_false c10]
      refine And.intro rfl (Exists.intro _ ( And.intro rfl ?_))
      simp only [↓reduceIte, Nat.reduceAdd, Nat.reduceMul, Nat.reduceSub, Nat.reduceLT, Nat.reduceLeDiff, Nat.reduceEqDiff, Nat.reducePow, Int.reducePow, Int.reduceLE, Int.reduceLT, Int.reduceEq, Int.reduceToNat, reduceCtorEq, RR, RB, RZ, RE, hl_3, h0_3, h1_3, h5_3, eq_true hlt, hw, w7a, w7b, w9, eq_false c10]
  · rintro v5_1 v1_1 e h ⟨k4, rfl, hl_3, h0_3, h1_3, h5_3⟩ hge t1 ho
    unfold F11_1_D at ho
    have hE := Option.some.inj ho; subst hE
    simp only [↓reduceIte, Nat.reduceAdd, Nat.reduceMul, Nat.reduceSub, Nat.reduceLT, Nat.reduceLeDiff, Nat.reduceEqDiff, Nat.reducePow, Int.reducePow, Int.reduceLE, Int.reduceLT, Int.reduceEq, Int.reduceToNat, reduceCtorEq, RR, RB, RZ, RE, opEv, fillV, mapO, mapS, b11_1, hl_3, h0_3, h1_3, h5_3, eq_false hge]
    intro ht; subst ht
    refine And.intro rfl (Exists.intro _ ( And.intro rfl ?_))
    simp only [↓reduceIte, Nat.reduceAdd, Nat.reduceMul, Nat.reduceSub, Nat.reduceLT, Nat.reduceLeDiff, Nat.reduceEqDiff, Nat.reducePow, Int.reducePow, Int.reduceLE, Int.reduceLT, Int.reduceEq, Int.reduceToNat, reduceCtorEq, RR, RB, RZ, RE, hl_3, h0_3, h1_3, h5_3, eq_false hge]
theorem s11 (a0 : List (List (List Int))) (a1 : Int)   {r : Int} (hF : F11 a0 a1 = some r) : ans A 11 [V.isl (List.map Enc.enc a0), V.int .i64 a1] = some (Enc.enc r) := by
  refine ans_of (f := p11) rfl rfl rfl fun e hl he => ?_
  have h0_0 : e.at 0 = V.isl (List.map Enc.enc a0) := he 0 _ rfl
  have h1_0 : e.at 1 = V.int .i64 a1 := he 1 _ rfl
  have hl_0 : e.length = 27 := hl
  clear he hl
  show W A b11 e ⟨[], 0⟩ _
  unfold F11 at hF
  obtain ⟨x1, gx1, hF⟩ := bS hF
  have wx1 := chk_w gx1
  by_cases c2 : x1 < 0
  · rw [if_pos c2] at hF
    have hE := Option.some.inj hF; subst hE
    simp only [↓reduceIte, Nat.reduceAdd, Nat.reduceMul, Nat.reduceSub, Nat.reduceLT, Nat.reduceLeDiff, Nat.reduceEqDiff, Nat.reducePow, Int.reducePow, Int.reduceLE, Int.reduceLT, Int.reduceEq, Int.reduceToNat, reduceCtorEq, RR, RB, RZ, RE, opEv, fillV, mapO, mapS, b11, hl_0, h0_0, h1_0, wx1, eq_true c2]
    exact fin_ret (by simp only [↓reduceIte, Nat.reduceAdd, Nat.reduceMul, Nat.reduceSub, Nat.reduceLT, Nat.reduceLeDiff, Nat.reduceEqDiff, Nat.reducePow, Int.reducePow, Int.reduceLE, Int.reduceLT, Int.reduceEq, Int.reduceToNat, reduceCtorEq, RR, RB, RZ, RE, fn_out, p11, Rs.ev, mapO, mapS, take_len_self, hl_0, h0_0, h1_0, wx1, eq_true c2])
  · rw [if_neg c2] at hF
    obtain ⟨t11, gt11, hF⟩ := bS hF
    rcases t11 with zv1_1 | r12
    · dsimp only at hF
      simp only [↓reduceIte, Nat.reduceAdd, Nat.reduceMul, Nat.reduceSub, Nat.reduceLT, Nat.reduceLeDiff, Nat.reduceEqDiff, Nat.reducePow, Int.reducePow, Int.reduceLE, Int.reduceLT, Int.reduceEq, Int.reduceToNat, reduceCtorEq, RR, RB, RZ, RE, opEv, fillV, mapO, mapS, b11, hl_0, h0_0, h1_0, wx1, eq_false c2]
      refine W.mono (l11_1 a0   gt11 (Exists.intro _ ( And.intro rfl ?_))) ?_
      · simp only [↓reduceIte, Nat.reduceAdd, Nat.reduceMul, Nat.reduceSub, Nat.reduceLT, Nat.reduceLeDiff, Nat.reduceEqDiff, Nat.reducePow, Int.reducePow, Int.reduceLE, Int.reduceLT, Int.reduceEq, Int.reduceToNat, reduceCtorEq, RR, RB, RZ, RE, hl_0, h0_0, h1_0, wx1, eq_false c2]
      rintro _ e _ ⟨rfl, k4, rfl, hl_5, h1_5⟩
      have hE := Option.some.inj hF; subst hE
      simp only [↓reduceIte, Nat.reduceAdd, Nat.reduceMul, Nat.reduceSub, Nat.reduceLT, Nat.reduceLeDiff, Nat.reduceEqDiff, Nat.reducePow, Int.reducePow, Int.reduceLE, Int.reduceLT, Int.reduceEq, Int.reduceToNat, reduceCtorEq, RR, RB, RZ, RE, opEv, fillV, mapO, mapS, hl_5, h1_5, eq_false c2]
      exact fin_ret (by simp only [↓reduceIte, Nat.reduceAdd, Nat.reduceMul, Nat.reduceSub, Nat.reduceLT, Nat.reduceLeDiff, Nat.reduceEqDiff, Nat.reducePow, Int.reducePow, Int.reduceLE, Int.reduceLT, Int.reduceEq, Int.reduceToNat, reduceCtorEq, RR, RB, RZ, RE, fn_out, p11, Rs.ev, mapO, mapS, take_len_self, hl_5, h1_5, eq_false c2])
    · dsimp only at hF
      have hE := Option.some.inj hF; subst hE
      simp only [↓reduceIte, Nat.reduceAdd, Nat.reduceMul, Nat.reduceSub, Nat.reduceLT, Nat.reduceLeDiff, Nat.reduceEqDiff, Nat.reducePow, Int.reducePow, Int.reduceLE, Int.reduceLT, Int.reduceEq, Int.reduceToNat, reduceCtorEq, RR, RB, RZ, RE, opEv, fillV, mapO, mapS, b11, hl_0, h0_0, h1_0, wx1, eq_false c2]
      refine W.mono (l11_1 a0   gt11 (Exists.intro _ ( And.intro rfl ?_))) ?_
      · simp only [↓reduceIte, Nat.reduceAdd, Nat.reduceMul, Nat.reduceSub, Nat.reduceLT, Nat.reduceLeDiff, Nat.reduceEqDiff, Nat.reducePow, Int.reducePow, Int.reduceLE, Int.reduceLT, Int.reduceEq, Int.reduceToNat, reduceCtorEq, RR, RB, RZ, RE, hl_0, h0_0, h1_0, wx1, eq_false c2]
      rintro _ e h ⟨rfl, hq⟩
      simp only [↓reduceIte, Nat.reduceAdd, Nat.reduceMul, Nat.reduceSub, Nat.reduceLT, Nat.reduceLeDiff, Nat.reduceEqDiff, Nat.reducePow, Int.reducePow, Int.reduceLE, Int.reduceLT, Int.reduceEq, Int.reduceToNat, reduceCtorEq, RR, RB]
      exact hq
/-! loop.example/g01273/laws.szComplex -/
def F10 (a0 : GComplex) (a1 : Int) : Option Int :=
  (F43 a0.Dims a1).bind fun x1 =>
  if x1 < 0 then
    some (-1)
  else
    (F11 a0.Maps x1).bind fun x4 =>
    if x4 < 0 then
      some (-1)
    else
      some x4
theorem s10 (a0 : GComplex) (a1 : Int)   {r : Int} (hF : F10 a0 a1 = some r) : ans A 10 [V.agg [V.int .i64 a0.Prime, V.isl (List.map Enc.enc a0.Dims), V.isl (List.map Enc.enc a0.Maps)], V.int .i64 a1] = some (Enc.enc r) := by
  refine ans_of (f := p10) rfl rfl rfl fun e hl he => ?_
  have h0_0 : e.at 0 = V.agg [V.int .i64 a0.Prime, V.isl (List.map Enc.enc a0.Dims), V.isl (List.map Enc.enc a0.Maps)] := he 0 _ rfl
  have h1_0 : e.at 1 = V.int .i64 a1 := he 1 _ rfl
  have hl_0 : e.length = 18 := hl
  clear he hl
  show W A b10 e ⟨[], 0⟩ _
  unfold F10 at hF
  obtain ⟨x1, gx1, hF⟩ := bS hF
  have w2 : ans A 43 [V.isl (List.map Enc.enc a0.Dims), V.int .i64 a1] = some (V.int .i64 x1) := s43 a0.Dims a1  gx1
  by_cases c3 : x1 < 0
  · rw [if_pos c3] at hF
    have hE := Option.some.inj hF; subst hE
    simp only [↓reduceIte, Nat.reduceAdd, Nat.reduceMul, Nat.reduceSub, Nat.reduceLT, Nat.reduceLeDiff, Nat.reduceEqDiff, Nat.reducePow, Int.reducePow, Int.reduceLE, Int.reduceLT, Int.reduceEq, Int.reduceToNat, reduceCtorEq, RR, RB, RZ, RE, opEv, fillV, mapO, mapS, b10, hl_0, h0_0, h1_0, w2, eq_true c3]
    exact fin_ret (by simp only [↓reduceIte, Nat.reduceAdd, Nat.reduceMul, Nat.reduceSub, Nat.reduceLT, Nat.reduceLeDiff, Nat.reduceEqDiff, Nat.reducePow, Int.reducePow, Int.reduceLE, Int.reduceLT, Int.reduceEq, Int.reduceToNat, reduceCtorEq, RR, RB, RZ, RE, fn_out, p10, Rs.ev, mapO, mapS, take_len_self, hl_0, h0_0, h1_0, w2, eq_true c3])
  · rw [if_neg c3] at hF
    obtain ⟨x4, gx4, hF⟩ := bS hF
    have w5 : ans A 11 [V.isl (List.map Enc.enc a0.Maps), V.int .i64 x1] = some (V.int .i64 x4) := s11 a0.Maps x1  gx4
    by_cases c6 : x4 < 0
    · rw [if_pos c6] at hF
      have hE := Option.some.inj hF; subst hE
      simp only [↓reduceIte, Nat.reduceAdd, Nat.reduceMul, Nat.reduceSub, Nat.reduceLT, Nat.reduceLeDiff, Nat.reduceEqDiff, Nat.reducePow, Int.reducePow, Int.reduceLE, Int.reduceLT, Int.reduceEq, Int.reduceToNat, reduceCtorEq, RR, RB, RZ, RE, opEv, fillV, mapO, mapS, b10, hl_0, h0_0, h1_0, w2, eq_false c3, w5, eq_true c6]
      exact fin_ret (by simp only [↓reduceIte, Nat.reduceAdd, Nat.reduceMul, Nat.reduceSub, Nat.reduceLT, Nat.reduceLeDiff, Nat.reduceEqDiff, Nat.reducePow, Int.reducePow, Int.reduceLE, Int.reduceLT, Int.reduceEq, Int.reduceToNat, reduceCtorEq, RR, RB, RZ, RE, fn_out, p10, Rs.ev, mapO, mapS, take_len_self, hl_0, h0_0, h1_0, w2, eq_false c3, w5, eq_true c6])
    · rw [if_neg c6] at hF
      have hE := Option.some.inj hF; subst hE
      simp only [↓reduceIte, Nat.reduceAdd, Nat.reduceMul, Nat.reduceSub, Nat.reduceLT, Nat.reduceLeDiff, Nat.reduceEqDiff, Nat.reducePow, Int.reducePow, Int.reduceLE, Int.reduceLT, Int.reduceEq, Int.reduceToNat, reduceCtorEq, RR, RB, RZ, RE, opEv, fillV, mapO, mapS, b10, hl_0, h0_0, h1_0, w2, eq_false c3, w5, eq_false c6]
      exact fin_ret (by simp only [↓reduceIte, Nat.reduceAdd, Nat.reduceMul, Nat.reduceSub, Nat.reduceLT, Nat.reduceLeDiff, Nat.reduceEqDiff, Nat.reducePow, Int.reducePow, Int.reduceLE, Int.reduceLT, Int.reduceEq, Int.reduceToNat, reduceCtorEq, RR, RB, RZ, RE, fn_out, p10, Rs.ev, mapO, mapS, take_len_self, hl_0, h0_0, h1_0, w2, eq_false c3, w5, eq_false c6])
/-! loop.example/g01273/laws.szFiltered -/
def F37 (a0 : GFiltered) (a1 : Int) : Option Int :=
  (F10 a0.Complex a1).bind fun x1 =>
  if x1 < 0 then
    some (-1)
  else
    (F44 a0.Levels x1).bind fun x4 =>
    if x4 < 0 then
      some (-1)
    else
      some x4
theorem s37 (a0 : GFiltered) (a1 : Int)   {r : Int} (hF : F37 a0 a1 = some r) : ans A 37 [V.agg [V.int .i64 a0.Complex.Prime, V.isl (List.map Enc.enc a0.Complex.Dims), V.isl (List.map Enc.enc a0.Complex.Maps), V.isl (List.map Enc.enc a0.Levels)], V.int .i64 a1] = some (Enc.enc r) := by
  refine ans_of (f := p37) rfl rfl rfl fun e hl he => ?_
  have h0_0 : e.at 0 = V.agg [V.int .i64 a0.Complex.Prime, V.isl (List.map Enc.enc a0.Complex.Dims), V.isl (List.map Enc.enc a0.Complex.Maps), V.isl (List.map Enc.enc a0.Levels)] := he 0 _ rfl
  have h1_0 : e.at 1 = V.int .i64 a1 := he 1 _ rfl
  have hl_0 : e.length = 18 := hl
  clear he hl
  show W A b37 e ⟨[], 0⟩ _
  unfold F37 at hF
  obtain ⟨x1, gx1, hF⟩ := bS hF
  have w2 : ans A 10 [V.agg [V.int .i64 a0.Complex.Prime, V.isl (List.map Enc.enc a0.Complex.Dims), V.isl (List.map Enc.enc a0.Complex.Maps)], V.int .i64 a1] = some (V.int .i64 x1) := s10 a0.Complex a1  gx1
  by_cases c3 : x1 < 0
  · rw [if_pos c3] at hF
    have hE := Option.some.inj hF; subst hE
    simp only [↓reduceIte, Nat.reduceAdd, Nat.reduceMul, Nat.reduceSub, Nat.reduceLT, Nat.reduceLeDiff, Nat.reduceEqDiff, Nat.reducePow, Int.reducePow, Int.reduceLE, Int.reduceLT, Int.reduceEq, Int.reduceToNat, reduceCtorEq, RR, RB, RZ, RE, opEv, fillV, mapO, mapS, b37, hl_0, h0_0, h1_0, w2, eq_true c3]
    exact fin_ret (by simp only [↓reduceIte, Nat.reduceAdd, Nat.reduceMul, Nat.reduceSub, Nat.reduceLT, Nat.reduceLeDiff, Nat.reduceEqDiff, Nat.reducePow, Int.reducePow, Int.reduceLE, Int.reduceLT, Int.reduceEq, Int.reduceToNat, reduceCtorEq, RR, RB, RZ, RE, fn_out, p37, Rs.ev, mapO, mapS, take_len_self, hl_0, h0_0, h1_0, w2, eq_true c3])
  · rw [if_neg c3] at hF
    obtain ⟨x4, gx4, hF⟩ := bS hF
    have w5 : ans A 44 [V.isl (List.map Enc.enc a0.Levels), V.int .i64 x1] = some (V.int .i64 x4) := s44 a0.Levels x1  gx4
    by_cases c6 : x4 < 0
    · rw [if_pos c6] at hF
      have hE := Option.some.inj hF; subst hE
      simp only [↓reduceIte, Nat.reduceAdd, Nat.reduceMul, Nat.reduceSub, Nat.reduceLT, Nat.reduceLeDiff, Nat.reduceEqDiff, Nat.reducePow, Int.reducePow, Int.reduceLE, Int.reduceLT, Int.reduceEq, Int.reduceToNat, reduceCtorEq, RR, RB, RZ, RE, opEv, fillV, mapO, mapS, b37, hl_0, h0_0, h1_0, w2, eq_false c3, w5, eq_true c6]
      exact fin_ret (by simp only [↓reduceIte, Nat.reduceAdd, Nat.reduceMul, Nat.reduceSub, Nat.reduceLT, Nat.reduceLeDiff, Nat.reduceEqDiff, Nat.reducePow, Int.reducePow, Int.reduceLE, Int.reduceLT, Int.reduceEq, Int.reduceToNat, reduceCtorEq, RR, RB, RZ, RE, fn_out, p37, Rs.ev, mapO, mapS, take_len_self, hl_0, h0_0, h1_0, w2, eq_false c3, w5, eq_true c6])
    · rw [if_neg c6] at hF
      have hE := Option.some.inj hF; subst hE
      simp only [↓reduceIte, Nat.reduceAdd, Nat.reduceMul, Nat.reduceSub, Nat.reduceLT, Nat.reduceLeDiff, Nat.reduceEqDiff, Nat.reducePow, Int.reducePow, Int.reduceLE, Int.reduceLT, Int.reduceEq, Int.reduceToNat, reduceCtorEq, RR, RB, RZ, RE, opEv, fillV, mapO, mapS, b37, hl_0, h0_0, h1_0, w2, eq_false c3, w5, eq_false c6]
      exact fin_ret (by simp only [↓reduceIte, Nat.reduceAdd, Nat.reduceMul, Nat.reduceSub, Nat.reduceLT, Nat.reduceLeDiff, Nat.reduceEqDiff, Nat.reducePow, Int.reducePow, Int.reduceLE, Int.reduceLT, Int.reduceEq, Int.reduceToNat, reduceCtorEq, RR, RB, RZ, RE, fn_out, p37, Rs.ev, mapO, mapS, take_len_self, hl_0, h0_0, h1_0, w2, eq_false c3, w5, eq_false c6])
/-! loop.example/g01273/laws.szDesk -/
def F6 (a0 : GDesk) (a1 : Int) : Option Int :=
  (F37 a0.First a1).bind fun x1 =>
  if x1 < 0 then
    some (-1)
  else
    (F10 a0.Second x1).bind fun x4 =>
    if x4 < 0 then
      some (-1)
    else
      some x4
theorem s6 (a0 : GDesk) (a1 : Int)   {r : Int} (hF : F6 a0 a1 = some r) : ans A 6 [V.agg [V.int .i64 a0.First.Complex.Prime, V.isl (List.map Enc.enc a0.First.Complex.Dims), V.isl (List.map Enc.enc a0.First.Complex.Maps), V.isl (List.map Enc.enc a0.First.Levels), V.int .i64 a0.Second.Prime, V.isl (List.map Enc.enc a0.Second.Dims), V.isl (List.map Enc.enc a0.Second.Maps)], V.int .i64 a1] = some (Enc.enc r) := by
  refine ans_of (f := p6) rfl rfl rfl fun e hl he => ?_
  have h0_0 : e.at 0 = V.agg [V.int .i64 a0.First.Complex.Prime, V.isl (List.map Enc.enc a0.First.Complex.Dims), V.isl (List.map Enc.enc a0.First.Complex.Maps), V.isl (List.map Enc.enc a0.First.Levels), V.int .i64 a0.Second.Prime, V.isl (List.map Enc.enc a0.Second.Dims), V.isl (List.map Enc.enc a0.Second.Maps)] := he 0 _ rfl
  have h1_0 : e.at 1 = V.int .i64 a1 := he 1 _ rfl
  have hl_0 : e.length = 18 := hl
  clear he hl
  show W A b6 e ⟨[], 0⟩ _
  unfold F6 at hF
  obtain ⟨x1, gx1, hF⟩ := bS hF
  have w2 : ans A 37 [V.agg [V.int .i64 a0.First.Complex.Prime, V.isl (List.map Enc.enc a0.First.Complex.Dims), V.isl (List.map Enc.enc a0.First.Complex.Maps), V.isl (List.map Enc.enc a0.First.Levels)], V.int .i64 a1] = some (V.int .i64 x1) := s37 a0.First a1  gx1
  by_cases c3 : x1 < 0
  · rw [if_pos c3] at hF
    have hE := Option.some.inj hF; subst hE
    simp only [↓reduceIte, Nat.reduceAdd, Nat.reduceMul, Nat.reduceSub, Nat.reduceLT, Nat.reduceLeDiff, Nat.reduceEqDiff, Nat.reducePow, Int.reducePow, Int.reduceLE, Int.reduceLT, Int.reduceEq, Int.reduceToNat, reduceCtorEq, RR, RB, RZ, RE, opEv, fillV, mapO, mapS, b6, hl_0, h0_0, h1_0, w2, eq_true c3]
    exact fin_ret (by simp only [↓reduceIte, Nat.reduceAdd, Nat.reduceMul, Nat.reduceSub, Nat.reduceLT, Nat.reduceLeDiff, Nat.reduceEqDiff, Nat.reducePow, Int.reducePow, Int.reduceLE, Int.reduceLT, Int.reduceEq, Int.reduceToNat, reduceCtorEq, RR, RB, RZ, RE, fn_out, p6, Rs.ev, mapO, mapS, take_len_self, hl_0, h0_0, h1_0, w2, eq_true c3])
  · rw [if_neg c3] at hF
    obtain ⟨x4, gx4, hF⟩ := bS hF
    have w5 : ans A 10 [V.agg [V.int .i64 a0.Second.Prime, V.isl (List.map Enc.enc a0.Second.Dims), V.isl (List.map Enc.enc a0.Second.Maps)], V.int .i64 x1] = some (V.int .i64 x4) := s10 a0.Second x1  gx4
    by_cases c6 : x4 < 0
    · rw [if_pos c6] at hF
      have hE := Option.some.inj hF; subst hE
      simp only [↓reduceIte, Nat.reduceAdd, Nat.reduceMul, Nat.reduceSub, Nat.reduceLT, Nat.reduceLeDiff, Nat.reduceEqDiff, Nat.reducePow, Int.reducePow, Int.reduceLE, Int.reduceLT, Int.reduceEq, Int.reduceToNat, reduceCtorEq, RR, RB, RZ, RE, opEv, fillV, mapO, mapS, b6, hl_0, h0_0, h1_0, w2, eq_false c3, w5, eq_true c6]
      exact fin_ret (by simp only [↓reduceIte, Nat.reduceAdd, Nat.reduceMul, Nat.reduceSub, Nat.reduceLT, Nat.reduceLeDiff, Nat.reduceEqDiff, Nat.reducePow, Int.reducePow, Int.reduceLE, Int.reduceLT, Int.reduceEq, Int.reduceToNat, reduceCtorEq, RR, RB, RZ, RE, fn_out, p6, Rs.ev, mapO, mapS, take_len_self, hl_0, h0_0, h1_0, w2, eq_false c3, w5, eq_true c6])
    · rw [if_neg c6] at hF
      have hE := Option.some.inj hF; subst hE
      simp only [↓reduceIte, Nat.reduceAdd, Nat.reduceMul, Nat.reduceSub, Nat.reduceLT, Nat.reduceLeDiff, Nat.reduceEqDiff, Nat.reducePow, Int.reducePow, Int.reduceLE, Int.reduceLT, Int.reduceEq, Int.reduceToNat, reduceCtorEq, RR, RB, RZ, RE, opEv, fillV, mapO, mapS, b6, hl_0, h0_0, h1_0, w2, eq_false c3, w5, eq_false c6]
      exact fin_ret (by simp only [↓reduceIte, Nat.reduceAdd, Nat.reduceMul, Nat.reduceSub, Nat.reduceLT, Nat.reduceLeDiff, Nat.reduceEqDiff, Nat.reducePow, Int.reducePow, Int.reduceLE, Int.reduceLT, Int.reduceEq, Int.reduceToNat, reduceCtorEq, RR, RB, RZ, RE, fn_out, p6, Rs.ev, mapO, mapS, take_len_self, hl_0, h0_0, h1_0, w2, eq_false c3, w5, eq_false c6])
/-! loop.example/g01273/laws.toInt64S -/
def F47_1_B (a0 : List Int) (v4_1 : Int) (o0_1 : (List Int)) : Option (((List Int)) ⊕ ((List Int))) :=
  (getI a0 v4_1).bind fun x7 =>
(getI o0_1 v4_1).bind fun x9 =>
(setI o0_1 v4_1 x7).bind fun l11 =>
some (.inl l11)
def F47_1_D (a0 : List Int) (v4_1 : Int) (o0_1 : (List Int)) : Option ((List Int)) :=
  some o0_1
def F47 (a0 : List Int) : Option (List Int) :=
  (mkL 8 (a0.length : Int) 0).bind fun l1 =>
  (forR 0 (a0.length : Int) (F47_1_B a0) (F47_1_D a0) l1).bind fun zo0_1 =>
  some zo0_1
def I47_1 (a0 : List Int)  (v4_1 : Int) (o0_1 : (List Int)) (e : Env) (h : Heap) : Prop :=
  ∃ u4 k5 : Nat, h = ⟨[(u4, some (List.map Enc.enc o0_1))], k5⟩ ∧ e.length = 22 ∧ e.at 0 = V.isl (List.map Enc.enc a0) ∧ e.at 3 = V.sl 0 u4 0 o0_1.length 1 ∧ e.at 4 = V.int .i64 v4_1
def P47_1 (a0 : List Int)  (zo0_1 : (List Int)) (x : Ex) (e : Env) (h : Heap) : Prop :=
  x = .normal ∧ ∃ u4 k5 : Nat, h = ⟨[(u4, some (List.map Enc.enc zo0_1))], k5⟩ ∧ e.length = 22 ∧ e.at 3 = V.sl 0 u4 0 zo0_1.length 1
theorem l47_1 (a0 : List Int)   {lo : Int} {s : (List Int)} {t : (List Int)} (hF : forR lo (a0.length : Int) (F47_1_B a0) (F47_1_D a0) s = some t) {e : Env} {h : Heap} (hI : I47_1 a0  lo s e h) : W A c47_1 e h (P47_1 a0  t) := by
  show W A (.block 0 (.loop false b47_1)) e h _
  rw [W_block]
  refine W_forR hF 1 (by obtain ⟨_, _, rfl, _⟩ := hI; rfl) (I47_1 a0 ) hI ?_ ?_
  · rintro v4_1 o0_1 e h ⟨u4, k5, rfl, hl_3, h0_3, h3_3, h4_3⟩ hlt hw o ho
    unfold F47_1_B at ho
    obtain ⟨x7, gx7, ho⟩ := bS ho
    obtain ⟨w8a, w8b⟩ := getI_w gx7
    obtain ⟨x9, gx9, ho⟩ := bS ho
    obtain ⟨w10a, w10b⟩ := getI_w gx9
    have w10c := getI_lt gx9
    have w10d : List.drop (Int.toNat v4_1) (List.map Enc.enc o0_1) = (V.int .i64 x9) :: List.drop ((Int.toNat v4_1) + 1) (List.map Enc.enc o0_1) := drop_enc w10b
    obtain ⟨l11, gl11, ho⟩ := bS ho
    obtain ⟨w12a, w12b, w12c, w12d, w12e⟩ := setI_w gl11
    replace w12e : List.take (Int.toNat v4_1) (List.map Enc.enc o0_1) ++ [V.int .i64 x7] ++ List.drop (Int.toNat v4_1 + 1) (List.map Enc.enc o0_1) = List.map Enc.enc l11 := w12e
    have hE := Option.some.inj ho; subst hE
    simp only [↓reduceIte, Nat.reduceAdd, Nat.reduceMul, Nat.reduceSub, Nat.reduceLT, Nat.reduceLeDiff, Nat.reduceEqDiff, Nat.reducePow, Int.reducePow, Int.reduceLE, Int.reduceLT, Int.reduceEq, Int.reduceToNat, reduceCtorEq, RR, RB, RZ, RE, opEv, fillV, mapO, mapS, b47_1, hl_3, h0_3, h3_3, h4_3, eq_true hlt, hw, w8a, w8b, w10a, w10b, w10c, w10d, w12a, w12b, w12c, w12e]
    refine And.intro rfl (Exists.intro _ ( Exists.intro _ ( And.intro rfl ?_)))
    simp only [↓reduceIte, Nat.reduceAdd, Nat.reduceMul, Nat.reduceSub, Nat.reduceLT, Nat.reduceLeDiff, Nat.reduceEqDiff, Nat.reducePow, Int.reducePow, Int.reduceLE, Int.reduceLT, Int.reduceEq, Int.reduceToNat, reduceCtorEq, RR, RB, RZ, RE, hl_3, h0_3, h3_3, h4_3, eq_true hlt, hw, w8a, w8b, w10a, w10b, w10c, w10d, w12a, w12b, w12c, w12e, w12d]
  · rintro v4_1 o0_1 e h ⟨u4, k5, rfl, hl_3, h0_3, h3_3, h4_3⟩ hge t1 ho
    unfold F47_1_D at ho
    have hE := Option.some.inj ho; subst hE
    simp only [↓reduceIte, Nat.reduceAdd, Nat.reduceMul, Nat.reduceSub, Nat.reduceLT, Nat.reduceLeDiff, Nat.reduceEqDiff, Nat.reducePow, Int.reducePow, Int.reduceLE, Int.reduceLT, Int.reduceEq, Int.reduceToNat, reduceCtorEq, RR, RB, RZ, RE, opEv, fillV, mapO, mapS, b47_1, hl_3, h0_3, h3_3, h4_3, eq_false hge]
    intro ht; subst ht
    refine And.intro rfl (Exists.intro _ ( Exists.intro _ ( And.intro rfl ?_)))
    simp only [↓reduceIte, Nat.reduceAdd, Nat.reduceMul, Nat.reduceSub, Nat.reduceLT, Nat.reduceLeDiff, Nat.reduceEqDiff, Nat.reducePow, Int.reducePow, Int.reduceLE, Int.reduceLT, Int.reduceEq, Int.reduceToNat, reduceCtorEq, RR, RB, RZ, RE, hl_3, h0_3, h3_3, h4_3, eq_false hge]
theorem s47 (a0 : List Int)   {r : List Int} (hF : F47 a0 = some r) : ans A 47 [V.isl (List.map Enc.enc a0)] = some (Enc.enc r) := by
  refine ans_of (f := p47) rfl rfl rfl fun e hl he => ?_
  have h0_0 : e.at 0 = V.isl (List.map Enc.enc a0) := he 0 _ rfl
  have hl_0 : e.length = 22 := hl
  clear he hl
  show W A b47 e ⟨[], 0⟩ _
  unfold F47 at hF
  obtain ⟨l1, gl1, hF⟩ := bS hF
  obtain ⟨w2a, w2b, w2c, w2d, w2e⟩ := mkL_w gl1
  replace w2e : (List.replicate (Int.toNat (a0.length : Int)) [V.int .i64 0]).flatten = List.map Enc.enc l1 := w2e
  obtain ⟨zo0_1, gt13, hF⟩ := bS hF
  simp only [↓reduceIte, Nat.reduceAdd, Nat.reduceMul, Nat.reduceSub, Nat.reduceLT, Nat.reduceLeDiff, Nat.reduceEqDiff, Nat.reducePow, Int.reducePow, Int.reduceLE, Int.reduceLT, Int.reduceEq, Int.reduceToNat, reduceCtorEq, RR, RB, RZ, RE, opEv, fillV, mapO, mapS, b47, hl_0, h0_0, w2a, w2b, w2c, w2e]
  refine W.mono (l47_1 a0   gt13 (Exists.intro _ ( Exists.intro _ ( And.intro rfl ?_)))) ?_
  · simp only [↓reduceIte, Nat.reduceAdd, Nat.reduceMul, Nat.reduceSub, Nat.reduceLT, Nat.reduceLeDiff, Nat.reduceEqDiff, Nat.reducePow, Int.reducePow, Int.reduceLE, Int.reduceLT, Int.reduceEq, Int.reduceToNat, reduceCtorEq, RR, RB, RZ, RE, hl_0, h0_0, w2a, w2b, w2c, w2e, w2d]
  rintro _ e _ ⟨rfl, u4, k5, rfl, hl_6, h3_6⟩
  have hE := Option.some.inj hF; subst hE
  simp only [↓reduceIte, Nat.reduceAdd, Nat.reduceMul, Nat.reduceSub, Nat.reduceLT, Nat.reduceLeDiff, Nat.reduceEqDiff, Nat.reducePow, Int.reducePow, Int.reduceLE, Int.reduceLT, Int.reduceEq, Int.reduceToNat, reduceCtorEq, RR, RB, RZ, RE, opEv, fillV, mapO, mapS, hl_6, h3_6]
  exact fin_ret (by simp only [↓reduceIte, Nat.reduceAdd, Nat.reduceMul, Nat.reduceSub, Nat.reduceLT, Nat.reduceLeDiff, Nat.reduceEqDiff, Nat.reducePow, Int.reducePow, Int.reduceLE, Int.reduceLT, Int.reduceEq, Int.reduceToNat, reduceCtorEq, RR, RB, RZ, RE, fn_out, p47, Rs.ev, mapO, mapS, take_len_self, hl_6, h3_6, frzs (α := Int) zo0_1, takes (α := Int) zo0_1])
/-! loop.example/g01273/laws.toInt64SS -/
def F48_1_B (a0 : List (List Int)) (v4_1 : Int) (o0_1 : (List (List Int))) : Option (((List (List Int))) ⊕ ((List (List Int)))) :=
  (getI a0 v4_1).bind fun x7 =>
(F47 x7).bind fun x9 =>
(getI o0_1 v4_1).bind fun x11 =>
(setI o0_1 v4_1 x9).bind fun l13 =>
some (.inl l13)
def F48_1_D (a0 : List (List Int)) (v4_1 : Int) (o0_1 : (List (List Int))) : Option ((List (List Int))) :=
  some o0_1
def F48 (a0 : List (List Int)) : Option (List (List Int)) :=
  (mkL 24 (a0.length : Int) ([] : List Int)).bind fun l1 =>
  (forR 0 (a0.length : Int) (F48_1_B a0) (F48_1_D a0) l1).bind fun zo0_1 =>
  some zo0_1
def I48_1 (a0 : List (List Int))  (v4_1 : Int) (o0_1 : (List (List Int))) (e : Env) (h : Heap) : Prop :=
  ∃ u4 k5 : Nat, h = ⟨[(u4, some (List.map Enc.enc o0_1))], k5⟩ ∧ e.length = 23 ∧ e.at 0 = V.isl (List.map Enc.enc a0) ∧ e.at 3 = V.sl 0 u4 0 o0_1.length 1 ∧ e.at 4 = V.int .i64 v4_1
def P48_1 (a0 : List (List Int))  (zo0_1 : (List (List Int))) (x : Ex) (e : Env) (h : Heap) : Prop :=
  x = .normal ∧ ∃ u4 k5 : Nat, h = ⟨[(u4, some (List.map Enc.enc zo0_1))], k5⟩ ∧ e.length = 23 ∧ e.at 3 = V.sl 0 u4 0 zo0_1.length 1
theorem l48_1 (a0 : List (List Int))   {lo : Int} {s : (List (List Int))} {t : (List (List Int))} (hF : forR lo (a0.length : Int) (F48_1_B a0) (F48_1_D a0) s = some t) {e : Env} {h : Heap} (hI : I48_1 a0  lo s e h) : W A c48_1 e h (P48_1 a0  t) := by
  show W A (.block 0 (.loop false b48_1)) e h _
  rw [W_block]
  refine W_forR hF 1 (by obtain ⟨_, _, rfl, _⟩ := hI; rfl) (I48_1 a0 ) hI ?_ ?_
  · rintro v4_1 o0_1 e h ⟨u4, k5, rfl, hl_3, h0_3, h3_3, h4_3⟩ hlt hw o ho
    unfold F48_1_B at ho
    obtain ⟨x7, gx7, ho⟩ := bS ho
    obtain ⟨w8a, w8b⟩ := getI_w gx7
    obtain ⟨x9, gx9, ho⟩ := bS ho
    have w10 : ans A 47 [V.isl (List.map Enc.enc x7)] = some (V.isl (List.map Enc.enc x9)) := s47 x7  gx9
    obtain ⟨x11, gx11, ho⟩ := bS ho
    obtain ⟨w12a, w12b⟩ := getI_w gx11
    have w12c := getI_lt gx11
    have w12d : List.drop (Int.toNat v4_1) (List.map Enc.enc o0_1) = (V.isl (List.map Enc.enc x11)) :: List.drop ((Int.toNat v4_1) + 1) (List.map Enc.enc o0_1) := drop_enc w12b
    obtain ⟨l13, gl13, ho⟩ := bS ho
    obtain ⟨w14a, w14b, w14c, w14d, w14e⟩ := setI_w gl13
    replace w14e : List.take (Int.toNat v4_1) (List.map Enc.enc o0_1) ++ [V.isl (List.map Enc.enc x9)] ++ List.drop (Int.toNat v4_1 + 1) (List.map Enc.enc o0_1) = List.map Enc.enc l13 := w14e
    have hE := Option.some.inj ho; subst hE
    simp only [↓reduceIte, Nat.reduceAdd, Nat.reduceMul, Nat.reduceSub, Nat.reduceLT, Nat.reduceLeDiff, Nat.reduceEqDiff, Nat.reducePow, Int.reducePow, Int.reduceLE, Int.reduceLT, Int.reduceEq, Int.reduceToNat, reduceCtorEq, RR, RB, RZ, RE, opEv, fillV, mapO, mapS, b48_1, hl_3, h0_3, h3_3, h4_3, eq_true hlt, hw, w8a, w8b, w10, w12a, w12b, w12c, w12d, w14a, w14b, w14c, w14e]
    refine And.intro rfl (Exists.intro _ ( Exists.intro _ ( And.intro rfl ?_)))
    simp only [↓reduceIte, Nat.reduceAdd, Nat.reduceMul, Nat.reduceSub, Nat.reduceLT, Nat.reduceLeDiff, Nat.reduceEqDiff, Nat.reducePow, Int.reducePow, Int.reduceLE, Int.reduceLT, Int.reduceEq, Int.reduceToNat, reduceCtorEq, RR, RB, RZ, RE, hl_3, h0_3, h3_3, h4_3, eq_true hlt, hw, w8a, w8b, w10, w12a, w12b, w12c, w12d, w14a, w14b, w14c, w14e, w14d]
  · rintro v4_1 o0_1 e h ⟨u4, k5, rfl, hl_3, h0_3, h3_3, h4_3⟩ hge t1 ho
    unfold F48_1_D at ho
    have hE := Option.some.inj ho; subst hE
    simp only [↓reduceIte, Nat.reduceAdd, Nat.reduceMul, Nat.reduceSub, Nat.reduceLT, Nat.reduceLeDiff, Nat.reduceEqDiff, Nat.reducePow, Int.reducePow, Int.reduceLE, Int.reduceLT, Int.reduceEq, Int.reduceToNat, reduceCtorEq, RR, RB, RZ, RE, opEv, fillV, mapO, mapS, b48_1, hl_3, h0_3, h3_3, h4_3, eq_false hge]
    intro ht; subst ht
    refine And.intro rfl (Exists.intro _ ( Exists.intro _ ( And.intro rfl ?_)))
    simp only [↓reduceIte, Nat.reduceAdd, Nat.reduceMul, Nat.reduceSub, Nat.reduceLT, Nat.reduceLeDiff, Nat.reduceEqDiff, Nat.reducePow, Int.reducePow, Int.reduceLE, Int.reduceLT, Int.reduceEq, Int.reduceToNat, reduceCtorEq, RR, RB, RZ, RE, hl_3, h0_3, h3_3, h4_3, eq_false hge]
theorem s48 (a0 : List (List Int))   {r : List (List Int)} (hF : F48 a0 = some r) : ans A 48 [V.isl (List.map Enc.enc a0)] = some (Enc.enc r) := by
  refine ans_of (f := p48) rfl rfl rfl fun e hl he => ?_
  have h0_0 : e.at 0 = V.isl (List.map Enc.enc a0) := he 0 _ rfl
  have hl_0 : e.length = 23 := hl
  clear he hl
  show W A b48 e ⟨[], 0⟩ _
  unfold F48 at hF
  obtain ⟨l1, gl1, hF⟩ := bS hF
  obtain ⟨w2a, w2b, w2c, w2d, w2e⟩ := mkN_w gl1
  obtain ⟨zo0_1, gt15, hF⟩ := bS hF
  simp only [↓reduceIte, Nat.reduceAdd, Nat.reduceMul, Nat.reduceSub, Nat.reduceLT, Nat.reduceLeDiff, Nat.reduceEqDiff, Nat.reducePow, Int.reducePow, Int.reduceLE, Int.reduceLT, Int.reduceEq, Int.reduceToNat, reduceCtorEq, RR, RB, RZ, RE, opEv, fillV, mapO, mapS, b48, hl_0, h0_0, w2a, w2b, w2c, w2e]
  refine W.mono (l48_1 a0   gt15 (Exists.intro _ ( Exists.intro _ ( And.intro rfl ?_)))) ?_
  · simp only [↓reduceIte, Nat.reduceAdd, Nat.reduceMul, Nat.reduceSub, Nat.reduceLT, Nat.reduceLeDiff, Nat.reduceEqDiff, Nat.reducePow, Int.reducePow, Int.reduceLE, Int.reduceLT, Int.reduceEq, Int.reduceToNat, reduceCtorEq, RR, RB, RZ, RE, hl_0, h0_0, w2a, w2b, w2c, w2e, w2d]
  rintro _ e _ ⟨rfl, u4, k5, rfl, hl_6, h3_6⟩
  have hE := Option.some.inj hF; subst hE
  simp only [↓reduceIte, Nat.reduceAdd, Nat.reduceMul, Nat.reduceSub, Nat.reduceLT, Nat.reduceLeDiff, Nat.reduceEqDiff, Nat.reducePow, Int.reducePow, Int.reduceLE, Int.reduceLT, Int.reduceEq, Int.reduceToNat, reduceCtorEq, RR, RB, RZ, RE, opEv, fillV, mapO, mapS, hl_6, h3_6]
  exact fin_ret (by simp only [↓reduceIte, Nat.reduceAdd, Nat.reduceMul, Nat.reduceSub, Nat.reduceLT, Nat.reduceLeDiff, Nat.reduceEqDiff, Nat.reducePow, Int.reducePow, Int.reduceLE, Int.reduceLT, Int.reduceEq, Int.reduceToNat, reduceCtorEq, RR, RB, RZ, RE, fn_out, p48, Rs.ev, mapO, mapS, take_len_self, hl_6, h3_6, frzs (α := List Int) zo0_1, takes (α := List Int) zo0_1])
/-! loop.example/g01273/laws.toInt64SSS -/
def F13_1_B (a0 : List (List (List Int))) (v4_1 : Int) (o0_1 : (List (List (List Int)))) : Option (((List (List (List Int)))) ⊕ ((List (List (List Int))))) :=
  (getI a0 v4_1).bind fun x7 =>
(F48 x7).bind fun x9 =>
(getI o0_1 v4_1).bind fun x11 =>
(setI o0_1 v4_1 x9).bind fun l13 =>
some (.inl l13)
def F13_1_D (a0 : List (List (List Int))) (v4_1 : Int) (o0_1 : (List (List (List Int)))) : Option ((List (List (List Int)))) :=
  some o0_1
def F13 (a0 : List (List (List Int))) : Option (List (List (List Int))) :=
  (mkL 24 (a0.length : Int) ([] : List (List Int))).bind fun l1 =>
  (forR 0 (a0.length : Int) (F13_1_B a0) (F13_1_D a0) l1).bind fun zo0_1 =>
  some zo0_1
def I13_1 (a0 : List (List (List Int)))  (v4_1 : Int) (o0_1 : (List (List (List Int)))) (e : Env) (h : Heap) : Prop :=
  ∃ u4 k5 : Nat, h = ⟨[(u4, some (List.map Enc.enc o0_1))], k5⟩ ∧ e.length = 23 ∧ e.at 0 = V.isl (List.map Enc.enc a0) ∧ e.at 3 = V.sl 0 u4 0 o0_1.length 1 ∧ e.at 4 = V.int .i64 v4_1
def P13_1 (a0 : List (List (List Int)))  (zo0_1 : (List (List (List Int)))) (x : Ex) (e : Env) (h : Heap) : Prop :=
  x = .normal ∧ ∃ u4 k5 : Nat, h = ⟨[(u4, some (List.map Enc.enc zo0_1))], k5⟩ ∧ e.length = 23 ∧ e.at 3 = V.sl 0 u4 0 zo0_1.length 1
theorem l13_1 (a0 : List (List (List Int)))   {lo : Int} {s : (List (List (List Int)))} {t : (List (List (List Int)))} (hF : forR lo (a0.length : Int) (F13_1_B a0) (F13_1_D a0) s = some t) {e : Env} {h : Heap} (hI : I13_1 a0  lo s e h) : W A c13_1 e h (P13_1 a0  t) := by
  show W A (.block 0 (.loop false b13_1)) e h _
  rw [W_block]
  refine W_forR hF 1 (by obtain ⟨_, _, rfl, _⟩ := hI; rfl) (I13_1 a0 ) hI ?_ ?_
  · rintro v4_1 o0_1 e h ⟨u4, k5, rfl, hl_3, h0_3, h3_3, h4_3⟩ hlt hw o ho
    unfold F13_1_B at ho
    obtain ⟨x7, gx7, ho⟩ := bS ho
    obtain ⟨w8a, w8b⟩ := getI_w gx7
    obtain ⟨x9, gx9, ho⟩ := bS ho
    have w10 : ans A 48 [V.isl (List.map Enc.enc x7)] = some (V.isl (List.map Enc.enc x9)) := s48 x7  gx9
    obtain ⟨x11, gx11, ho⟩ := bS ho
    obtain ⟨w12a, w12b⟩ := getI_w gx11
    have w12c := getI_lt gx11
    have w12d : List.drop (Int.toNat v4_1) (List.map Enc.enc o0_1) = (V.isl (List.map Enc.enc x11)) :: List.drop ((Int.toNat v4_1) + 1) (List.map Enc.enc o0_1) := drop_enc w12b
    obtain ⟨l13, gl13, ho⟩ := bS ho
    obtain ⟨w14a, w14b, w14c, w14d, w14e⟩ := setI_w gl13
    replace w14e : List.take (Int.toNat v4_1) (List.map Enc.enc o0_1) ++ [V.isl (List.map Enc.enc x9)] ++ List.drop (Int.toNat v4_1 + 1) (List.map Enc.enc o0_1) = List.map Enc.enc l13 := w14e
    have hE := Option.some.inj ho; subst hE
    simp only [↓reduceIte, Nat.reduceAdd, Nat.reduceMul, Nat.reduceSub, Nat.reduceLT, Nat.reduceLeDiff, Nat.reduceEqDiff, Nat.reducePow, Int.reducePow, Int.reduceLE, Int.reduceLT, Int.reduceEq, Int.reduceToNat, reduceCtorEq, RR, RB, RZ, RE, opEv, fillV, mapO, mapS, b13_1, hl_3, h0_3, h3_3, h4_3, eq_true hlt, hw, w8a, w8b, w10, w12a, w12b, w12c, w12d, w14a, w14b, w14c, w14e]
    refine And.intro rfl (Exists.intro _ ( Exists.intro _ ( And.intro rfl ?_)))
    simp only [↓reduceIte, Nat.reduceAdd, Nat.reduceMul, Nat.reduceSub, Nat.reduceLT, Nat.reduceLeDiff, Nat.reduceEqDiff, Nat.reducePow, Int.reducePow, Int.reduceLE, Int.reduceLT, Int.reduceEq, Int.reduceToNat, reduceCtorEq, RR, RB, RZ, RE, hl_3, h0_3, h3_3, h4_3, eq_true hlt, hw, w8a, w8b, w10, w12a, w12b, w12c, w12d, w14a, w14b, w14c, w14e, w14d]
  · rintro v4_1 o0_1 e h ⟨u4, k5, rfl, hl_3, h0_3, h3_3, h4_3⟩ hge t1 ho
    unfold F13_1_D at ho
    have hE := Option.some.inj ho; subst hE
    simp only [↓reduceIte, Nat.reduceAdd, Nat.reduceMul, Nat.reduceSub, Nat.reduceLT, Nat.reduceLeDiff, Nat.reduceEqDiff, Nat.reducePow, Int.reducePow, Int.reduceLE, Int.reduceLT, Int.reduceEq, Int.reduceToNat, reduceCtorEq, RR, RB, RZ, RE, opEv, fillV, mapO, mapS, b13_1, hl_3, h0_3, h3_3, h4_3, eq_false hge]
    intro ht; subst ht
    refine And.intro rfl (Exists.intro _ ( Exists.intro _ ( And.intro rfl ?_)))
    simp only [↓reduceIte, Nat.reduceAdd, Nat.reduceMul, Nat.reduceSub, Nat.reduceLT, Nat.reduceLeDiff, Nat.reduceEqDiff, Nat.reducePow, Int.reducePow, Int.reduceLE, Int.reduceLT, Int.reduceEq, Int.reduceToNat, reduceCtorEq, RR, RB, RZ, RE, hl_3, h0_3, h3_3, h4_3, eq_false hge]
theorem s13 (a0 : List (List (List Int)))   {r : List (List (List Int))} (hF : F13 a0 = some r) : ans A 13 [V.isl (List.map Enc.enc a0)] = some (Enc.enc r) := by
  refine ans_of (f := p13) rfl rfl rfl fun e hl he => ?_
  have h0_0 : e.at 0 = V.isl (List.map Enc.enc a0) := he 0 _ rfl
  have hl_0 : e.length = 23 := hl
  clear he hl
  show W A b13 e ⟨[], 0⟩ _
  unfold F13 at hF
  obtain ⟨l1, gl1, hF⟩ := bS hF
  obtain ⟨w2a, w2b, w2c, w2d, w2e⟩ := mkN_w gl1
  obtain ⟨zo0_1, gt15, hF⟩ := bS hF
  simp only [↓reduceIte, Nat.reduceAdd, Nat.reduceMul, Nat.reduceSub, Nat.reduceLT, Nat.reduceLeDiff, Nat.reduceEqDiff, Nat.reducePow, Int.reducePow, Int.reduceLE, Int.reduceLT, Int.reduceEq, Int.reduceToNat, reduceCtorEq, RR, RB, RZ, RE, opEv, fillV, mapO, mapS, b13, hl_0, h0_0, w2a, w2b, w2c, w2e]
  refine W.mono (l13_1 a0   gt15 (Exists.intro _ ( Exists.intro _ ( And.intro rfl ?_)))) ?_
  · simp only [↓reduceIte, Nat.reduceAdd, Nat.reduceMul, Nat.reduceSub, Nat.reduceLT, Nat.reduceLeDiff, Nat.reduceEqDiff, Nat.reducePow, Int.reducePow, Int.reduceLE, Int.reduceLT, Int.reduceEq, Int.reduceToNat, reduceCtorEq, RR, RB, RZ, RE, hl_0, h0_0, w2a, w2b, w2c, w2e, w2d]
  rintro _ e _ ⟨rfl, u4, k5, rfl, hl_6, h3_6⟩
  have hE := Option.some.inj hF; subst hE
  simp only [↓reduceIte, Nat.reduceAdd, Nat.reduceMul, Nat.reduceSub, Nat.reduceLT, Nat.reduceLeDiff, Nat.reduceEqDiff, Nat.reducePow, Int.reducePow, Int.reduceLE, Int.reduceLT, Int.reduceEq, Int.reduceToNat, reduceCtorEq, RR, RB, RZ, RE, opEv, fillV, mapO, mapS, hl_6, h3_6]
  exact fin_ret (by simp only [↓reduceIte, Nat.reduceAdd, Nat.reduceMul, Nat.reduceSub, Nat.reduceLT, Nat.reduceLeDiff, Nat.reduceEqDiff, Nat.reducePow, Int.reducePow, Int.reduceLE, Int.reduceLT, Int.reduceEq, Int.reduceToNat, reduceCtorEq, RR, RB, RZ, RE, fn_out, p13, Rs.ev, mapO, mapS, take_len_self, hl_6, h3_6, frzs (α := List (List Int)) zo0_1, takes (α := List (List Int)) zo0_1])
/-! loop.example/g01273/laws.toComplex -/
def F12 (a0 : GComplex) : Option GComplex :=
  (F47 a0.Dims).bind fun x1 =>
  (F13 a0.Maps).bind fun x3 =>
  some ⟨a0.Prime, x1, x3⟩
theorem s12 (a0 : GComplex)   {r : GComplex} (hF : F12 a0 = some r) : ans A 12 [V.agg [V.int .i64 a0.Prime, V.isl (List.map Enc.enc a0.Dims), V.isl (List.map Enc.enc a0.Maps)]] = some (Enc.enc r) := by
  refine ans_of (f := p12) rfl rfl rfl fun e hl he => ?_
  have h0_0 : e.at 0 = V.agg [V.int .i64 a0.Prime, V.isl (List.map Enc.enc a0.Dims), V.isl (List.map Enc.enc a0.Maps)] := he 0 _ rfl
  have hl_0 : e.length = 16 := hl
  clear he hl
  show W A b12 e ⟨[], 0⟩ _
  unfold F12 at hF
  obtain ⟨x1, gx1, hF⟩ := bS hF
  have w2 : ans A 47 [V.isl (List.map Enc.enc a0.Dims)] = some (V.isl (List.map Enc.enc x1)) := s47 a0.Dims  gx1
  obtain ⟨x3, gx3, hF⟩ := bS hF
  have w4 : ans A 13 [V.isl (List.map Enc.enc a0.Maps)] = some (V.isl (List.map Enc.enc x3)) := s13 a0.Maps  gx3
  have hE := Option.some.inj hF; subst hE
  simp only [↓reduceIte, Nat.reduceAdd, Nat.reduceMul, Nat.reduceSub, Nat.reduceLT, Nat.reduceLeDiff, Nat.reduceEqDiff, Nat.reducePow, Int.reducePow, Int.reduceLE, Int.reduceLT, Int.reduceEq, Int.reduceToNat, reduceCtorEq, RR, RB, RZ, RE, opEv, fillV, mapO, mapS, b12, hl_0, h0_0, w2, w4]
  exact fin_ret (by simp only [↓reduceIte, Nat.reduceAdd, Nat.reduceMul, Nat.reduceSub, Nat.reduceLT, Nat.reduceLeDiff, Nat.reduceEqDiff, Nat.reducePow, Int.reducePow, Int.reduceLE, Int.reduceLT, Int.reduceEq, Int.reduceToNat, reduceCtorEq, RR, RB, RZ, RE, fn_out, p12, Rs.ev, mapO, mapS, take_len_self, hl_0, h0_0, w2, w4])
/-! loop.example/g01273/laws.toFiltered -/
def F40 (a0 : GFiltered) : Option GFiltered :=
  (F12 a0.Complex).bind fun x1 =>
  (F48 a0.Levels).bind fun x3 =>
  some ⟨x1, x3⟩
theorem s40 (a0 : GFiltered)   {r : GFiltered} (hF : F40 a0 = some r) : ans A 40 [V.agg [V.int .i64 a0.Complex.Prime, V.isl (List.map Enc.enc a0.Complex.Dims), V.isl (List.map Enc.enc a0.Complex.Maps), V.isl (List.map Enc.enc a0.Levels)]] = some (Enc.enc r) := by
  refine ans_of (f := p40) rfl rfl rfl fun e hl he => ?_
  have h0_0 : e.at 0 = V.agg [V.int .i64 a0.Complex.Prime, V.isl (List.map Enc.enc a0.Complex.Dims), V.isl (List.map Enc.enc a0.Complex.Maps), V.isl (List.map Enc.enc a0.Levels)] := he 0 _ rfl
  have hl_0 : e.length = 13 := hl
  clear he hl
  show W A b40 e ⟨[], 0⟩ _
  unfold F40 at hF
  obtain ⟨x1, gx1, hF⟩ := bS hF
  have w2 : ans A 12 [V.agg [V.int .i64 a0.Complex.Prime, V.isl (List.map Enc.enc a0.Complex.Dims), V.isl (List.map Enc.enc a0.Complex.Maps)]] = some (V.agg [V.int .i64 x1.Prime, V.isl (List.map Enc.enc x1.Dims), V.isl (List.map Enc.enc x1.Maps)]) := s12 a0.Complex  gx1
  obtain ⟨x3, gx3, hF⟩ := bS hF
  have w4 : ans A 48 [V.isl (List.map Enc.enc a0.Levels)] = some (V.isl (List.map Enc.enc x3)) := s48 a0.Levels  gx3
  have hE := Option.some.inj hF; subst hE
  simp only [↓reduceIte, Nat.reduceAdd, Nat.reduceMul, Nat.reduceSub, Nat.reduceLT, Nat.reduceLeDiff, Nat.reduceEqDiff, Nat.reducePow, Int.reducePow, Int.reduceLE, Int.reduceLT, Int.reduceEq, Int.reduceToNat, reduceCtorEq, RR, RB, RZ, RE, opEv, fillV, mapO, mapS, b40, hl_0, h0_0, w2, w4]
  exact fin_ret (by simp only [↓reduceIte, Nat.reduceAdd, Nat.reduceMul, Nat.reduceSub, Nat.reduceLT, Nat.reduceLeDiff, Nat.reduceEqDiff, Nat.reducePow, Int.reducePow, Int.reduceLE, Int.reduceLT, Int.reduceEq, Int.reduceToNat, reduceCtorEq, RR, RB, RZ, RE, fn_out, p40, Rs.ev, mapO, mapS, take_len_self, hl_0, h0_0, w2, w4])
/-! loop.example/g01273/laws.toDesk -/
def F7 (a0 : GDesk) : Option GDesk :=
  (F40 a0.First).bind fun x1 =>
  (F12 a0.Second).bind fun x3 =>
  some ⟨x1, x3⟩
theorem s7 (a0 : GDesk)   {r : GDesk} (hF : F7 a0 = some r) : ans A 7 [V.agg [V.int .i64 a0.First.Complex.Prime, V.isl (List.map Enc.enc a0.First.Complex.Dims), V.isl (List.map Enc.enc a0.First.Complex.Maps), V.isl (List.map Enc.enc a0.First.Levels), V.int .i64 a0.Second.Prime, V.isl (List.map Enc.enc a0.Second.Dims), V.isl (List.map Enc.enc a0.Second.Maps)]] = some (Enc.enc r) := by
  refine ans_of (f := p7) rfl rfl rfl fun e hl he => ?_
  have h0_0 : e.at 0 = V.agg [V.int .i64 a0.First.Complex.Prime, V.isl (List.map Enc.enc a0.First.Complex.Dims), V.isl (List.map Enc.enc a0.First.Complex.Maps), V.isl (List.map Enc.enc a0.First.Levels), V.int .i64 a0.Second.Prime, V.isl (List.map Enc.enc a0.Second.Dims), V.isl (List.map Enc.enc a0.Second.Maps)] := he 0 _ rfl
  have hl_0 : e.length = 13 := hl
  clear he hl
  show W A b7 e ⟨[], 0⟩ _
  unfold F7 at hF
  obtain ⟨x1, gx1, hF⟩ := bS hF
  have w2 : ans A 40 [V.agg [V.int .i64 a0.First.Complex.Prime, V.isl (List.map Enc.enc a0.First.Complex.Dims), V.isl (List.map Enc.enc a0.First.Complex.Maps), V.isl (List.map Enc.enc a0.First.Levels)]] = some (V.agg [V.int .i64 x1.Complex.Prime, V.isl (List.map Enc.enc x1.Complex.Dims), V.isl (List.map Enc.enc x1.Complex.Maps), V.isl (List.map Enc.enc x1.Levels)]) := s40 a0.First  gx1
  obtain ⟨x3, gx3, hF⟩ := bS hF
  have w4 : ans A 12 [V.agg [V.int .i64 a0.Second.Prime, V.isl (List.map Enc.enc a0.Second.Dims), V.isl (List.map Enc.enc a0.Second.Maps)]] = some (V.agg [V.int .i64 x3.Prime, V.isl (List.map Enc.enc x3.Dims), V.isl (List.map Enc.enc x3.Maps)]) := s12 a0.Second  gx3
  have hE := Option.some.inj hF; subst hE
  simp only [↓reduceIte, Nat.reduceAdd, Nat.reduceMul, Nat.reduceSub, Nat.reduceLT, Nat.reduceLeDiff, Nat.reduceEqDiff, Nat.reducePow, Int.reducePow, Int.reduceLE, Int.reduceLT, Int.reduceEq, Int.reduceToNat, reduceCtorEq, RR, RB, RZ, RE, opEv, fillV, mapO, mapS, b7, hl_0, h0_0, w2, w4]
  exact fin_ret (by simp only [↓reduceIte, Nat.reduceAdd, Nat.reduceMul, Nat.reduceSub, Nat.reduceLT, Nat.reduceLeDiff, Nat.reduceEqDiff, Nat.reducePow, Int.reducePow, Int.reduceLE, Int.reduceLT, Int.reduceEq, Int.reduceToNat, reduceCtorEq, RR, RB, RZ, RE, fn_out, p7, Rs.ev, mapO, mapS, take_len_self, hl_0, h0_0, w2, w4])
/-! loop.example/g01273/spec.l01In -/
def F54 (a0 : Int) (a1 : Int) (a2 : Int) : Option Bool :=
  if a1 ≤ a0 then
    some (decide (a0 ≤ a2))
  else
    some false
theorem s54 (a0 : Int) (a1 : Int) (a2 : Int)   {r : Bool} (hF : F54 a0 a1 a2 = some r) : ans A 54 [V.int .i64 a0, V.int .i64 a1, V.int .i64 a2] = some (Enc.enc r) := by
  refine ans_of (f := p54) rfl rfl rfl fun e hl he => ?_
  have h0_0 : e.at 0 = V.int .i64 a0 := he 0 _ rfl
  have h1_0 : e.at 1 = V.int .i64 a1 := he 1 _ rfl
  have h2_0 : e.at 2 = V.int .i64 a2 := he 2 _ rfl
  have hl_0 : e.length = 15 := hl
  clear he hl
  show W A b54 e ⟨[], 0⟩ _
  unfold F54 at hF
  by_cases c1 : a1 ≤ a0
  · rw [if_pos c1] at hF
    have hE := Option.some.inj hF; subst hE
    simp only [↓reduceIte, Nat.reduceAdd, Nat.reduceMul, Nat.reduceSub, Nat.reduceLT, Nat.reduceLeDiff, Nat.reduceEqDiff, Nat.reducePow, Int.reducePow, Int.reduceLE, Int.reduceLT, Int.reduceEq, Int.reduceToNat, reduceCtorEq, RR, RB, RZ, RE, opEv, fillV, mapO, mapS, b54, hl_0, h0_0, h1_0, h2_0, eq_true c1]
    exact fin_ret (by simp only [↓reduceIte, Nat.reduceAdd, Nat.reduceMul, Nat.reduceSub, Nat.reduceLT, Nat.reduceLeDiff, Nat.reduceEqDiff, Nat.reducePow, Int.reducePow, Int.reduceLE, Int.reduceLT, Int.reduceEq, Int.reduceToNat, reduceCtorEq, RR, RB, RZ, RE, fn_out, p54, Rs.ev, mapO, mapS, take_len_self, hl_0, h0_0, h1_0, h2_0, eq_true c1])
  · rw [if_neg c1] at hF
    have hE := Option.some.inj hF; subst hE
    simp only [↓reduceIte, Nat.reduceAdd, Nat.reduceMul, Nat.reduceSub, Nat.reduceLT, Nat.reduceLeDiff, Nat.reduceEqDiff, Nat.reducePow, Int.reducePow, Int.reduceLE, Int.reduceLT, Int.reduceEq, Int.reduceToNat, reduceCtorEq, RR, RB, RZ, RE, opEv, fillV, mapO, mapS, b54, hl_0, h0_0, h1_0, h2_0, eq_false c1]
    exact fin_ret (by simp only [↓reduceIte, Nat.reduceAdd, Nat.reduceMul, Nat.reduceSub, Nat.reduceLT, Nat.reduceLeDiff, Nat.reduceEqDiff, Nat.reducePow, Int.reducePow, Int.reduceLE, Int.reduceLT, Int.reduceEq, Int.reduceToNat, reduceCtorEq, RR, RB, RZ, RE, fn_out, p54, Rs.ev, mapO, mapS, take_len_self, hl_0, h0_0, h1_0, h2_0, eq_false c1])
/-! loop.example/g01273/spec.l01Prime -/
def F78 (a0 : Int) : Option Bool :=
  if a0 = 2 then
    some true
  else
    if a0 = 3 then
      some true
    else
      if a0 = 5 then
        some true
      else
        some (decide (a0 = 7))
theorem s78 (a0 : Int)   {r : Bool} (hF : F78 a0 = some r) : ans A 78 [V.int .i64 a0] = some (Enc.enc r) := by
  refine ans_of (f := p78) rfl rfl rfl fun e hl he => ?_
  have h0_0 : e.at 0 = V.int .i64 a0 := he 0 _ rfl
  have hl_0 : e.length = 17 := hl
  clear he hl
  show W A b78 e ⟨[], 0⟩ _
  unfold F78 at hF
  by_cases c1 : a0 = 2
  · rw [if_pos c1] at hF
    have hE := Option.some.inj hF; subst hE
    simp only [↓reduceIte, Nat.reduceAdd, Nat.reduceMul, Nat.reduceSub, Nat.reduceLT, Nat.reduceLeDiff, Nat.reduceEqDiff, Nat.reducePow, Int.reducePow, Int.reduceLE, Int.reduceLT, Int.reduceEq, Int.reduceToNat, reduceCtorEq, RR, RB, RZ, RE, opEv, fillV, mapO, mapS, b78, hl_0, h0_0, eq_true c1]
    exact fin_ret (by simp only [↓reduceIte, Nat.reduceAdd, Nat.reduceMul, Nat.reduceSub, Nat.reduceLT, Nat.reduceLeDiff, Nat.reduceEqDiff, Nat.reducePow, Int.reducePow, Int.reduceLE, Int.reduceLT, Int.reduceEq, Int.reduceToNat, reduceCtorEq, RR, RB, RZ, RE, fn_out, p78, Rs.ev, mapO, mapS, take_len_self, hl_0, h0_0, eq_true c1])
  · rw [if_neg c1] at hF
    by_cases c2 : a0 = 3
    · rw [if_pos c2] at hF
      have hE := Option.some.inj hF; subst hE
      simp only [↓reduceIte, Nat.reduceAdd, Nat.reduceMul, Nat.reduceSub, Nat.reduceLT, Nat.reduceLeDiff, Nat.reduceEqDiff, Nat.reducePow, Int.reducePow, Int.reduceLE, Int.reduceLT, Int.reduceEq, Int.reduceToNat, reduceCtorEq, RR, RB, RZ, RE, opEv, fillV, mapO, mapS, b78, hl_0, h0_0, eq_false c1, eq_true c2]
      exact fin_ret (by simp only [↓reduceIte, Nat.reduceAdd, Nat.reduceMul, Nat.reduceSub, Nat.reduceLT, Nat.reduceLeDiff, Nat.reduceEqDiff, Nat.reducePow, Int.reducePow, Int.reduceLE, Int.reduceLT, Int.reduceEq, Int.reduceToNat, reduceCtorEq, RR, RB, RZ, RE, fn_out, p78, Rs.ev, mapO, mapS, take_len_self, hl_0, h0_0, eq_false c1, eq_true c2])
    · rw [if_neg c2] at hF
      by_cases c3 : a0 = 5
      · rw [if_pos c3] at hF
        have hE := Option.some.inj hF; subst hE
        simp only [↓reduceIte, Nat.reduceAdd, Nat.reduceMul, Nat.reduceSub, Nat.reduceLT, Nat.reduceLeDiff, Nat.reduceEqDiff, Nat.reducePow, Int.reducePow, Int.reduceLE, Int.reduceLT, Int.reduceEq, Int.reduceToNat, reduceCtorEq, RR, RB, RZ, RE, opEv, fillV, mapO, mapS, b78, hl_0, h0_0, eq_false c1, eq_false c2, eq_true c3]
        exact fin_ret (by simp only [↓reduceIte, Nat.reduceAdd, Nat.reduceMul, Nat.reduceSub, Nat.reduceLT, Nat.reduceLeDiff, Nat.reduceEqDiff, Nat.reducePow, Int.reducePow, Int.reduceLE, Int.reduceLT, Int.reduceEq, Int.reduceToNat, reduceCtorEq, RR, RB, RZ, RE, fn_out, p78, Rs.ev, mapO, mapS, take_len_self, hl_0, h0_0, eq_false c1, eq_false c2, eq_true c3])
      · rw [if_neg c3] at hF
        have hE := Option.some.inj hF; subst hE
        simp only [↓reduceIte, Nat.reduceAdd, Nat.reduceMul, Nat.reduceSub, Nat.reduceLT, Nat.reduceLeDiff, Nat.reduceEqDiff, Nat.reducePow, Int.reducePow, Int.reduceLE, Int.reduceLT, Int.reduceEq, Int.reduceToNat, reduceCtorEq, RR, RB, RZ, RE, opEv, fillV, mapO, mapS, b78, hl_0, h0_0, eq_false c1, eq_false c2, eq_false c3]
        exact fin_ret (by simp only [↓reduceIte, Nat.reduceAdd, Nat.reduceMul, Nat.reduceSub, Nat.reduceLT, Nat.reduceLeDiff, Nat.reduceEqDiff, Nat.reducePow, Int.reducePow, Int.reduceLE, Int.reduceLT, Int.reduceEq, Int.reduceToNat, reduceCtorEq, RR, RB, RZ, RE, fn_out, p78, Rs.ev, mapO, mapS, take_len_self, hl_0, h0_0, eq_false c1, eq_false c2, eq_false c3])
/-! loop.example/g01273/spec.l01Table -/
def F79_2_S (a0 : Int) (a1 : List (List Int)) (a3 : Int) (v9_1 : Int) (v10_2 : Int) : Option ((Int) ⊕ ((Unit) ⊕ Bool)) :=
  (getI a1 v9_1).bind fun x11 =>
if v10_2 < (x11.length : Int) then
  (getI x11 v10_2).bind fun x14 =>
  (chk (a0 - 1)).bind fun x16 =>
  (F54 x14 0 x16).bind fun x17 =>
  if x17 = true then
    (chk (v10_2 + 1)).bind fun x19 =>
    some (.inl x19)
  else
    some (.inr (.inr false))
else
  some (.inr (.inl ()))
def F79_1_B (a0 : Int) (a1 : List (List Int)) (a3 : Int) (v9_1 : Int) (s : Unit) : Option ((Unit) ⊕ ((Unit) ⊕ Bool)) :=
  (getI a1 v9_1).bind fun x5 =>
if (x5.length : Int) = a3 then
  (loopW (F79_2_S a0 a1 a3 v9_1) 0).bind fun t20 => match t20 with
    | .inl _ =>
      some (.inl ())
    | .inr r21 => some (.inr (.inr r21))
else
  some (.inr (.inr false))
def F79_1_D (a0 : Int) (a1 : List (List Int)) (a3 : Int) (v9_1 : Int) (s : Unit) : Option ((Unit) ⊕ Bool) :=
  some (.inl ())
def F79 (a0 : Int) (a1 : List (List Int)) (a2 : Int) (a3 : Int) : Option Bool :=
  if (a1.length : Int) = a2 then
    (forR 0 (a1.length : Int) (F79_1_B a0 a1 a3) (F79_1_D a0 a1 a3) ()).bind fun t22 => match t22 with
      | .inl _ =>
        some true
      | .inr r23 => some r23
  else
    some false
def I79_2 (a0 : Int) (a1 : List (List Int)) (a3 : Int) (v9_1 : Int)  (v10_2 : Int) (e : Env) (h : Heap) : Prop :=
  ∃ k9 : Nat, h = ⟨[], k9⟩ ∧ e.length = 48 ∧ e.at 0 = V.int .i64 a0 ∧ e.at 1 = V.isl (List.map Enc.enc a1) ∧ e.at 3 = V.int .i64 a3 ∧ e.at 9 = V.int .i64 v9_1 ∧ e.at 10 = V.int .i64 v10_2
def P79_2 (a0 : Int) (a1 : List (List Int)) (a3 : Int) (v9_1 : Int)  (t : (Unit) ⊕ Bool) (x : Ex) (e : Env) (h : Heap) : Prop :=
  match t with
  | .inl _ => x = .normal ∧ ∃ k9 : Nat, h = ⟨[], k9⟩ ∧ e.length = 48 ∧ e.at 0 = V.int .i64 a0 ∧ e.at 1 = V.isl (List.map Enc.enc a1) ∧ e.at 3 = V.int .i64 a3 ∧ e.at 9 = V.int .i64 v9_1
  | .inr r => x = .ret ∧ Fin p79 (Enc.enc r) .ret e h
theorem l79_2 (a0 : Int) (a1 : List (List Int)) (a3 : Int) (v9_1 : Int)   {s : Int} {t : (Unit) ⊕ Bool} (hF : loopW (F79_2_S a0 a1 a3 v9_1) s = some t) {e : Env} {h : Heap} (hI : I79_2 a0 a1 a3 v9_1  s e h) : W A c79_2 e h (P79_2 a0 a1 a3 v9_1  t) := by
  show W A (.block 2 (.loop false b79_2)) e h _
  rw [W_block]
  refine W_loop hF 0 (by obtain ⟨_, rfl, _⟩ := hI; rfl) (I79_2 a0 a1 a3 v9_1 ) hI ?_
  · rintro v10_2 e h ⟨k9, rfl, hl_8, h0_8, h1_8, h3_8, h9_8, h10_8⟩ o ho
    unfold F79_2_S at ho
    obtain ⟨x11, gx11, ho⟩ := bS ho
    obtain ⟨w12a, w12b⟩ := getI_w gx11
    by_cases c13 : v10_2 < (x11.length : Int)
    · rw [if_pos c13] at ho
      obtain ⟨x14, gx14, ho⟩ := bS ho
      obtain ⟨w15a, w15b⟩ := getI_w gx14
      obtain ⟨x16, gx16, ho⟩ := bS ho
      have wx16 := chk_w gx16
      obtain ⟨x17, gx17, ho⟩ := bS ho
      have w18 : ans A 54 [V.int .i64 x14, V.int .i64 0, V.int .i64 x16] = some (V.bool x17) := s54 x14 0 x16  gx17
      cases x17 with
      | true =>
        rw [if_pos rfl] at ho
        obtain ⟨x19, gx19, ho⟩ := bS ho
        have wx19 := chk_w gx19
        have hE := Option.some.inj ho; subst hE
        simp only [↓reduceIte, Nat.reduceAdd, Nat.reduceMul, Nat.reduceSub, Nat.reduceLT, Nat.reduceLeDiff, Nat.reduceEqDiff, Nat.reducePow, Int.reducePow, Int.reduceLE, Int.reduceLT, Int.reduceEq, Int.reduceToNat, reduceCtorEq, RR, RB, RZ, RE, opEv, fillV, mapO, mapS, b79_2, hl_8, h0_8, h1_8, h3_8, h9_8, h10_8, w12a, w12b, eq_true c13, w15a, w15b, wx16, w18, wx19]
        refine And.intro rfl (Exists.intro _ ( And.intro rfl ?_))
        simp only [↓reduceIte, Nat.reduceAdd, Nat.reduceMul, Nat.reduceSub, Nat.reduceLT, Nat.reduceLeDiff, Nat.reduceEqDiff, Nat.reducePow, Int.reducePow, Int.reduceLE, Int.reduceLT, Int.reduceEq, Int.reduceToNat, reduceCtorEq, RR, RB, RZ, RE, hl_8, h0_8, h1_8, h3_8, h9_8, h10_8, w12a, w12b, eq_true c13, w15a, w15b, wx16, w18, wx19]
      | false =>
        rw [if_neg Bool.false_ne_true] at ho
        have hE := Option.some.inj ho; subst hE
        simp only [↓reduceIte, Nat.reduceAdd, Nat.reduceMul, Nat.reduceSub, Nat.reduceLT, Nat.reduceLeDiff, Nat.reduceEqDiff, Nat.reducePow, Int.reducePow, Int.reduceLE, Int.reduceLT, Int.reduceEq, Int.reduceToNat, reduceCtorEq, RR, RB, RZ, RE, opEv, fillV, mapO, mapS, b79_2, hl_8, h0_8, h1_8, h3_8, h9_8, h10_8, w12a, w12b, eq_true c13, w15a, w15b, wx16, w18]
        intro ht; subst ht
        simp only [↓reduceIte, Nat.reduceAdd, Nat.reduceMul, Nat.reduceSub, Nat.reduceLT, Nat.reduceLeDiff, Nat.reduceEqDiff, Nat.reducePow, Int.reducePow, Int.reduceLE, Int.reduceLT, Int.reduceEq, Int.reduceToNat, reduceCtorEq, RR, RB]
        exact And.intro rfl (fin_ret (by simp only [↓reduceIte, Nat.reduceAdd, Nat.reduceMul, Nat.reduceSub, Nat.reduceLT, Nat.reduceLeDiff, Nat.reduceEqDiff, Nat.reducePow, Int.reducePow, Int.reduceLE, Int.reduceLT, Int.reduceEq, Int.reduceToNat, reduceCtorEq, RR, RB, RZ, RE, fn_out, p79, Rs.ev, mapO, mapS, take_len_self, hl_8, h0_8, h1_8, h3_8, h9_8, h10_8, w12a, w12b, eq_true c13, w15a, w15b, wx16, w18]))
    · rw [if_neg c13] at ho
      have hE := Option.some.inj ho; subst hE
      simp only [↓reduceIte, Nat.reduceAdd, Nat.reduceMul, Nat.reduceSub, Nat.reduceLT, Nat.reduceLeDiff, Nat.reduceEqDiff, Nat.reducePow, Int.reducePow, Int.reduceLE, Int.reduceLT, Int.reduceEq, Int.reduceToNat, reduceCtorEq, RR, RB, RZ, RE, opEv, fillV, mapO, mapS, b79_2, hl_8, h0_8, h1_8, h3_8, h9_8, h10_8, w12a, w12b, eq_false c13]
      intro ht; subst ht
      simp only [↓reduceIte, Nat.reduceAdd, Nat.reduceMul, Nat.reduceSub, Nat.reduceLT, Nat.reduceLeDiff, Nat.reduceEqDiff, Nat.reducePow, Int.reducePow, Int.reduceLE, Int.reduceLT, Int.reduceEq, Int.reduceToNat, reduceCtorEq, RR, RB]
      refine And.intro rfl (Exists.intro _ ( And.intro rfl ?_))
      simp only [↓reduceIte, Nat.reduceAdd, Nat.reduceMul, Nat.reduceSub, Nat.reduceLT, Nat.reduceLeDiff, Nat.reduceEqDiff, Nat.reducePow, Int.reducePow, Int.reduceLE, Int.reduceLT, Int.reduceEq, Int.reduceToNat, reduceCtorEq, RR, RB, RZ, RE, hl_8, h0_8, h1_8, h3_8, h9_8, h10_8, w12a, w12b, eq_false c13]
def I79_1 (a0 : Int) (a1 : List (List Int)) (a3 : Int)  (v9_1 : Int) (s : Unit) (e : Env) (h : Heap) : Prop :=
  ∃ k3 : Nat, h = ⟨[], k3⟩ ∧ e.length = 48 ∧ e.at 0 = V.int .i64 a0 ∧ e.at 1 = V.isl (List.map Enc.enc a1) ∧ e.at 3 = V.int .i64 a3 ∧ e.at 9 = V.int .i64 v9_1
def P79_1 (a0 : Int) (a1 : List (List Int)) (a3 : Int)  (t : (Unit) ⊕ Bool) (x : Ex) (e : Env) (h : Heap) : Prop :=
  match t with
  | .inl _ => x = .normal ∧ ∃ k3 : Nat, h = ⟨[], k3⟩ ∧ e.length = 48
  | .inr r => x = .ret ∧ Fin p79 (Enc.enc r) .ret e h
theorem l79_1 (a0 : Int) (a1 : List (List Int)) (a3 : Int)   {lo : Int} {s : Unit} {t : (Unit) ⊕ Bool} (hF : forR lo (a1.length : Int) (F79_1_B a0 a1 a3) (F79_1_D a0 a1 a3) s = some t) {e : Env} {h : Heap} (hI : I79_1 a0 a1 a3  lo s e h) : W A c79_1 e h (P79_1 a0 a1 a3  t) := by
  show W A (.block 0 (.loop false b79_1)) e h _
  rw [W_block]
  refine W_forR hF 0 (by obtain ⟨_, rfl, _⟩ := hI; rfl) (I79_1 a0 a1 a3 ) hI ?_ ?_
  · rintro v9_1 _ e h ⟨k3, rfl, hl_2, h0_2, h1_2, h3_2, h9_2⟩ hlt hw o ho
    unfold F79_1_B at ho
    obtain ⟨x5, gx5, ho⟩ := bS ho
    obtain ⟨w6a, w6b⟩ := getI_w gx5
    by_cases c7 : (x5.length : Int) = a3
    · rw [if_pos c7] at ho
      obtain ⟨t20, gt20, ho⟩ := bS ho
      rcases t20 with _ | r21
      · dsimp only at ho
        simp only [↓reduceIte, Nat.reduceAdd, Nat.reduceMul, Nat.reduceSub, Nat.reduceLT, Nat.reduceLeDiff, Nat.reduceEqDiff, Nat.reducePow, Int.reducePow, Int.reduceLE, Int.reduceLT, Int.reduceEq, Int.reduceToNat, reduceCtorEq, RR, RB, RZ, RE, opEv, fillV, mapO, mapS, b79_1, hl_2, h0_2, h1_2, h3_2, h9_2, eq_true hlt, hw, w6a, w6b, eq_true c7]
        refine W.mono (l79_2 a0 a1 a3 v9_1   gt20 (Exists.intro _ ( And.intro rfl ?_))) ?_
        · simp only [↓reduceIte, Nat.reduceAdd, Nat.reduceMul, Nat.reduceSub, Nat.reduceLT, Nat.reduceLeDiff, Nat.reduceEqDiff, Nat.reducePow, Int.reducePow, Int.reduceLE, Int.reduceLT, Int.reduceEq, Int.reduceToNat, reduceCtorEq, RR, RB, RZ, RE, hl_2, h0_2, h1_2, h3_2, h9_2, eq_true hlt, hw, w6a, w6b, eq_true c7]
        rintro _ e _ ⟨rfl, k9, rfl, hl_10, h0_10, h1_10, h3_10, h9_10⟩
        have hE := Option.some.inj ho; subst hE
        simp only [↓reduceIte, Nat.reduceAdd, Nat.reduceMul, Nat.reduceSub, Nat.reduceLT, Nat.reduceLeDiff, Nat.reduceEqDiff, Nat.reducePow, Int.reducePow, Int.reduceLE, Int.reduceLT, Int.reduceEq, Int.reduceToNat, reduceCtorEq, RR, RB, RZ, RE, opEv, fillV, mapO, mapS, hl_10, h0_10, h1_10, h3_10, h9_10, eq_true hlt, hw, eq_true c7]
        refine And.intro rfl (Exists.intro _ ( And.intro rfl ?_))
        simp only [↓reduceIte, Nat.reduceAdd, Nat.reduceMul, Nat.reduceSub, Nat.reduceLT, Nat.reduceLeDiff, Nat.reduceEqDiff, Nat.reducePow, Int.reducePow, Int.reduceLE, Int.reduceLT, Int.reduceEq, Int.reduceToNat, reduceCtorEq, RR, RB, RZ, RE, hl_10, h0_10, h1_10, h3_10, h9_10, eq_true hlt, hw, eq_true c7]
      · dsimp only at ho
        have hE := Option.some.inj ho; subst hE
        simp only [↓reduceIte, Nat.reduceAdd, Nat.reduceMul, Nat.reduceSub, Nat.reduceLT, Nat.reduceLeDiff, Nat.reduceEqDiff, Nat.reducePow, Int.reducePow, Int.reduceLE, Int.reduceLT, Int.reduceEq, Int.reduceToNat, reduceCtorEq, RR, RB, RZ, RE, opEv, fillV, mapO, mapS, b79_1, hl_2, h0_2, h1_2, h3_2, h9_2, eq_true hlt, hw, w6a, w6b, eq_true c7]
        refine W.mono (l79_2 a0 a1 a3 v9_1   gt20 (Exists.intro _ ( And.intro rfl ?_))) ?_
        · simp only [↓reduceIte, Nat.reduceAdd, Nat.reduceMul, Nat.reduceSub, Nat.reduceLT, Nat.reduceLeDiff, Nat.reduceEqDiff, Nat.reducePow, Int.reducePow, Int.reduceLE, Int.reduceLT, Int.reduceEq, Int.reduceToNat, reduceCtorEq, RR, RB, RZ, RE, hl_2, h0_2, h1_2, h3_2, h9_2, eq_true hlt, hw, w6a, w6b, eq_true c7]
        rintro _ e h ⟨rfl, hq⟩
        simp only [↓reduceIte, Nat.reduceAdd, Nat.reduceMul, Nat.reduceSub, Nat.reduceLT, Nat.reduceLeDiff, Nat.reduceEqDiff, Nat.reducePow, Int.reducePow, Int.reduceLE, Int.reduceLT, Int.reduceEq, Int.reduceToNat, reduceCtorEq, RR, RB]
        intro ht; subst ht
        simp only [↓reduceIte, Nat.reduceAdd, Nat.reduceMul, Nat.reduceSub, Nat.reduceLT, Nat.reduceLeDiff, Nat.reduceEqDiff, Nat.reducePow, Int.reducePow, Int.reduceLE, Int.reduceLT, Int.reduceEq, Int.reduceToNat, reduceCtorEq, RR, RB]
        exact And.intro rfl hq
    · rw [if_neg c7] at ho
      have hE := Option.some.inj ho; subst hE
      simp only [↓reduceIte, Nat.reduceAdd, Nat.reduceMul, Nat.reduceSub, Nat.reduceLT, Nat.reduceLeDiff, Nat.reduceEqDiff, Nat.reducePow, Int.reducePow, Int.reduceLE, Int.reduceLT, Int.reduceEq, Int.reduceToNat, reduceCtorEq, RR, RB, RZ, RE, opEv, fillV, mapO, mapS, b79_1, hl_2, h0_2, h1_2, h3_2, h9_2, eq_true hlt, hw, w6a, w6b, eq_false c7]
      intro ht; subst ht
      simp only [↓reduceIte, Nat.reduceAdd, Nat.reduceMul, Nat.reduceSub, Nat.reduceLT, Nat.reduceLeDiff, Nat.reduceEqDiff, Nat.reducePow, Int.reducePow, Int.reduceLE, Int.reduceLT, Int.reduceEq, Int.reduceToNat, reduceCtorEq, RR, RB]
      exact And.intro rfl (fin_ret (by simp only [↓reduceIte, Nat.reduceAdd, Nat.reduceMul, Nat.reduceSub, Nat.reduceLT, Nat.reduceLeDiff, Nat.reduceEqDiff, Nat.reducePow, Int.reducePow, Int.reduceLE, Int.reduceLT, Int.reduceEq, Int.reduceToNat, reduceCtorEq, RR, RB, RZ, RE, fn_out, p79, Rs.ev, mapO, mapS, take_len_self, hl_2, h0_2, h1_2, h3_2, h9_2, eq_true hlt, hw, w6a, w6b, eq_false c7]))
  · rintro v9_1 _ e h ⟨k3, rfl, hl_2, h0_2, h1_2, h3_2, h9_2⟩ hge t1 ho
    unfold F79_1_D at ho
    have hE := Option.some.inj ho; subst hE
    simp only [↓reduceIte, Nat.reduceAdd, Nat.reduceMul, Nat.reduceSub, Nat.reduceLT, Nat.reduceLeDiff, Nat.reduceEqDiff, Nat.reducePow, Int.reducePow, Int.reduceLE, Int.reduceLT, Int.reduceEq, Int.reduceToNat, reduceCtorEq, RR, RB, RZ, RE, opEv, fillV, mapO, mapS, b79_1, hl_2, h0_2, h1_2, h3_2, h9_2, eq_false hge]
    intro ht; subst ht
    refine And.intro rfl (Exists.intro _ ( And.intro rfl ?_))
    simp only [↓reduceIte, Nat.reduceAdd, Nat.reduceMul, Nat.reduceSub, Nat.reduceLT, Nat.reduceLeDiff, Nat.reduceEqDiff, Nat.reducePow, Int.reducePow, Int.reduceLE, Int.reduceLT, Int.reduceEq, Int.reduceToNat, reduceCtorEq, RR, RB, RZ, RE, hl_2, h0_2, h1_2, h3_2, h9_2, eq_false hge]
theorem s79 (a0 : Int) (a1 : List (List Int)) (a2 : Int) (a3 : Int)   {r : Bool} (hF : F79 a0 a1 a2 a3 = some r) : ans A 79 [V.int .i64 a0, V.isl (List.map Enc.enc a1), V.int .i64 a2, V.int .i64 a3] = some (Enc.enc r) := by
  refine ans_of (f := p79) rfl rfl rfl fun e hl he => ?_
  have h0_0 : e.at 0 = V.int .i64 a0 := he 0 _ rfl
  have h1_0 : e.at 1 = V.isl (List.map Enc.enc a1) := he 1 _ rfl
  have h2_0 : e.at 2 = V.int .i64 a2 := he 2 _ rfl
  have h3_0 : e.at 3 = V.int .i64 a3 := he 3 _ rfl
  have hl_0 : e.length = 48 := hl
  clear he hl
  show W A b79 e ⟨[], 0⟩ _
  unfold F79 at hF
  by_cases c1 : (a1.length : Int) = a2
  · rw [if_pos c1] at hF
    obtain ⟨t22, gt22, hF⟩ := bS hF
    rcases t22 with _ | r23
    · dsimp only at hF
      simp only [↓reduceIte, Nat.reduceAdd, Nat.reduceMul, Nat.reduceSub, Nat.reduceLT, Nat.reduceLeDiff, Nat.reduceEqDiff, Nat.reducePow, Int.reducePow, Int.reduceLE, Int.reduceLT, Int.reduceEq, Int.reduceToNat, reduceCtorEq, RR, RB, RZ, RE, opEv, fillV, mapO, mapS, b79, hl_0, h0_0, h1_0, h2_0, h3_0, eq_true c1]
      refine W.mono (l79_1 a0 a1 a3   gt22 (Exists.intro _ ( And.intro rfl ?_))) ?_
      · simp only [↓reduceIte, Nat.reduceAdd, Nat.reduceMul, Nat.reduceSub, Nat.reduceLT, Nat.reduceLeDiff, Nat.reduceEqDiff, Nat.reducePow, Int.reducePow, Int.reduceLE, Int.reduceLT, Int.reduceEq, Int.reduceToNat, reduceCtorEq, RR, RB, RZ, RE, hl_0, h0_0, h1_0, h2_0, h3_0, eq_true c1]
      rintro _ e _ ⟨rfl, k3, rfl, hl_4⟩
      have hE := Option.some.inj hF; subst hE
      simp only [↓reduceIte, Nat.reduceAdd, Nat.reduceMul, Nat.reduceSub, Nat.reduceLT, Nat.reduceLeDiff, Nat.reduceEqDiff, Nat.reducePow, Int.reducePow, Int.reduceLE, Int.reduceLT, Int.reduceEq, Int.reduceToNat, reduceCtorEq, RR, RB, RZ, RE, opEv, fillV, mapO, mapS, hl_4, eq_true c1]
      exact fin_ret (by simp only [↓reduceIte, Nat.reduceAdd, Nat.reduceMul, Nat.reduceSub, Nat.reduceLT, Nat.reduceLeDiff, Nat.reduceEqDiff, Nat.reducePow, Int.reducePow, Int.reduceLE, Int.reduceLT, Int.reduceEq, Int.reduceToNat, reduceCtorEq, RR, RB, RZ, RE, fn_out, p79, Rs.ev, mapO, mapS, take_len_self, hl_4, eq_true c1])
    · dsimp only at hF
      have hE := Option.some.inj hF; subst hE
      simp only [↓reduceIte, Nat.reduceAdd, Nat.reduceMul, Nat.reduceSub, Nat.reduceLT, Nat.reduceLeDiff, Nat.reduceEqDiff, Nat.reducePow, Int.reducePow, Int.reduceLE, Int.reduceLT, Int.reduceEq, Int.reduceToNat, reduceCtorEq, RR, RB, RZ, RE, opEv, fillV, mapO, mapS, b79, hl_0, h0_0, h1_0, h2_0, h3_0, eq_true c1]
      refine W.mono (l79_1 a0 a1 a3   gt22 (Exists.intro _ ( And.intro rfl ?_))) ?_
      · simp only [↓reduceIte, Nat.reduceAdd, Nat.reduceMul, Nat.reduceSub, Nat.reduceLT, Nat.reduceLeDiff, Nat.reduceEqDiff, Nat.reducePow, Int.reducePow, Int.reduceLE, Int.reduceLT, Int.reduceEq, Int.reduceToNat, reduceCtorEq, RR, RB, RZ, RE, hl_0, h0_0, h1_0, h2_0, h3_0, eq_true c1]
      rintro _ e h ⟨rfl, hq⟩
      simp only [↓reduceIte, Nat.reduceAdd, Nat.reduceMul, Nat.reduceSub, Nat.reduceLT, Nat.reduceLeDiff, Nat.reduceEqDiff, Nat.reducePow, Int.reducePow, Int.reduceLE, Int.reduceLT, Int.reduceEq, Int.reduceToNat, reduceCtorEq, RR, RB]
      exact hq
  · rw [if_neg c1] at hF
    have hE := Option.some.inj hF; subst hE
    simp only [↓reduceIte, Nat.reduceAdd, Nat.reduceMul, Nat.reduceSub, Nat.reduceLT, Nat.reduceLeDiff, Nat.reduceEqDiff, Nat.reducePow, Int.reducePow, Int.reduceLE, Int.reduceLT, Int.reduceEq, Int.reduceToNat, reduceCtorEq, RR, RB, RZ, RE, opEv, fillV, mapO, mapS, b79, hl_0, h0_0, h1_0, h2_0, h3_0, eq_false c1]
    exact fin_ret (by simp only [↓reduceIte, Nat.reduceAdd, Nat.reduceMul, Nat.reduceSub, Nat.reduceLT, Nat.reduceLeDiff, Nat.reduceEqDiff, Nat.reducePow, Int.reducePow, Int.reduceLE, Int.reduceLT, Int.reduceEq, Int.reduceToNat, reduceCtorEq, RR, RB, RZ, RE, fn_out, p79, Rs.ev, mapO, mapS, take_len_self, hl_0, h0_0, h1_0, h2_0, h3_0, eq_false c1])
/-! loop.example/g01273/spec.l01Apply -/
def F80_2_S (a0 : Int) (a1 : List (List Int)) (a2 : List Int) (v10_1 : Int) (s : (List Int) × Int) : Option (((List Int) × Int) ⊕ ((List Int))) :=
  match s with
  | (o0_2, v11_2) =>
    if v11_2 < ((o0_2.length : Nat) : Int) then
      (getI o0_2 v11_2).bind fun x12 =>
      (getI a2 v10_1).bind fun x14 =>
      (getI a1 v10_1).bind fun x16 =>
      (getI x16 v11_2).bind fun x18 =>
      (chk (x14 * x18)).bind fun x20 =>
      (chk (x12 + x20)).bind fun x21 =>
      (remI x21 a0).bind fun x22 =>
      (setI o0_2 v11_2 x22).bind fun l24 =>
      (chk (v11_2 + 1)).bind fun x26 =>
      some (.inl (l24, x26))
    else
      some (.inr o0_2)
def F80_1_B (a0 : Int) (a1 : List (List Int)) (a2 : List Int) (v10_1 : Int) (o0_1 : (List Int)) : Option (((List Int)) ⊕ ((List Int))) :=
  (loopW (F80_2_S a0 a1 a2 v10_1) (o0_1, 0)).bind fun zo0_2 =>
some (.inl zo0_2)
def F80_1_D (a0 : Int) (a1 : List (List Int)) (a2 : List Int) (v10_1 : Int) (o0_1 : (List Int)) : Option ((List Int)) :=
  some o0_1
def F80 (a0 : Int) (a1 : List (List Int)) (a2 : List Int) (a3 : Int) : Option (List Int) :=
  (mkL 8 a3 0).bind fun l1 =>
  (forR 0 (a2.length : Int) (F80_1_B a0 a1 a2) (F80_1_D a0 a1 a2) l1).bind fun zo0_1 =>
  some zo0_1
def I80_2 (a0 : Int) (a1 : List (List Int)) (a2 : List Int) (v10_1 : Int)  (s : (List Int) × Int) (e : Env) (h : Heap) : Prop :=
  match s with
  | (o0_2, v11_2) =>
    ∃ u8 k9 : Nat, h = ⟨[(u8, some (List.map Enc.enc o0_2))], k9⟩ ∧ e.length = 49 ∧ e.at 0 = V.int .i64 a0 ∧ e.at 1 = V.isl (List.map Enc.enc a1) ∧ e.at 2 = V.isl (List.map Enc.enc a2) ∧ e.at 9 = V.sl 0 u8 0 o0_2.length 1 ∧ e.at 10 = V.int .i64 v10_1 ∧ e.at 11 = V.int .i64 v11_2
def P80_2 (a0 : Int) (a1 : List (List Int)) (a2 : List Int) (v10_1 : Int)  (zo0_2 : (List Int)) (x : Ex) (e : Env) (h : Heap) : Prop :=
  x = .normal ∧ ∃ u8 k9 : Nat, h = ⟨[(u8, some (List.map Enc.enc zo0_2))], k9⟩ ∧ e.length = 49 ∧ e.at 0 = V.int .i64 a0 ∧ e.at 1 = V.isl (List.map Enc.enc a1) ∧ e.at 2 = V.isl (List.map Enc.enc a2) ∧ e.at 9 = V.sl 0 u8 0 zo0_2.length 1 ∧ e.at 10 = V.int .i64 v10_1
theorem l80_2 (a0 : Int) (a1 : List (List Int)) (a2 : List Int) (v10_1 : Int)   {s : (List Int) × Int} {t : (List Int)} (hF : loopW (F80_2_S a0 a1 a2 v10_1) s = some t) {e : Env} {h : Heap} (hI : I80_2 a0 a1 a2 v10_1  s e h) : W A c80_2 e h (P80_2 a0 a1 a2 v10_1  t) := by
  show W A (.block 2 (.loop false b80_2)) e h _
  rw [W_block]
  refine W_loop hF 1 (by rcases s with ⟨_, _⟩; obtain ⟨_, _, rfl, _⟩ := hI; rfl) (I80_2 a0 a1 a2 v10_1 ) hI ?_
  · rintro ⟨o0_2, v11_2⟩ e h ⟨u8, k9, rfl, hl_7, h0_7, h1_7, h2_7, h9_7, h10_7, h11_7⟩ o ho
    unfold F80_2_S at ho
    dsimp only at ho
    by_cases c11 : v11_2 < ((o0_2.length : Nat) : Int)
    · rw [if_pos c11] at ho
      obtain ⟨x12, gx12, ho⟩ := bS ho
      obtain ⟨w13a, w13b⟩ := getI_w gx12
      have w13c := getI_lt gx12
      have w13d : List.drop (Int.toNat v11_2) (List.map Enc.enc o0_2) = (V.int .i64 x12) :: List.drop ((Int.toNat v11_2) + 1) (List.map Enc.enc o0_2) := drop_enc w13b
      obtain ⟨x14, gx14, ho⟩ := bS ho
      obtain ⟨w15a, w15b⟩ := getI_w gx14
      obtain ⟨x16, gx16, ho⟩ := bS ho
      obtain ⟨w17a, w17b⟩ := getI_w gx16
      obtain ⟨x18, gx18, ho⟩ := bS ho
      obtain ⟨w19a, w19b⟩ := getI_w gx18
      obtain ⟨x20, gx20, ho⟩ := bS ho
      have wx20 := chk_w gx20
      obtain ⟨x21, gx21, ho⟩ := bS ho
      have wx21 := chk_w gx21
      obtain ⟨x22, gx22, ho⟩ := bS ho
      obtain ⟨w23a, w23b⟩ := rem_w gx22
      obtain ⟨l24, gl24, ho⟩ := bS ho
      obtain ⟨w25a, w25b, w25c, w25d, w25e⟩ := setI_w gl24
      replace w25e : List.take (Int.toNat v11_2) (List.map Enc.enc o0_2) ++ [V.int .i64 x22] ++ List.drop (Int.toNat v11_2 + 1) (List.map Enc.enc o0_2) = List.map Enc.enc l24 := w25e
      obtain ⟨x26, gx26, ho⟩ := bS ho
      have wx26 := chk_w gx26
      have hE := Option.some.inj ho; subst hE
      simp only [↓reduceIte, Nat.reduceAdd, Nat.reduceMul, Nat.reduceSub, Nat.reduceLT, Nat.reduceLeDiff, Nat.reduceEqDiff, Nat.reducePow, Int.reducePow, Int.reduceLE, Int.reduceLT, Int.reduceEq, Int.reduceToNat, reduceCtorEq, RR, RB, RZ, RE, opEv, fillV, mapO, mapS, b80_2, hl_7, h0_7, h1_7, h2_7, h9_7, h10_7, h11_7, eq_true c11, w13a, w13b, w13c, w13d, w15a, w15b, w17a, w17b, w19a, w19b, wx20, wx21, eq_false w23a, w23b, w25a, w25b, w25c, w25e, wx26]
      refine And.intro rfl (Exists.intro _ ( Exists.intro _ ( And.intro rfl ?_)))
      simp only [↓reduceIte, Nat.reduceAdd, Nat.reduceMul, Nat.reduceSub, Nat.reduceLT, Nat.reduceLeDiff, Nat.reduceEqDiff, Nat.reducePow, Int.reducePow, Int.reduceLE, Int.reduceLT, Int.reduceEq, Int.reduceToNat, reduceCtorEq, RR, RB, RZ, RE, hl_7, h0_7, h1_7, h2_7, h9_7, h10_7, h11_7, eq_true c11, w13a, w13b, w13c, w13d, w15a, w15b, w17a, w17b, w19a, w19b, wx20, wx21, eq_false w23a, w23b, w25a, w25b, w25c, w25e, wx26, w25d]
    · rw [if_neg c11] at ho
      have hE := Option.some.inj ho; subst hE
      simp only [↓reduceIte, Nat.reduceAdd, Nat.reduceMul, Nat.reduceSub, Nat.reduceLT, Nat.reduceLeDiff, Nat.reduceEqDiff, Nat.reducePow, Int.reducePow, Int.reduceLE, Int.reduceLT, Int.reduceEq, Int.reduceToNat, reduceCtorEq, RR, RB, RZ, RE, opEv, fillV, mapO, mapS, b80_2, hl_7, h0_7, h1_7, h2_7, h9_7, h10_7, h11_7, eq_false c11]
      intro ht; subst ht
      simp only [↓reduceIte, Nat.reduceAdd, Nat.reduceMul, Nat.reduceSub, Nat.reduceLT, Nat.reduceLeDiff, Nat.reduceEqDiff, Nat.reducePow, Int.reducePow, Int.reduceLE, Int.reduceLT, Int.reduceEq, Int.reduceToNat, reduceCtorEq, RR, RB]
      refine And.intro rfl (Exists.intro _ ( Exists.intro _ ( And.intro rfl ?_)))
      simp only [↓reduceIte, Nat.reduceAdd, Nat.reduceMul, Nat.reduceSub, Nat.reduceLT, Nat.reduceLeDiff, Nat.reduceEqDiff, Nat.reducePow, Int.reducePow, Int.reduceLE, Int.reduceLT, Int.reduceEq, Int.reduceToNat, reduceCtorEq, RR, RB, RZ, RE, hl_7, h0_7, h1_7, h2_7, h9_7, h10_7, h11_7, eq_false c11]
def I80_1 (a0 : Int) (a1 : List (List Int)) (a2 : List Int)  (v10_1 : Int) (o0_1 : (List Int)) (e : Env) (h : Heap) : Prop :=
  ∃ u4 k5 : Nat, h = ⟨[(u4, some (List.map Enc.enc o0_1))], k5⟩ ∧ e.length = 49 ∧ e.at 0 = V.int .i64 a0 ∧ e.at 1 = V.isl (List.map Enc.enc a1) ∧ e.at 2 = V.isl (List.map Enc.enc a2) ∧ e.at 9 = V.sl 0 u4 0 o0_1.length 1 ∧ e.at 10 = V.int .i64 v10_1
def P80_1 (a0 : Int) (a1 : List (List Int)) (a2 : List Int)  (zo0_1 : (List Int)) (x : Ex) (e : Env) (h : Heap) : Prop :=
  x = .normal ∧ ∃ u4 k5 : Nat, h = ⟨[(u4, some (List.map Enc.enc zo0_1))], k5⟩ ∧ e.length = 49 ∧ e.at 9 = V.sl 0 u4 0 zo0_1.length 1
theorem l80_1 (a0 : Int) (a1 : List (List Int)) (a2 : List Int)   {lo : Int} {s : (List Int)} {t : (List Int)} (hF : forR lo (a2.length : Int) (F80_1_B a0 a1 a2) (F80_1_D a0 a1 a2) s = some t) {e : Env} {h : Heap} (hI : I80_1 a0 a1 a2  lo s e h) : W A c80_1 e h (P80_1 a0 a1 a2  t) := by
  show W A (.block 0 (.loop false b80_1)) e h _
  rw [W_block]
  refine W_forR hF 1 (by obtain ⟨_, _, rfl, _⟩ := hI; rfl) (I80_1 a0 a1 a2 ) hI ?_ ?_
  · rintro v10_1 o0_1 e h ⟨u4, k5, rfl, hl_3, h0_3, h1_3, h2_3, h9_3, h10_3⟩ hlt hw o ho
    unfold F80_1_B at ho
    obtain ⟨zo0_2, gt27, ho⟩ := bS ho
    simp only [↓reduceIte, Nat.reduceAdd, Nat.reduceMul, Nat.reduceSub, Nat.reduceLT, Nat.reduceLeDiff, Nat.reduceEqDiff, Nat.reducePow, Int.reducePow, Int.reduceLE, Int.reduceLT, Int.reduceEq, Int.reduceToNat, reduceCtorEq, RR, RB, RZ, RE, opEv, fillV, mapO, mapS, b80_1, hl_3, h0_3, h1_3, h2_3, h9_3, h10_3, eq_true hlt, hw]
    refine W.mono (l80_2 a0 a1 a2 v10_1   gt27 (Exists.intro _ ( Exists.intro _ ( And.intro rfl ?_)))) ?_
    · simp only [↓reduceIte, Nat.reduceAdd, Nat.reduceMul, Nat.reduceSub, Nat.reduceLT, Nat.reduceLeDiff, Nat.reduceEqDiff, Nat.reducePow, Int.reducePow, Int.reduceLE, Int.reduceLT, Int.reduceEq, Int.reduceToNat, reduceCtorEq, RR, RB, RZ, RE, hl_3, h0_3, h1_3, h2_3, h9_3, h10_3, eq_true hlt, hw]
    rintro _ e _ ⟨rfl, u8, k9, rfl, hl_10, h0_10, h1_10, h2_10, h9_10, h10_10⟩
    have hE := Option.some.inj ho; subst hE
    simp only [↓reduceIte, Nat.reduceAdd, Nat.reduceMul, Nat.reduceSub, Nat.reduceLT, Nat.reduceLeDiff, Nat.reduceEqDiff, Nat.reducePow, Int.reducePow, Int.reduceLE, Int.reduceLT, Int.reduceEq, Int.reduceToNat, reduceCtorEq, RR, RB, RZ, RE, opEv, fillV, mapO, mapS, hl_10, h0_10, h1_10, h2_10, h9_10, h10_10, eq_true hlt, hw]
    refine And.intro rfl (Exists.intro _ ( Exists.intro _ ( And.intro rfl ?_)))
    simp only [↓reduceIte, Nat.reduceAdd, Nat.reduceMul, Nat.reduceSub, Nat.reduceLT, Nat.reduceLeDiff, Nat.reduceEqDiff, Nat.reducePow, Int.reducePow, Int.reduceLE, Int.reduceLT, Int.reduceEq, Int.reduceToNat, reduceCtorEq, RR, RB, RZ, RE, hl_10, h0_10, h1_10, h2_10, h9_10, h10_10, eq_true hlt, hw]
  · rintro v10_1 o0_1 e h ⟨u4, k5, rfl, hl_3, h0_3, h1_3, h2_3, h9_3, h10_3⟩ hge t1 ho
    unfold F80_1_D at ho
    have hE := Option.some.inj ho; subst hE
    simp only [↓reduceIte, Nat.reduceAdd, Nat.reduceMul, Nat.reduceSub, Nat.reduceLT, Nat.reduceLeDiff, Nat.reduceEqDiff, Nat.reducePow, Int.reducePow, Int.reduceLE, Int.reduceLT, Int.reduceEq, Int.reduceToNat, reduceCtorEq, RR, RB, RZ, RE, opEv, fillV, mapO, mapS, b80_1, hl_3, h0_3, h1_3, h2_3, h9_3, h10_3, eq_false hge]
    intro ht; subst ht
    refine And.intro rfl (Exists.intro _ ( Exists.intro _ ( And.intro rfl ?_)))
    simp only [↓reduceIte, Nat.reduceAdd, Nat.reduceMul, Nat.reduceSub, Nat.reduceLT, Nat.reduceLeDiff, Nat.reduceEqDiff, Nat.reducePow, Int.reducePow, Int.reduceLE, Int.reduceLT, Int.reduceEq, Int.reduceToNat, reduceCtorEq, RR, RB, RZ, RE, hl_3, h0_3, h1_3, h2_3, h9_3, h10_3, eq_false hge]
theorem s80 (a0 : Int) (a1 : List (List Int)) (a2 : List Int) (a3 : Int)   {r : List Int} (hF : F80 a0 a1 a2 a3 = some r) : ans A 80 [V.int .i64 a0, V.isl (List.map Enc.enc a1), V.isl (List.map Enc.enc a2), V.int .i64 a3] = some (Enc.enc r) := by
  refine ans_of (f := p80) rfl rfl rfl fun e hl he => ?_
  have h0_0 : e.at 0 = V.int .i64 a0 := he 0 _ rfl
  have h1_0 : e.at 1 = V.isl (List.map Enc.enc a1) := he 1 _ rfl
  have h2_0 : e.at 2 = V.isl (List.map Enc.enc a2) := he 2 _ rfl
  have h3_0 : e.at 3 = V.int .i64 a3 := he 3 _ rfl
  have hl_0 : e.length = 49 := hl
  clear he hl
  show W A b80 e ⟨[], 0⟩ _
  unfold F80 at hF
  obtain ⟨l1, gl1, hF⟩ := bS hF
  obtain ⟨w2a, w2b, w2c, w2d, w2e⟩ := mkL_w gl1
  replace w2e : (List.replicate (Int.toNat a3) [V.int .i64 0]).flatten = List.map Enc.enc l1 := w2e
  obtain ⟨zo0_1, gt28, hF⟩ := bS hF
  simp only [↓reduceIte, Nat.reduceAdd, Nat.reduceMul, Nat.reduceSub, Nat.reduceLT, Nat.reduceLeDiff, Nat.reduceEqDiff, Nat.reducePow, Int.reducePow, Int.reduceLE, Int.reduceLT, Int.reduceEq, Int.reduceToNat, reduceCtorEq, RR, RB, RZ, RE, opEv, fillV, mapO, mapS, b80, hl_0, h0_0, h1_0, h2_0, h3_0, w2a, w2b, w2c, w2e]
  refine W.mono (l80_1 a0 a1 a2   gt28 (Exists.intro _ ( Exists.intro _ ( And.intro rfl ?_)))) ?_
  · simp only [↓reduceIte, Nat.reduceAdd, Nat.reduceMul, Nat.reduceSub, Nat.reduceLT, Nat.reduceLeDiff, Nat.reduceEqDiff, Nat.reducePow, Int.reducePow, Int.reduceLE, Int.reduceLT, Int.reduceEq, Int.reduceToNat, reduceCtorEq, RR, RB, RZ, RE, hl_0, h0_0, h1_0, h2_0, h3_0, w2a, w2b, w2c, w2e, w2d]
  rintro _ e _ ⟨rfl, u4, k5, rfl, hl_6, h9_6⟩
  have hE := Option.some.inj hF; subst hE
  simp only [↓reduceIte, Nat.reduceAdd, Nat.reduceMul, Nat.reduceSub, Nat.reduceLT, Nat.reduceLeDiff, Nat.reduceEqDiff, Nat.reducePow, Int.reducePow, Int.reduceLE, Int.reduceLT, Int.reduceEq, Int.reduceToNat, reduceCtorEq, RR, RB, RZ, RE, opEv, fillV, mapO, mapS, hl_6, h9_6]
  exact fin_ret (by simp only [↓reduceIte, Nat.reduceAdd, Nat.reduceMul, Nat.reduceSub, Nat.reduceLT, Nat.reduceLeDiff, Nat.reduceEqDiff, Nat.reducePow, Int.reducePow, Int.reduceLE, Int.reduceLT, Int.reduceEq, Int.reduceToNat, reduceCtorEq, RR, RB, RZ, RE, fn_out, p80, Rs.ev, mapO, mapS, take_len_self, hl_6, h9_6, frzs (α := Int) zo0_1, takes (α := Int) zo0_1])
/-! loop.example/g01273/spec.l01Lead -/
def F81_1_B (a0 : List Int) (v3_1 : Int) (s : Unit) : Option ((Unit) ⊕ ((Unit) ⊕ Int)) :=
  (getI a0 v3_1).bind fun x4 =>
if x4 = 0 then
  some (.inl ())
else
  some (.inr (.inr v3_1))
def F81_1_D (a0 : List Int) (v3_1 : Int) (s : Unit) : Option ((Unit) ⊕ Int) :=
  some (.inl ())
def F81 (a0 : List Int) : Option Int :=
  (forR 0 (a0.length : Int) (F81_1_B a0) (F81_1_D a0) ()).bind fun t7 => match t7 with
    | .inl _ =>
      some (-1)
    | .inr r8 => some r8
def I81_1 (a0 : List Int)  (v3_1 : Int) (s : Unit) (e : Env) (h : Heap) : Prop :=
  ∃ k2 : Nat, h = ⟨[], k2⟩ ∧ e.length = 16 ∧ e.at 0 = V.isl (List.map Enc.enc a0) ∧ e.at 3 = V.int .i64 v3_1
def P81_1 (a0 : List Int)  (t : (Unit) ⊕ Int) (x : Ex) (e : Env) (h : Heap) : Prop :=
  match t with
  | .inl _ => x = .normal ∧ ∃ k2 : Nat, h = ⟨[], k2⟩ ∧ e.length = 16
  | .inr r => x = .ret ∧ Fin p81 (Enc.enc r) .ret e h
theorem l81_1 (a0 : List Int)   {lo : Int} {s : Unit} {t : (Unit) ⊕ Int} (hF : forR lo (a0.length : Int) (F81_1_B a0) (F81_1_D a0) s = some t) {e : Env} {h : Heap} (hI : I81_1 a0  lo s e h) : W A c81_1 e h (P81_1 a0  t) := by
  show W A (.block 0 (.loop false b81_1)) e h _
  rw [W_block]
  refine W_forR hF 0 (by obtain ⟨_, rfl, _⟩ := hI; rfl) (I81_1 a0 ) hI ?_ ?_
  · rintro v3_1 _ e h ⟨k2, rfl, hl_1, h0_1, h3_1⟩ hlt hw o ho
    unfold F81_1_B at ho
    obtain ⟨x4, gx4, ho⟩ := bS ho
    obtain ⟨w5a, w5b⟩ := getI_w gx4
    by_cases c6 : x4 = 0
    · rw [if_pos c6] at ho
      have hE := Option.some.inj ho; subst hE
      simp only [↓reduceIte, Nat.reduceAdd, Nat.reduceMul, Nat.reduceSub, Nat.reduceLT, Nat.reduceLeDiff, Nat.reduceEqDiff, Nat.reducePow, Int.reducePow, Int.reduceLE, Int.reduceLT, Int.reduceEq, Int.reduceToNat, reduceCtorEq, RR, RB, RZ, RE, opEv, fillV, mapO, mapS, b81_1, hl_1, h0_1, h3_1, eq_true hlt, hw, w5a, w5b, eq_true c6]
      refine And.intro rfl (Exists.intro _ ( And.intro rfl ?_))
      simp only [↓reduceIte, Nat.reduceAdd, Nat.reduceMul, Nat.reduceSub, Nat.reduceLT, Nat.reduceLeDiff, Nat.reduceEqDiff, Nat.reducePow, Int.reducePow, Int.reduceLE, Int.reduceLT, Int.reduceEq, Int.reduceToNat, reduceCtorEq, RR, RB, RZ, RE, hl_1, h0_1, h3_1, eq_true hlt, hw, w5a, w5b, eq_true c6]
    · rw [if_neg c6] at ho
      have hE := Option.some.inj ho; subst hE
      simp only [↓reduceIte, Nat.reduceAdd, Nat.reduceMul, Nat.reduceSub, Nat.reduceLT, Nat.reduceLeDiff, Nat.reduceEqDiff, Nat.reducePow, Int.reducePow, Int.reduceLE, Int.reduceLT, Int.reduceEq, Int.reduceToNat, reduceCtorEq, RR, RB, RZ, RE, opEv, fillV, mapO, mapS, b81_1, hl_1, h0_1, h3_1, eq_true hlt, hw, w5a, w5b, eq_false c6]
      intro ht; subst ht
      simp only [↓reduceIte, Nat.reduceAdd, Nat.reduceMul, Nat.reduceSub, Nat.reduceLT, Nat.reduceLeDiff, Nat.reduceEqDiff, Nat.reducePow, Int.reducePow, Int.reduceLE, Int.reduceLT, Int.reduceEq, Int.reduceToNat, reduceCtorEq, RR, RB]
      exact And.intro rfl (fin_ret (by simp only [↓reduceIte, Nat.reduceAdd, Nat.reduceMul, Nat.reduceSub, Nat.reduceLT, Nat.reduceLeDiff, Nat.reduceEqDiff, Nat.reducePow, Int.reducePow, Int.reduceLE, Int.reduceLT, Int.reduceEq, Int.reduceToNat, reduceCtorEq, RR, RB, RZ, RE, fn_out, p81, Rs.ev, mapO, mapS, take_len_self, hl_1, h0_1, h3_1, eq_true hlt, hw, w5a, w5b, eq_false c6]))
  · rintro v3_1 _ e h ⟨k2, rfl, hl_1, h0_1, h3_1⟩ hge t1 ho
    unfold F81_1_D at ho
    have hE := Option.some.inj ho; subst hE
    simp only [↓reduceIte, Nat.reduceAdd, Nat.reduceMul, Nat.reduceSub, Nat.reduceLT, Nat.reduceLeDiff, Nat.reduceEqDiff, Nat.reducePow, Int.reducePow, Int.reduceLE, Int.reduceLT, Int.reduceEq, Int.reduceToNat, reduceCtorEq, RR, RB, RZ, RE, opEv, fillV, mapO, mapS, b81_1, hl_1, h0_1, h3_1, eq_false hge]
    intro ht; subst ht
    refine And.intro rfl (Exists.intro _ ( And.intro rfl ?_))
    simp only [↓reduceIte, Nat.reduceAdd, Nat.reduceMul, Nat.reduceSub, Nat.reduceLT, Nat.reduceLeDiff, Nat.reduceEqDiff, Nat.reducePow, Int.reducePow, Int.reduceLE, Int.reduceLT, Int.reduceEq, Int.reduceToNat, reduceCtorEq, RR, RB, RZ, RE, hl_1, h0_1, h3_1, eq_false hge]
theorem s81 (a0 : List Int)   {r : Int} (hF : F81 a0 = some r) : ans A 81 [V.isl (List.map Enc.enc a0)] = some (Enc.enc r) := by
  refine ans_of (f := p81) rfl rfl rfl fun e hl he => ?_
  have h0_0 : e.at 0 = V.isl (List.map Enc.enc a0) := he 0 _ rfl
  have hl_0 : e.length = 16 := hl
  clear he hl
  show W A b81 e ⟨[], 0⟩ _
  unfold F81 at hF
  obtain ⟨t7, gt7, hF⟩ := bS hF
  rcases t7 with _ | r8
  · dsimp only at hF
    simp only [↓reduceIte, Nat.reduceAdd, Nat.reduceMul, Nat.reduceSub, Nat.reduceLT, Nat.reduceLeDiff, Nat.reduceEqDiff, Nat.reducePow, Int.reducePow, Int.reduceLE, Int.reduceLT, Int.reduceEq, Int.reduceToNat, reduceCtorEq, RR, RB, RZ, RE, opEv, fillV, mapO, mapS, b81, hl_0, h0_0]
    refine W.mono (l81_1 a0   gt7 (Exists.intro _ ( And.intro rfl ?_))) ?_
    · simp only [↓reduceIte, Nat.reduceAdd, Nat.reduceMul, Nat.reduceSub, Nat.reduceLT, Nat.reduceLeDiff, Nat.reduceEqDiff, Nat.reducePow, Int.reducePow, Int.reduceLE, Int.reduceLT, Int.reduceEq, Int.reduceToNat, reduceCtorEq, RR, RB, RZ, RE, hl_0, h0_0]
    rintro _ e _ ⟨rfl, k2, rfl, hl_3⟩
    have hE := Option.some.inj hF; subst hE
    simp only [↓reduceIte, Nat.reduceAdd, Nat.reduceMul, Nat.reduceSub, Nat.reduceLT, Nat.reduceLeDiff, Nat.reduceEqDiff, Nat.reducePow, Int.reducePow, Int.reduceLE, Int.reduceLT, Int.reduceEq, Int.reduceToNat, reduceCtorEq, RR, RB, RZ, RE, opEv, fillV, mapO, mapS, hl_3]
    exact fin_ret (by simp only [↓reduceIte, Nat.reduceAdd, Nat.reduceMul, Nat.reduceSub, Nat.reduceLT, Nat.reduceLeDiff, Nat.reduceEqDiff, Nat.reducePow, Int.reducePow, Int.reduceLE, Int.reduceLT, Int.reduceEq, Int.reduceToNat, reduceCtorEq, RR, RB, RZ, RE, fn_out, p81, Rs.ev, mapO, mapS, take_len_self, hl_3])
  · dsimp only at hF
    have hE := Option.some.inj hF; subst hE
    simp only [↓reduceIte, Nat.reduceAdd, Nat.reduceMul, Nat.reduceSub, Nat.reduceLT, Nat.reduceLeDiff, Nat.reduceEqDiff, Nat.reducePow, Int.reducePow, Int.reduceLE, Int.reduceLT, Int.reduceEq, Int.reduceToNat, reduceCtorEq, RR, RB, RZ, RE, opEv, fillV, mapO, mapS, b81, hl_0, h0_0]
    refine W.mono (l81_1 a0   gt7 (Exists.intro _ ( And.intro rfl ?_))) ?_
    · simp only [↓reduceIte, Nat.reduceAdd, Nat.reduceMul, Nat.reduceSub, Nat.reduceLT, Nat.reduceLeDiff, Nat.reduceEqDiff, Nat.reducePow, Int.reducePow, Int.reduceLE, Int.reduceLT, Int.reduceEq, Int.reduceToNat, reduceCtorEq, RR, RB, RZ, RE, hl_0, h0_0]
    rintro _ e h ⟨rfl, hq⟩
    simp only [↓reduceIte, Nat.reduceAdd, Nat.reduceMul, Nat.reduceSub, Nat.reduceLT, Nat.reduceLeDiff, Nat.reduceEqDiff, Nat.reducePow, Int.reducePow, Int.reduceLE, Int.reduceLT, Int.reduceEq, Int.reduceToNat, reduceCtorEq, RR, RB]
    exact hq
/-! loop.example/g01273/spec.l01Is -/
def F39_1_B (a0 : GComplex) (v3_1 : Int) (s : Unit) : Option ((Unit) ⊕ ((Unit) ⊕ Bool)) :=
  (getI a0.Dims v3_1).bind fun x10 =>
(F54 x10 0 8).bind fun x12 =>
if x12 = true then
  some (.inl ())
else
  some (.inr (.inr false))
def F39_1_D (a0 : GComplex) (v3_1 : Int) (s : Unit) : Option ((Unit) ⊕ Bool) :=
  some (.inl ())
def F39_3_S (a0 : GComplex) (v4_2 : Int) (v5_3 : Int) : Option ((Int) ⊕ ((Unit) ⊕ Bool)) :=
  (getI a0.Maps v4_2).bind fun x29 =>
if v5_3 < (x29.length : Int) then
  if 0 < v4_2 then
    (chk (v4_2 - 1)).bind fun x33 =>
    (getI a0.Maps x33).bind fun x34 =>
    (getI x29 v5_3).bind fun x36 =>
    (getI a0.Dims x33).bind fun x38 =>
    (F80 a0.Prime x34 x36 x38).bind fun x40 =>
    (F81 x40).bind fun x42 =>
    if 0 ≤ x42 then
      some (.inr (.inr false))
    else
      (chk (v5_3 + 1)).bind fun x45 =>
      some (.inl x45)
  else
    some (.inr (.inl ()))
else
  some (.inr (.inl ()))
def F39_2_B (a0 : GComplex) (v4_2 : Int) (s : Unit) : Option ((Unit) ⊕ ((Unit) ⊕ Bool)) :=
  (getI a0.Maps v4_2).bind fun x18 =>
(getI a0.Dims (v4_2 + 1)).bind fun x20 =>
(getI a0.Dims v4_2).bind fun x22 =>
(F79 a0.Prime x18 x20 x22).bind fun x24 =>
if x24 = true then
  (loopW (F39_3_S a0 v4_2) 0).bind fun t46 => match t46 with
    | .inl _ =>
      some (.inl ())
    | .inr r47 => some (.inr (.inr r47))
else
  some (.inr (.inr false))
def F39_2_D (a0 : GComplex) (v4_2 : Int) (s : Unit) : Option ((Unit) ⊕ Bool) :=
  some (.inl ())
def F39 (a0 : GComplex) : Option Bool :=
  (F78 a0.Prime).bind fun x1 =>
  if x1 = true then
    if (a0.Dims.length : Int) < 1 then
      some false
    else
      if 6 < (a0.Dims.length : Int) then
        some false
      else
        (chk ((a0.Dims.length : Int) - 1)).bind fun x5 =>
        if (a0.Maps.length : Int) = x5 then
          (forR 0 (a0.Dims.length : Int) (F39_1_B a0) (F39_1_D a0) ()).bind fun t14 => match t14 with
            | .inl _ =>
              (forR 0 (a0.Maps.length : Int) (F39_2_B a0) (F39_2_D a0) ()).bind fun t48 => match t48 with
                | .inl _ =>
                  some true
                | .inr r49 => some r49
            | .inr r50 => some r50
        else
          some false
  else
    some false
def I39_1 (a0 : GComplex)  (v3_1 : Int) (s : Unit) (e : Env) (h : Heap) : Prop :=
  ∃ k8 : Nat, h = ⟨[(0, none)], k8⟩ ∧ e.length = 112 ∧ e.at 1 = V.iptr [V.int .i64 a0.Prime, V.isl (List.map Enc.enc a0.Dims), V.isl (List.map Enc.enc a0.Maps)] ∧ e.at 3 = V.int .i64 v3_1
def P39_1 (a0 : GComplex)  (t : (Unit) ⊕ Bool) (x : Ex) (e : Env) (h : Heap) : Prop :=
  match t with
  | .inl _ => x = .normal ∧ ∃ k8 : Nat, h = ⟨[(0, none)], k8⟩ ∧ e.length = 112 ∧ e.at 1 = V.iptr [V.int .i64 a0.Prime, V.isl (List.map Enc.enc a0.Dims), V.isl (List.map Enc.enc a0.Maps)]
  | .inr r => x = .ret ∧ Fin p39 (Enc.enc r) .ret e h
theorem l39_1 (a0 : GComplex)   {lo : Int} {s : Unit} {t : (Unit) ⊕ Bool} (hF : forR lo (a0.Dims.length : Int) (F39_1_B a0) (F39_1_D a0) s = some t) {e : Env} {h : Heap} (hI : I39_1 a0  lo s e h) : W A c39_1 e h (P39_1 a0  t) := by
  show W A (.block 0 (.loop false b39_1)) e h _
  rw [W_block]
  refine W_forR hF 1 (by obtain ⟨_, rfl, _⟩ := hI; rfl) (I39_1 a0 ) hI ?_ ?_
  · rintro v3_1 _ e h ⟨k8, rfl, hl_7, h1_7, h3_7⟩ hlt hw o ho
    unfold F39_1_B at ho
    obtain ⟨x10, gx10, ho⟩ := bS ho
    obtain ⟨w11a, w11b⟩ := getI_w gx10
    obtain ⟨x12, gx12, ho⟩ := bS ho
    have w13 : ans A 54 [V.int .i64 x10, V.int .i64 0, V.int .i64 8] = some (V.bool x12) := s54 x10 0 8  gx12
    cases x12 with
    | true =>
      rw [if_pos rfl] at ho
      have hE := Option.some.inj ho; subst hE
      simp only [↓reduceIte, Nat.reduceAdd, Nat.reduceMul, Nat.reduceSub, Nat.reduceLT, Nat.reduceLeDiff, Nat.reduceEqDiff, Nat.reducePow, Int.reducePow, Int.reduceLE, Int.reduceLT, Int.reduceEq, Int.reduceToNat, reduceCtorEq, RR, RB, RZ, RE, opEv, fillV, mapO, mapS, b39_1, hl_7, h1_7, h3_7, eq_true hlt, hw, w11a, w11b, w13]
      refine And.intro rfl (Exists.intro _ ( And.intro rfl ?_))
      simp only [↓reduceIte, Nat.reduceAdd, Nat.reduceMul, Nat.reduceSub, Nat.reduceLT, Nat.reduceLeDiff, Nat.reduceEqDiff, Nat.reducePow, Int.reducePow, Int.reduceLE, Int.reduceLT, Int.reduceEq, Int.reduceToNat, reduceCtorEq, RR, RB, RZ, RE, hl_7, h1_7, h3_7, eq_true hlt, hw, w11a, w11b, w13]
    | false =>
      rw [if_neg Bool.false_ne_true] at ho
      have hE := Option.some.inj ho; subst hE
      simp only [↓reduceIte, Nat.reduceAdd, Nat.reduceMul, Nat.reduceSub, Nat.reduceLT, Nat.reduceLeDiff, Nat.reduceEqDiff, Nat.reducePow, Int.reducePow, Int.reduceLE, Int.reduceLT, Int.reduceEq, Int.reduceToNat, reduceCtorEq, RR, RB, RZ, RE, opEv, fillV, mapO, mapS, b39_1, hl_7, h1_7, h3_7, eq_true hlt, hw, w11a, w11b, w13]
      intro ht; subst ht
      simp only [↓reduceIte, Nat.reduceAdd, Nat.reduceMul, Nat.reduceSub, Nat.reduceLT, Nat.reduceLeDiff, Nat.reduceEqDiff, Nat.reducePow, Int.reducePow, Int.reduceLE, Int.reduceLT, Int.reduceEq, Int.reduceToNat, reduceCtorEq, RR, RB]
      exact And.intro rfl (fin_ret (by simp only [↓reduceIte, Nat.reduceAdd, Nat.reduceMul, Nat.reduceSub, Nat.reduceLT, Nat.reduceLeDiff, Nat.reduceEqDiff, Nat.reducePow, Int.reducePow, Int.reduceLE, Int.reduceLT, Int.reduceEq, Int.reduceToNat, reduceCtorEq, RR, RB, RZ, RE, fn_out, p39, Rs.ev, mapO, mapS, take_len_self, hl_7, h1_7, h3_7, eq_true hlt, hw, w11a, w11b, w13]))
  · rintro v3_1 _ e h ⟨k8, rfl, hl_7, h1_7, h3_7⟩ hge t1 ho
    unfold F39_1_D at ho
    have hE := Option.some.inj ho; subst hE
    simp only [↓reduceIte, Nat.reduceAdd, Nat.reduceMul, Nat.reduceSub, Nat.reduceLT, Nat.reduceLeDiff, Nat.reduceEqDiff, Nat.reducePow, Int.reducePow, Int.reduceLE, Int.reduceLT, Int.reduceEq, Int.reduceToNat, reduceCtorEq, RR, RB, RZ, RE, opEv, fillV, mapO, mapS, b39_1, hl_7, h1_7, h3_7, eq_false hge]
    intro ht; subst ht
    refine And.intro rfl (Exists.intro _ ( And.intro rfl ?_))
    simp only [↓reduceIte, Nat.reduceAdd, Nat.reduceMul, Nat.reduceSub, Nat.reduceLT, Nat.reduceLeDiff, Nat.reduceEqDiff, Nat.reducePow, Int.reducePow, Int.reduceLE, Int.reduceLT, Int.reduceEq, Int.reduceToNat, reduceCtorEq, RR, RB, RZ, RE, hl_7, h1_7, h3_7, eq_false hge]
def I39_3 (a0 : GComplex) (v4_2 : Int)  (v5_3 : Int) (e : Env) (h : Heap) : Prop :=
  ∃ k27 : Nat, h = ⟨[(0, none)], k27⟩ ∧ e.length = 112 ∧ e.at 1 = V.iptr [V.int .i64 a0.Prime, V.isl (List.map Enc.enc a0.Dims), V.isl (List.map Enc.enc a0.Maps)] ∧ e.at 4 = V.int .i64 v4_2 ∧ e.at 5 = V.int .i64 v5_3
def P39_3 (a0 : GComplex) (v4_2 : Int)  (t : (Unit) ⊕ Bool) (x : Ex) (e : Env) (h : Heap) : Prop :=
  match t with
  | .inl _ => x = .normal ∧ ∃ k27 : Nat, h = ⟨[(0, none)], k27⟩ ∧ e.length = 112 ∧ e.at 1 = V.iptr [V.int .i64 a0.Prime, V.isl (List.map Enc.enc a0.Dims), V.isl (List.map Enc.enc a0.Maps)] ∧ e.at 4 = V.int .i64 v4_2
  | .inr r => x = .ret ∧ Fin p39 (Enc.enc r) .ret e h
theorem l39_3 (a0 : GComplex) (v4_2 : Int)   {s : Int} {t : (Unit) ⊕ Bool} (hF : loopW (F39_3_S a0 v4_2) s = some t) {e : Env} {h : Heap} (hI : I39_3 a0 v4_2  s e h) : W A c39_3 e h (P39_3 a0 v4_2  t) := by
  show W A (.block 4 (.loop false b39_3)) e h _
  rw [W_block]
  refine W_loop hF 1 (by obtain ⟨_, rfl, _⟩ := hI; rfl) (I39_3 a0 v4_2 ) hI ?_
  · rintro v5_3 e h ⟨k27, rfl, hl_26, h1_26, h4_26, h5_26⟩ o ho
    unfold F39_3_S at ho
    obtain ⟨x29, gx29, ho⟩ := bS ho
    obtain ⟨w30a, w30b⟩ := getI_w gx29
    by_cases c31 : v5_3 < (x29.length : Int)
    · rw [if_pos c31] at ho
      by_cases c32 : 0 < v4_2
      · rw [if_pos c32] at ho
        obtain ⟨x33, gx33, ho⟩ := bS ho
        have wx33 := chk_w gx33
        obtain ⟨x34, gx34, ho⟩ := bS ho
        obtain ⟨w35a, w35b⟩ := getI_w gx34
        obtain ⟨x36, gx36, ho⟩ := bS ho
        obtain ⟨w37a, w37b⟩ := getI_w gx36
        obtain ⟨x38, gx38, ho⟩ := bS ho
        obtain ⟨w39a, w39b⟩ := getI_w gx38
        obtain ⟨x40, gx40, ho⟩ := bS ho
        have w41 : ans A 80 [V.int .i64 a0.Prime, V.isl (List.map Enc.enc x34), V.isl (List.map Enc.enc x36), V.int .i64 x38] = some (V.isl (List.map Enc.enc x40)) := s80 a0.Prime x34 x36 x38  gx40
        obtain ⟨x42, gx42, ho⟩ := bS ho
        have w43 : ans A 81 [V.isl (List.map Enc.enc x40)] = some (V.int .i64 x42) := s81 x40  gx42
        by_cases c44 : 0 ≤ x42
        · rw [if_pos c44] at ho
          have hE := Option.some.inj ho; subst hE
          simp only [↓reduceIte, Nat.reduceAdd, Nat.reduceMul, Nat.reduceSub, Nat.reduceLT, Nat.reduceLeDiff, Nat.reduceEqDiff, Nat.reducePow, Int.reducePow, Int.reduceLE, Int.reduceLT, Int.reduceEq, Int.reduceToNat, reduceCtorEq, RR, RB, RZ, RE, opEv, fillV, mapO, mapS, b39_3, hl_26, h1_26, h4_26, h5_26, w30a, w30b, eq_true c31, eq_true c32, wx33, w35a, w35b, w37a, w37b, w39a, w39b, w41, w43, eq_true c44]
          intro ht; subst ht
          simp only [↓reduceIte, Nat.reduceAdd, Nat.reduceMul, Nat.reduceSub, Nat.reduceLT, Nat.reduceLeDiff, Nat.reduceEqDiff, Nat.reducePow, Int.reducePow, Int.reduceLE, Int.reduceLT, Int.reduceEq, Int.reduceToNat, reduceCtorEq, RR, RB]
          exact And.intro rfl (fin_ret (by simp only [↓reduceIte, Nat.reduceAdd, Nat.reduceMul, Nat.reduceSub, Nat.reduceLT, Nat.reduceLeDiff, Nat.reduceEqDiff, Nat.reducePow, Int.reducePow, Int.reduceLE, Int.reduceLT, Int.reduceEq, Int.reduceToNat, reduceCtorEq, RR, RB, RZ, RE, fn_out, p39, Rs.ev, mapO, mapS, take_len_self, hl_26, h1_26, h4_26, h5_26, w30a, w30b, eq_true c31, eq_true c32, wx33, w35a, w35b, w37a, w37b, w39a, w39b, w41, w43, eq_true c44]))
        · rw [if_neg c44] at ho
          obtain ⟨x45, gx45, ho⟩ := bS ho
          have wx45 := chk_w gx45
          have hE := Option.some.inj ho; subst hE
          simp only [↓reduceIte, Nat.reduceAdd, Nat.reduceMul, Nat.reduceSub, Nat.reduceLT, Nat.reduceLeDiff, Nat.reduceEqDiff, Nat.reducePow, Int.reducePow, Int.reduceLE, Int.reduceLT, Int.reduceEq, Int.reduceToNat, reduceCtorEq, RR, RB, RZ, RE, opEv, fillV, mapO, mapS, b39_3, hl_26, h1_26, h4_26, h5_26, w30a, w30b, eq_true c31, eq_true c32, wx33, w35a, w35b, w37a, w37b, w39a, w39b, w41, w43, eq_false c44, wx45]
          refine And.intro rfl (Exists.intro _ ( And.intro rfl ?_))
          simp only [↓reduceIte, Nat.reduceAdd, Nat.reduceMul, Nat.reduceSub, Nat.reduceLT, Nat.reduceLeDiff, Nat.reduceEqDiff, Nat.reducePow, Int.reducePow, Int.reduceLE, Int.reduceLT, Int.reduceEq, Int.reduceToNat, reduceCtorEq, RR, RB, RZ, RE, hl_26, h1_26, h4_26, h5_26, w30a, w30b, eq_true c31, eq_true c32, wx33, w35a, w35b, w37a, w37b, w39a, w39b, w41, w43, eq_false c44, wx45]
      · rw [if_neg c32] at ho
        have hE := Option.some.inj ho; subst hE
        simp only [↓reduceIte, Nat.reduceAdd, Nat.reduceMul, Nat.reduceSub, Nat.reduceLT, Nat.reduceLeDiff, Nat.reduceEqDiff, Nat.reducePow, Int.reducePow, Int.reduceLE, Int.reduceLT, Int.reduceEq, Int.reduceToNat, reduceCtorEq, RR, RB, RZ, RE, opEv, fillV, mapO, mapS, b39_3, hl_26, h1_26, h4_26, h5_26, w30a, w30b, eq_true c31, eq_false c32]
        intro ht; subst ht
        simp only [↓reduceIte, Nat.reduceAdd, Nat.reduceMul, Nat.reduceSub, Nat.reduceLT, Nat.reduceLeDiff, Nat.reduceEqDiff, Nat.reducePow, Int.reducePow, Int.reduceLE, Int.reduceLT, Int.reduceEq, Int.reduceToNat, reduceCtorEq, RR, RB]
        refine And.intro rfl (Exists.intro _ ( And.intro rfl ?_))
        simp only [↓reduceIte, Nat.reduceAdd, Nat.reduceMul, Nat.reduceSub, Nat.reduceLT, Nat.reduceLeDiff, Nat.reduceEqDiff, Nat.reducePow, Int.reducePow, Int.reduceLE, Int.reduceLT, Int.reduceEq, Int.reduceToNat, reduceCtorEq, RR, RB, RZ, RE, hl_26, h1_26, h4_26, h5_26, w30a, w30b, eq_true c31, eq_false c32]
    · rw [if_neg c31] at ho
      have hE := Option.some.inj ho; subst hE
      simp only [↓reduceIte, Nat.reduceAdd, Nat.reduceMul, Nat.reduceSub, Nat.reduceLT, Nat.reduceLeDiff, Nat.reduceEqDiff, Nat.reducePow, Int.reducePow, Int.reduceLE, Int.reduceLT, Int.reduceEq, Int.reduceToNat, reduceCtorEq, RR, RB, RZ, RE, opEv, fillV, mapO, mapS, b39_3, hl_26, h1_26, h4_26, h5_26, w30a, w30b, eq_false c31]
      intro ht; subst ht
      simp only [↓reduceIte, Nat.reduceAdd, Nat.reduceMul, Nat.reduceSub, Nat.reduceLT, Nat.reduceLeDiff, Nat.reduceEqDiff, Nat.reducePow, Int.reducePow, Int.reduceLE, Int.reduceLT, Int.reduceEq, Int.reduceToNat, reduceCtorEq, RR, RB]
      refine And.intro rfl (Exists.intro _ ( And.intro rfl ?_))
      simp only [↓reduceIte, Nat.reduceAdd, Nat.reduceMul, Nat.reduceSub, Nat.reduceLT, Nat.reduceLeDiff, Nat.reduceEqDiff, Nat.reducePow, Int.reducePow, Int.reduceLE, Int.reduceLT, Int.reduceEq, Int.reduceToNat, reduceCtorEq, RR, RB, RZ, RE, hl_26, h1_26, h4_26, h5_26, w30a, w30b, eq_false c31]
def I39_2 (a0 : GComplex)  (v4_2 : Int) (s : Unit) (e : Env) (h : Heap) : Prop :=
  ∃ k16 : Nat, h = ⟨[(0, none)], k16⟩ ∧ e.length = 112 ∧ e.at 1 = V.iptr [V.int .i64 a0.Prime, V.isl (List.map Enc.enc a0.Dims), V.isl (List.map Enc.enc a0.Maps)] ∧ e.at 4 = V.int .i64 v4_2
def P39_2 (a0 : GComplex)  (t : (Unit) ⊕ Bool) (x : Ex) (e : Env) (h : Heap) : Prop :=
  match t with
  | .inl _ => x = .normal ∧ ∃ k16 : Nat, h = ⟨[(0, none)], k16⟩ ∧ e.length = 112
  | .inr r => x = .ret ∧ Fin p39 (Enc.enc r) .ret e h
theorem l39_2 (a0 : GComplex)   {lo : Int} {s : Unit} {t : (Unit) ⊕ Bool} (hF : forR lo (a0.Maps.length : Int) (F39_2_B a0) (F39_2_D a0) s = some t) {e : Env} {h : Heap} (hI : I39_2 a0  lo s e h) : W A c39_2 e h (P39_2 a0  t) := by
  show W A (.block 2 (.loop false b39_2)) e h _
  rw [W_block]
  refine W_forR hF 1 (by obtain ⟨_, rfl, _⟩ := hI; rfl) (I39_2 a0 ) hI ?_ ?_
  · rintro v4_2 _ e h ⟨k16, rfl, hl_15, h1_15, h4_15⟩ hlt hw o ho
    unfold F39_2_B at ho
    obtain ⟨x18, gx18, ho⟩ := bS ho
    obtain ⟨w19a, w19b⟩ := getI_w gx18
    obtain ⟨x20, gx20, ho⟩ := bS ho
    obtain ⟨w21a, w21b⟩ := getI_w gx20
    obtain ⟨x22, gx22, ho⟩ := bS ho
    obtain ⟨w23a, w23b⟩ := getI_w gx22
    obtain ⟨x24, gx24, ho⟩ := bS ho
    have w25 : ans A 79 [V.int .i64 a0.Prime, V.isl (List.map Enc.enc x18), V.int .i64 x20, V.int .i64 x22] = some (V.bool x24) := s79 a0.Prime x18 x20 x22  gx24
    cases x24 with
    | true =>
      rw [if_pos rfl] at ho
      obtain ⟨t46, gt46, ho⟩ := bS ho
      rcases t46 with _ | r47
      · dsimp only at ho
        simp only [↓reduceIte, Nat.reduceAdd, Nat.reduceMul, Nat.reduceSub, Nat.reduceLT, Nat.reduceLeDiff, Nat.reduceEqDiff, Nat.reducePow, Int.reducePow, Int.reduceLE, Int.reduceLT, Int.reduceEq, Int.reduceToNat, reduceCtorEq, RR, RB, RZ, RE, opEv, fillV, mapO, mapS, b39_2, hl_15, h1_15, h4_15, eq_true hlt, hw, w19a, w19b, w21a, w21b, w23a, w23b, w25]
        refine W.mono (l39_3 a0 v4_2   gt46 (Exists.intro _ ( And.intro rfl ?_))) ?_
        · simp only [↓reduceIte, Nat.reduceAdd, Nat.reduceMul, Nat.reduceSub, Nat.reduceLT, Nat.reduceLeDiff, Nat.reduceEqDiff, Nat.reducePow, Int.reducePow, Int.reduceLE, Int.reduceLT, Int.reduceEq, Int.reduceToNat, reduceCtorEq, RR, RB, RZ, RE, hl_15, h1_15, h4_15, eq_true hlt, hw, w19a, w19b, w21a, w21b, w23a, w23b, w25]
        rintro _ e _ ⟨rfl, k27, rfl, hl_28, h1_28, h4_28⟩
        have hE := Option.some.inj ho; subst hE
        simp only [↓reduceIte, Nat.reduceAdd, Nat.reduceMul, Nat.reduceSub, Nat.reduceLT, Nat.reduceLeDiff, Nat.reduceEqDiff, Nat.reducePow, Int.reducePow, Int.reduceLE, Int.reduceLT, Int.reduceEq, Int.reduceToNat, reduceCtorEq, RR, RB, RZ, RE, opEv, fillV, mapO, mapS, hl_28, h1_28, h4_28, eq_true hlt, hw]
        refine And.intro rfl (Exists.intro _ ( And.intro rfl ?_))
        simp only [↓reduceIte, Nat.reduceAdd, Nat.reduceMul, Nat.reduceSub, Nat.reduceLT, Nat.reduceLeDiff, Nat.reduceEqDiff, Nat.reducePow, Int.reducePow, Int.reduceLE, Int.reduceLT, Int.reduceEq, Int.reduceToNat, reduceCtorEq, RR, RB, RZ, RE, hl_28, h1_28, h4_28, eq_true hlt, hw]
      · dsimp only at ho
        have hE := Option.some.inj ho; subst hE
        simp only [↓reduceIte, Nat.reduceAdd, Nat.reduceMul, Nat.reduceSub, Nat.reduceLT, Nat.reduceLeDiff, Nat.reduceEqDiff, Nat.reducePow, Int.reducePow, Int.reduceLE, Int.reduceLT, Int.reduceEq, Int.reduceToNat, reduceCtorEq, RR, RB, RZ, RE, opEv, fillV, mapO, mapS, b39_2, hl_15, h1_15, h4_15, eq_true hlt, hw, w19a, w19b, w21a, w21b, w23a, w23b, w25]
        refine W.mono (l39_3 a0 v4_2   gt46 (Exists.intro _ ( And.intro rfl ?_))) ?_
        · simp only [↓reduceIte, Nat.reduceAdd, Nat.reduceMul, Nat.reduceSub, Nat.reduceLT, Nat.reduceLeDiff, Nat.reduceEqDiff, Nat.reducePow, Int.reducePow, Int.reduceLE, Int.reduceLT, Int.reduceEq, Int.reduceToNat, reduceCtorEq, RR, RB, RZ, RE, hl_15, h1_15, h4_15, eq_true hlt, hw, w19a, w19b, w21a, w21b, w23a, w23b, w25]
        rintro _ e h ⟨rfl, hq⟩
        simp only [↓reduceIte, Nat.reduceAdd, Nat.reduceMul, Nat.reduceSub, Nat.reduceLT, Nat.reduceLeDiff, Nat.reduceEqDiff, Nat.reducePow, Int.reducePow, Int.reduceLE, Int.reduceLT, Int.reduceEq, Int.reduceToNat, reduceCtorEq, RR, RB]
        intro ht; subst ht
        simp only [↓reduceIte, Nat.reduceAdd, Nat.reduceMul, Nat.reduceSub, Nat.reduceLT, Nat.reduceLeDiff, Nat.reduceEqDiff, Nat.reducePow, Int.reducePow, Int.reduceLE, Int.reduceLT, Int.reduceEq, Int.reduceToNat, reduceCtorEq, RR, RB]
        exact And.intro rfl hq
    | false =>
      rw [if_neg Bool.false_ne_true] at ho
      have hE := Option.some.inj ho; subst hE
      simp only [↓reduceIte, Nat.reduceAdd, Nat.reduceMul, Nat.reduceSub, Nat.reduceLT, Nat.reduceLeDiff, Nat.reduceEqDiff, Nat.reducePow, Int.reducePow, Int.reduceLE, Int.reduceLT, Int.reduceEq, Int.reduceToNat, reduceCtorEq, RR, RB, RZ, RE, opEv, fillV, mapO, mapS, b39_2, hl_15, h1_15, h4_15, eq_true hlt, hw, w19a, w19b, w21a, w21b, w23a, w23b, w25]
      intro ht; subst ht
      simp only [↓reduceIte, Nat.reduceAdd, Nat.reduceMul, Nat.reduceSub, Nat.reduceLT, Nat.reduceLeDiff, Nat.reduceEqDiff, Nat.reducePow, Int.reducePow, Int.reduceLE, Int.reduceLT, Int.reduceEq, Int.reduceToNat, reduceCtorEq, RR, RB]
      exact And.intro rfl (fin_ret (by simp only [↓reduceIte, Nat.reduceAdd, Nat.reduceMul, Nat.reduceSub, Nat.reduceLT, Nat.reduceLeDiff, Nat.reduceEqDiff, Nat.reducePow, Int.reducePow, Int.reduceLE, Int.reduceLT, Int.reduceEq, Int.reduceToNat, reduceCtorEq, RR, RB, RZ, RE, fn_out, p39, Rs.ev, mapO, mapS, take_len_self, hl_15, h1_15, h4_15, eq_true hlt, hw, w19a, w19b, w21a, w21b, w23a, w23b, w25]))
  · rintro v4_2 _ e h ⟨k16, rfl, hl_15, h1_15, h4_15⟩ hge t1 ho
    unfold F39_2_D at ho
    have hE := Option.some.inj ho; subst hE
    simp only [↓reduceIte, Nat.reduceAdd, Nat.reduceMul, Nat.reduceSub, Nat.reduceLT, Nat.reduceLeDiff, Nat.reduceEqDiff, Nat.reducePow, Int.reducePow, Int.reduceLE, Int.reduceLT, Int.reduceEq, Int.reduceToNat, reduceCtorEq, RR, RB, RZ, RE, opEv, fillV, mapO, mapS, b39_2, hl_15, h1_15, h4_15, eq_false hge]
    intro ht; subst ht
    refine And.intro rfl (Exists.intro _ ( And.intro rfl ?_))
    simp only [↓reduceIte, Nat.reduceAdd, Nat.reduceMul, Nat.reduceSub, Nat.reduceLT, Nat.reduceLeDiff, Nat.reduceEqDiff, Nat.reducePow, Int.reducePow, Int.reduceLE, Int.reduceLT, Int.reduceEq, Int.reduceToNat, reduceCtorEq, RR, RB, RZ, RE, hl_15, h1_15, h4_15, eq_false hge]
theorem s39 (a0 : GComplex)   {r : Bool} (hF : F39 a0 = some r) : ans A 39 [V.agg [V.int .i64 a0.Prime, V.isl (List.map Enc.enc a0.Dims), V.isl (List.map Enc.enc a0.Maps)]] = some (Enc.enc r) := by
  refine ans_of (f := p39) rfl rfl rfl fun e hl he => ?_
  have h0_0 : e.at 0 = V.agg [V.int .i64 a0.Prime, V.isl (List.map Enc.enc a0.Dims), V.isl (List.map Enc.enc a0.Maps)] := he 0 _ rfl
  have hl_0 : e.length = 112 := hl
  clear he hl
  show W A b39 e ⟨[], 0⟩ _
  unfold F39 at hF
  obtain ⟨x1, gx1, hF⟩ := bS hF
  have w2 : ans A 78 [V.int .i64 a0.Prime] = some (V.bool x1) := s78 a0.Prime  gx1
  cases x1 with
  | true =>
    rw [if_pos rfl] at hF
    by_cases c3 : (a0.Dims.length : Int) < 1
    · rw [if_pos c3] at hF
      have hE := Option.some.inj hF; subst hE
      simp only [↓reduceIte, Nat.reduceAdd, Nat.reduceMul, Nat.reduceSub, Nat.reduceLT, Nat.reduceLeDiff, Nat.reduceEqDiff, Nat.reducePow, Int.reducePow, Int.reduceLE, Int.reduceLT, Int.reduceEq, Int.reduceToNat, reduceCtorEq, RR, RB, RZ, RE, opEv, fillV, mapO, mapS, b39, hl_0, h0_0, w2, eq_true c3]
      exact fin_ret (by simp only [↓reduceIte, Nat.reduceAdd, Nat.reduceMul, Nat.reduceSub, Nat.reduceLT, Nat.reduceLeDiff, Nat.reduceEqDiff, Nat.reducePow, Int.reducePow, Int.reduceLE, Int.reduceLT, Int.reduceEq, Int.reduceToNat, reduceCtorEq, RR, RB, RZ, RE, fn_out, p39, Rs.ev, mapO, mapS, take_len_self, hl_0, h0_0, w2, eq_true c3])
    · rw [if_neg c3] at hF
      by_cases c4 : 6 < (a0.Dims.length : Int)
      · rw [if_pos c4] at hF
        have hE := Option.some.inj hF; subst hE
        simp only [↓reduceIte, Nat.reduceAdd, Nat.reduceMul, Nat.reduceSub, Nat.reduceLT, Nat.reduceLeDiff, Nat.reduceEqDiff, Nat.reducePow, Int.reducePow, Int.reduceLE, Int.reduceLT, Int.reduceEq, Int.reduceToNat, reduceCtorEq, RR, RB, RZ, RE, opEv, fillV, mapO, mapS, b39, hl_0, h0_0, w2, eq_false c3, eq_true c4]
        exact fin_ret (by simp only [↓reduceIte, Nat.reduceAdd, Nat.reduceMul, Nat.reduceSub, Nat.reduceLT, Nat.reduceLeDiff, Nat.reduceEqDiff, Nat.reducePow, Int.reducePow, Int.reduceLE, Int.reduceLT, Int.reduceEq, Int.reduceToNat, reduceCtorEq, RR, RB, RZ, RE, fn_out, p39, Rs.ev, mapO, mapS, take_len_self, hl_0, h0_0, w2, eq_false c3, eq_true c4])
      · rw [if_neg c4] at hF
        obtain ⟨x5, gx5, hF⟩ := bS hF
        have wx5 := chk_w gx5
        by_cases c6 : (a0.Maps.length : Int) = x5
        · rw [if_pos c6] at hF
          obtain ⟨t14, gt14, hF⟩ := bS hF
          rcases t14 with _ | r50
          · dsimp only at hF
            simp only [↓reduceIte, Nat.reduceAdd, Nat.reduceMul, Nat.reduceSub, Nat.reduceLT, Nat.reduceLeDiff, Nat.reduceEqDiff, Nat.reducePow, Int.reducePow, Int.reduceLE, Int.reduceLT, Int.reduceEq, Int.reduceToNat, reduceCtorEq, RR, RB, RZ, RE, opEv, fillV, mapO, mapS, b39, hl_0, h0_0, w2, eq_false c3, eq_false c4, wx5, eq_true c6]
            refine W.mono (l39_1 a0   gt14 (Exists.intro _ ( And.intro rfl ?_))) ?_
            · simp only [↓reduceIte, Nat.reduceAdd, Nat.reduceMul, Nat.reduceSub, Nat.reduceLT, Nat.reduceLeDiff, Nat.reduceEqDiff, Nat.reducePow, Int.reducePow, Int.reduceLE, Int.reduceLT, Int.reduceEq, Int.reduceToNat, reduceCtorEq, RR, RB, RZ, RE, hl_0, h0_0, w2, eq_false c3, eq_false c4, wx5, eq_true c6]
            rintro _ e _ ⟨rfl, k8, rfl, hl_9, h1_9⟩
            obtain ⟨t48, gt48, hF⟩ := bS hF
            rcases t48 with _ | r49
            · dsimp only at hF
              simp only [↓reduceIte, Nat.reduceAdd, Nat.reduceMul, Nat.reduceSub, Nat.reduceLT, Nat.reduceLeDiff, Nat.reduceEqDiff, Nat.reducePow, Int.reducePow, Int.reduceLE, Int.reduceLT, Int.reduceEq, Int.reduceToNat, reduceCtorEq, RR, RB, RZ, RE, opEv, fillV, mapO, mapS, hl_9, h1_9, eq_false c3, eq_false c4, eq_true c6]
              refine W.mono (l39_2 a0   gt48 (Exists.intro _ ( And.intro rfl ?_))) ?_
              · simp only [↓reduceIte, Nat.reduceAdd, Nat.reduceMul, Nat.reduceSub, Nat.reduceLT, Nat.reduceLeDiff, Nat.reduceEqDiff, Nat.reducePow, Int.reducePow, Int.reduceLE, Int.reduceLT, Int.reduceEq, Int.reduceToNat, reduceCtorEq, RR, RB, RZ, RE, hl_9, h1_9, eq_false c3, eq_false c4, eq_true c6]
              rintro _ e _ ⟨rfl, k16, rfl, hl_17⟩
              have hE := Option.some.inj hF; subst hE
              simp only [↓reduceIte, Nat.reduceAdd, Nat.reduceMul, Nat.reduceSub, Nat.reduceLT, Nat.reduceLeDiff, Nat.reduceEqDiff, Nat.reducePow, Int.reducePow, Int.reduceLE, Int.reduceLT, Int.reduceEq, Int.reduceToNat, reduceCtorEq, RR, RB, RZ, RE, opEv, fillV, mapO, mapS, hl_17, eq_false c3, eq_false c4, eq_true c6]
              exact fin_ret (by simp only [↓reduceIte, Nat.reduceAdd, Nat.reduceMul, Nat.reduceSub, Nat.reduceLT, Nat.reduceLeDiff, Nat.reduceEqDiff, Nat.reducePow, Int.reducePow, Int.reduceLE, Int.reduceLT, Int.reduceEq, Int.reduceToNat, reduceCtorEq, RR, RB, RZ, RE, fn_out, p39, Rs.ev, mapO, mapS, take_len_self, hl_17, eq_false c3, eq_false c4, eq_true c6])
            · dsimp only at hF
              have hE := Option.some.inj hF; subst hE
              simp only [↓reduceIte, Nat.reduceAdd, Nat.reduceMul, Nat.reduceSub, Nat.reduceLT, Nat.reduceLeDiff, Nat.reduceEqDiff, Nat.reducePow, Int.reducePow, Int.reduceLE, Int.reduceLT, Int.reduceEq, Int.reduceToNat, reduceCtorEq, RR, RB, RZ, RE, opEv, fillV, mapO, mapS, hl_9, h1_9, eq_false c3, eq_false c4, eq_true c6]
              refine W.mono (l39_2 a0   gt48 (Exists.intro _ ( And.intro rfl ?_))) ?_
              · simp only [↓reduceIte, Nat.reduceAdd, Nat.reduceMul, Nat.reduceSub, Nat.reduceLT, Nat.reduceLeDiff, Nat.reduceEqDiff, Nat.reducePow, Int.reducePow, Int.reduceLE, Int.reduceLT, Int.reduceEq, Int.reduceToNat, reduceCtorEq, RR, RB, RZ, RE, hl_9, h1_9, eq_false c3, eq_false c4, eq_true c6]
              rintro _ e h ⟨rfl, hq⟩
              simp only [↓reduceIte, Nat.reduceAdd, Nat.reduceMul, Nat.reduceSub, Nat.reduceLT, Nat.reduceLeDiff, Nat.reduceEqDiff, Nat.reducePow, Int.reducePow, Int.reduceLE, Int.reduceLT, Int.reduceEq, Int.reduceToNat, reduceCtorEq, RR, RB]
              exact hq
          · dsimp only at hF
            have hE := Option.some.inj hF; subst hE
            simp only [↓reduceIte, Nat.reduceAdd, Nat.reduceMul, Nat.reduceSub, Nat.reduceLT, Nat.reduceLeDiff, Nat.reduceEqDiff, Nat.reducePow, Int.reducePow, Int.reduceLE, Int.reduceLT, Int.reduceEq, Int.reduceToNat, reduceCtorEq, RR, RB, RZ, RE, opEv, fillV, mapO, mapS, b39, hl_0, h0_0, w2, eq_false c3, eq_false c4, wx5, eq_true c6]
            refine W.mono (l39_1 a0   gt14 (Exists.intro _ ( And.intro rfl ?_))) ?_
            · simp only [↓reduceIte, Nat.reduceAdd, Nat.reduceMul, Nat.reduceSub, Nat.reduceLT, Nat.reduceLeDiff, Nat.reduceEqDiff, Nat.reducePow, Int.reducePow, Int.reduceLE, Int.reduceLT, Int.reduceEq, Int.reduceToNat, reduceCtorEq, RR, RB, RZ, RE, hl_0, h0_0, w2, eq_false c3, eq_false c4, wx5, eq_true c6]
            rintro _ e h ⟨rfl, hq⟩
            simp only [↓reduceIte, Nat.reduceAdd, Nat.reduceMul, Nat.reduceSub, Nat.reduceLT, Nat.reduceLeDiff, Nat.reduceEqDiff, Nat.reducePow, Int.reducePow, Int.reduceLE, Int.reduceLT, Int.reduceEq, Int.reduceToNat, reduceCtorEq, RR, RB]
            exact hq
        · rw [if_neg c6] at hF
          have hE := Option.some.inj hF; subst hE
          simp only [↓reduceIte, Nat.reduceAdd, Nat.reduceMul, Nat.reduceSub, Nat.reduceLT, Nat.reduceLeDiff, Nat.reduceEqDiff, Nat.reducePow, Int.reducePow, Int.reduceLE, Int.reduceLT, Int.reduceEq, Int.reduceToNat, reduceCtorEq, RR, RB, RZ, RE, opEv, fillV, mapO, mapS, b39, hl_0, h0_0, w2, eq_false c3, eq_false c4, wx5, eq_false c6]
          exact fin_ret (by simp only [↓reduceIte, Nat.reduceAdd, Nat.reduceMul, Nat.reduceSub, Nat.reduceLT, Nat.reduceLeDiff, Nat.reduceEqDiff, Nat.reducePow, Int.reducePow, Int.reduceLE, Int.reduceLT, Int.reduceEq, Int.reduceToNat, reduceCtorEq, RR, RB, RZ, RE, fn_out, p39, Rs.ev, mapO, mapS, take_len_self, hl_0, h0_0, w2, eq_false c3, eq_false c4, wx5, eq_false c6])
  | false =>
    rw [if_neg Bool.false_ne_true] at hF
    have hE := Option.some.inj hF; subst hE
    simp only [↓reduceIte, Nat.reduceAdd, Nat.reduceMul, Nat.reduceSub, Nat.reduceLT, Nat.reduceLeDiff, Nat.reduceEqDiff, Nat.reducePow, Int.reducePow, Int.reduceLE, Int.reduceLT, Int.reduceEq, Int.reduceToNat, reduceCtorEq, RR, RB, RZ, RE, opEv, fillV, mapO, mapS, b39, hl_0, h0_0, w2]
    exact fin_ret (by simp only [↓reduceIte, Nat.reduceAdd, Nat.reduceMul, Nat.reduceSub, Nat.reduceLT, Nat.reduceLeDiff, Nat.reduceEqDiff, Nat.reducePow, Int.reducePow, Int.reduceLE, Int.reduceLT, Int.reduceEq, Int.reduceToNat, reduceCtorEq, RR, RB, RZ, RE, fn_out, p39, Rs.ev, mapO, mapS, take_len_self, hl_0, h0_0, w2])
/-! loop.example/g01273/spec.l01Dim -/
def F99 (a0 : GComplex) (a1 : Int) : Option Int :=
  (chk ((a0.Dims.length : Int) - 1)).bind fun x1 =>
  (F54 a1 0 x1).bind fun x2 =>
  if x2 = true then
    (getI a0.Dims a1).bind fun x4 =>
    some x4
  else
    some 0
theorem s99 (a0 : GComplex) (a1 : Int)   {r : Int} (hF : F99 a0 a1 = some r) : ans A 99 [V.agg [V.int .i64 a0.Prime, V.isl (List.map Enc.enc a0.Dims), V.isl (List.map Enc.enc a0.Maps)], V.int .i64 a1] = some (Enc.enc r) := by
  refine ans_of (f := p99) rfl rfl rfl fun e hl he => ?_
  have h0_0 : e.at 0 = V.agg [V.int .i64 a0.Prime, V.isl (List.map Enc.enc a0.Dims), V.isl (List.map Enc.enc a0.Maps)] := he 0 _ rfl
  have h1_0 : e.at 1 = V.int .i64 a1 := he 1 _ rfl
  have hl_0 : e.length = 17 := hl
  clear he hl
  show W A b99 e ⟨[], 0⟩ _
  unfold F99 at hF
  obtain ⟨x1, gx1, hF⟩ := bS hF
  have wx1 := chk_w gx1
  obtain ⟨x2, gx2, hF⟩ := bS hF
  have w3 : ans A 54 [V.int .i64 a1, V.int .i64 0, V.int .i64 x1] = some (V.bool x2) := s54 a1 0 x1  gx2
  cases x2 with
  | true =>
    rw [if_pos rfl] at hF
    obtain ⟨x4, gx4, hF⟩ := bS hF
    obtain ⟨w5a, w5b⟩ := getI_w gx4
    have hE := Option.some.inj hF; subst hE
    simp only [↓reduceIte, Nat.reduceAdd, Nat.reduceMul, Nat.reduceSub, Nat.reduceLT, Nat.reduceLeDiff, Nat.reduceEqDiff, Nat.reducePow, Int.reducePow, Int.reduceLE, Int.reduceLT, Int.reduceEq, Int.reduceToNat, reduceCtorEq, RR, RB, RZ, RE, opEv, fillV, mapO, mapS, b99, hl_0, h0_0, h1_0, wx1, w3, w5a, w5b]
    exact fin_ret (by simp only [↓reduceIte, Nat.reduceAdd, Nat.reduceMul, Nat.reduceSub, Nat.reduceLT, Nat.reduceLeDiff, Nat.reduceEqDiff, Nat.reducePow, Int.reducePow, Int.reduceLE, Int.reduceLT, Int.reduceEq, Int.reduceToNat, reduceCtorEq, RR, RB, RZ, RE, fn_out, p99, Rs.ev, mapO, mapS, take_len_self, hl_0, h0_0, h1_0, wx1, w3, w5a, w5b])
  | false =>
    rw [if_neg Bool.false_ne_true] at hF
    have hE := Option.some.inj hF; subst hE
    simp only [↓reduceIte, Nat.reduceAdd, Nat.reduceMul, Nat.reduceSub, Nat.reduceLT, Nat.reduceLeDiff, Nat.reduceEqDiff, Nat.reducePow, Int.reducePow, Int.reduceLE, Int.reduceLT, Int.reduceEq, Int.reduceToNat, reduceCtorEq, RR, RB, RZ, RE, opEv, fillV, mapO, mapS, b99, hl_0, h0_0, h1_0, wx1, w3]
    exact fin_ret (by simp only [↓reduceIte, Nat.reduceAdd, Nat.reduceMul, Nat.reduceSub, Nat.reduceLT, Nat.reduceLeDiff, Nat.reduceEqDiff, Nat.reducePow, Int.reducePow, Int.reduceLE, Int.reduceLT, Int.reduceEq, Int.reduceToNat, reduceCtorEq, RR, RB, RZ, RE, fn_out, p99, Rs.ev, mapO, mapS, take_len_self, hl_0, h0_0, h1_0, wx1, w3])
/-! loop.example/g01273/spec.l01Map -/
def F76_1_S (a0 : GComplex) (a1 : Int) (s : (List (List Int)) × Int) : Option (((List (List Int)) × Int) ⊕ ((List (List Int)))) :=
  match s with
  | (o1_1, v6_1) =>
    (F99 a0 a1).bind fun x11 =>
    if v6_1 < x11 then
      (app 24 o1_1 ([([] : List Int)])).bind fun l15 =>
      (chk (v6_1 + 1)).bind fun x16 =>
      some (.inl (l15, x16))
    else
      some (.inr o1_1)
def F76 (a0 : GComplex) (a1 : Int) : Option (List (List Int)) :=
  (chk ((a0.Dims.length : Int) - 1)).bind fun x1 =>
  (F54 a1 1 x1).bind fun x2 =>
  if x2 = true then
    (chk (a1 - 1)).bind fun x4 =>
    (getI a0.Maps x4).bind fun x5 =>
    some x5
  else
    (loopW (F76_1_S a0 a1) ([], 0)).bind fun zo1_1 =>
    some zo1_1
def I76_1 (a0 : GComplex) (a1 : Int)  (s : (List (List Int)) × Int) (e : Env) (h : Heap) : Prop :=
  match s with
  | (o1_1, v6_1) =>
    ∃ u8 k9 : Nat, h = ⟨[(0, none), (u8, some (List.map Enc.enc o1_1))], k9⟩ ∧ e.length = 32 ∧ e.at 1 = V.int .i64 a1 ∧ e.at 2 = V.iptr [V.int .i64 a0.Prime, V.isl (List.map Enc.enc a0.Dims), V.isl (List.map Enc.enc a0.Maps)] ∧ e.at 5 = V.sl 1 u8 0 o1_1.length 1 ∧ e.at 6 = V.int .i64 v6_1
def P76_1 (a0 : GComplex) (a1 : Int)  (zo1_1 : (List (List Int))) (x : Ex) (e : Env) (h : Heap) : Prop :=
  x = .normal ∧ ∃ u8 k9 : Nat, h = ⟨[(0, none), (u8, some (List.map Enc.enc zo1_1))], k9⟩ ∧ e.length = 32 ∧ e.at 5 = V.sl 1 u8 0 zo1_1.length 1
theorem l76_1 (a0 : GComplex) (a1 : Int)   {s : (List (List Int)) × Int} {t : (List (List Int))} (hF : loopW (F76_1_S a0 a1) s = some t) {e : Env} {h : Heap} (hI : I76_1 a0 a1  s e h) : W A c76_1 e h (P76_1 a0 a1  t) := by
  show W A (.block 0 (.loop false b76_1)) e h _
  rw [W_block]
  refine W_loop hF 2 (by rcases s with ⟨_, _⟩; obtain ⟨_, _, rfl, _⟩ := hI; rfl) (I76_1 a0 a1 ) hI ?_
  · rintro ⟨o1_1, v6_1⟩ e h ⟨u8, k9, rfl, hl_7, h1_7, h2_7, h5_7, h6_7⟩ o ho
    unfold F76_1_S at ho
    dsimp only at ho
    obtain ⟨x11, gx11, ho⟩ := bS ho
    have w12 : ans A 99 [V.agg [V.int .i64 a0.Prime, V.isl (List.map Enc.enc a0.Dims), V.isl (List.map Enc.enc a0.Maps)], V.int .i64 a1] = some (V.int .i64 x11) := s99 a0 a1  gx11
    by_cases c13 : v6_1 < x11
    · rw [if_pos c13] at ho
      obtain ⟨l15, gl15, ho⟩ := bS ho
      have w14 := fun ents key uid clk he => appendV_w (α := List Int) (n := o1_1.length) (m := 1) (ds := [V.isl []]) gl15 (by first | rfl | simp only [List.length_nil]) (by first | rfl | simp only [List.length_nil]) rfl ents key uid clk he
      have w14l := app_len gl15
      obtain ⟨x16, gx16, ho⟩ := bS ho
      have wx16 := chk_w gx16
      have hE := Option.some.inj ho; subst hE
      simp only [↓reduceIte, Nat.reduceAdd, Nat.reduceMul, Nat.reduceSub, Nat.reduceLT, Nat.reduceLeDiff, Nat.reduceEqDiff, Nat.reducePow, Int.reducePow, Int.reduceLE, Int.reduceLT, Int.reduceEq, Int.reduceToNat, reduceCtorEq, RR, RB, RZ, RE, opEv, fillV, mapO, mapS, b76_1, hl_7, h1_7, h2_7, h5_7, h6_7, w12, eq_true c13, w14, wx16]
      refine And.intro rfl (Exists.intro _ ( Exists.intro _ ( And.intro rfl ?_)))
      simp only [↓reduceIte, Nat.reduceAdd, Nat.reduceMul, Nat.reduceSub, Nat.reduceLT, Nat.reduceLeDiff, Nat.reduceEqDiff, Nat.reducePow, Int.reducePow, Int.reduceLE, Int.reduceLT, Int.reduceEq, Int.reduceToNat, reduceCtorEq, RR, RB, RZ, RE, hl_7, h1_7, h2_7, h5_7, h6_7, w12, eq_true c13, w14, wx16]
    · rw [if_neg c13] at ho
      have hE := Option.some.inj ho; subst hE
      simp only [↓reduceIte, Nat.reduceAdd, Nat.reduceMul, Nat.reduceSub, Nat.reduceLT, Nat.reduceLeDiff, Nat.reduceEqDiff, Nat.reducePow, Int.reducePow, Int.reduceLE, Int.reduceLT, Int.reduceEq, Int.reduceToNat, reduceCtorEq, RR, RB, RZ, RE, opEv, fillV, mapO, mapS, b76_1, hl_7, h1_7, h2_7, h5_7, h6_7, w12, eq_false c13]
      intro ht; subst ht
      simp only [↓reduceIte, Nat.reduceAdd, Nat.reduceMul, Nat.reduceSub, Nat.reduceLT, Nat.reduceLeDiff, Nat.reduceEqDiff, Nat.reducePow, Int.reducePow, Int.reduceLE, Int.reduceLT, Int.reduceEq, Int.reduceToNat, reduceCtorEq, RR, RB]
      refine And.intro rfl (Exists.intro _ ( Exists.intro _ ( And.intro rfl ?_)))
      simp only [↓reduceIte, Nat.reduceAdd, Nat.reduceMul, Nat.reduceSub, Nat.reduceLT, Nat.reduceLeDiff, Nat.reduceEqDiff, Nat.reducePow, Int.reducePow, Int.reduceLE, Int.reduceLT, Int.reduceEq, Int.reduceToNat, reduceCtorEq, RR, RB, RZ, RE, hl_7, h1_7, h2_7, h5_7, h6_7, w12, eq_false c13]
theorem s76 (a0 : GComplex) (a1 : Int)   {r : List (List Int)} (hF : F76 a0 a1 = some r) : ans A 76 [V.agg [V.int .i64 a0.Prime, V.isl (List.map Enc.enc a0.Dims), V.isl (List.map Enc.enc a0.Maps)], V.int .i64 a1] = some (Enc.enc r) := by
  refine ans_of (f := p76) rfl rfl rfl fun e hl he => ?_
  have h0_0 : e.at 0 = V.agg [V.int .i64 a0.Prime, V.isl (List.map Enc.enc a0.Dims), V.isl (List.map Enc.enc a0.Maps)] := he 0 _ rfl
  have h1_0 : e.at 1 = V.int .i64 a1 := he 1 _ rfl
  have hl_0 : e.length = 32 := hl
  clear he hl
  show W A b76 e ⟨[], 0⟩ _
  unfold F76 at hF
  obtain ⟨x1, gx1, hF⟩ := bS hF
  have wx1 := chk_w gx1
  obtain ⟨x2, gx2, hF⟩ := bS hF
  have w3 : ans A 54 [V.int .i64 a1, V.int .i64 1, V.int .i64 x1] = some (V.bool x2) := s54 a1 1 x1  gx2
  cases x2 with
  | true =>
    rw [if_pos rfl] at hF
    obtain ⟨x4, gx4, hF⟩ := bS hF
    have wx4 := chk_w gx4
    obtain ⟨x5, gx5, hF⟩ := bS hF
    obtain ⟨w6a, w6b⟩ := getI_w gx5
    have hE := Option.some.inj hF; subst hE
    simp only [↓reduceIte, Nat.reduceAdd, Nat.reduceMul, Nat.reduceSub, Nat.reduceLT, Nat.reduceLeDiff, Nat.reduceEqDiff, Nat.reducePow, Int.reducePow, Int.reduceLE, Int.reduceLT, Int.reduceEq, Int.reduceToNat, reduceCtorEq, RR, RB, RZ, RE, opEv, fillV, mapO, mapS, b76, hl_0, h0_0, h1_0, wx1, w3, wx4, w6a, w6b]
    exact fin_ret (by simp only [↓reduceIte, Nat.reduceAdd, Nat.reduceMul, Nat.reduceSub, Nat.reduceLT, Nat.reduceLeDiff, Nat.reduceEqDiff, Nat.reducePow, Int.reducePow, Int.reduceLE, Int.reduceLT, Int.reduceEq, Int.reduceToNat, reduceCtorEq, RR, RB, RZ, RE, fn_out, p76, Rs.ev, mapO, mapS, take_len_self, hl_0, h0_0, h1_0, wx1, w3, wx4, w6a, w6b])
  | false =>
    rw [if_neg Bool.false_ne_true] at hF
    obtain ⟨zo1_1, gt17, hF⟩ := bS hF
    simp only [↓reduceIte, Nat.reduceAdd, Nat.reduceMul, Nat.reduceSub, Nat.reduceLT, Nat.reduceLeDiff, Nat.reduceEqDiff, Nat.reducePow, Int.reducePow, Int.reduceLE, Int.reduceLT, Int.reduceEq, Int.reduceToNat, reduceCtorEq, RR, RB, RZ, RE, opEv, fillV, mapO, mapS, b76, hl_0, h0_0, h1_0, wx1, w3]
    refine W.mono (l76_1 a0 a1   gt17 (Exists.intro _ ( Exists.intro _ ( And.intro rfl ?_)))) ?_
    · simp only [↓reduceIte, Nat.reduceAdd, Nat.reduceMul, Nat.reduceSub, Nat.reduceLT, Nat.reduceLeDiff, Nat.reduceEqDiff, Nat.reducePow, Int.reducePow, Int.reduceLE, Int.reduceLT, Int.reduceEq, Int.reduceToNat, reduceCtorEq, RR, RB, RZ, RE, hl_0, h0_0, h1_0, wx1, w3]
    rintro _ e _ ⟨rfl, u8, k9, rfl, hl_10, h5_10⟩
    have hE := Option.some.inj hF; subst hE
    simp only [↓reduceIte, Nat.reduceAdd, Nat.reduceMul, Nat.reduceSub, Nat.reduceLT, Nat.reduceLeDiff, Nat.reduceEqDiff, Nat.reducePow, Int.reducePow, Int.reduceLE, Int.reduceLT, Int.reduceEq, Int.reduceToNat, reduceCtorEq, RR, RB, RZ, RE, opEv, fillV, mapO, mapS, hl_10, h5_10]
    exact fin_ret (by simp only [↓reduceIte, Nat.reduceAdd, Nat.reduceMul, Nat.reduceSub, Nat.reduceLT, Nat.reduceLeDiff, Nat.reduceEqDiff, Nat.reducePow, Int.reducePow, Int.reduceLE, Int.reduceLT, Int.reduceEq, Int.reduceToNat, reduceCtorEq, RR, RB, RZ, RE, fn_out, p76, Rs.ev, mapO, mapS, take_len_self, hl_10, h5_10, frzs (α := List Int) zo1_1, takes (α := List Int) zo1_1])
/-! loop.example/g01273/spec.l02Level -/
def F77 (a0 : GFiltered) (a1 : Int) (a2 : Int) : Option Int :=
  (getI a0.Levels a1).bind fun x1 =>
  (getI x1 a2).bind fun x3 =>
  some x3
theorem s77 (a0 : GFiltered) (a1 : Int) (a2 : Int)   {r : Int} (hF : F77 a0 a1 a2 = some r) : ans A 77 [V.agg [V.int .i64 a0.Complex.Prime, V.isl (List.map Enc.enc a0.Complex.Dims), V.isl (List.map Enc.enc a0.Complex.Maps), V.isl (List.map Enc.enc a0.Levels)], V.int .i64 a1, V.int .i64 a2] = some (Enc.enc r) := by
  refine ans_of (f := p77) rfl rfl rfl fun e hl he => ?_
  have h0_0 : e.at 0 = V.agg [V.int .i64 a0.Complex.Prime, V.isl (List.map Enc.enc a0.Complex.Dims), V.isl (List.map Enc.enc a0.Complex.Maps), V.isl (List.map Enc.enc a0.Levels)] := he 0 _ rfl
  have h1_0 : e.at 1 = V.int .i64 a1 := he 1 _ rfl
  have h2_0 : e.at 2 = V.int .i64 a2 := he 2 _ rfl
  have hl_0 : e.length = 15 := hl
  clear he hl
  show W A b77 e ⟨[], 0⟩ _
  unfold F77 at hF
  obtain ⟨x1, gx1, hF⟩ := bS hF
  obtain ⟨w2a, w2b⟩ := getI_w gx1
  obtain ⟨x3, gx3, hF⟩ := bS hF
  obtain ⟨w4a, w4b⟩ := getI_w gx3
  have hE := Option.some.inj hF; subst hE
  simp only [↓reduceIte, Nat.reduceAdd, Nat.reduceMul, Nat.reduceSub, Nat.reduceLT, Nat.reduceLeDiff, Nat.reduceEqDiff, Nat.reducePow, Int.reducePow, Int.reduceLE, Int.reduceLT, Int.reduceEq, Int.reduceToNat, reduceCtorEq, RR, RB, RZ, RE, opEv, fillV, mapO, mapS, b77, hl_0, h0_0, h1_0, h2_0, w2a, w2b, w4a, w4b]
  exact fin_ret (by simp only [↓reduceIte, Nat.reduceAdd, Nat.reduceMul, Nat.reduceSub, Nat.reduceLT, Nat.reduceLeDiff, Nat.reduceEqDiff, Nat.reducePow, Int.reducePow, Int.reduceLE, Int.reduceLT, Int.reduceEq, Int.reduceToNat, reduceCtorEq, RR, RB, RZ, RE, fn_out, p77, Rs.ev, mapO, mapS, take_len_self, hl_0, h0_0, h1_0, h2_0, w2a, w2b, w4a, w4b])
/-! loop.example/g01273/spec.l02Is -/
def F38_2_S (a0 : GFiltered) (v3_1 : Int) (v4_2 : Int) : Option ((Int) ⊕ ((Unit) ⊕ Bool)) :=
  (getI a0.Levels v3_1).bind fun x15 =>
if v4_2 < (x15.length : Int) then
  (getI x15 v4_2).bind fun x18 =>
  (F54 x18 0 5).bind fun x20 =>
  if x20 = true then
    (chk (v4_2 + 1)).bind fun x22 =>
    some (.inl x22)
  else
    some (.inr (.inr false))
else
  some (.inr (.inl ()))
def F38_1_B (a0 : GFiltered) (v3_1 : Int) (s : Unit) : Option ((Unit) ⊕ ((Unit) ⊕ Bool)) :=
  (getI a0.Levels v3_1).bind fun x7 =>
(getI a0.Complex.Dims v3_1).bind fun x9 =>
if (x7.length : Int) = x9 then
  (loopW (F38_2_S a0 v3_1) 0).bind fun t23 => match t23 with
    | .inl _ =>
      some (.inl ())
    | .inr r24 => some (.inr (.inr r24))
else
  some (.inr (.inr false))
def F38_1_D (a0 : GFiltered) (v3_1 : Int) (s : Unit) : Option ((Unit) ⊕ Bool) :=
  some (.inl ())
def F38_5_S (a0 : GFiltered) (v5_3 : Int) (x29 : List (List Int)) (v7_4 : Int) (v8_5 : Int) : Option ((Int) ⊕ ((Unit) ⊕ Bool)) :=
  (getI x29 v7_4).bind fun x37 =>
if v8_5 < (x37.length : Int) then
  (getI x37 v8_5).bind fun x40 =>
  if x40 = 0 then
    (chk (v8_5 + 1)).bind fun x43 =>
    some (.inl x43)
  else
    (chk (v5_3 - 1)).bind fun x44 =>
    (F77 a0 x44 v8_5).bind fun x45 =>
    (F77 a0 v5_3 v7_4).bind fun x47 =>
    if x47 < x45 then
      some (.inr (.inr false))
    else
      (chk (v8_5 + 1)).bind fun x50 =>
      some (.inl x50)
else
  some (.inr (.inl ()))
def F38_4_B (a0 : GFiltered) (v5_3 : Int) (x29 : List (List Int)) (v7_4 : Int) (s : Unit) : Option ((Unit) ⊕ ((Unit) ⊕ Bool)) :=
  (loopW (F38_5_S a0 v5_3 x29 v7_4) 0).bind fun t51 => match t51 with
  | .inl _ =>
    some (.inl ())
  | .inr r52 => some (.inr (.inr r52))
def F38_4_D (a0 : GFiltered) (v5_3 : Int) (x29 : List (List Int)) (v7_4 : Int) (s : Unit) : Option ((Unit) ⊕ Bool) :=
  some (.inl ())
def F38_3_B (a0 : GFiltered) (v5_3 : Int) (s : Unit) : Option ((Unit) ⊕ ((Unit) ⊕ Bool)) :=
  (F76 a0.Complex v5_3).bind fun x29 =>
(forR 0 (x29.length : Int) (F38_4_B a0 v5_3 x29) (F38_4_D a0 v5_3 x29) ()).bind fun t53 => match t53 with
  | .inl _ =>
    some (.inl ())
  | .inr r54 => some (.inr (.inr r54))
def F38_3_D (a0 : GFiltered) (v5_3 : Int) (s : Unit) : Option ((Unit) ⊕ Bool) :=
  some (.inl ())
def F38 (a0 : GFiltered) : Option Bool :=
  (F39 a0.Complex).bind fun x1 =>
  if x1 = true then
    if (a0.Levels.length : Int) = (a0.Complex.Dims.length : Int) then
      (forR 0 (a0.Levels.length : Int) (F38_1_B a0) (F38_1_D a0) ()).bind fun t25 => match t25 with
        | .inl _ =>
          (forR 1 (a0.Levels.length : Int) (F38_3_B a0) (F38_3_D a0) ()).bind fun t55 => match t55 with
            | .inl _ =>
              some true
            | .inr r56 => some r56
        | .inr r57 => some r57
    else
      some false
  else
    some false
def I38_2 (a0 : GFiltered) (v3_1 : Int)  (v4_2 : Int) (e : Env) (h : Heap) : Prop :=
  ∃ k13 : Nat, h = ⟨[(0, none)], k13⟩ ∧ e.length = 109 ∧ e.at 1 = V.iptr [V.int .i64 a0.Complex.Prime, V.isl (List.map Enc.enc a0.Complex.Dims), V.isl (List.map Enc.enc a0.Complex.Maps), V.isl (List.map Enc.enc a0.Levels)] ∧ e.at 3 = V.int .i64 v3_1 ∧ e.at 4 = V.int .i64 v4_2
def P38_2 (a0 : GFiltered) (v3_1 : Int)  (t : (Unit) ⊕ Bool) (x : Ex) (e : Env) (h : Heap) : Prop :=
  match t with
  | .inl _ => x = .normal ∧ ∃ k13 : Nat, h = ⟨[(0, none)], k13⟩ ∧ e.length = 109 ∧ e.at 1 = V.iptr [V.int .i64 a0.Complex.Prime, V.isl (List.map Enc.enc a0.Complex.Dims), V.isl (List.map Enc.enc a0.Complex.Maps), V.isl (List.map Enc.enc a0.Levels)] ∧ e.at 3 = V.int .i64 v3_1
  | .inr r => x = .ret ∧ Fin p38 (Enc.enc r) .ret e h
theorem l38_2 (a0 : GFiltered) (v3_1 : Int)   {s : Int} {t : (Unit) ⊕ Bool} (hF : loopW (F38_2_S a0 v3_1) s = some t) {e : Env} {h : Heap} (hI : I38_2 a0 v3_1  s e h) : W A c38_2 e h (P38_2 a0 v3_1  t) := by
  show W A (.block 2 (.loop false b38_2)) e h _
  rw [W_block]
  refine W_loop hF 1 (by obtain ⟨_, rfl, _⟩ := hI; rfl) (I38_2 a0 v3_1 ) hI ?_
  · rintro v4_2 e h ⟨k13, rfl, hl_12, h1_12, h3_12, h4_12⟩ o ho
    unfold F38_2_S at ho
    obtain ⟨x15, gx15, ho⟩ := bS ho
    obtain ⟨w16a, w16b⟩ := getI_w gx15
    by_cases c17 : v4_2 < (x15.length : Int)
    · rw [if_pos c17] at ho
      obtain ⟨x18, gx18, ho⟩ := bS ho
      obtain ⟨w19a, w19b⟩ := getI_w gx18
      obtain ⟨x20, gx20, ho⟩ := bS ho
      have w21 : ans A 54 [V.int .i64 x18, V.int .i64 0, V.int .i64 5] = some (V.bool x20) := s54 x18 0 5  gx20
      cases x20 with
      | true =>
        rw [if_pos rfl] at ho
        obtain ⟨x22, gx22, ho⟩ := bS ho
        have wx22 := chk_w gx22
        have hE := Option.some.inj ho; subst hE
        simp only [↓reduceIte, Nat.reduceAdd, Nat.reduceMul, Nat.reduceSub, Nat.reduceLT, Nat.reduceLeDiff, Nat.reduceEqDiff, Nat.reducePow, Int.reducePow, Int.reduceLE, Int.reduceLT, Int.reduceEq, Int.reduceToNat, reduceCtorEq, RR, RB, RZ, RE, opEv, fillV, mapO, mapS, b38_2, hl_12, h1_12, h3_12, h4_12, w16a, w16b, eq_true c17, w19a, w19b, w21, wx22]
        refine And.intro rfl (Exists.intro _ ( And.intro rfl ?_))
        simp only [↓reduceIte, Nat.reduceAdd, Nat.reduceMul, Nat.reduceSub, Nat.reduceLT, Nat.reduceLeDiff, Nat.reduceEqDiff, Nat.reducePow, Int.reducePow, Int.reduceLE, Int.reduceLT, Int.reduceEq, Int.reduceToNat, reduceCtorEq, RR, RB, RZ, RE, hl_12, h1_12, h3_12, h4_12, w16a, w16b, eq_true c17, w19a, w19b, w21, wx22]
      | false =>
        rw [if_neg Bool.false_ne_true] at ho
        have hE := Option.some.inj ho; subst hE
        simp only [↓reduceIte, Nat.reduceAdd, Nat.reduceMul, Nat.reduceSub, Nat.reduceLT, Nat.reduceLeDiff, Nat.reduceEqDiff, Nat.reducePow, Int.reducePow, Int.reduceLE, Int.reduceLT, Int.reduceEq, Int.reduceToNat, reduceCtorEq, RR, RB, RZ, RE, opEv, fillV, mapO, mapS, b38_2, hl_12, h1_12, h3_12, h4_12, w16a, w16b, eq_true c17, w19a, w19b, w21]
        intro ht; subst ht
        simp only [↓reduceIte, Nat.reduceAdd, Nat.reduceMul, Nat.reduceSub, Nat.reduceLT, Nat.reduceLeDiff, Nat.reduceEqDiff, Nat.reducePow, Int.reducePow, Int.reduceLE, Int.reduceLT, Int.reduceEq, Int.reduceToNat, reduceCtorEq, RR, RB]
        exact And.intro rfl (fin_ret (by simp only [↓reduceIte, Nat.reduceAdd, Nat.reduceMul, Nat.reduceSub, Nat.reduceLT, Nat.reduceLeDiff, Nat.reduceEqDiff, Nat.reducePow, Int.reducePow, Int.reduceLE, Int.reduceLT, Int.reduceEq, Int.reduceToNat, reduceCtorEq, RR, RB, RZ, RE, fn_out, p38, Rs.ev, mapO, mapS, take_len_self, hl_12, h1_12, h3_12, h4_12, w16a, w16b, eq_true c17, w19a, w19b, w21]))
    · rw [if_neg c17] at ho
      have hE := Option.some.inj ho; subst hE
      simp only [↓reduceIte, Nat.reduceAdd, Nat.reduceMul, Nat.reduceSub, Nat.reduceLT, Nat.reduceLeDiff, Nat.reduceEqDiff, Nat.reducePow, Int.reducePow, Int.reduceLE, Int.reduceLT, Int.reduceEq, Int.reduceToNat, reduceCtorEq, RR, RB, RZ, RE, opEv, fillV, mapO, mapS, b38_2, hl_12, h1_12, h3_12, h4_12, w16a, w16b, eq_false c17]
      intro ht; subst ht
      simp only [↓reduceIte, Nat.reduceAdd, Nat.reduceMul, Nat.reduceSub, Nat.reduceLT, Nat.reduceLeDiff, Nat.reduceEqDiff, Nat.reducePow, Int.reducePow, Int.reduceLE, Int.reduceLT, Int.reduceEq, Int.reduceToNat, reduceCtorEq, RR, RB]
      refine And.intro rfl (Exists.intro _ ( And.intro rfl ?_))
      simp only [↓reduceIte, Nat.reduceAdd, Nat.reduceMul, Nat.reduceSub, Nat.reduceLT, Nat.reduceLeDiff, Nat.reduceEqDiff, Nat.reducePow, Int.reducePow, Int.reduceLE, Int.reduceLT, Int.reduceEq, Int.reduceToNat, reduceCtorEq, RR, RB, RZ, RE, hl_12, h1_12, h3_12, h4_12, w16a, w16b, eq_false c17]
def I38_1 (a0 : GFiltered)  (v3_1 : Int) (s : Unit) (e : Env) (h : Heap) : Prop :=
  ∃ k5 : Nat, h = ⟨[(0, none)], k5⟩ ∧ e.length = 109 ∧ e.at 1 = V.iptr [V.int .i64 a0.Complex.Prime, V.isl (List.map Enc.enc a0.Complex.Dims), V.isl (List.map Enc.enc a0.Complex.Maps), V.isl (List.map Enc.enc a0.Levels)] ∧ e.at 3 = V.int .i64 v3_1
def P38_1 (a0 : GFiltered)  (t : (Unit) ⊕ Bool) (x : Ex) (e : Env) (h : Heap) : Prop :=
  match t with
  | .inl _ => x = .normal ∧ ∃ k5 : Nat, h = ⟨[(0, none)], k5⟩ ∧ e.length = 109 ∧ e.at 1 = V.iptr [V.int .i64 a0.Complex.Prime, V.isl (List.map Enc.enc a0.Complex.Dims), V.isl (List.map Enc.enc a0.Complex.Maps), V.isl (List.map Enc.enc a0.Levels)]
  | .inr r => x = .ret ∧ Fin p38 (Enc.enc r) .ret e h
theorem l38_1 (a0 : GFiltered)   {lo : Int} {s : Unit} {t : (Unit) ⊕ Bool} (hF : forR lo (a0.Levels.length : Int) (F38_1_B a0) (F38_1_D a0) s = some t) {e : Env} {h : Heap} (hI : I38_1 a0  lo s e h) : W A c38_1 e h (P38_1 a0  t) := by
  show W A (.block 0 (.loop false b38_1)) e h _
  rw [W_block]
  refine W_forR hF 1 (by obtain ⟨_, rfl, _⟩ := hI; rfl) (I38_1 a0 ) hI ?_ ?_
  · rintro v3_1 _ e h ⟨k5, rfl, hl_4, h1_4, h3_4⟩ hlt hw o ho
    unfold F38_1_B at ho
    obtain ⟨x7, gx7, ho⟩ := bS ho
    obtain ⟨w8a, w8b⟩ := getI_w gx7
    obtain ⟨x9, gx9, ho⟩ := bS ho
    obtain ⟨w10a, w10b⟩ := getI_w gx9
    by_cases c11 : (x7.length : Int) = x9
    · rw [if_pos c11] at ho
      obtain ⟨t23, gt23, ho⟩ := bS ho
      rcases t23 with _ | r24
      · dsimp only at ho
        simp only [↓reduceIte, Nat.reduceAdd, Nat.reduceMul, Nat.reduceSub, Nat.reduceLT, Nat.reduceLeDiff, Nat.reduceEqDiff, Nat.reducePow, Int.reducePow, Int.reduceLE, Int.reduceLT, Int.reduceEq, Int.reduceToNat, reduceCtorEq, RR, RB, RZ, RE, opEv, fillV, mapO, mapS, b38_1, hl_4, h1_4, h3_4, eq_true hlt, hw, w8a, w8b, w10a, w10b, eq_true c11]
        refine W.mono (l38_2 a0 v3_1   gt23 (Exists.intro _ ( And.intro rfl ?_))) ?_
        · simp only [↓reduceIte, Nat.reduceAdd, Nat.reduceMul, Nat.reduceSub, Nat.reduceLT, Nat.reduceLeDiff, Nat.reduceEqDiff, Nat.reducePow, Int.reducePow, Int.reduceLE, Int.reduceLT, Int.reduceEq, Int.reduceToNat, reduceCtorEq, RR, RB, RZ, RE, hl_4, h1_4, h3_4, eq_true hlt, hw, w8a, w8b, w10a, w10b, eq_true c11]
        rintro _ e _ ⟨rfl, k13, rfl, hl_14, h1_14, h3_14⟩
        have hE := Option.some.inj ho; subst hE
        simp only [↓reduceIte, Nat.reduceAdd, Nat.reduceMul, Nat.reduceSub, Nat.reduceLT, Nat.reduceLeDiff, Nat.reduceEqDiff, Nat.reducePow, Int.reducePow, Int.reduceLE, Int.reduceLT, Int.reduceEq, Int.reduceToNat, reduceCtorEq, RR, RB, RZ, RE, opEv, fillV, mapO, mapS, hl_14, h1_14, h3_14, eq_true hlt, hw, eq_true c11]
        refine And.intro rfl (Exists.intro _ ( And.intro rfl ?_))
        simp only [↓reduceIte, Nat.reduceAdd, Nat.reduceMul, Nat.reduceSub, Nat.reduceLT, Nat.reduceLeDiff, Nat.reduceEqDiff, Nat.reducePow, Int.reducePow, Int.reduceLE, Int.reduceLT, Int.reduceEq, Int.reduceToNat, reduceCtorEq, RR, RB, RZ, RE, hl_14, h1_14, h3_14, eq_true hlt, hw, eq_true c11]
      · dsimp only at ho
        have hE := Option.some.inj ho; subst hE
        simp only [↓reduceIte, Nat.reduceAdd, Nat.reduceMul, Nat.reduceSub, Nat.reduceLT, Nat.reduceLeDiff, Nat.reduceEqDiff, Nat.reducePow, Int.reducePow, Int.reduceLE, Int.reduceLT, Int.reduceEq, Int.reduceToNat, reduceCtorEq, RR, RB, RZ, RE, opEv, fillV, mapO, mapS, b38_1, hl_4, h1_4, h3_4, eq_true hlt, hw, w8a, w8b, w10a, w10b, eq_true c11]
        refine W.mono (l38_2 a0 v3_1   gt23 (Exists.intro _ ( And.intro rfl ?_))) ?_
        · simp only [↓reduceIte, Nat.reduceAdd, Nat.reduceMul, Nat.reduceSub, Nat.reduceLT, Nat.reduceLeDiff, Nat.reduceEqDiff, Nat.reducePow, Int.reducePow, Int.reduceLE, Int.reduceLT, Int.reduceEq, Int.reduceToNat, reduceCtorEq, RR, RB, RZ, RE, hl_4, h1_4, h3_4, eq_true hlt, hw, w8a, w8b, w10a, w10b, eq_true c11]
        rintro _ e h ⟨rfl, hq⟩
        simp only [↓reduceIte, Nat.reduceAdd, Nat.reduceMul, Nat.reduceSub, Nat.reduceLT, Nat.reduceLeDiff, Nat.reduceEqDiff, Nat.reducePow, Int.reducePow, Int.reduceLE, Int.reduceLT, Int.reduceEq, Int.reduceToNat, reduceCtorEq, RR, RB]
        intro ht; subst ht
        simp only [↓reduceIte, Nat.reduceAdd, Nat.reduceMul, Nat.reduceSub, Nat.reduceLT, Nat.reduceLeDiff, Nat.reduceEqDiff, Nat.reducePow, Int.reducePow, Int.reduceLE, Int.reduceLT, Int.reduceEq, Int.reduceToNat, reduceCtorEq, RR, RB]
        exact And.intro rfl hq
    · rw [if_neg c11] at ho
      have hE := Option.some.inj ho; subst hE
      simp only [↓reduceIte, Nat.reduceAdd, Nat.reduceMul, Nat.reduceSub, Nat.reduceLT, Nat.reduceLeDiff, Nat.reduceEqDiff, Nat.reducePow, Int.reducePow, Int.reduceLE, Int.reduceLT, Int.reduceEq, Int.reduceToNat, reduceCtorEq, RR, RB, RZ, RE, opEv, fillV, mapO, mapS, b38_1, hl_4, h1_4, h3_4, eq_true hlt, hw, w8a, w8b, w10a, w10b, eq_false c11]
      intro ht; subst ht
      simp only [↓reduceIte, Nat.reduceAdd, Nat.reduceMul, Nat.reduceSub, Nat.reduceLT, Nat.reduceLeDiff, Nat.reduceEqDiff, Nat.reducePow, Int.reducePow, Int.reduceLE, Int.reduceLT, Int.reduceEq, Int.reduceToNat, reduceCtorEq, RR, RB]
      exact And.intro rfl (fin_ret (by simp only [↓reduceIte, Nat.reduceAdd, Nat.reduceMul, Nat.reduceSub, Nat.reduceLT, Nat.reduceLeDiff, Nat.reduceEqDiff, Nat.reducePow, Int.reducePow, Int.reduceLE, Int.reduceLT, Int.reduceEq, Int.reduceToNat, reduceCtorEq, RR, RB, RZ, RE, fn_out, p38, Rs.ev, mapO, mapS, take_len_self, hl_4, h1_4, h3_4, eq_true hlt, hw, w8a, w8b, w10a, w10b, eq_false c11]))
  · rintro v3_1 _ e h ⟨k5, rfl, hl_4, h1_4, h3_4⟩ hge t1 ho
    unfold F38_1_D at ho
    have hE := Option.some.inj ho; subst hE
    simp only [↓reduceIte, Nat.reduceAdd, Nat.reduceMul, Nat.reduceSub, Nat.reduceLT, Nat.reduceLeDiff, Nat.reduceEqDiff, Nat.reducePow, Int.reducePow, Int.reduceLE, Int.reduceLT, Int.reduceEq, Int.reduceToNat, reduceCtorEq, RR, RB, RZ, RE, opEv, fillV, mapO, mapS, b38_1, hl_4, h1_4, h3_4, eq_false hge]
    intro ht; subst ht
    refine And.intro rfl (Exists.intro _ ( And.intro rfl ?_))
    simp only [↓reduceIte, Nat.reduceAdd, Nat.reduceMul, Nat.reduceSub, Nat.reduceLT, Nat.reduceLeDiff, Nat.reduceEqDiff, Nat.reducePow, Int.reducePow, Int.reduceLE, Int.reduceLT, Int.reduceEq, Int.reduceToNat, reduceCtorEq, RR, RB, RZ, RE, hl_4, h1_4, h3_4, eq_false hge]
def I38_5 (a0 : GFiltered) (v5_3 : Int) (x29 : List (List Int)) (v7_4 : Int)  (v8_5 : Int) (e : Env) (h : Heap) : Prop :=
  ∃ k35 : Nat, h = ⟨[(0, none)], k35⟩ ∧ e.length = 109 ∧ e.at 1 = V.iptr [V.int .i64 a0.Complex.Prime, V.isl (List.map Enc.enc a0.Complex.Dims), V.isl (List.map Enc.enc a0.Complex.Maps), V.isl (List.map Enc.enc a0.Levels)] ∧ e.at 5 = V.int .i64 v5_3 ∧ e.at 6 = V.isl (List.map Enc.enc x29) ∧ e.at 7 = V.int .i64 v7_4 ∧ e.at 8 = V.int .i64 v8_5
def P38_5 (a0 : GFiltered) (v5_3 : Int) (x29 : List (List Int)) (v7_4 : Int)  (t : (Unit) ⊕ Bool) (x : Ex) (e : Env) (h : Heap) : Prop :=
  match t with
  | .inl _ => x = .normal ∧ ∃ k35 : Nat, h = ⟨[(0, none)], k35⟩ ∧ e.length = 109 ∧ e.at 1 = V.iptr [V.int .i64 a0.Complex.Prime, V.isl (List.map Enc.enc a0.Complex.Dims), V.isl (List.map Enc.enc a0.Complex.Maps), V.isl (List.map Enc.enc a0.Levels)] ∧ e.at 5 = V.int .i64 v5_3 ∧ e.at 6 = V.isl (List.map Enc.enc x29) ∧ e.at 7 = V.int .i64 v7_4
  | .inr r => x = .ret ∧ Fin p38 (Enc.enc r) .ret e h
theorem l38_5 (a0 : GFiltered) (v5_3 : Int) (x29 : List (List Int)) (v7_4 : Int)   {s : Int} {t : (Unit) ⊕ Bool} (hF : loopW (F38_5_S a0 v5_3 x29 v7_4) s = some t) {e : Env} {h : Heap} (hI : I38_5 a0 v5_3 x29 v7_4  s e h) : W A c38_5 e h (P38_5 a0 v5_3 x29 v7_4  t) := by
  show W A (.block 8 (.loop false b38_5)) e h _
  rw [W_block]
  refine W_loop hF 1 (by obtain ⟨_, rfl, _⟩ := hI; rfl) (I38_5 a0 v5_3 x29 v7_4 ) hI ?_
  · rintro v8_5 e h ⟨k35, rfl, hl_34, h1_34, h5_34, h6_34, h7_34, h8_34⟩ o ho
    unfold F38_5_S at ho
    obtain ⟨x37, gx37, ho⟩ := bS ho
    obtain ⟨w38a, w38b⟩ := getI_w gx37
    by_cases c39 : v8_5 < (x37.length : Int)
    · rw [if_pos c39] at ho
      obtain ⟨x40, gx40, ho⟩ := bS ho
      obtain ⟨w41a, w41b⟩ := getI_w gx40
      by_cases c42 : x40 = 0
      · rw [if_pos c42] at ho
        obtain ⟨x43, gx43, ho⟩ := bS ho
        have wx43 := chk_w gx43
        have hE := Option.some.inj ho; subst hE
        simp only [↓reduceIte, Nat.reduceAdd, Nat.reduceMul, Nat.reduceSub, Nat.reduceLT, Nat.reduceLeDiff, Nat.reduceEqDiff, Nat.reducePow, Int.reducePow, Int.reduceLE, Int.reduceLT, Int.reduceEq, Int.reduceToNat, reduceCtorEq, RR, RB, RZ, RE, opEv, fillV, mapO, mapS, b38_5, hl_34, h1_34, h5_34, h6_34, h7_34, h8_34, w38a, w38b, eq_true c39, w41a, w41b, eq_true c42, wx43]
        refine And.intro rfl (Exists.intro _ ( And.intro rfl ?_))
        simp only [↓reduceIte, Nat.reduceAdd, Nat.reduceMul, Nat.reduceSub, Nat.reduceLT, Nat.reduceLeDiff, Nat.reduceEqDiff, Nat.reducePow, Int.reducePow, Int.reduceLE, Int.reduceLT, Int.reduceEq, Int.reduceToNat, reduceCtorEq, RR, RB, RZ, RE, hl_34, h1_34, h5_34, h6_34, h7_34, h8_34, w38a, w38b, eq_true c39, w41a, w41b, eq_true c42, wx43]
      · rw [if_neg c42] at ho
        obtain ⟨x44, gx44, ho⟩ := bS ho
        have wx44 := chk_w gx44
        obtain ⟨x45, gx45, ho⟩ := bS ho
        have w46 : ans A 77 [V.agg [V.int .i64 a0.Complex.Prime, V.isl (List.map Enc.enc a0.Complex.Dims), V.isl (List.map Enc.enc a0.Complex.Maps), V.isl (List.map Enc.enc a0.Levels)], V.int .i64 x44, V.int .i64 v8_5] = some (V.int .i64 x45) := s77 a0 x44 v8_5  gx45
        obtain ⟨x47, gx47, ho⟩ := bS ho
        have w48 : ans A 77 [V.agg [V.int .i64 a0.Complex.Prime, V.isl (List.map Enc.enc a0.Complex.Dims), V.isl (List.map Enc.enc a0.Complex.Maps), V.isl (List.map Enc.enc a0.Levels)], V.int .i64 v5_3, V.int .i64 v7_4] = some (V.int .i64 x47) := s77 a0 v5_3 v7_4  gx47
        by_cases c49 : x47 < x45
        · rw [if_pos c49] at ho
          have hE := Option.some.inj ho; subst hE
          simp only [↓reduceIte, Nat.reduceAdd, Nat.reduceMul, Nat.reduceSub, Nat.reduceLT, Nat.reduceLeDiff, Nat.reduceEqDiff, Nat.reducePow, Int.reducePow, Int.reduceLE, Int.reduceLT, Int.reduceEq, Int.reduceToNat, reduceCtorEq, RR, RB, RZ, RE, opEv, fillV, mapO, mapS, b38_5, hl_34, h1_34, h5_34, h6_34, h7_34, h8_34, w38a, w38b, eq_true c39, w41a, w41b, eq_false c42, wx44, w46, w48, eq_true c49]
          intro ht; subst ht
          simp only [↓reduceIte, Nat.reduceAdd, Nat.reduceMul, Nat.reduceSub, Nat.reduceLT, Nat.reduceLeDiff, Nat.reduceEqDiff, Nat.reducePow, Int.reducePow, Int.reduceLE, Int.reduceLT, Int.reduceEq, Int.reduceToNat, reduceCtorEq, RR, RB]
          exact And.intro rfl (fin_ret (by simp only [↓reduceIte, Nat.reduceAdd, Nat.reduceMul, Nat.reduceSub, Nat.reduceLT, Nat.reduceLeDiff, Nat.reduceEqDiff, Nat.reducePow, Int.reducePow, Int.reduceLE, Int.reduceLT, Int.reduceEq, Int.reduceToNat, reduceCtorEq, RR, RB, RZ, RE, fn_out, p38, Rs.ev, mapO, mapS, take_len_self, hl_34, h1_34, h5_34, h6_34, h7_34, h8_34, w38a, w38b, eq_true c39, w41a, w41b, eq_false c42, wx44, w46, w48, eq_true c49]))
        · rw [if_neg c49] at ho
          obtain ⟨x50, gx50, ho⟩ := bS ho
          have wx50 := chk_w gx50
          have hE := Option.some.inj ho; subst hE
          simp only [↓reduceIte, Nat.reduceAdd, Nat.reduceMul, Nat.reduceSub, Nat.reduceLT, Nat.reduceLeDiff, Nat.reduceEqDiff, Nat.reducePow, Int.reducePow, Int.reduceLE, Int.reduceLT, Int.reduceEq, Int.reduceToNat, reduceCtorEq, RR, RB, RZ, RE, opEv, fillV, mapO, mapS, b38_5, hl_34, h1_34, h5_34, h6_34, h7_34, h8_34, w38a, w38b, eq_true c39, w41a, w41b, eq_false c42, wx44, w46, w48, eq_false c49, wx50]
          refine And.intro rfl (Exists.intro _ ( And.intro rfl ?_))
          simp only [↓reduceIte, Nat.reduceAdd, Nat.reduceMul, Nat.reduceSub, Nat.reduceLT, Nat.reduceLeDiff, Nat.reduceEqDiff, Nat.reducePow, Int.reducePow, Int.reduceLE, Int.reduceLT, Int.reduceEq, Int.reduceToNat, reduceCtorEq, RR, RB, RZ, RE, hl_34, h1_34, h5_34, h6_34, h7_34, h8_34, w38a, w38b, eq_true c39, w41a, w41b, eq_false c42, wx44, w46, w48, eq_false c49, wx50]
    · rw [if_neg c39] at ho
      have hE := Option.some.inj ho; subst hE
      simp only [↓reduceIte, Nat.reduceAdd, Nat.reduceMul, Nat.reduceSub, Nat.reduceLT, Nat.reduceLeDiff, Nat.reduceEqDiff, Nat.reducePow, Int.reducePow, Int.reduceLE, Int.reduceLT, Int.reduceEq, Int.reduceToNat, reduceCtorEq, RR, RB, RZ, RE, opEv, fillV, mapO, mapS, b38_5, hl_34, h1_34, h5_34, h6_34, h7_34, h8_34, w38a, w38b, eq_false c39]
      intro ht; subst ht
      simp only [↓reduceIte, Nat.reduceAdd, Nat.reduceMul, Nat.reduceSub, Nat.reduceLT, Nat.reduceLeDiff, Nat.reduceEqDiff, Nat.reducePow, Int.reducePow, Int.reduceLE, Int.reduceLT, Int.reduceEq, Int.reduceToNat, reduceCtorEq, RR, RB]
      refine And.intro rfl (Exists.intro _ ( And.intro rfl ?_))
      simp only [↓reduceIte, Nat.reduceAdd, Nat.reduceMul, Nat.reduceSub, Nat.reduceLT, Nat.reduceLeDiff, Nat.reduceEqDiff, Nat.reducePow, Int.reducePow, Int.reduceLE, Int.reduceLT, Int.reduceEq, Int.reduceToNat, reduceCtorEq, RR, RB, RZ, RE, hl_34, h1_34, h5_34, h6_34, h7_34, h8_34, w38a, w38b, eq_false c39]
def I38_4 (a0 : GFiltered) (v5_3 : Int) (x29 : List (List Int))  (v7_4 : Int) (s : Unit) (e : Env) (h : Heap) : Prop :=
  ∃ k32 : Nat, h = ⟨[(0, none)], k32⟩ ∧ e.length = 109 ∧ e.at 1 = V.iptr [V.int .i64 a0.Complex.Prime, V.isl (List.map Enc.enc a0.Complex.Dims), V.isl (List.map Enc.enc a0.Complex.Maps), V.isl (List.map Enc.enc a0.Levels)] ∧ e.at 5 = V.int .i64 v5_3 ∧ e.at 6 = V.isl (List.map Enc.enc x29) ∧ e.at 7 = V.int .i64 v7_4
def P38_4 (a0 : GFiltered) (v5_3 : Int) (x29 : List (List Int))  (t : (Unit) ⊕ Bool) (x : Ex) (e : Env) (h : Heap) : Prop :=
  match t with
  | .inl _ => x = .normal ∧ ∃ k32 : Nat, h = ⟨[(0, none)], k32⟩ ∧ e.length = 109 ∧ e.at 1 = V.iptr [V.int .i64 a0.Complex.Prime, V.isl (List.map Enc.enc a0.Complex.Dims), V.isl (List.map Enc.enc a0.Complex.Maps), V.isl (List.map Enc.enc a0.Levels)] ∧ e.at 5 = V.int .i64 v5_3
  | .inr r => x = .ret ∧ Fin p38 (Enc.enc r) .ret e h
theorem l38_4 (a0 : GFiltered) (v5_3 : Int) (x29 : List (List Int))   {lo : Int} {s : Unit} {t : (Unit) ⊕ Bool} (hF : forR lo (x29.length : Int) (F38_4_B a0 v5_3 x29) (F38_4_D a0 v5_3 x29) s = some t) {e : Env} {h : Heap} (hI : I38_4 a0 v5_3 x29  lo s e h) : W A c38_4 e h (P38_4 a0 v5_3 x29  t) := by
  show W A (.block 6 (.loop false b38_4)) e h _
  rw [W_block]
  refine W_forR hF 1 (by obtain ⟨_, rfl, _⟩ := hI; rfl) (I38_4 a0 v5_3 x29 ) hI ?_ ?_
  · rintro v7_4 _ e h ⟨k32, rfl, hl_31, h1_31, h5_31, h6_31, h7_31⟩ hlt hw o ho
    unfold F38_4_B at ho
    obtain ⟨t51, gt51, ho⟩ := bS ho
    rcases t51 with _ | r52
    · dsimp only at ho
      simp only [↓reduceIte, Nat.reduceAdd, Nat.reduceMul, Nat.reduceSub, Nat.reduceLT, Nat.reduceLeDiff, Nat.reduceEqDiff, Nat.reducePow, Int.reducePow, Int.reduceLE, Int.reduceLT, Int.reduceEq, Int.reduceToNat, reduceCtorEq, RR, RB, RZ, RE, opEv, fillV, mapO, mapS, b38_4, hl_31, h1_31, h5_31, h6_31, h7_31, eq_true hlt, hw]
      refine W.mono (l38_5 a0 v5_3 x29 v7_4   gt51 (Exists.intro _ ( And.intro rfl ?_))) ?_
      · simp only [↓reduceIte, Nat.reduceAdd, Nat.reduceMul, Nat.reduceSub, Nat.reduceLT, Nat.reduceLeDiff, Nat.reduceEqDiff, Nat.reducePow, Int.reducePow, Int.reduceLE, Int.reduceLT, Int.reduceEq, Int.reduceToNat, reduceCtorEq, RR, RB, RZ, RE, hl_31, h1_31, h5_31, h6_31, h7_31, eq_true hlt, hw]
      rintro _ e _ ⟨rfl, k35, rfl, hl_36, h1_36, h5_36, h6_36, h7_36⟩
      have hE := Option.some.inj ho; subst hE
      simp only [↓reduceIte, Nat.reduceAdd, Nat.reduceMul, Nat.reduceSub, Nat.reduceLT, Nat.reduceLeDiff, Nat.reduceEqDiff, Nat.reducePow, Int.reducePow, Int.reduceLE, Int.reduceLT, Int.reduceEq, Int.reduceToNat, reduceCtorEq, RR, RB, RZ, RE, opEv, fillV, mapO, mapS, hl_36, h1_36, h5_36, h6_36, h7_36, eq_true hlt, hw]
      refine And.intro rfl (Exists.intro _ ( And.intro rfl ?_))
      simp only [↓reduceIte, Nat.reduceAdd, Nat.reduceMul, Nat.reduceSub, Nat.reduceLT, Nat.reduceLeDiff, Nat.reduceEqDiff, Nat.reducePow, Int.reducePow, Int.reduceLE, Int.reduceLT, Int.reduceEq, Int.reduceToNat, reduceCtorEq, RR, RB, RZ, RE, hl_36, h1_36, h5_36, h6_36, h7_36, eq_true hlt, hw]
    · dsimp only at ho
      have hE := Option.some.inj ho; subst hE
      simp only [↓reduceIte, Nat.reduceAdd, Nat.reduceMul, Nat.reduceSub, Nat.reduceLT, Nat.reduceLeDiff, Nat.reduceEqDiff, Nat.reducePow, Int.reducePow, Int.reduceLE, Int.reduceLT, Int.reduceEq, Int.reduceToNat, reduceCtorEq, RR, RB, RZ, RE, opEv, fillV, mapO, mapS, b38_4, hl_31, h1_31, h5_31, h6_31, h7_31, eq_true hlt, hw]
      refine W.mono (l38_5 a0 v5_3 x29 v7_4   gt51 (Exists.intro _ ( And.intro rfl ?_))) ?_
      · simp only [↓reduceIte, Nat.reduceAdd, Nat.reduceMul, Nat.reduceSub, Nat.reduceLT, Nat.reduceLeDiff, Nat.reduceEqDiff, Nat.reducePow, Int.reducePow, Int.reduceLE, Int.reduceLT, Int.reduceEq, Int.reduceToNat, reduceCtorEq, RR, RB, RZ, RE, hl_31, h1_31, h5_31, h6_31, h7_31, eq_true hlt, hw]
      rintro _ e h ⟨rfl, hq⟩
      simp only [↓reduceIte, Nat.reduceAdd, Nat.reduceMul, Nat.reduceSub, Nat.reduceLT, Nat.reduceLeDiff, Nat.reduceEqDiff, Nat.reducePow, Int.reducePow, Int.reduceLE, Int.reduceLT, Int.reduceEq, Int.reduceToNat, reduceCtorEq, RR, RB]
      intro ht; subst ht
      simp only [↓reduceIte, Nat.reduceAdd, Nat.reduceMul, Nat.reduceSub, Nat.reduceLT, Nat.reduceLeDiff, Nat.reduceEqDiff, Nat.reducePow, Int.reducePow, Int.reduceLE, Int.reduceLT, Int.reduceEq, Int.reduceToNat, reduceCtorEq, RR, RB]
      exact And.intro rfl hq
  · rintro v7_4 _ e h ⟨k32, rfl, hl_31, h1_31, h5_31, h6_31, h7_31⟩ hge t1 ho
    unfold F38_4_D at ho
    have hE := Option.some.inj ho; subst hE
    simp only [↓reduceIte, Nat.reduceAdd, Nat.reduceMul, Nat.reduceSub, Nat.reduceLT, Nat.reduceLeDiff, Nat.reduceEqDiff, Nat.reducePow, Int.reducePow, Int.reduceLE, Int.reduceLT, Int.reduceEq, Int.reduceToNat, reduceCtorEq, RR, RB, RZ, RE, opEv, fillV, mapO, mapS, b38_4, hl_31, h1_31, h5_31, h6_31, h7_31, eq_false hge]
    intro ht; subst ht
    refine And.intro rfl (Exists.intro _ ( And.intro rfl ?_))
    simp only [↓reduceIte, Nat.reduceAdd, Nat.reduceMul, Nat.reduceSub, Nat.reduceLT, Nat.reduceLeDiff, Nat.reduceEqDiff, Nat.reducePow, Int.reducePow, Int.reduceLE, Int.reduceLT, Int.reduceEq, Int.reduceToNat, reduceCtorEq, RR, RB, RZ, RE, hl_31, h1_31, h5_31, h6_31, h7_31, eq_false hge]
def I38_3 (a0 : GFiltered)  (v5_3 : Int) (s : Unit) (e : Env) (h : Heap) : Prop :=
  ∃ k27 : Nat, h = ⟨[(0, none)], k27⟩ ∧ e.length = 109 ∧ e.at 1 = V.iptr [V.int .i64 a0.Complex.Prime, V.isl (List.map Enc.enc a0.Complex.Dims), V.isl (List.map Enc.enc a0.Complex.Maps), V.isl (List.map Enc.enc a0.Levels)] ∧ e.at 5 = V.int .i64 v5_3
def P38_3 (a0 : GFiltered)  (t : (Unit) ⊕ Bool) (x : Ex) (e : Env) (h : Heap) : Prop :=
  match t with
  | .inl _ => x = .normal ∧ ∃ k27 : Nat, h = ⟨[(0, none)], k27⟩ ∧ e.length = 109
  | .inr r => x = .ret ∧ Fin p38 (Enc.enc r) .ret e h
theorem l38_3 (a0 : GFiltered)   {lo : Int} {s : Unit} {t : (Unit) ⊕ Bool} (hF : forR lo (a0.Levels.length : Int) (F38_3_B a0) (F38_3_D a0) s = some t) {e : Env} {h : Heap} (hI : I38_3 a0  lo s e h) : W A c38_3 e h (P38_3 a0  t) := by
  show W A (.block 4 (.loop false b38_3)) e h _
  rw [W_block]
  refine W_forR hF 1 (by obtain ⟨_, rfl, _⟩ := hI; rfl) (I38_3 a0 ) hI ?_ ?_
  · rintro v5_3 _ e h ⟨k27, rfl, hl_26, h1_26, h5_26⟩ hlt hw o ho
    unfold F38_3_B at ho
    obtain ⟨x29, gx29, ho⟩ := bS ho
    have w30 : ans A 76 [V.agg [V.int .i64 a0.Complex.Prime, V.isl (List.map Enc.enc a0.Complex.Dims), V.isl (List.map Enc.enc a0.Complex.Maps)], V.int .i64 v5_3] = some (V.isl (List.map Enc.enc x29)) := s76 a0.Complex v5_3  gx29
    obtain ⟨t53, gt53, ho⟩ := bS ho
    rcases t53 with _ | r54
    · dsimp only at ho
      simp only [↓reduceIte, Nat.reduceAdd, Nat.reduceMul, Nat.reduceSub, Nat.reduceLT, Nat.reduceLeDiff, Nat.reduceEqDiff, Nat.reducePow, Int.reducePow, Int.reduceLE, Int.reduceLT, Int.reduceEq, Int.reduceToNat, reduceCtorEq, RR, RB, RZ, RE, opEv, fillV, mapO, mapS, b38_3, hl_26, h1_26, h5_26, eq_true hlt, hw, w30]
      refine W.mono (l38_4 a0 v5_3 x29   gt53 (Exists.intro _ ( And.intro rfl ?_))) ?_
      · simp only [↓reduceIte, Nat.reduceAdd, Nat.reduceMul, Nat.reduceSub, Nat.reduceLT, Nat.reduceLeDiff, Nat.reduceEqDiff, Nat.reducePow, Int.reducePow, Int.reduceLE, Int.reduceLT, Int.reduceEq, Int.reduceToNat, reduceCtorEq, RR, RB, RZ, RE, hl_26, h1_26, h5_26, eq_true hlt, hw, w30]
      rintro _ e _ ⟨rfl, k32, rfl, hl_33, h1_33, h5_33⟩
      have hE := Option.some.inj ho; subst hE
      simp only [↓reduceIte, Nat.reduceAdd, Nat.reduceMul, Nat.reduceSub, Nat.reduceLT, Nat.reduceLeDiff, Nat.reduceEqDiff, Nat.reducePow, Int.reducePow, Int.reduceLE, Int.reduceLT, Int.reduceEq, Int.reduceToNat, reduceCtorEq, RR, RB, RZ, RE, opEv, fillV, mapO, mapS, hl_33, h1_33, h5_33, eq_true hlt, hw]
      refine And.intro rfl (Exists.intro _ ( And.intro rfl ?_))
      simp only [↓reduceIte, Nat.reduceAdd, Nat.reduceMul, Nat.reduceSub, Nat.reduceLT, Nat.reduceLeDiff, Nat.reduceEqDiff, Nat.reducePow, Int.reducePow, Int.reduceLE, Int.reduceLT, Int.reduceEq, Int.reduceToNat, reduceCtorEq, RR, RB, RZ, RE, hl_33, h1_33, h5_33, eq_true hlt, hw]
    · dsimp only at ho
      have hE := Option.some.inj ho; subst hE
      simp only [↓reduceIte, Nat.reduceAdd, Nat.reduceMul, Nat.reduceSub, Nat.reduceLT, Nat.reduceLeDiff, Nat.reduceEqDiff, Nat.reducePow, Int.reducePow, Int.reduceLE, Int.reduceLT, Int.reduceEq, Int.reduceToNat, reduceCtorEq, RR, RB, RZ, RE, opEv, fillV, mapO, mapS, b38_3, hl_26, h1_26, h5_26, eq_true hlt, hw, w30]
      refine W.mono (l38_4 a0 v5_3 x29   gt53 (Exists.intro _ ( And.intro rfl ?_))) ?_
      · simp only [↓reduceIte, Nat.reduceAdd, Nat.reduceMul, Nat.reduceSub, Nat.reduceLT, Nat.reduceLeDiff, Nat.reduceEqDiff, Nat.reducePow, Int.reducePow, Int.reduceLE, Int.reduceLT, Int.reduceEq, Int.reduceToNat, reduceCtorEq, RR, RB, RZ, RE, hl_26, h1_26, h5_26, eq_true hlt, hw, w30]
      rintro _ e h ⟨rfl, hq⟩
      simp only [↓reduceIte, Nat.reduceAdd, Nat.reduceMul, Nat.reduceSub, Nat.reduceLT, Nat.reduceLeDiff, Nat.reduceEqDiff, Nat.reducePow, Int.reducePow, Int.reduceLE, Int.reduceLT, Int.reduceEq, Int.reduceToNat, reduceCtorEq, RR, RB]
      intro ht; subst ht
      simp only [↓reduceIte, Nat.reduceAdd, Nat.reduceMul, Nat.reduceSub, Nat.reduceLT, Nat.reduceLeDiff, Nat.reduceEqDiff, Nat.reducePow, Int.reducePow, Int.reduceLE, Int.reduceLT, Int.reduceEq, Int.reduceToNat, reduceCtorEq, RR, RB]
      exact And.intro rfl hq
  · rintro v5_3 _ e h ⟨k27, rfl, hl_26, h1_26, h5_26⟩ hge t1 ho
    unfold F38_3_D at ho
    have hE := Option.some.inj ho; subst hE
    simp only [↓reduceIte, Nat.reduceAdd, Nat.reduceMul, Nat.reduceSub, Nat.reduceLT, Nat.reduceLeDiff, Nat.reduceEqDiff, Nat.reducePow, Int.reducePow, Int.reduceLE, Int.reduceLT, Int.reduceEq, Int.reduceToNat, reduceCtorEq, RR, RB, RZ, RE, opEv, fillV, mapO, mapS, b38_3, hl_26, h1_26, h5_26, eq_false hge]
    intro ht; subst ht
    refine And.intro rfl (Exists.intro _ ( And.intro rfl ?_))
    simp only [↓reduceIte, Nat.reduceAdd, Nat.reduceMul, Nat.reduceSub, Nat.reduceLT, Nat.reduceLeDiff, Nat.reduceEqDiff, Nat.reducePow, Int.reducePow, Int.reduceLE, Int.reduceLT, Int.reduceEq, Int.reduceToNat, reduceCtorEq, RR, RB, RZ, RE, hl_26, h1_26, h5_26, eq_false hge]
theorem s38 (a0 : GFiltered)   {r : Bool} (hF : F38 a0 = some r) : ans A 38 [V.agg [V.int .i64 a0.Complex.Prime, V.isl (List.map Enc.enc a0.Complex.Dims), V.isl (List.map Enc.enc a0.Complex.Maps), V.isl (List.map Enc.enc a0.Levels)]] = some (Enc.enc r) := by
  refine ans_of (f := p38) rfl rfl rfl fun e hl he => ?_
  have h0_0 : e.at 0 = V.agg [V.int .i64 a0.Complex.Prime, V.isl (List.map Enc.enc a0.Complex.Dims), V.isl (List.map Enc.enc a0.Complex.Maps), V.isl (List.map Enc.enc a0.Levels)] := he 0 _ rfl
  have hl_0 : e.length = 109 := hl
  clear he hl
  show W A b38 e ⟨[], 0⟩ _
  unfold F38 at hF
  obtain ⟨x1, gx1, hF⟩ := bS hF
  have w2 : ans A 39 [V.agg [V.int .i64 a0.Complex.Prime, V.isl (List.map Enc.enc a0.Complex.Dims), V.isl (List.map Enc.enc a0.Complex.Maps)]] = some (V.bool x1) := s39 a0.Complex  gx1
  cases x1 with
  | true =>
    rw [if_pos rfl] at hF
    by_cases c3 : (a0.Levels.length : Int) = (a0.Complex.Dims.length : Int)
    · rw [if_pos c3] at hF
      obtain ⟨t25, gt25, hF⟩ := bS hF
      rcases t25 with _ | r57
      · dsimp only at hF
        simp only [↓reduceIte, Nat.reduceAdd, Nat.reduceMul, Nat.reduceSub, Nat.reduceLT, Nat.reduceLeDiff, Nat.reduceEqDiff, Nat.reducePow, Int.reducePow, Int.reduceLE, Int.reduceLT, Int.reduceEq, Int.reduceToNat, reduceCtorEq, RR, RB, RZ, RE, opEv, fillV, mapO, mapS, b38, hl_0, h0_0, w2, eq_true c3]
        refine W.mono (l38_1 a0   gt25 (Exists.intro _ ( And.intro rfl ?_))) ?_
        · simp only [↓reduceIte, Nat.reduceAdd, Nat.reduceMul, Nat.reduceSub, Nat.reduceLT, Nat.reduceLeDiff, Nat.reduceEqDiff, Nat.reducePow, Int.reducePow, Int.reduceLE, Int.reduceLT, Int.reduceEq, Int.reduceToNat, reduceCtorEq, RR, RB, RZ, RE, hl_0, h0_0, w2, eq_true c3]
        rintro _ e _ ⟨rfl, k5, rfl, hl_6, h1_6⟩
        obtain ⟨t55, gt55, hF⟩ := bS hF
        rcases t55 with _ | r56
        · dsimp only at hF
          simp only [↓reduceIte, Nat.reduceAdd, Nat.reduceMul, Nat.reduceSub, Nat.reduceLT, Nat.reduceLeDiff, Nat.reduceEqDiff, Nat.reducePow, Int.reducePow, Int.reduceLE, Int.reduceLT, Int.reduceEq, Int.reduceToNat, reduceCtorEq, RR, RB, RZ, RE, opEv, fillV, mapO, mapS, hl_6, h1_6, eq_true c3]
          refine W.mono (l38_3 a0   gt55 (Exists.intro _ ( And.intro rfl ?_))) ?_
          · simp only [↓reduceIte, Nat.reduceAdd, Nat.reduceMul, Nat.reduceSub, Nat.reduceLT, Nat.reduceLeDiff, Nat.reduceEqDiff, Nat.reducePow, Int.reducePow, Int.reduceLE, Int.reduceLT, Int.reduceEq, Int.reduceToNat, reduceCtorEq, RR, RB, RZ, RE, hl_6, h1_6, eq_true c3]
          rintro _ e _ ⟨rfl, k27, rfl, hl_28⟩
          have hE := Option.some.inj hF; subst hE
          simp only [↓reduceIte, Nat.reduceAdd, Nat.reduceMul, Nat.reduceSub, Nat.reduceLT, Nat.reduceLeDiff, Nat.reduceEqDiff, Nat.reducePow, Int.reducePow, Int.reduceLE, Int.reduceLT, Int.reduceEq, Int.reduceToNat, reduceCtorEq, RR, RB, RZ, RE, opEv, fillV, mapO, mapS, hl_28, eq_true c3]
          exact fin_ret (by simp only [↓reduceIte, Nat.reduceAdd, Nat.reduceMul, Nat.reduceSub, Nat.reduceLT, Nat.reduceLeDiff, Nat.reduceEqDiff, Nat.reducePow, Int.reducePow, Int.reduceLE, Int.reduceLT, Int.reduceEq, Int.reduceToNat, reduceCtorEq, RR, RB, RZ, RE, fn_out, p38, Rs.ev, mapO, mapS, take_len_self, hl_28, eq_true c3])
        · dsimp only at hF
          have hE := Option.some.inj hF; subst hE
          simp only [↓reduceIte, Nat.reduceAdd, Nat.reduceMul, Nat.reduceSub, Nat.reduceLT, Nat.reduceLeDiff, Nat.reduceEqDiff, Nat.reducePow, Int.reducePow, Int.reduceLE, Int.reduceLT, Int.reduceEq, Int.reduceToNat, reduceCtorEq, RR, RB, RZ, RE, opEv, fillV, mapO, mapS, hl_6, h1_6, eq_true c3]
          refine W.mono (l38_3 a0   gt55 (Exists.intro _ ( And.intro rfl ?_))) ?_
          · simp only [↓reduceIte, Nat.reduceAdd, Nat.reduceMul, Nat.reduceSub, Nat.reduceLT, Nat.reduceLeDiff, Nat.reduceEqDiff, Nat.reducePow, Int.reducePow, Int.reduceLE, Int.reduceLT, Int.reduceEq, Int.reduceToNat, reduceCtorEq, RR, RB, RZ, RE, hl_6, h1_6, eq_true c3]
          rintro _ e h ⟨rfl, hq⟩
          simp only [↓reduceIte, Nat.reduceAdd, Nat.reduceMul, Nat.reduceSub, Nat.reduceLT, Nat.reduceLeDiff, Nat.reduceEqDiff, Nat.reducePow, Int.reducePow, Int.reduceLE, Int.reduceLT, Int.reduceEq, Int.reduceToNat, reduceCtorEq, RR, RB]
          exact hq
      · dsimp only at hF
        have hE := Option.some.inj hF; subst hE
        simp only [↓reduceIte, Nat.reduceAdd, Nat.reduceMul, Nat.reduceSub, Nat.reduceLT, Nat.reduceLeDiff, Nat.reduceEqDiff, Nat.reducePow, Int.reducePow, Int.reduceLE, Int.reduceLT, Int.reduceEq, Int.reduceToNat, reduceCtorEq, RR, RB, RZ, RE, opEv, fillV, mapO, mapS, b38, hl_0, h0_0, w2, eq_true c3]
        refine W.mono (l38_1 a0   gt25 (Exists.intro _ ( And.intro rfl ?_))) ?_
        · simp only [↓reduceIte, Nat.reduceAdd, Nat.reduceMul, Nat.reduceSub, Nat.reduceLT, Nat.reduceLeDiff, Nat.reduceEqDiff, Nat.reducePow, Int.reducePow, Int.reduceLE, Int.reduceLT, Int.reduceEq, Int.reduceToNat, reduceCtorEq, RR, RB, RZ, RE, hl_0, h0_0, w2, eq_true c3]
        rintro _ e h ⟨rfl, hq⟩
        simp only [↓reduceIte, Nat.reduceAdd, Nat.reduceMul, Nat.reduceSub, Nat.reduceLT, Nat.reduceLeDiff, Nat.reduceEqDiff, Nat.reducePow, Int.reducePow, Int.reduceLE, Int.reduceLT, Int.reduceEq, Int.reduceToNat, reduceCtorEq, RR, RB]
        exact hq
    · rw [if_neg c3] at hF
      have hE := Option.some.inj hF; subst hE
      simp only [↓reduceIte, Nat.reduceAdd, Nat.reduceMul, Nat.reduceSub, Nat.reduceLT, Nat.reduceLeDiff, Nat.reduceEqDiff, Nat.reducePow, Int.reducePow, Int.reduceLE, Int.reduceLT, Int.reduceEq, Int.reduceToNat, reduceCtorEq, RR, RB, RZ, RE, opEv, fillV, mapO, mapS, b38, hl_0, h0_0, w2, eq_false c3]
      exact fin_ret (by simp only [↓reduceIte, Nat.reduceAdd, Nat.reduceMul, Nat.reduceSub, Nat.reduceLT, Nat.reduceLeDiff, Nat.reduceEqDiff, Nat.reducePow, Int.reducePow, Int.reduceLE, Int.reduceLT, Int.reduceEq, Int.reduceToNat, reduceCtorEq, RR, RB, RZ, RE, fn_out, p38, Rs.ev, mapO, mapS, take_len_self, hl_0, h0_0, w2, eq_false c3])
  | false =>
    rw [if_neg Bool.false_ne_true] at hF
    have hE := Option.some.inj hF; subst hE
    simp only [↓reduceIte, Nat.reduceAdd, Nat.reduceMul, Nat.reduceSub, Nat.reduceLT, Nat.reduceLeDiff, Nat.reduceEqDiff, Nat.reducePow, Int.reducePow, Int.reduceLE, Int.reduceLT, Int.reduceEq, Int.reduceToNat, reduceCtorEq, RR, RB, RZ, RE, opEv, fillV, mapO, mapS, b38, hl_0, h0_0, w2]
    exact fin_ret (by simp only [↓reduceIte, Nat.reduceAdd, Nat.reduceMul, Nat.reduceSub, Nat.reduceLT, Nat.reduceLeDiff, Nat.reduceEqDiff, Nat.reducePow, Int.reducePow, Int.reduceLE, Int.reduceLT, Int.reduceEq, Int.reduceToNat, reduceCtorEq, RR, RB, RZ, RE, fn_out, p38, Rs.ev, mapO, mapS, take_len_self, hl_0, h0_0, w2])
/-! loop.example/g01273/spec.IsDesk -/
def F8 (a0 : GDesk) : Option Bool :=
  (F38 a0.First).bind fun x1 =>
  if x1 = true then
    (F39 a0.Second).bind fun x3 =>
    some x3
  else
    some false
theorem s8 (a0 : GDesk)   {r : Bool} (hF : F8 a0 = some r) : ans A 8 [V.agg [V.int .i64 a0.First.Complex.Prime, V.isl (List.map Enc.enc a0.First.Complex.Dims), V.isl (List.map Enc.enc a0.First.Complex.Maps), V.isl (List.map Enc.enc a0.First.Levels), V.int .i64 a0.Second.Prime, V.isl (List.map Enc.enc a0.Second.Dims), V.isl (List.map Enc.enc a0.Second.Maps)]] = some (Enc.enc r) := by
  refine ans_of (f := p8) rfl rfl rfl fun e hl he => ?_
  have h0_0 : e.at 0 = V.agg [V.int .i64 a0.First.Complex.Prime, V.isl (List.map Enc.enc a0.First.Complex.Dims), V.isl (List.map Enc.enc a0.First.Complex.Maps), V.isl (List.map Enc.enc a0.First.Levels), V.int .i64 a0.Second.Prime, V.isl (List.map Enc.enc a0.Second.Dims), V.isl (List.map Enc.enc a0.Second.Maps)] := he 0 _ rfl
  have hl_0 : e.length = 11 := hl
  clear he hl
  show W A b8 e ⟨[], 0⟩ _
  unfold F8 at hF
  obtain ⟨x1, gx1, hF⟩ := bS hF
  have w2 : ans A 38 [V.agg [V.int .i64 a0.First.Complex.Prime, V.isl (List.map Enc.enc a0.First.Complex.Dims), V.isl (List.map Enc.enc a0.First.Complex.Maps), V.isl (List.map Enc.enc a0.First.Levels)]] = some (V.bool x1) := s38 a0.First  gx1
  cases x1 with
  | true =>
    rw [if_pos rfl] at hF
    obtain ⟨x3, gx3, hF⟩ := bS hF
    have w4 : ans A 39 [V.agg [V.int .i64 a0.Second.Prime, V.isl (List.map Enc.enc a0.Second.Dims), V.isl (List.map Enc.enc a0.Second.Maps)]] = some (V.bool x3) := s39 a0.Second  gx3
    have hE := Option.some.inj hF; subst hE
    simp only [↓reduceIte, Nat.reduceAdd, Nat.reduceMul, Nat.reduceSub, Nat.reduceLT, Nat.reduceLeDiff, Nat.reduceEqDiff, Nat.reducePow, Int.reducePow, Int.reduceLE, Int.reduceLT, Int.reduceEq, Int.reduceToNat, reduceCtorEq, RR, RB, RZ, RE, opEv, fillV, mapO, mapS, b8, hl_0, h0_0, w2, w4]
    exact fin_ret (by simp only [↓reduceIte, Nat.reduceAdd, Nat.reduceMul, Nat.reduceSub, Nat.reduceLT, Nat.reduceLeDiff, Nat.reduceEqDiff, Nat.reducePow, Int.reducePow, Int.reduceLE, Int.reduceLT, Int.reduceEq, Int.reduceToNat, reduceCtorEq, RR, RB, RZ, RE, fn_out, p8, Rs.ev, mapO, mapS, take_len_self, hl_0, h0_0, w2, w4])
  | false =>
    rw [if_neg Bool.false_ne_true] at hF
    have hE := Option.some.inj hF; subst hE
    simp only [↓reduceIte, Nat.reduceAdd, Nat.reduceMul, Nat.reduceSub, Nat.reduceLT, Nat.reduceLeDiff, Nat.reduceEqDiff, Nat.reducePow, Int.reducePow, Int.reduceLE, Int.reduceLT, Int.reduceEq, Int.reduceToNat, reduceCtorEq, RR, RB, RZ, RE, opEv, fillV, mapO, mapS, b8, hl_0, h0_0, w2]
    exact fin_ret (by simp only [↓reduceIte, Nat.reduceAdd, Nat.reduceMul, Nat.reduceSub, Nat.reduceLT, Nat.reduceLeDiff, Nat.reduceEqDiff, Nat.reducePow, Int.reducePow, Int.reduceLE, Int.reduceLT, Int.reduceEq, Int.reduceToNat, reduceCtorEq, RR, RB, RZ, RE, fn_out, p8, Rs.ev, mapO, mapS, take_len_self, hl_0, h0_0, w2])
/-! loop.example/g01273/impl.between -/
def F56 (a0 : Int) (a1 : Int) (a2 : Int) : Option Bool :=
  if a1 ≤ a0 then
    some (decide (a0 ≤ a2))
  else
    some false
theorem s56 (a0 : Int) (a1 : Int) (a2 : Int)   {r : Bool} (hF : F56 a0 a1 a2 = some r) : ans A 56 [V.int .i64 a0, V.int .i64 a1, V.int .i64 a2] = some (Enc.enc r) := by
  refine ans_of (f := p56) rfl rfl rfl fun e hl he => ?_
  have h0_0 : e.at 0 = V.int .i64 a0 := he 0 _ rfl
  have h1_0 : e.at 1 = V.int .i64 a1 := he 1 _ rfl
  have h2_0 : e.at 2 = V.int .i64 a2 := he 2 _ rfl
  have hl_0 : e.length = 15 := hl
  clear he hl
  show W A b56 e ⟨[], 0⟩ _
  unfold F56 at hF
  by_cases c1 : a1 ≤ a0
  · rw [if_pos c1] at hF
    have hE := Option.some.inj hF; subst hE
    simp only [↓reduceIte, Nat.reduceAdd, Nat.reduceMul, Nat.reduceSub, Nat.reduceLT, Nat.reduceLeDiff, Nat.reduceEqDiff, Nat.reducePow, Int.reducePow, Int.reduceLE, Int.reduceLT, Int.reduceEq, Int.reduceToNat, reduceCtorEq, RR, RB, RZ, RE, opEv, fillV, mapO, mapS, b56, hl_0, h0_0, h1_0, h2_0, eq_true c1]
    exact fin_ret (by simp only [↓reduceIte, Nat.reduceAdd, Nat.reduceMul, Nat.reduceSub, Nat.reduceLT, Nat.reduceLeDiff, Nat.reduceEqDiff, Nat.reducePow, Int.reducePow, Int.reduceLE, Int.reduceLT, Int.reduceEq, Int.reduceToNat, reduceCtorEq, RR, RB, RZ, RE, fn_out, p56, Rs.ev, mapO, mapS, take_len_self, hl_0, h0_0, h1_0, h2_0, eq_true c1])
  · rw [if_neg c1] at hF
    have hE := Option.some.inj hF; subst hE
    simp only [↓reduceIte, Nat.reduceAdd, Nat.reduceMul, Nat.reduceSub, Nat.reduceLT, Nat.reduceLeDiff, Nat.reduceEqDiff, Nat.reducePow, Int.reducePow, Int.reduceLE, Int.reduceLT, Int.reduceEq, Int.reduceToNat, reduceCtorEq, RR, RB, RZ, RE, opEv, fillV, mapO, mapS, b56, hl_0, h0_0, h1_0, h2_0, eq_false c1]
    exact fin_ret (by simp only [↓reduceIte, Nat.reduceAdd, Nat.reduceMul, Nat.reduceSub, Nat.reduceLT, Nat.reduceLeDiff, Nat.reduceEqDiff, Nat.reducePow, Int.reducePow, Int.reduceLE, Int.reduceLT, Int.reduceEq, Int.reduceToNat, reduceCtorEq, RR, RB, RZ, RE, fn_out, p56, Rs.ev, mapO, mapS, take_len_self, hl_0, h0_0, h1_0, h2_0, eq_false c1])
/-! loop.example/g01273/impl.isPrime -/
def F67 (a0 : Int) : Option Bool :=
  if a0 = 2 then
    some true
  else
    if a0 = 3 then
      some true
    else
      if a0 = 5 then
        some true
      else
        some (decide (a0 = 7))
theorem s67 (a0 : Int)   {r : Bool} (hF : F67 a0 = some r) : ans A 67 [V.int .i64 a0] = some (Enc.enc r) := by
  refine ans_of (f := p67) rfl rfl rfl fun e hl he => ?_
  have h0_0 : e.at 0 = V.int .i64 a0 := he 0 _ rfl
  have hl_0 : e.length = 17 := hl
  clear he hl
  show W A b67 e ⟨[], 0⟩ _
  unfold F67 at hF
  by_cases c1 : a0 = 2
  · rw [if_pos c1] at hF
    have hE := Option.some.inj hF; subst hE
    simp only [↓reduceIte, Nat.reduceAdd, Nat.reduceMul, Nat.reduceSub, Nat.reduceLT, Nat.reduceLeDiff, Nat.reduceEqDiff, Nat.reducePow, Int.reducePow, Int.reduceLE, Int.reduceLT, Int.reduceEq, Int.reduceToNat, reduceCtorEq, RR, RB, RZ, RE, opEv, fillV, mapO, mapS, b67, hl_0, h0_0, eq_true c1]
    exact fin_ret (by simp only [↓reduceIte, Nat.reduceAdd, Nat.reduceMul, Nat.reduceSub, Nat.reduceLT, Nat.reduceLeDiff, Nat.reduceEqDiff, Nat.reducePow, Int.reducePow, Int.reduceLE, Int.reduceLT, Int.reduceEq, Int.reduceToNat, reduceCtorEq, RR, RB, RZ, RE, fn_out, p67, Rs.ev, mapO, mapS, take_len_self, hl_0, h0_0, eq_true c1])
  · rw [if_neg c1] at hF
    by_cases c2 : a0 = 3
    · rw [if_pos c2] at hF
      have hE := Option.some.inj hF; subst hE
      simp only [↓reduceIte, Nat.reduceAdd, Nat.reduceMul, Nat.reduceSub, Nat.reduceLT, Nat.reduceLeDiff, Nat.reduceEqDiff, Nat.reducePow, Int.reducePow, Int.reduceLE, Int.reduceLT, Int.reduceEq, Int.reduceToNat, reduceCtorEq, RR, RB, RZ, RE, opEv, fillV, mapO, mapS, b67, hl_0, h0_0, eq_false c1, eq_true c2]
      exact fin_ret (by simp only [↓reduceIte, Nat.reduceAdd, Nat.reduceMul, Nat.reduceSub, Nat.reduceLT, Nat.reduceLeDiff, Nat.reduceEqDiff, Nat.reducePow, Int.reducePow, Int.reduceLE, Int.reduceLT, Int.reduceEq, Int.reduceToNat, reduceCtorEq, RR, RB, RZ, RE, fn_out, p67, Rs.ev, mapO, mapS, take_len_self, hl_0, h0_0, eq_false c1, eq_true c2])
    · rw [if_neg c2] at hF
      by_cases c3 : a0 = 5
      · rw [if_pos c3] at hF
        have hE := Option.some.inj hF; subst hE
        simp only [↓reduceIte, Nat.reduceAdd, Nat.reduceMul, Nat.reduceSub, Nat.reduceLT, Nat.reduceLeDiff, Nat.reduceEqDiff, Nat.reducePow, Int.reducePow, Int.reduceLE, Int.reduceLT, Int.reduceEq, Int.reduceToNat, reduceCtorEq, RR, RB, RZ, RE, opEv, fillV, mapO, mapS, b67, hl_0, h0_0, eq_false c1, eq_false c2, eq_true c3]
        exact fin_ret (by simp only [↓reduceIte, Nat.reduceAdd, Nat.reduceMul, Nat.reduceSub, Nat.reduceLT, Nat.reduceLeDiff, Nat.reduceEqDiff, Nat.reducePow, Int.reducePow, Int.reduceLE, Int.reduceLT, Int.reduceEq, Int.reduceToNat, reduceCtorEq, RR, RB, RZ, RE, fn_out, p67, Rs.ev, mapO, mapS, take_len_self, hl_0, h0_0, eq_false c1, eq_false c2, eq_true c3])
      · rw [if_neg c3] at hF
        have hE := Option.some.inj hF; subst hE
        simp only [↓reduceIte, Nat.reduceAdd, Nat.reduceMul, Nat.reduceSub, Nat.reduceLT, Nat.reduceLeDiff, Nat.reduceEqDiff, Nat.reducePow, Int.reducePow, Int.reduceLE, Int.reduceLT, Int.reduceEq, Int.reduceToNat, reduceCtorEq, RR, RB, RZ, RE, opEv, fillV, mapO, mapS, b67, hl_0, h0_0, eq_false c1, eq_false c2, eq_false c3]
        exact fin_ret (by simp only [↓reduceIte, Nat.reduceAdd, Nat.reduceMul, Nat.reduceSub, Nat.reduceLT, Nat.reduceLeDiff, Nat.reduceEqDiff, Nat.reducePow, Int.reducePow, Int.reduceLE, Int.reduceLT, Int.reduceEq, Int.reduceToNat, reduceCtorEq, RR, RB, RZ, RE, fn_out, p67, Rs.ev, mapO, mapS, take_len_self, hl_0, h0_0, eq_false c1, eq_false c2, eq_false c3])
/-! slices.IndexFunc(()int64,int64) -/
def F115_1_B (a0 : List Int) (f1 : Int → Option Bool) (v8_1 : Int) (s : Unit) : Option ((Unit) ⊕ ((Unit) ⊕ Int)) :=
  (getI a0 v8_1).bind fun x4 =>
(f1 x4).bind fun x6 =>
if x6 = true then
  some (.inr (.inr v8_1))
else
  some (.inl ())
def F115_1_D (a0 : List Int) (f1 : Int → Option Bool) (v8_1 : Int) (s : Unit) : Option ((Unit) ⊕ Int) :=
  some (.inl ())
def F115 (a0 : List Int) (f1 : Int → Option Bool) : Option Int :=
  (forR 0 (a0.length : Int) (F115_1_B a0 f1) (F115_1_D a0 f1) ()).bind fun t8 => match t8 with
    | .inl _ =>
      some (-1)
    | .inr r9 => some r9
def I115_1 (a0 : List Int) (f1 : Int → Option Bool) (vf1 : V) (v8_1 : Int) (s : Unit) (e : Env) (h : Heap) : Prop :=
  ∃ k2 : Nat, h = ⟨[], k2⟩ ∧ e.length = 19 ∧ e.at 0 = V.isl (List.map Enc.enc a0) ∧ e.at 1 = vf1 ∧ e.at 7 = V.int .i64 (a0.length : Int) ∧ e.at 8 = V.int .i64 v8_1
def P115_1 (a0 : List Int) (f1 : Int → Option Bool) (vf1 : V) (t : (Unit) ⊕ Int) (x : Ex) (e : Env) (h : Heap) : Prop :=
  match t with
  | .inl _ => x = .normal ∧ ∃ k2 : Nat, h = ⟨[], k2⟩ ∧ e.length = 19
  | .inr r => x = .ret ∧ Fin p115 (Enc.enc r) .ret e h
theorem l115_1 (a0 : List Int) (f1 : Int → Option Bool) (vf1 : V) (hf1 : Clo1 A vf1 f1) {lo : Int} {s : Unit} {t : (Unit) ⊕ Int} (hF : forR lo (a0.length : Int) (F115_1_B a0 f1) (F115_1_D a0 f1) s = some t) {e : Env} {h : Heap} (hI : I115_1 a0 f1 vf1 lo s e h) : W A c115_1 e h (P115_1 a0 f1 vf1 t) := by
  obtain ⟨g_f1, fs_f1, cs_f1, hv_f1, hc_f1⟩ := id hf1
  show W A (.block 0 (.loop false b115_1)) e h _
  rw [W_block]
  refine W_forR hF 0 (by obtain ⟨_, rfl, _⟩ := hI; rfl) (I115_1 a0 f1 vf1) hI ?_ ?_
  · rintro v8_1 _ e h ⟨k2, rfl, hl_1, h0_1, h1_1, h7_1, h8_1⟩ hlt hw o ho
    unfold F115_1_B at ho
    obtain ⟨x4, gx4, ho⟩ := bS ho
    obtain ⟨w5a, w5b⟩ := getI_w gx4
    obtain ⟨x6, gx6, ho⟩ := bS ho
    have w7a : ∀ h, mapO (frz h 16) (fs_f1 ++ [V.int .i64 x4] ++ cs_f1) = some (fs_f1 ++ [V.int .i64 x4] ++ cs_f1) := fun h => hc_f1.zf x4 h
    have w7b : List.all (fs_f1 ++ [V.int .i64 x4] ++ cs_f1) (refless 16) = true := hc_f1.zr x4
    have w7c : ans A g_f1 (fs_f1 ++ [V.int .i64 x4] ++ cs_f1) = some (V.bool x6) := hc_f1.ka x4 _ gx6
    cases x6 with
    | true =>
      rw [if_pos rfl] at ho
      have hE := Option.some.inj ho; subst hE
      simp only [↓reduceIte, Nat.reduceAdd, Nat.reduceMul, Nat.reduceSub, Nat.reduceLT, Nat.reduceLeDiff, Nat.reduceEqDiff, Nat.reducePow, Int.reducePow, Int.reduceLE, Int.reduceLT, Int.reduceEq, Int.reduceToNat, reduceCtorEq, RR, RB, RZ, RE, opEv, fillV, mapO, mapS, b115_1, hl_1, h0_1, h1_1, h7_1, h8_1, eq_true hlt, hw, w5a, w5b, hv_f1, w7a, w7b, w7c]
      intro ht; subst ht
      simp only [↓reduceIte, Nat.reduceAdd, Nat.reduceMul, Nat.reduceSub, Nat.reduceLT, Nat.reduceLeDiff, Nat.reduceEqDiff, Nat.reducePow, Int.reducePow, Int.reduceLE, Int.reduceLT, Int.reduceEq, Int.reduceToNat, reduceCtorEq, RR, RB]
      exact And.intro rfl (fin_ret (by simp only [↓reduceIte, Nat.reduceAdd, Nat.reduceMul, Nat.reduceSub, Nat.reduceLT, Nat.reduceLeDiff, Nat.reduceEqDiff, Nat.reducePow, Int.reducePow, Int.reduceLE, Int.reduceLT, Int.reduceEq, Int.reduceToNat, reduceCtorEq, RR, RB, RZ, RE, fn_out, p115, Rs.ev, mapO, mapS, take_len_self, hl_1, h0_1, h1_1, h7_1, h8_1, eq_true hlt, hw, w5a, w5b, hv_f1, w7a, w7b, w7c]))
    | false =>
      rw [if_neg Bool.false_ne_true] at ho
      have hE := Option.some.inj ho; subst hE
      simp only [↓reduceIte, Nat.reduceAdd, Nat.reduceMul, Nat.reduceSub, Nat.reduceLT, Nat.reduceLeDiff, Nat.reduceEqDiff, Nat.reducePow, Int.reducePow, Int.reduceLE, Int.reduceLT, Int.reduceEq, Int.reduceToNat, reduceCtorEq, RR, RB, RZ, RE, opEv, fillV, mapO, mapS, b115_1, hl_1, h0_1, h1_1, h7_1, h8_1, eq_true hlt, hw, w5a, w5b, hv_f1, w7a, w7b, w7c]
      refine And.intro rfl (Exists.intro _ ( And.intro rfl ?_))
      simp only [↓reduceIte, Nat.reduceAdd, Nat.reduceMul, Nat.reduceSub, Nat.reduceLT, Nat.reduceLeDiff, Nat.reduceEqDiff, Nat.reducePow, Int.reducePow, Int.reduceLE, Int.reduceLT, Int.reduceEq, Int.reduceToNat, reduceCtorEq, RR, RB, RZ, RE, hl_1, h0_1, h1_1, h7_1, h8_1, eq_true hlt, hw, w5a, w5b, hv_f1, w7a, w7b, w7c]
  · rintro v8_1 _ e h ⟨k2, rfl, hl_1, h0_1, h1_1, h7_1, h8_1⟩ hge t1 ho
    unfold F115_1_D at ho
    have hE := Option.some.inj ho; subst hE
    simp only [↓reduceIte, Nat.reduceAdd, Nat.reduceMul, Nat.reduceSub, Nat.reduceLT, Nat.reduceLeDiff, Nat.reduceEqDiff, Nat.reducePow, Int.reducePow, Int.reduceLE, Int.reduceLT, Int.reduceEq, Int.reduceToNat, reduceCtorEq, RR, RB, RZ, RE, opEv, fillV, mapO, mapS, b115_1, hl_1, h0_1, h1_1, h7_1, h8_1, eq_false hge]
    intro ht; subst ht
    refine And.intro rfl (Exists.intro _ ( And.intro rfl ?_))
    simp only [↓reduceIte, Nat.reduceAdd, Nat.reduceMul, Nat.reduceSub, Nat.reduceLT, Nat.reduceLeDiff, Nat.reduceEqDiff, Nat.reducePow, Int.reducePow, Int.reduceLE, Int.reduceLT, Int.reduceEq, Int.reduceToNat, reduceCtorEq, RR, RB, RZ, RE, hl_1, h0_1, h1_1, h7_1, h8_1, eq_false hge]
theorem s115 (a0 : List Int) (f1 : Int → Option Bool) {vf1 : V} (hf1 : Clo1 A vf1 f1) {r : Int} (hF : F115 a0 f1 = some r) : ans A 115 [V.isl (List.map Enc.enc a0), vf1] = some (Enc.enc r) := by
  refine ans_of (f := p115) rfl rfl rfl fun e hl he => ?_
  have h0_0 : e.at 0 = V.isl (List.map Enc.enc a0) := he 0 _ rfl
  have h1_0 : e.at 1 = vf1 := he 1 _ rfl
  obtain ⟨g_f1, fs_f1, cs_f1, hv_f1, hc_f1⟩ := id hf1
  have hl_0 : e.length = 19 := hl
  clear he hl
  show W A b115 e ⟨[], 0⟩ _
  unfold F115 at hF
  obtain ⟨t8, gt8, hF⟩ := bS hF
  rcases t8 with _ | r9
  · dsimp only at hF
    simp only [↓reduceIte, Nat.reduceAdd, Nat.reduceMul, Nat.reduceSub, Nat.reduceLT, Nat.reduceLeDiff, Nat.reduceEqDiff, Nat.reducePow, Int.reducePow, Int.reduceLE, Int.reduceLT, Int.reduceEq, Int.reduceToNat, reduceCtorEq, RR, RB, RZ, RE, opEv, fillV, mapO, mapS, b115, hl_0, h0_0, h1_0]
    refine W.mono (l115_1 a0 f1 vf1 hf1 gt8 (Exists.intro _ ( And.intro rfl ?_))) ?_
    · simp only [↓reduceIte, Nat.reduceAdd, Nat.reduceMul, Nat.reduceSub, Nat.reduceLT, Nat.reduceLeDiff, Nat.reduceEqDiff, Nat.reducePow, Int.reducePow, Int.reduceLE, Int.reduceLT, Int.reduceEq, Int.reduceToNat, reduceCtorEq, RR, RB, RZ, RE, hl_0, h0_0, h1_0]
    rintro _ e _ ⟨rfl, k2, rfl, hl_3⟩
    have hE := Option.some.inj hF; subst hE
    simp only [↓reduceIte, Nat.reduceAdd, Nat.reduceMul, Nat.reduceSub, Nat.reduceLT, Nat.reduceLeDiff, Nat.reduceEqDiff, Nat.reducePow, Int.reducePow, Int.reduceLE, Int.reduceLT, Int.reduceEq, Int.reduceToNat, reduceCtorEq, RR, RB, RZ, RE, opEv, fillV, mapO, mapS, hl_3]
    exact fin_ret (by simp only [↓reduceIte, Nat.reduceAdd, Nat.reduceMul, Nat.reduceSub, Nat.reduceLT, Nat.reduceLeDiff, Nat.reduceEqDiff, Nat.reducePow, Int.reducePow, Int.reduceLE, Int.reduceLT, Int.reduceEq, Int.reduceToNat, reduceCtorEq, RR, RB, RZ, RE, fn_out, p115, Rs.ev, mapO, mapS, take_len_self, hl_3])
  · dsimp only at hF
    have hE := Option.some.inj hF; subst hE
    simp only [↓reduceIte, Nat.reduceAdd, Nat.reduceMul, Nat.reduceSub, Nat.reduceLT, Nat.reduceLeDiff, Nat.reduceEqDiff, Nat.reducePow, Int.reducePow, Int.reduceLE, Int.reduceLT, Int.reduceEq, Int.reduceToNat, reduceCtorEq, RR, RB, RZ, RE, opEv, fillV, mapO, mapS, b115, hl_0, h0_0, h1_0]
    refine W.mono (l115_1 a0 f1 vf1 hf1 gt8 (Exists.intro _ ( And.intro rfl ?_))) ?_
    · simp only [↓reduceIte, Nat.reduceAdd, Nat.reduceMul, Nat.reduceSub, Nat.reduceLT, Nat.reduceLeDiff, Nat.reduceEqDiff, Nat.reducePow, Int.reducePow, Int.reduceLE, Int.reduceLT, Int.reduceEq, Int.reduceToNat, reduceCtorEq, RR, RB, RZ, RE, hl_0, h0_0, h1_0]
    rintro _ e h ⟨rfl, hq⟩
    simp only [↓reduceIte, Nat.reduceAdd, Nat.reduceMul, Nat.reduceSub, Nat.reduceLT, Nat.reduceLeDiff, Nat.reduceEqDiff, Nat.reducePow, Int.reducePow, Int.reduceLE, Int.reduceLT, Int.reduceEq, Int.reduceToNat, reduceCtorEq, RR, RB]
    exact hq
/-! slices.ContainsFunc(()int64,int64) -/
def F82 (a0 : List Int) (f1 : Int → Option Bool) : Option Bool :=
  (F115 a0 f1).bind fun x1 =>
  some (decide (0 ≤ x1))
theorem s82 (a0 : List Int) (f1 : Int → Option Bool) {vf1 : V} (hf1 : Clo1 A vf1 f1) {r : Bool} (hF : F82 a0 f1 = some r) : ans A 82 [V.isl (List.map Enc.enc a0), vf1] = some (Enc.enc r) := by
  refine ans_of (f := p82) rfl rfl rfl fun e hl he => ?_
  have h0_0 : e.at 0 = V.isl (List.map Enc.enc a0) := he 0 _ rfl
  have h1_0 : e.at 1 = vf1 := he 1 _ rfl
  obtain ⟨g_f1, fs_f1, cs_f1, hv_f1, hc_f1⟩ := id hf1
  have hl_0 : e.length = 9 := hl
  clear he hl
  show W A b82 e ⟨[], 0⟩ _
  unfold F82 at hF
  obtain ⟨x1, gx1, hF⟩ := bS hF
  have w2 : ans A 115 [V.isl (List.map Enc.enc a0), vf1] = some (V.int .i64 x1) := s115 a0 f1 hf1 gx1
  have hE := Option.some.inj hF; subst hE
  simp only [↓reduceIte, Nat.reduceAdd, Nat.reduceMul, Nat.reduceSub, Nat.reduceLT, Nat.reduceLeDiff, Nat.reduceEqDiff, Nat.reducePow, Int.reducePow, Int.reduceLE, Int.reduceLT, Int.reduceEq, Int.reduceToNat, reduceCtorEq, RR, RB, RZ, RE, opEv, fillV, mapO, mapS, b82, hl_0, h0_0, h1_0, hf1.fz, hf1.rl, w2]
  exact fin_ret (by simp only [↓reduceIte, Nat.reduceAdd, Nat.reduceMul, Nat.reduceSub, Nat.reduceLT, Nat.reduceLeDiff, Nat.reduceEqDiff, Nat.reducePow, Int.reducePow, Int.reduceLE, Int.reduceLT, Int.reduceEq, Int.reduceToNat, reduceCtorEq, RR, RB, RZ, RE, fn_out, p82, Rs.ev, mapO, mapS, take_len_self, hl_0, h0_0, h1_0, hf1.fz, hf1.rl, w2])
/-! loop.example/g01273/impl.size(int64) -/
def F73 (a0 : List Int) : Option Int :=
  some (a0.length : Int)
theorem s73 (a0 : List Int)   {r : Int} (hF : F73 a0 = some r) : ans A 73 [V.isl (List.map Enc.enc a0)] = some (Enc.enc r) := by
  refine ans_of (f := p73) rfl rfl rfl fun e hl he => ?_
  have h0_0 : e.at 0 = V.isl (List.map Enc.enc a0) := he 0 _ rfl
  have hl_0 : e.length = 5 := hl
  clear he hl
  show W A b73 e ⟨[], 0⟩ _
  unfold F73 at hF
  have hE := Option.some.inj hF; subst hE
  simp only [↓reduceIte, Nat.reduceAdd, Nat.reduceMul, Nat.reduceSub, Nat.reduceLT, Nat.reduceLeDiff, Nat.reduceEqDiff, Nat.reducePow, Int.reducePow, Int.reduceLE, Int.reduceLT, Int.reduceEq, Int.reduceToNat, reduceCtorEq, RR, RB, RZ, RE, opEv, fillV, mapO, mapS, b73, hl_0, h0_0]
  exact fin_ret (by simp only [↓reduceIte, Nat.reduceAdd, Nat.reduceMul, Nat.reduceSub, Nat.reduceLT, Nat.reduceLeDiff, Nat.reduceEqDiff, Nat.reducePow, Int.reducePow, Int.reduceLE, Int.reduceLT, Int.reduceEq, Int.reduceToNat, reduceCtorEq, RR, RB, RZ, RE, fn_out, p73, Rs.ev, mapO, mapS, take_len_self, hl_0, h0_0])
/-! (loop.example/g01273/impl.Complex).top -/
def F86 (a0 : GComplex) : Option Int :=
  (chk ((a0.Dims.length : Int) - 1)).bind fun x3 =>
  some x3
theorem s86 (a0 : GComplex)   {r : Int} (hF : F86 a0 = some r) : ans A 86 [V.agg [V.int .i64 a0.Prime, V.isl (List.map Enc.enc a0.Dims), V.isl (List.map Enc.enc a0.Maps)]] = some (Enc.enc r) := by
  refine ans_of (f := p86) rfl rfl rfl fun e hl he => ?_
  have h0_0 : e.at 0 = V.agg [V.int .i64 a0.Prime, V.isl (List.map Enc.enc a0.Dims), V.isl (List.map Enc.enc a0.Maps)] := he 0 _ rfl
  have hl_0 : e.length = 7 := hl
  clear he hl
  show W A b86 e ⟨[], 0⟩ _
  unfold F86 at hF
  have w2 : ans A 73 [V.isl (List.map Enc.enc a0.Dims)] = some (V.int .i64 (a0.Dims.length : Int)) := s73 a0.Dims  rfl
  obtain ⟨x3, gx3, hF⟩ := bS hF
  have wx3 := chk_w gx3
  have hE := Option.some.inj hF; subst hE
  simp only [↓reduceIte, Nat.reduceAdd, Nat.reduceMul, Nat.reduceSub, Nat.reduceLT, Nat.reduceLeDiff, Nat.reduceEqDiff, Nat.reducePow, Int.reducePow, Int.reduceLE, Int.reduceLT, Int.reduceEq, Int.reduceToNat, reduceCtorEq, RR, RB, RZ, RE, opEv, fillV, mapO, mapS, b86, hl_0, h0_0, w2, wx3]
  exact fin_ret (by simp only [↓reduceIte, Nat.reduceAdd, Nat.reduceMul, Nat.reduceSub, Nat.reduceLT, Nat.reduceLeDiff, Nat.reduceEqDiff, Nat.reducePow, Int.reducePow, Int.reduceLE, Int.reduceLT, Int.reduceEq, Int.reduceToNat, reduceCtorEq, RR, RB, RZ, RE, fn_out, p86, Rs.ev, mapO, mapS, take_len_self, hl_0, h0_0, w2, wx3])
/-! loop.example/g01273/impl.size(()()int64) -/
def F87 (a0 : List (List (List Int))) : Option Int :=
  some (a0.length : Int)
theorem s87 (a0 : List (List (List Int)))   {r : Int} (hF : F87 a0 = some r) : ans A 87 [V.isl (List.map Enc.enc a0)] = some (Enc.enc r) := by
  refine ans_of (f := p87) rfl rfl rfl fun e hl he => ?_
  have h0_0 : e.at 0 = V.isl (List.map Enc.enc a0) := he 0 _ rfl
  have hl_0 : e.length = 5 := hl
  clear he hl
  show W A b87 e ⟨[], 0⟩ _
  unfold F87 at hF
  have hE := Option.some.inj hF; subst hE
  simp only [↓reduceIte, Nat.reduceAdd, Nat.reduceMul, Nat.reduceSub, Nat.reduceLT, Nat.reduceLeDiff, Nat.reduceEqDiff, Nat.reducePow, Int.reducePow, Int.reduceLE, Int.reduceLT, Int.reduceEq, Int.reduceToNat, reduceCtorEq, RR, RB, RZ, RE, opEv, fillV, mapO, mapS, b87, hl_0, h0_0]
  exact fin_ret (by simp only [↓reduceIte, Nat.reduceAdd, Nat.reduceMul, Nat.reduceSub, Nat.reduceLT, Nat.reduceLeDiff, Nat.reduceEqDiff, Nat.reducePow, Int.reducePow, Int.reduceLE, Int.reduceLT, Int.reduceEq, Int.reduceToNat, reduceCtorEq, RR, RB, RZ, RE, fn_out, p87, Rs.ev, mapO, mapS, take_len_self, hl_0, h0_0])
/-! loop.example/g01273/impl.IsComplex$1 -/
def F88 (a0 : Int) : Option Bool :=
  (F56 a0 0 8).bind fun x1 =>
  some (!x1)
theorem s88 (a0 : Int)   {r : Bool} (hF : F88 a0 = some r) : ans A 88 [V.int .i64 a0] = some (Enc.enc r) := by
  refine ans_of (f := p88) rfl rfl rfl fun e hl he => ?_
  have h0_0 : e.at 0 = V.int .i64 a0 := he 0 _ rfl
  have hl_0 : e.length = 6 := hl
  clear he hl
  show W A b88 e ⟨[], 0⟩ _
  unfold F88 at hF
  obtain ⟨x1, gx1, hF⟩ := bS hF
  have w2 : ans A 56 [V.int .i64 a0, V.int .i64 0, V.int .i64 8] = some (V.bool x1) := s56 a0 0 8  gx1
  have hE := Option.some.inj hF; subst hE
  simp only [↓reduceIte, Nat.reduceAdd, Nat.reduceMul, Nat.reduceSub, Nat.reduceLT, Nat.reduceLeDiff, Nat.reduceEqDiff, Nat.reducePow, Int.reducePow, Int.reduceLE, Int.reduceLT, Int.reduceEq, Int.reduceToNat, reduceCtorEq, RR, RB, RZ, RE, opEv, fillV, mapO, mapS, b88, hl_0, h0_0, w2]
  exact fin_ret (by simp only [↓reduceIte, Nat.reduceAdd, Nat.reduceMul, Nat.reduceSub, Nat.reduceLT, Nat.reduceLeDiff, Nat.reduceEqDiff, Nat.reducePow, Int.reducePow, Int.reduceLE, Int.reduceLT, Int.reduceEq, Int.reduceToNat, reduceCtorEq, RR, RB, RZ, RE, fn_out, p88, Rs.ev, mapO, mapS, take_len_self, hl_0, h0_0, w2])
/-! loop.example/g01273/impl.size(()int64) -/
def F89 (a0 : List (List Int)) : Option Int :=
  some (a0.length : Int)
theorem s89 (a0 : List (List Int))   {r : Int} (hF : F89 a0 = some r) : ans A 89 [V.isl (List.map Enc.enc a0)] = some (Enc.enc r) := by
  refine ans_of (f := p89) rfl rfl rfl fun e hl he => ?_
  have h0_0 : e.at 0 = V.isl (List.map Enc.enc a0) := he 0 _ rfl
  have hl_0 : e.length = 5 := hl
  clear he hl
  show W A b89 e ⟨[], 0⟩ _
  unfold F89 at hF
  have hE := Option.some.inj hF; subst hE
  simp only [↓reduceIte, Nat.reduceAdd, Nat.reduceMul, Nat.reduceSub, Nat.reduceLT, Nat.reduceLeDiff, Nat.reduceEqDiff, Nat.reducePow, Int.reducePow, Int.reduceLE, Int.reduceLT, Int.reduceEq, Int.reduceToNat, reduceCtorEq, RR, RB, RZ, RE, opEv, fillV, mapO, mapS, b89, hl_0, h0_0]
  exact fin_ret (by simp only [↓reduceIte, Nat.reduceAdd, Nat.reduceMul, Nat.reduceSub, Nat.reduceLT, Nat.reduceLeDiff, Nat.reduceEqDiff, Nat.reducePow, Int.reducePow, Int.reduceLE, Int.reduceLT, Int.reduceEq, Int.reduceToNat, reduceCtorEq, RR, RB, RZ, RE, fn_out, p89, Rs.ev, mapO, mapS, take_len_self, hl_0, h0_0])
/-! loop.example/g01273/impl.isVector$1 -/
def F130 (a0 : Int) (d0 : Int) : Option Bool :=
  (chk (d0 - 1)).bind fun x1 =>
  (F56 a0 0 x1).bind fun x2 =>
  some (!x2)
theorem s130 (a0 : Int) (d0 : Int)   {r : Bool} (hF : F130 a0 d0 = some r) : ans A 130 [V.int .i64 a0, V.iptr [V.int .i64 d0]] = some (Enc.enc r) := by
  refine ans_of (f := p130) rfl rfl rfl fun e hl he => ?_
  have h0_0 : e.at 0 = V.int .i64 a0 := he 0 _ rfl
  have h1_0 : e.at 1 = V.iptr [V.int .i64 d0] := he 1 _ rfl
  have hl_0 : e.length = 9 := hl
  clear he hl
  show W A b130 e ⟨[], 0⟩ _
  unfold F130 at hF
  obtain ⟨x1, gx1, hF⟩ := bS hF
  have wx1 := chk_w gx1
  obtain ⟨x2, gx2, hF⟩ := bS hF
  have w3 : ans A 56 [V.int .i64 a0, V.int .i64 0, V.int .i64 x1] = some (V.bool x2) := s56 a0 0 x1  gx2
  have hE := Option.some.inj hF; subst hE
  simp only [↓reduceIte, Nat.reduceAdd, Nat.reduceMul, Nat.reduceSub, Nat.reduceLT, Nat.reduceLeDiff, Nat.reduceEqDiff, Nat.reducePow, Int.reducePow, Int.reduceLE, Int.reduceLT, Int.reduceEq, Int.reduceToNat, reduceCtorEq, RR, RB, RZ, RE, opEv, fillV, mapO, mapS, b130, hl_0, h0_0, h1_0, wx1, w3]
  exact fin_ret (by simp only [↓reduceIte, Nat.reduceAdd, Nat.reduceMul, Nat.reduceSub, Nat.reduceLT, Nat.reduceLeDiff, Nat.reduceEqDiff, Nat.reducePow, Int.reducePow, Int.reduceLE, Int.reduceLT, Int.reduceEq, Int.reduceToNat, reduceCtorEq, RR, RB, RZ, RE, fn_out, p130, Rs.ev, mapO, mapS, take_len_self, hl_0, h0_0, h1_0, wx1, w3])
/-! loop.example/g01273/impl.isVector -/
def F129 (a0 : Int) (a1 : Int) (a2 : List Int) : Option Bool :=
  if (a2.length : Int) = a1 then
    (F82 a2 (fun x => F130 x a0)).bind fun x4 =>
    some (!x4)
  else
    some false
theorem s129 (a0 : Int) (a1 : Int) (a2 : List Int)   {r : Bool} (hF : F129 a0 a1 a2 = some r) : ans A 129 [V.int .i64 a0, V.int .i64 a1, V.isl (List.map Enc.enc a2)] = some (Enc.enc r) := by
  refine ans_of (f := p129) rfl rfl rfl fun e hl he => ?_
  have h0_0 : e.at 0 = V.int .i64 a0 := he 0 _ rfl
  have h1_0 : e.at 1 = V.int .i64 a1 := he 1 _ rfl
  have h2_0 : e.at 2 = V.isl (List.map Enc.enc a2) := he 2 _ rfl
  have hl_0 : e.length = 17 := hl
  clear he hl
  show W A b129 e ⟨[], 0⟩ _
  unfold F129 at hF
  have w2 : ans A 73 [V.isl (List.map Enc.enc a2)] = some (V.int .i64 (a2.length : Int)) := s73 a2  rfl
  by_cases c3 : (a2.length : Int) = a1
  · rw [if_pos c3] at hF
    obtain ⟨x4, gx4, hF⟩ := bS hF
    have w5 : ans A 82 [V.isl (List.map Enc.enc a2), V.fn 130 [] [V.iptr [V.int .i64 a0]]] = some (V.bool x4) := s82 a2 (fun x => F130 x a0) (Clo1.of (by intro h f; simp only [RZ, mapO]) (by intro h f; simp only [RZ, mapO]) (by intro f; simp only [RZ, RB]) (by intro f; simp only [RZ, RB]) (fun x _ hr => s130 x a0 hr)) gx4
    have hE := Option.some.inj hF; subst hE
    simp only [↓reduceIte, Nat.reduceAdd, Nat.reduceMul, Nat.reduceSub, Nat.reduceLT, Nat.reduceLeDiff, Nat.reduceEqDiff, Nat.reducePow, Int.reducePow, Int.reduceLE, Int.reduceLT, Int.reduceEq, Int.reduceToNat, reduceCtorEq, RR, RB, RZ, RE, opEv, fillV, mapO, mapS, b129, hl_0, h0_0, h1_0, h2_0, w2, eq_true c3, w5]
    exact fin_ret (by simp only [↓reduceIte, Nat.reduceAdd, Nat.reduceMul, Nat.reduceSub, Nat.reduceLT, Nat.reduceLeDiff, Nat.reduceEqDiff, Nat.reducePow, Int.reducePow, Int.reduceLE, Int.reduceLT, Int.reduceEq, Int.reduceToNat, reduceCtorEq, RR, RB, RZ, RE, fn_out, p129, Rs.ev, mapO, mapS, take_len_self, hl_0, h0_0, h1_0, h2_0, w2, eq_true c3, w5])
  · rw [if_neg c3] at hF
    have hE := Option.some.inj hF; subst hE
    simp only [↓reduceIte, Nat.reduceAdd, Nat.reduceMul, Nat.reduceSub, Nat.reduceLT, Nat.reduceLeDiff, Nat.reduceEqDiff, Nat.reducePow, Int.reducePow, Int.reduceLE, Int.reduceLT, Int.reduceEq, Int.reduceToNat, reduceCtorEq, RR, RB, RZ, RE, opEv, fillV, mapO, mapS, b129, hl_0, h0_0, h1_0, h2_0, w2, eq_false c3]
    exact fin_ret (by simp only [↓reduceIte, Nat.reduceAdd, Nat.reduceMul, Nat.reduceSub, Nat.reduceLT, Nat.reduceLeDiff, Nat.reduceEqDiff, Nat.reducePow, Int.reducePow, Int.reduceLE, Int.reduceLT, Int.reduceEq, Int.reduceToNat, reduceCtorEq, RR, RB, RZ, RE, fn_out, p129, Rs.ev, mapO, mapS, take_len_self, hl_0, h0_0, h1_0, h2_0, w2, eq_false c3])
/-! loop.example/g01273/impl.areRows$1 -/
def F116 (a0 : List Int) (d0 : Int) (d1 : Int) : Option Bool :=
  (F129 d0 d1 a0).bind fun x1 =>
  some (!x1)
theorem s116 (a0 : List Int) (d0 : Int) (d1 : Int)   {r : Bool} (hF : F116 a0 d0 d1 = some r) : ans A 116 [V.isl (List.map Enc.enc a0), V.iptr [V.int .i64 d0], V.iptr [V.int .i64 d1]] = some (Enc.enc r) := by
  refine ans_of (f := p116) rfl rfl rfl fun e hl he => ?_
  have h0_0 : e.at 0 = V.isl (List.map Enc.enc a0) := he 0 _ rfl
  have h1_0 : e.at 1 = V.iptr [V.int .i64 d0] := he 1 _ rfl
  have h2_0 : e.at 2 = V.iptr [V.int .i64 d1] := he 2 _ rfl
  have hl_0 : e.length = 10 := hl
  clear he hl
  show W A b116 e ⟨[], 0⟩ _
  unfold F116 at hF
  obtain ⟨x1, gx1, hF⟩ := bS hF
  have w2 : ans A 129 [V.int .i64 d0, V.int .i64 d1, V.isl (List.map Enc.enc a0)] = some (V.bool x1) := s129 d0 d1 a0  gx1
  have hE := Option.some.inj hF; subst hE
  simp only [↓reduceIte, Nat.reduceAdd, Nat.reduceMul, Nat.reduceSub, Nat.reduceLT, Nat.reduceLeDiff, Nat.reduceEqDiff, Nat.reducePow, Int.reducePow, Int.reduceLE, Int.reduceLT, Int.reduceEq, Int.reduceToNat, reduceCtorEq, RR, RB, RZ, RE, opEv, fillV, mapO, mapS, b116, hl_0, h0_0, h1_0, h2_0, w2]
  exact fin_ret (by simp only [↓reduceIte, Nat.reduceAdd, Nat.reduceMul, Nat.reduceSub, Nat.reduceLT, Nat.reduceLeDiff, Nat.reduceEqDiff, Nat.reducePow, Int.reducePow, Int.reduceLE, Int.reduceLT, Int.reduceEq, Int.reduceToNat, reduceCtorEq, RR, RB, RZ, RE, fn_out, p116, Rs.ev, mapO, mapS, take_len_self, hl_0, h0_0, h1_0, h2_0, w2])
/-! slices.IndexFunc(()()int64,()int64) -/
def F128_1_B (a0 : List (List Int)) (f1 : (List Int) → Option Bool) (v8_1 : Int) (s : Unit) : Option ((Unit) ⊕ ((Unit) ⊕ Int)) :=
  (getI a0 v8_1).bind fun x4 =>
(f1 x4).bind fun x6 =>
if x6 = true then
  some (.inr (.inr v8_1))
else
  some (.inl ())
def F128_1_D (a0 : List (List Int)) (f1 : (List Int) → Option Bool) (v8_1 : Int) (s : Unit) : Option ((Unit) ⊕ Int) :=
  some (.inl ())
def F128 (a0 : List (List Int)) (f1 : (List Int) → Option Bool) : Option Int :=
  (forR 0 (a0.length : Int) (F128_1_B a0 f1) (F128_1_D a0 f1) ()).bind fun t8 => match t8 with
    | .inl _ =>
      some (-1)
    | .inr r9 => some r9
def I128_1 (a0 : List (List Int)) (f1 : (List Int) → Option Bool) (vf1 : V) (v8_1 : Int) (s : Unit) (e : Env) (h : Heap) : Prop :=
  ∃ k2 : Nat, h = ⟨[], k2⟩ ∧ e.length = 19 ∧ e.at 0 = V.isl (List.map Enc.enc a0) ∧ e.at 1 = vf1 ∧ e.at 7 = V.int .i64 (a0.length : Int) ∧ e.at 8 = V.int .i64 v8_1
def P128_1 (a0 : List (List Int)) (f1 : (List Int) → Option Bool) (vf1 : V) (t : (Unit) ⊕ Int) (x : Ex) (e : Env) (h : Heap) : Prop :=
  match t with
  | .inl _ => x = .normal ∧ ∃ k2 : Nat, h = ⟨[], k2⟩ ∧ e.length = 19
  | .inr r => x = .ret ∧ Fin p128 (Enc.enc r) .ret e h
theorem l128_1 (a0 : List (List Int)) (f1 : (List Int) → Option Bool) (vf1 : V) (hf1 : Clo1 A vf1 f1) {lo : Int} {s : Unit} {t : (Unit) ⊕ Int} (hF : forR lo (a0.length : Int) (F128_1_B a0 f1) (F128_1_D a0 f1) s = some t) {e : Env} {h : Heap} (hI : I128_1 a0 f1 vf1 lo s e h) : W A c128_1 e h (P128_1 a0 f1 vf1 t) := by
  obtain ⟨g_f1, fs_f1, cs_f1, hv_f1, hc_f1⟩ := id hf1
  show W A (.block 0 (.loop false b128_1)) e h _
  rw [W_block]
  refine W_forR hF 0 (by obtain ⟨_, rfl, _⟩ := hI; rfl) (I128_1 a0 f1 vf1) hI ?_ ?_
  · rintro v8_1 _ e h ⟨k2, rfl, hl_1, h0_1, h1_1, h7_1, h8_1⟩ hlt hw o ho
    unfold F128_1_B at ho
    obtain ⟨x4, gx4, ho⟩ := bS ho
    obtain ⟨w5a, w5b⟩ := getI_w gx4
    obtain ⟨x6, gx6, ho⟩ := bS ho
    have w7a : ∀ h, mapO (frz h 16) (fs_f1 ++ [V.isl (List.map Enc.enc x4)] ++ cs_f1) = some (fs_f1 ++ [V.isl (List.map Enc.enc x4)] ++ cs_f1) := fun h => hc_f1.zf x4 h
    have w7b : List.all (fs_f1 ++ [V.isl (List.map Enc.enc x4)] ++ cs_f1) (refless 16) = true := hc_f1.zr x4
    have w7c : ans A g_f1 (fs_f1 ++ [V.isl (List.map Enc.enc x4)] ++ cs_f1) = some (V.bool x6) := hc_f1.ka x4 _ gx6
    cases x6 with
    | true =>
      rw [if_pos rfl] at ho
      have hE := Option.some.inj ho; subst hE
      simp only [↓reduceIte, Nat.reduceAdd, Nat.reduceMul, Nat.reduceSub, Nat.reduceLT, Nat.reduceLeDiff, Nat.reduceEqDiff, Nat.reducePow, Int.reducePow, Int.reduceLE, Int.reduceLT, Int.reduceEq, Int.reduceToNat, reduceCtorEq, RR, RB, RZ, RE, opEv, fillV, mapO, mapS, b128_1, hl_1, h0_1, h1_1, h7_1, h8_1, eq_true hlt, hw, w5a, w5b, hv_f1, w7a, w7b, w7c]
      intro ht; subst ht
      simp only [↓reduceIte, Nat.reduceAdd, Nat.reduceMul, Nat.reduceSub, Nat.reduceLT, Nat.reduceLeDiff, Nat.reduceEqDiff, Nat.reducePow, Int.reducePow, Int.reduceLE, Int.reduceLT, Int.reduceEq, Int.reduceToNat, reduceCtorEq, RR, RB]
      exact And.intro rfl (fin_ret (by simp only [↓reduceIte, Nat.reduceAdd, Nat.reduceMul, Nat.reduceSub, Nat.reduceLT, Nat.reduceLeDiff, Nat.reduceEqDiff, Nat.reducePow, Int.reducePow, Int.reduceLE, Int.reduceLT, Int.reduceEq, Int.reduceToNat, reduceCtorEq, RR, RB, RZ, RE, fn_out, p128, Rs.ev, mapO, mapS, take_len_self, hl_1, h0_1, h1_1, h7_1, h8_1, eq_true hlt, hw, w5a, w5b, hv_f1, w7a, w7b, w7c]))
    | false =>
      rw [if_neg Bool.false_ne_true] at ho
      have hE := Option.some.inj ho; subst hE
      simp only [↓reduceIte, Nat.reduceAdd, Nat.reduceMul, Nat.reduceSub, Nat.reduceLT, Nat.reduceLeDiff, Nat.reduceEqDiff, Nat.reducePow, Int.reducePow, Int.reduceLE, Int.reduceLT, Int.reduceEq, Int.reduceToNat, reduceCtorEq, RR, RB, RZ, RE, opEv, fillV, mapO, mapS, b128_1, hl_1, h0_1, h1_1, h7_1, h8_1, eq_true hlt, hw, w5a, w5b, hv_f1, w7a, w7b, w7c]
      refine And.intro rfl (Exists.intro _ ( And.intro rfl ?_))
      simp only [↓reduceIte, Nat.reduceAdd, Nat.reduceMul, Nat.reduceSub, Nat.reduceLT, Nat.reduceLeDiff, Nat.reduceEqDiff, Nat.reducePow, Int.reducePow, Int.reduceLE, Int.reduceLT, Int.reduceEq, Int.reduceToNat, reduceCtorEq, RR, RB, RZ, RE, hl_1, h0_1, h1_1, h7_1, h8_1, eq_true hlt, hw, w5a, w5b, hv_f1, w7a, w7b, w7c]
  · rintro v8_1 _ e h ⟨k2, rfl, hl_1, h0_1, h1_1, h7_1, h8_1⟩ hge t1 ho
    unfold F128_1_D at ho
    have hE := Option.some.inj ho; subst hE
    simp only [↓reduceIte, Nat.reduceAdd, Nat.reduceMul, Nat.reduceSub, Nat.reduceLT, Nat.reduceLeDiff, Nat.reduceEqDiff, Nat.reducePow, Int.reducePow, Int.reduceLE, Int.reduceLT, Int.reduceEq, Int.reduceToNat, reduceCtorEq, RR, RB, RZ, RE, opEv, fillV, mapO, mapS, b128_1, hl_1, h0_1, h1_1, h7_1, h8_1, eq_false hge]
    intro ht; subst ht
    refine And.intro rfl (Exists.intro _ ( And.intro rfl ?_))
    simp only [↓reduceIte, Nat.reduceAdd, Nat.reduceMul, Nat.reduceSub, Nat.reduceLT, Nat.reduceLeDiff, Nat.reduceEqDiff, Nat.reducePow, Int.reducePow, Int.reduceLE, Int.reduceLT, Int.reduceEq, Int.reduceToNat, reduceCtorEq, RR, RB, RZ, RE, hl_1, h0_1, h1_1, h7_1, h8_1, eq_false hge]
theorem s128 (a0 : List (List Int)) (f1 : (List Int) → Option Bool) {vf1 : V} (hf1 : Clo1 A vf1 f1) {r : Int} (hF : F128 a0 f1 = some r) : ans A 128 [V.isl (List.map Enc.enc a0), vf1] = some (Enc.enc r) := by
  refine ans_of (f := p128) rfl rfl rfl fun e hl he => ?_
  have h0_0 : e.at 0 = V.isl (List.map Enc.enc a0) := he 0 _ rfl
  have h1_0 : e.at 1 = vf1 := he 1 _ rfl
  obtain ⟨g_f1, fs_f1, cs_f1, hv_f1, hc_f1⟩ := id hf1
  have hl_0 : e.length = 19 := hl
  clear he hl
  show W A b128 e ⟨[], 0⟩ _
  unfold F128 at hF
  obtain ⟨t8, gt8, hF⟩ := bS hF
  rcases t8 with _ | r9
  · dsimp only at hF
    simp only [↓reduceIte, Nat.reduceAdd, Nat.reduceMul, Nat.reduceSub, Nat.reduceLT, Nat.reduceLeDiff, Nat.reduceEqDiff, Nat.reducePow, Int.reducePow, Int.reduceLE, Int.reduceLT, Int.reduceEq, Int.reduceToNat, reduceCtorEq, RR, RB, RZ, RE, opEv, fillV, mapO, mapS, b128, hl_0, h0_0, h1_0]
    refine W.mono (l128_1 a0 f1 vf1 hf1 gt8 (Exists.intro _ ( And.intro rfl ?_))) ?_
    · simp only [↓reduceIte, Nat.reduceAdd, Nat.reduceMul, Nat.reduceSub, Nat.reduceLT, Nat.reduceLeDiff, Nat.reduceEqDiff, Nat.reducePow, Int.reducePow, Int.reduceLE, Int.reduceLT, Int.reduceEq, Int.reduceToNat, reduceCtorEq, RR, RB, RZ, RE, hl_0, h0_0, h1_0]
    rintro _ e _ ⟨rfl, k2, rfl, hl_3⟩
    have hE := Option.some.inj hF; subst hE
    simp only [↓reduceIte, Nat.reduceAdd, Nat.reduceMul, Nat.reduceSub, Nat.reduceLT, Nat.reduceLeDiff, Nat.reduceEqDiff, Nat.reducePow, Int.reducePow, Int.reduceLE, Int.reduceLT, Int.reduceEq, Int.reduceToNat, reduceCtorEq, RR, RB, RZ, RE, opEv, fillV, mapO, mapS, hl_3]
    exact fin_ret (by simp only [↓reduceIte, Nat.reduceAdd, Nat.reduceMul, Nat.reduceSub, Nat.reduceLT, Nat.reduceLeDiff, Nat.reduceEqDiff, Nat.reducePow, Int.reducePow, Int.reduceLE, Int.reduceLT, Int.reduceEq, Int.reduceToNat, reduceCtorEq, RR, RB, RZ, RE, fn_out, p128, Rs.ev, mapO, mapS, take_len_self, hl_3])
  · dsimp only at hF
    have hE := Option.some.inj hF; subst hE
    simp only [↓reduceIte, Nat.reduceAdd, Nat.reduceMul, Nat.reduceSub, Nat.reduceLT, Nat.reduceLeDiff, Nat.reduceEqDiff, Nat.reducePow, Int.reducePow, Int.reduceLE, Int.reduceLT, Int.reduceEq, Int.reduceToNat, reduceCtorEq, RR, RB, RZ, RE, opEv, fillV, mapO, mapS, b128, hl_0, h0_0, h1_0]
    refine W.mono (l128_1 a0 f1 vf1 hf1 gt8 (Exists.intro _ ( And.intro rfl ?_))) ?_
    · simp only [↓reduceIte, Nat.reduceAdd, Nat.reduceMul, Nat.reduceSub, Nat.reduceLT, Nat.reduceLeDiff, Nat.reduceEqDiff, Nat.reducePow, Int.reducePow, Int.reduceLE, Int.reduceLT, Int.reduceEq, Int.reduceToNat, reduceCtorEq, RR, RB, RZ, RE, hl_0, h0_0, h1_0]
    rintro _ e h ⟨rfl, hq⟩
    simp only [↓reduceIte, Nat.reduceAdd, Nat.reduceMul, Nat.reduceSub, Nat.reduceLT, Nat.reduceLeDiff, Nat.reduceEqDiff, Nat.reducePow, Int.reducePow, Int.reduceLE, Int.reduceLT, Int.reduceEq, Int.reduceToNat, reduceCtorEq, RR, RB]
    exact hq
/-! slices.ContainsFunc(()()int64,()int64) -/
def F117 (a0 : List (List Int)) (f1 : (List Int) → Option Bool) : Option Bool :=
  (F128 a0 f1).bind fun x1 =>
  some (decide (0 ≤ x1))
theorem s117 (a0 : List (List Int)) (f1 : (List Int) → Option Bool) {vf1 : V} (hf1 : Clo1 A vf1 f1) {r : Bool} (hF : F117 a0 f1 = some r) : ans A 117 [V.isl (List.map Enc.enc a0), vf1] = some (Enc.enc r) := by
  refine ans_of (f := p117) rfl rfl rfl fun e hl he => ?_
  have h0_0 : e.at 0 = V.isl (List.map Enc.enc a0) := he 0 _ rfl
  have h1_0 : e.at 1 = vf1 := he 1 _ rfl
  obtain ⟨g_f1, fs_f1, cs_f1, hv_f1, hc_f1⟩ := id hf1
  have hl_0 : e.length = 9 := hl
  clear he hl
  show W A b117 e ⟨[], 0⟩ _
  unfold F117 at hF
  obtain ⟨x1, gx1, hF⟩ := bS hF
  have w2 : ans A 128 [V.isl (List.map Enc.enc a0), vf1] = some (V.int .i64 x1) := s128 a0 f1 hf1 gx1
  have hE := Option.some.inj hF; subst hE
  simp only [↓reduceIte, Nat.reduceAdd, Nat.reduceMul, Nat.reduceSub, Nat.reduceLT, Nat.reduceLeDiff, Nat.reduceEqDiff, Nat.reducePow, Int.reducePow, Int.reduceLE, Int.reduceLT, Int.reduceEq, Int.reduceToNat, reduceCtorEq, RR, RB, RZ, RE, opEv, fillV, mapO, mapS, b117, hl_0, h0_0, h1_0, hf1.fz, hf1.rl, w2]
  exact fin_ret (by simp only [↓reduceIte, Nat.reduceAdd, Nat.reduceMul, Nat.reduceSub, Nat.reduceLT, Nat.reduceLeDiff, Nat.reduceEqDiff, Nat.reducePow, Int.reducePow, Int.reduceLE, Int.reduceLT, Int.reduceEq, Int.reduceToNat, reduceCtorEq, RR, RB, RZ, RE, fn_out, p117, Rs.ev, mapO, mapS, take_len_self, hl_0, h0_0, h1_0, hf1.fz, hf1.rl, w2])
/-! loop.example/g01273/impl.areRows -/
def F90 (a0 : Int) (a1 : Int) (a2 : List (List Int)) : Option Bool :=
  (F117 a2 (fun x => F116 x a0 a1)).bind fun x1 =>
  some (!x1)
theorem s90 (a0 : Int) (a1 : Int) (a2 : List (List Int))   {r : Bool} (hF : F90 a0 a1 a2 = some r) : ans A 90 [V.int .i64 a0, V.int .i64 a1, V.isl (List.map Enc.enc a2)] = some (Enc.enc r) := by
  refine ans_of (f := p90) rfl rfl rfl fun e hl he => ?_
  have h0_0 : e.at 0 = V.int .i64 a0 := he 0 _ rfl
  have h1_0 : e.at 1 = V.int .i64 a1 := he 1 _ rfl
  have h2_0 : e.at 2 = V.isl (List.map Enc.enc a2) := he 2 _ rfl
  have hl_0 : e.length = 11 := hl
  clear he hl
  show W A b90 e ⟨[], 0⟩ _
  unfold F90 at hF
  obtain ⟨x1, gx1, hF⟩ := bS hF
  have w2 : ans A 117 [V.isl (List.map Enc.enc a2), V.fn 116 [] [V.iptr [V.int .i64 a0], V.iptr [V.int .i64 a1]]] = some (V.bool x1) := s117 a2 (fun x => F116 x a0 a1) (Clo1.of (by intro h f; simp only [RZ, mapO]) (by intro h f; simp only [RZ, mapO]) (by intro f; simp only [RZ, RB]) (by intro f; simp only [RZ, RB]) (fun x _ hr => s116 x a0 a1 hr)) gx1
  have hE := Option.some.inj hF; subst hE
  simp only [↓reduceIte, Nat.reduceAdd, Nat.reduceMul, Nat.reduceSub, Nat.reduceLT, Nat.reduceLeDiff, Nat.reduceEqDiff, Nat.reducePow, Int.reducePow, Int.reduceLE, Int.reduceLT, Int.reduceEq, Int.reduceToNat, reduceCtorEq, RR, RB, RZ, RE, opEv, fillV, mapO, mapS, b90, hl_0, h0_0, h1_0, h2_0, w2]
  exact fin_ret (by simp only [↓reduceIte, Nat.reduceAdd, Nat.reduceMul, Nat.reduceSub, Nat.reduceLT, Nat.reduceLeDiff, Nat.reduceEqDiff, Nat.reducePow, Int.reducePow, Int.reduceLE, Int.reduceLT, Int.reduceEq, Int.reduceToNat, reduceCtorEq, RR, RB, RZ, RE, fn_out, p90, Rs.ev, mapO, mapS, take_len_self, hl_0, h0_0, h1_0, h2_0, w2])
/-! loop.example/g01273/impl.combine -/
def F119_2_B (a0 : Int) (a2 : List Int) (a3 : List (List Int)) (v18_1 : Int) (x7 : Int) (x9 : List Int) (v28_2 : Int) (o0_2 : (List Int)) : Option (((List Int)) ⊕ ((List Int))) :=
  (getI x9 v28_2).bind fun x15 =>
(getI o0_2 v28_2).bind fun x17 =>
(chk (x7 * x15)).bind fun x19 =>
(chk (x17 + x19)).bind fun x20 =>
(remI x20 a0).bind fun x21 =>
(setI o0_2 v28_2 x21).bind fun l23 =>
some (.inl l23)
def F119_2_D (a0 : Int) (a2 : List Int) (a3 : List (List Int)) (v18_1 : Int) (x7 : Int) (x9 : List Int) (v28_2 : Int) (o0_2 : (List Int)) : Option ((List Int)) :=
  some o0_2
def F119_1_B (a0 : Int) (a2 : List Int) (a3 : List (List Int)) (v18_1 : Int) (o0_1 : (List Int)) : Option (((List Int)) ⊕ ((List Int))) :=
  (getI a2 v18_1).bind fun x7 =>
(getI a3 v18_1).bind fun x9 =>
(forR 0 (x9.length : Int) (F119_2_B a0 a2 a3 v18_1 x7 x9) (F119_2_D a0 a2 a3 v18_1 x7 x9) o0_1).bind fun zo0_2 =>
some (.inl zo0_2)
def F119_1_D (a0 : Int) (a2 : List Int) (a3 : List (List Int)) (v18_1 : Int) (o0_1 : (List Int)) : Option ((List Int)) :=
  some o0_1
def F119 (a0 : Int) (a1 : Int) (a2 : List Int) (a3 : List (List Int)) : Option (List Int) :=
  (mkL 8 a1 0).bind fun l1 =>
  (forR 0 (a2.length : Int) (F119_1_B a0 a2 a3) (F119_1_D a0 a2 a3) l1).bind fun zo0_1 =>
  some zo0_1
def I119_2 (a0 : Int) (a2 : List Int) (a3 : List (List Int)) (v18_1 : Int) (x7 : Int) (x9 : List Int)  (v28_2 : Int) (o0_2 : (List Int)) (e : Env) (h : Heap) : Prop :=
  ∃ u12 k13 : Nat, h = ⟨[(u12, some (List.map Enc.enc o0_2))], k13⟩ ∧ e.length = 49 ∧ e.at 0 = V.int .i64 a0 ∧ e.at 3 = V.isl (List.map Enc.enc a3) ∧ e.at 9 = V.sl 0 u12 0 o0_2.length 1 ∧ e.at 11 = V.int .i64 x7 ∧ e.at 16 = V.isl (List.map Enc.enc a2) ∧ e.at 17 = V.int .i64 (a2.length : Int) ∧ e.at 18 = V.int .i64 v18_1 ∧ e.at 26 = V.isl (List.map Enc.enc x9) ∧ e.at 27 = V.int .i64 (x9.length : Int) ∧ e.at 28 = V.int .i64 v28_2
def P119_2 (a0 : Int) (a2 : List Int) (a3 : List (List Int)) (v18_1 : Int) (x7 : Int) (x9 : List Int)  (zo0_2 : (List Int)) (x : Ex) (e : Env) (h : Heap) : Prop :=
  x = .normal ∧ ∃ u12 k13 : Nat, h = ⟨[(u12, some (List.map Enc.enc zo0_2))], k13⟩ ∧ e.length = 49 ∧ e.at 0 = V.int .i64 a0 ∧ e.at 3 = V.isl (List.map Enc.enc a3) ∧ e.at 9 = V.sl 0 u12 0 zo0_2.length 1 ∧ e.at 16 = V.isl (List.map Enc.enc a2) ∧ e.at 17 = V.int .i64 (a2.length : Int) ∧ e.at 18 = V.int .i64 v18_1
theorem l119_2 (a0 : Int) (a2 : List Int) (a3 : List (List Int)) (v18_1 : Int) (x7 : Int) (x9 : List Int)   {lo : Int} {s : (List Int)} {t : (List Int)} (hF : forR lo (x9.length : Int) (F119_2_B a0 a2 a3 v18_1 x7 x9) (F119_2_D a0 a2 a3 v18_1 x7 x9) s = some t) {e : Env} {h : Heap} (hI : I119_2 a0 a2 a3 v18_1 x7 x9  lo s e h) : W A c119_2 e h (P119_2 a0 a2 a3 v18_1 x7 x9  t) := by
  show W A (.block 2 (.loop false b119_2)) e h _
  rw [W_block]
  refine W_forR hF 1 (by obtain ⟨_, _, rfl, _⟩ := hI; rfl) (I119_2 a0 a2 a3 v18_1 x7 x9 ) hI ?_ ?_
  · rintro v28_2 o0_2 e h ⟨u12, k13, rfl, hl_11, h0_11, h3_11, h9_11, h11_11, h16_11, h17_11, h18_11, h26_11, h27_11, h28_11⟩ hlt hw o ho
    unfold F119_2_B at ho
    obtain ⟨x15, gx15, ho⟩ := bS ho
    obtain ⟨w16a, w16b⟩ := getI_w gx15
    obtain ⟨x17, gx17, ho⟩ := bS ho
    obtain ⟨w18a, w18b⟩ := getI_w gx17
    have w18c := getI_lt gx17
    have w18d : List.drop (Int.toNat v28_2) (List.map Enc.enc o0_2) = (V.int .i64 x17) :: List.drop ((Int.toNat v28_2) + 1) (List.map Enc.enc o0_2) := drop_enc w18b
    obtain ⟨x19, gx19, ho⟩ := bS ho
    have wx19 := chk_w gx19
    obtain ⟨x20, gx20, ho⟩ := bS ho
    have wx20 := chk_w gx20
    obtain ⟨x21, gx21, ho⟩ := bS ho
    obtain ⟨w22a, w22b⟩ := rem_w gx21
    obtain ⟨l23, gl23, ho⟩ := bS ho
    obtain ⟨w24a, w24b, w24c, w24d, w24e⟩ := setI_w gl23
    replace w24e : List.take (Int.toNat v28_2) (List.map Enc.enc o0_2) ++ [V.int .i64 x21] ++ List.drop (Int.toNat v28_2 + 1) (List.map Enc.enc o0_2) = List.map Enc.enc l23 := w24e
    have hE := Option.some.inj ho; subst hE
    simp only [↓reduceIte, Nat.reduceAdd, Nat.reduceMul, Nat.reduceSub, Nat.reduceLT, Nat.reduceLeDiff, Nat.reduceEqDiff, Nat.reducePow, Int.reducePow, Int.reduceLE, Int.reduceLT, Int.reduceEq, Int.reduceToNat, reduceCtorEq, RR, RB, RZ, RE, opEv, fillV, mapO, mapS, b119_2, hl_11, h0_11, h3_11, h9_11, h11_11, h16_11, h17_11, h18_11, h26_11, h27_11, h28_11, eq_true hlt, hw, w16a, w16b, w18a, w18b, w18c, w18d, wx19, wx20, eq_false w22a, w22b, w24a, w24b, w24c, w24e]
    refine And.intro rfl (Exists.intro _ ( Exists.intro _ ( And.intro rfl ?_)))
    simp only [↓reduceIte, Nat.reduceAdd, Nat.reduceMul, Nat.reduceSub, Nat.reduceLT, Nat.reduceLeDiff, Nat.reduceEqDiff, Nat.reducePow, Int.reducePow, Int.reduceLE, Int.reduceLT, Int.reduceEq, Int.reduceToNat, reduceCtorEq, RR, RB, RZ, RE, hl_11, h0_11, h3_11, h9_11, h11_11, h16_11, h17_11, h18_11, h26_11, h27_11, h28_11, eq_true hlt, hw, w16a, w16b, w18a, w18b, w18c, w18d, wx19, wx20, eq_false w22a, w22b, w24a, w24b, w24c, w24e, w24d]
  · rintro v28_2 o0_2 e h ⟨u12, k13, rfl, hl_11, h0_11, h3_11, h9_11, h11_11, h16_11, h17_11, h18_11, h26_11, h27_11, h28_11⟩ hge t1 ho
    unfold F119_2_D at ho
    have hE := Option.some.inj ho; subst hE
    simp only [↓reduceIte, Nat.reduceAdd, Nat.reduceMul, Nat.reduceSub, Nat.reduceLT, Nat.reduceLeDiff, Nat.reduceEqDiff, Nat.reducePow, Int.reducePow, Int.reduceLE, Int.reduceLT, Int.reduceEq, Int.reduceToNat, reduceCtorEq, RR, RB, RZ, RE, opEv, fillV, mapO, mapS, b119_2, hl_11, h0_11, h3_11, h9_11, h11_11, h16_11, h17_11, h18_11, h26_11, h27_11, h28_11, eq_false hge]
    intro ht; subst ht
    refine And.intro rfl (Exists.intro _ ( Exists.intro _ ( And.intro rfl ?_)))
    simp only [↓reduceIte, Nat.reduceAdd, Nat.reduceMul, Nat.reduceSub, Nat.reduceLT, Nat.reduceLeDiff, Nat.reduceEqDiff, Nat.reducePow, Int.reducePow, Int.reduceLE, Int.reduceLT, Int.reduceEq, Int.reduceToNat, reduceCtorEq, RR, RB, RZ, RE, hl_11, h0_11, h3_11, h9_11, h11_11, h16_11, h17_11, h18_11, h26_11, h27_11, h28_11, eq_false hge]
def I119_1 (a0 : Int) (a2 : List Int) (a3 : List (List Int))  (v18_1 : Int) (o0_1 : (List Int)) (e : Env) (h : Heap) : Prop :=
  ∃ u4 k5 : Nat, h = ⟨[(u4, some (List.map Enc.enc o0_1))], k5⟩ ∧ e.length = 49 ∧ e.at 0 = V.int .i64 a0 ∧ e.at 3 = V.isl (List.map Enc.enc a3) ∧ e.at 9 = V.sl 0 u4 0 o0_1.length 1 ∧ e.at 16 = V.isl (List.map Enc.enc a2) ∧ e.at 17 = V.int .i64 (a2.length : Int) ∧ e.at 18 = V.int .i64 v18_1
def P119_1 (a0 : Int) (a2 : List Int) (a3 : List (List Int))  (zo0_1 : (List Int)) (x : Ex) (e : Env) (h : Heap) : Prop :=
  x = .normal ∧ ∃ u4 k5 : Nat, h = ⟨[(u4, some (List.map Enc.enc zo0_1))], k5⟩ ∧ e.length = 49 ∧ e.at 9 = V.sl 0 u4 0 zo0_1.length 1
theorem l119_1 (a0 : Int) (a2 : List Int) (a3 : List (List Int))   {lo : Int} {s : (List Int)} {t : (List Int)} (hF : forR lo (a2.length : Int) (F119_1_B a0 a2 a3) (F119_1_D a0 a2 a3) s = some t) {e : Env} {h : Heap} (hI : I119_1 a0 a2 a3  lo s e h) : W A c119_1 e h (P119_1 a0 a2 a3  t) := by
  show W A (.block 0 (.loop false b119_1)) e h _
  rw [W_block]
  refine W_forR hF 1 (by obtain ⟨_, _, rfl, _⟩ := hI; rfl) (I119_1 a0 a2 a3 ) hI ?_ ?_
  · rintro v18_1 o0_1 e h ⟨u4, k5, rfl, hl_3, h0_3, h3_3, h9_3, h16_3, h17_3, h18_3⟩ hlt hw o ho
    unfold F119_1_B at ho
    obtain ⟨x7, gx7, ho⟩ := bS ho
    obtain ⟨w8a, w8b⟩ := getI_w gx7
    obtain ⟨x9, gx9, ho⟩ := bS ho
    obtain ⟨w10a, w10b⟩ := getI_w gx9
    obtain ⟨zo0_2, gt25, ho⟩ := bS ho
    simp only [↓reduceIte, Nat.reduceAdd, Nat.reduceMul, Nat.reduceSub, Nat.reduceLT, Nat.reduceLeDiff, Nat.reduceEqDiff, Nat.reducePow, Int.reducePow, Int.reduceLE, Int.reduceLT, Int.reduceEq, Int.reduceToNat, reduceCtorEq, RR, RB, RZ, RE, opEv, fillV, mapO, mapS, b119_1, hl_3, h0_3, h3_3, h9_3, h16_3, h17_3, h18_3, eq_true hlt, hw, w8a, w8b, w10a, w10b]
    refine W.mono (l119_2 a0 a2 a3 v18_1 x7 x9   gt25 (Exists.intro _ ( Exists.intro _ ( And.intro rfl ?_)))) ?_
    · simp only [↓reduceIte, Nat.reduceAdd, Nat.reduceMul, Nat.reduceSub, Nat.reduceLT, Nat.reduceLeDiff, Nat.reduceEqDiff, Nat.reducePow, Int.reducePow, Int.reduceLE, Int.reduceLT, Int.reduceEq, Int.reduceToNat, reduceCtorEq, RR, RB, RZ, RE, hl_3, h0_3, h3_3, h9_3, h16_3, h17_3, h18_3, eq_true hlt, hw, w8a, w8b, w10a, w10b]
    rintro _ e _ ⟨rfl, u12, k13, rfl, hl_14, h0_14, h3_14, h9_14, h16_14, h17_14, h18_14⟩
    have hE := Option.some.inj ho; subst hE
    simp only [↓reduceIte, Nat.reduceAdd, Nat.reduceMul, Nat.reduceSub, Nat.reduceLT, Nat.reduceLeDiff, Nat.reduceEqDiff, Nat.reducePow, Int.reducePow, Int.reduceLE, Int.reduceLT, Int.reduceEq, Int.reduceToNat, reduceCtorEq, RR, RB, RZ, RE, opEv, fillV, mapO, mapS, hl_14, h0_14, h3_14, h9_14, h16_14, h17_14, h18_14, eq_true hlt, hw]
    refine And.intro rfl (Exists.intro _ ( Exists.intro _ ( And.intro rfl ?_)))
    simp only [↓reduceIte, Nat.reduceAdd, Nat.reduceMul, Nat.reduceSub, Nat.reduceLT, Nat.reduceLeDiff, Nat.reduceEqDiff, Nat.reducePow, Int.reducePow, Int.reduceLE, Int.reduceLT, Int.reduceEq, Int.reduceToNat, reduceCtorEq, RR, RB, RZ, RE, hl_14, h0_14, h3_14, h9_14, h16_14, h17_14, h18_14, eq_true hlt, hw]
  · rintro v18_1 o0_1 e h ⟨u4, k5, rfl, hl_3, h0_3, h3_3, h9_3, h16_3, h17_3, h18_3⟩ hge t1 ho
    unfold F119_1_D at ho
    have hE := Option.some.inj ho; subst hE
    simp only [↓reduceIte, Nat.reduceAdd, Nat.reduceMul, Nat.reduceSub, Nat.reduceLT, Nat.reduceLeDiff, Nat.reduceEqDiff, Nat.reducePow, Int.reducePow, Int.reduceLE, Int.reduceLT, Int.reduceEq, Int.reduceToNat, reduceCtorEq, RR, RB, RZ, RE, opEv, fillV, mapO, mapS, b119_1, hl_3, h0_3, h3_3, h9_3, h16_3, h17_3, h18_3, eq_false hge]
    intro ht; subst ht
    refine And.intro rfl (Exists.intro _ ( Exists.intro _ ( And.intro rfl ?_)))
    simp only [↓reduceIte, Nat.reduceAdd, Nat.reduceMul, Nat.reduceSub, Nat.reduceLT, Nat.reduceLeDiff, Nat.reduceEqDiff, Nat.reducePow, Int.reducePow, Int.reduceLE, Int.reduceLT, Int.reduceEq, Int.reduceToNat, reduceCtorEq, RR, RB, RZ, RE, hl_3, h0_3, h3_3, h9_3, h16_3, h17_3, h18_3, eq_false hge]
theorem s119 (a0 : Int) (a1 : Int) (a2 : List Int) (a3 : List (List Int))   {r : List Int} (hF : F119 a0 a1 a2 a3 = some r) : ans A 119 [V.int .i64 a0, V.int .i64 a1, V.isl (List.map Enc.enc a2), V.isl (List.map Enc.enc a3)] = some (Enc.enc r) := by
  refine ans_of (f := p119) rfl rfl rfl fun e hl he => ?_
  have h0_0 : e.at 0 = V.int .i64 a0 := he 0 _ rfl
  have h1_0 : e.at 1 = V.int .i64 a1 := he 1 _ rfl
  have h2_0 : e.at 2 = V.isl (List.map Enc.enc a2) := he 2 _ rfl
  have h3_0 : e.at 3 = V.isl (List.map Enc.enc a3) := he 3 _ rfl
  have hl_0 : e.length = 49 := hl
  clear he hl
  show W A b119 e ⟨[], 0⟩ _
  unfold F119 at hF
  obtain ⟨l1, gl1, hF⟩ := bS hF
  obtain ⟨w2a, w2b, w2c, w2d, w2e⟩ := mkL_w gl1
  replace w2e : (List.replicate (Int.toNat a1) [V.int .i64 0]).flatten = List.map Enc.enc l1 := w2e
  obtain ⟨zo0_1, gt26, hF⟩ := bS hF
  simp only [↓reduceIte, Nat.reduceAdd, Nat.reduceMul, Nat.reduceSub, Nat.reduceLT, Nat.reduceLeDiff, Nat.reduceEqDiff, Nat.reducePow, Int.reducePow, Int.reduceLE, Int.reduceLT, Int.reduceEq, Int.reduceToNat, reduceCtorEq, RR, RB, RZ, RE, opEv, fillV, mapO, mapS, b119, hl_0, h0_0, h1_0, h2_0, h3_0, w2a, w2b, w2c, w2e]
  refine W.mono (l119_1 a0 a2 a3   gt26 (Exists.intro _ ( Exists.intro _ ( And.intro rfl ?_)))) ?_
  · simp only [↓reduceIte, Nat.reduceAdd, Nat.reduceMul, Nat.reduceSub, Nat.reduceLT, Nat.reduceLeDiff, Nat.reduceEqDiff, Nat.reducePow, Int.reducePow, Int.reduceLE, Int.reduceLT, Int.reduceEq, Int.reduceToNat, reduceCtorEq, RR, RB, RZ, RE, hl_0, h0_0, h1_0, h2_0, h3_0, w2a, w2b, w2c, w2e, w2d]
  rintro _ e _ ⟨rfl, u4, k5, rfl, hl_6, h9_6⟩
  have hE := Option.some.inj hF; subst hE
  simp only [↓reduceIte, Nat.reduceAdd, Nat.reduceMul, Nat.reduceSub, Nat.reduceLT, Nat.reduceLeDiff, Nat.reduceEqDiff, Nat.reducePow, Int.reducePow, Int.reduceLE, Int.reduceLT, Int.reduceEq, Int.reduceToNat, reduceCtorEq, RR, RB, RZ, RE, opEv, fillV, mapO, mapS, hl_6, h9_6]
  exact fin_ret (by simp only [↓reduceIte, Nat.reduceAdd, Nat.reduceMul, Nat.reduceSub, Nat.reduceLT, Nat.reduceLeDiff, Nat.reduceEqDiff, Nat.reducePow, Int.reducePow, Int.reduceLE, Int.reduceLT, Int.reduceEq, Int.reduceToNat, reduceCtorEq, RR, RB, RZ, RE, fn_out, p119, Rs.ev, mapO, mapS, take_len_self, hl_6, h9_6, frzs (α := Int) zo0_1, takes (α := Int) zo0_1])

end
end Rv
