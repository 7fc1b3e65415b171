/- What the abstract code answers: typed functions, part 1. -/
import Derived.Test.YthdaojcekpelgaaFfp
namespace Rv
set_option linter.unusedVariables false
set_option linter.unusedSimpArgs false
set_option maxRecDepth 100000
noncomputable section

/-! loop.example/g01273/laws.szInt64S -/
def F43 (a0 : List Int) (a1 : Int) : Option Int :=
  (chk (a1 - (a0.length : Int))).bind fun x1 =>
  if x1 < 0 then
    some (-1)
  else
    some x1
theorem s43 (a0 : List Int) (a1 : Int)   {r : Int} (hF : F43 a0 a1 = some r) : ans A 43 [V.isl (List.map Enc.enc a0), V.int .i64 a1] = some (Enc.enc r) := by
  refine ans_of (f := p43) rfl rfl rfl fun e hl he => ?_
  have h0_0 : e.at 0 = V.isl (List.map Enc.enc a0) := he 0 _ rfl
  have h1_0 : e.at 1 = V.int .i64 a1 := he 1 _ rfl
  have hl_0 : e.length = 12 := hl
  clear he hl
  show W A b43 e ⟨[], 0⟩ _
  unfold F43 at hF
  obtain ⟨x1, gx1, hF⟩ := bS hF
  have wx1 := chk_w gx1
  by_cases c2 : x1 < 0
  · rw [if_pos c2] at hF
    have hE := Option.some.inj hF; subst hE
    simp only [↓reduceIte, Nat.reduceAdd, Nat.reduceMul, Nat.reduceSub, Nat.reduceLT, Nat.reduceLeDiff, Nat.reduceEqDiff, Nat.reducePow, Int.reducePow, Int.reduceLE, Int.reduceLT, Int.reduceEq, Int.reduceToNat, reduceCtorEq, RR, RB, RZ, RE, opEv, fillV, mapO, mapS, b43, hl_0, h0_0, h1_0, wx1, eq_true c2]
    exact fin_ret (by simp only [↓reduceIte, Nat.reduceAdd, Nat.reduceMul, Nat.reduceSub, Nat.reduceLT, Nat.reduceLeDiff, Nat.reduceEqDiff, Nat.reducePow, Int.reducePow, Int.reduceLE, Int.reduceLT, Int.reduceEq, Int.reduceToNat, reduceCtorEq, RR, RB, RZ, RE, fn_out, p43, Rs.ev, mapO, mapS, take_len_self, hl_0, h0_0, h1_0, wx1, eq_true c2])
  · rw [if_neg c2] at hF
    have hE := Option.some.inj hF; subst hE
    simp only [↓reduceIte, Nat.reduceAdd, Nat.reduceMul, Nat.reduceSub, Nat.reduceLT, Nat.reduceLeDiff, Nat.reduceEqDiff, Nat.reducePow, Int.reducePow, Int.reduceLE, Int.reduceLT, Int.reduceEq, Int.reduceToNat, reduceCtorEq, RR, RB, RZ, RE, opEv, fillV, mapO, mapS, b43, hl_0, h0_0, h1_0, wx1, eq_false c2]
    exact fin_ret (by simp only [↓reduceIte, Nat.reduceAdd, Nat.reduceMul, Nat.reduceSub, Nat.reduceLT, Nat.reduceLeDiff, Nat.reduceEqDiff, Nat.reducePow, Int.reducePow, Int.reduceLE, Int.reduceLT, Int.reduceEq, Int.reduceToNat, reduceCtorEq, RR, RB, RZ, RE, fn_out, p43, Rs.ev, mapO, mapS, take_len_self, hl_0, h0_0, h1_0, wx1, eq_false c2])
/-! loop.example/g01273/laws.szInt64SS -/
def F44_1_B (a0 : List (List Int)) (v5_1 : Int) (v1_1 : Int) : Option ((Int) ⊕ ((Int) ⊕ Int)) :=
  (getI a0 v5_1).bind fun x6 =>
(F43 x6 v1_1).bind fun x8 =>
if x8 < 0 then
  some (.inr (.inr (-1)))
else
  some (.inl x8)
def F44_1_D (a0 : List (List Int)) (v5_1 : Int) (v1_1 : Int) : Option ((Int) ⊕ Int) :=
  some (.inl v1_1)
def F44 (a0 : List (List Int)) (a1 : Int) : Option Int :=
  (chk (a1 - (a0.length : Int))).bind fun x1 =>
  if x1 < 0 then
    some (-1)
  else
    (forR 0 (a0.length : Int) (F44_1_B a0) (F44_1_D a0) x1).bind fun t11 => match t11 with
      | .inl zv1_1 =>
        some zv1_1
      | .inr r12 => some r12
def I44_1 (a0 : List (List Int))  (v5_1 : Int) (v1_1 : Int) (e : Env) (h : Heap) : Prop :=
  ∃ k4 : Nat, h = ⟨[], k4⟩ ∧ e.length = 27 ∧ e.at 0 = V.isl (List.map Enc.enc a0) ∧ e.at 1 = V.int .i64 v1_1 ∧ e.at 5 = V.int .i64 v5_1
def P44_1 (a0 : List (List Int))  (t : (Int) ⊕ Int) (x : Ex) (e : Env) (h : Heap) : Prop :=
  match t with
  | .inl zv1_1 => x = .normal ∧ ∃ k4 : Nat, h = ⟨[], k4⟩ ∧ e.length = 27 ∧ e.at 1 = V.int .i64 zv1_1
  | .inr r => x = .ret ∧ Fin p44 (Enc.enc r) .ret e h
theorem l44_1 (a0 : List (List Int))   {lo : Int} {s : Int} {t : (Int) ⊕ Int} (hF : forR lo (a0.length : Int) (F44_1_B a0) (F44_1_D a0) s = some t) {e : Env} {h : Heap} (hI : I44_1 a0  lo s e h) : W A c44_1 e h (P44_1 a0  t) := by
  show W A (.block 0 (.loop false b44_1)) e h _
  rw [W_block]
  refine W_forR hF 0 (by obtain ⟨_, rfl, _⟩ := hI; rfl) (I44_1 a0 ) hI ?_ ?_
  · rintro v5_1 v1_1 e h ⟨k4, rfl, hl_3, h0_3, h1_3, h5_3⟩ hlt hw o ho
    unfold F44_1_B at ho
    obtain ⟨x6, gx6, ho⟩ := bS ho
    obtain ⟨w7a, w7b⟩ := getI_w gx6
    obtain ⟨x8, gx8, ho⟩ := bS ho
    have w9 : ans A 43 [V.isl (List.map Enc.enc x6), V.int .i64 v1_1] = some (V.int .i64 x8) := s43 x6 v1_1  gx8
    by_cases c10 : x8 < 0
    · rw [if_pos c10] at ho
      have hE := Option.some.inj ho; subst hE
      simp only [↓reduceIte, Nat.reduceAdd, Nat.reduceMul, Nat.reduceSub, Nat.reduceLT, Nat.reduceLeDiff, Nat.reduceEqDiff, Nat.reducePow, Int.reducePow, Int.reduceLE, Int.reduceLT, Int.reduceEq, Int.reduceToNat, reduceCtorEq, RR, RB, RZ, RE, opEv, fillV, mapO, mapS, b44_1, hl_3, h0_3, h1_3, h5_3, eq_true hlt, hw, w7a, w7b, w9, eq_true c10]
      intro ht; subst ht
      simp only [↓reduceIte, Nat.reduceAdd, Nat.reduceMul, Nat.reduceSub, Nat.reduceLT, Nat.reduceLeDiff, Nat.reduceEqDiff, Nat.reducePow, Int.reducePow, Int.reduceLE, Int.reduceLT, Int.reduceEq, Int.reduceToNat, reduceCtorEq, RR, RB]
      exact And.intro rfl (fin_ret (by simp only [↓reduceIte, Nat.reduceAdd, Nat.reduceMul, Nat.reduceSub, Nat.reduceLT, Nat.reduceLeDiff, Nat.reduceEqDiff, Nat.reducePow, Int.reducePow, Int.reduceLE, Int.reduceLT, Int.reduceEq, Int.reduceToNat, reduceCtorEq, RR, RB, RZ, RE, fn_out, p44, Rs.ev, mapO, mapS, take_len_self, hl_3, h0_3, h1_3, h5_3, eq_true hlt, hw, w7a, w7b, w9, eq_true c10]))
    · rw [if_neg c10] at ho
      have hE := Option.some.inj ho; subst hE
      simp only [↓reduceIte, Nat.reduceAdd, Nat.reduceMul, Nat.reduceSub, Nat.reduceLT, Nat.reduceLeDiff, Nat.reduceEqDiff, Nat.reducePow, Int.reducePow, Int.reduceLE, Int.reduceLT, Int.reduceEq, Int.reduceToNat, reduceCtorEq, RR, RB, RZ, RE, opEv, fillV, mapO, mapS, b44_1, hl_3, h0_3, h1_3, h5_3, eq_true hlt, hw, w7a, w7b, w9, eq_false c10]
      refine And.intro rfl (Exists.intro _ ( And.intro rfl ?_))
      simp only [↓reduceIte, Nat.reduceAdd, Nat.reduceMul, Nat.reduceSub, Nat.reduceLT, Nat.reduceLeDiff, Nat.reduceEqDiff, Nat.reducePow, Int.reducePow, Int.reduceLE, Int.reduceLT, Int.reduceEq, Int.reduceToNat, reduceCtorEq, RR, RB, RZ, RE, hl_3, h0_3, h1_3, h5_3, eq_true hlt, hw, w7a, w7b, w9, eq_false c10]
  · rintro v5_1 v1_1 e h ⟨k4, rfl, hl_3, h0_3, h1_3, h5_3⟩ hge t1 ho
    unfold F44_1_D at ho
    have hE := Option.some.inj ho; subst hE
    simp only [↓reduceIte, Nat.reduceAdd, Nat.reduceMul, Nat.reduceSub, Nat.reduceLT, Nat.reduceLeDiff, Nat.reduceEqDiff, Nat.reducePow, Int.reducePow, Int.reduceLE, Int.reduceLT, Int.reduceEq, Int.reduceToNat, reduceCtorEq, RR, RB, RZ, RE, opEv, fillV, mapO, mapS, b44_1, hl_3, h0_3, h1_3, h5_3, eq_false hge]
    intro ht; subst ht
    refine And.intro rfl (Exists.intro _ ( And.intro rfl ?_))
    simp only [↓reduceIte, Nat.reduceAdd, Nat.reduceMul, Nat.reduceSub, Nat.reduceLT, Nat.reduceLeDiff, Nat.reduceEqDiff, Nat.reducePow, Int.reducePow, Int.reduceLE, Int.reduceLT, Int.reduceEq, Int.reduceToNat, reduceCtorEq, RR, RB, RZ, RE, hl_3, h0_3, h1_3, h5_3, eq_false hge]
theorem s44 (a0 : List (List Int)) (a1 : Int)   {r : Int} (hF : F44 a0 a1 = some r) : ans A 44 [V.isl (List.map Enc.enc a0), V.int .i64 a1] = some (Enc.enc r) := by
  refine ans_of (f := p44) rfl rfl rfl fun e hl he => ?_
  have h0_0 : e.at 0 = V.isl (List.map Enc.enc a0) := he 0 _ rfl
  have h1_0 : e.at 1 = V.int .i64 a1 := he 1 _ rfl
  have hl_0 : e.length = 27 := hl
  clear he hl
  show W A b44 e ⟨[], 0⟩ _
  unfold F44 at hF
  obtain ⟨x1, gx1, hF⟩ := bS hF
  have wx1 := chk_w gx1
  by_cases c2 : x1 < 0
  · rw [if_pos c2] at hF
    have hE := Option.some.inj hF; subst hE
    simp only [↓reduceIte, Nat.reduceAdd, Nat.reduceMul, Nat.reduceSub, Nat.reduceLT, Nat.reduceLeDiff, Nat.reduceEqDiff, Nat.reducePow, Int.reducePow, Int.reduceLE, Int.reduceLT, Int.reduceEq, Int.reduceToNat, reduceCtorEq, RR, RB, RZ, RE, opEv, fillV, mapO, mapS, b44, hl_0, h0_0, h1_0, wx1, eq_true c2]
    exact fin_ret (by simp only [↓reduceIte, Nat.reduceAdd, Nat.reduceMul, Nat.reduceSub, Nat.reduceLT, Nat.reduceLeDiff, Nat.reduceEqDiff, Nat.reducePow, Int.reducePow, Int.reduceLE, Int.reduceLT, Int.reduceEq, Int.reduceToNat, reduceCtorEq, RR, RB, RZ, RE, fn_out, p44, Rs.ev, mapO, mapS, take_len_self, hl_0, h0_0, h1_0, wx1, eq_true c2])
  · rw [if_neg c2] at hF
    obtain ⟨t11, gt11, hF⟩ := bS hF
    rcases t11 with zv1_1 | r12
    · dsimp only at hF
      simp only [↓reduceIte, Nat.reduceAdd, Nat.reduceMul, Nat.reduceSub, Nat.reduceLT, Nat.reduceLeDiff, Nat.reduceEqDiff, Nat.reducePow, Int.reducePow, Int.reduceLE, Int.reduceLT, Int.reduceEq, Int.reduceToNat, reduceCtorEq, RR, RB, RZ, RE, opEv, fillV, mapO, mapS, b44, hl_0, h0_0, h1_0, wx1, eq_false c2]
      refine W.mono (l44_1 a0   gt11 (Exists.intro _ ( And.intro rfl ?_))) ?_
      · simp only [↓reduceIte, Nat.reduceAdd, Nat.reduceMul, Nat.reduceSub, Nat.reduceLT, Nat.reduceLeDiff, Nat.reduceEqDiff, Nat.reducePow, Int.reducePow, Int.reduceLE, Int.reduceLT, Int.reduceEq, Int.reduceToNat, reduceCtorEq, RR, RB, RZ, RE, hl_0, h0_0, h1_0, wx1, eq_false c2]
      rintro _ e _ ⟨rfl, k4, rfl, hl_5, h1_5⟩
      have hE := Option.some.inj hF; subst hE
      simp only [↓reduceIte, Nat.reduceAdd, Nat.reduceMul, Nat.reduceSub, Nat.reduceLT, Nat.reduceLeDiff, Nat.reduceEqDiff, Nat.reducePow, Int.reducePow, Int.reduceLE, Int.reduceLT, Int.reduceEq, Int.reduceToNat, reduceCtorEq, RR, RB, RZ, RE, opEv, fillV, mapO, mapS, hl_5, h1_5, eq_false c2]
      exact fin_ret (by simp only [↓reduceIte, Nat.reduceAdd, Nat.reduceMul, Nat.reduceSub, Nat.reduceLT, Nat.reduceLeDiff, Nat.reduceEqDiff, Nat.reducePow, Int.reducePow, Int.reduceLE, Int.reduceLT, Int.reduceEq, Int.reduceToNat, reduceCtorEq, RR, RB, RZ, RE, fn_out, p44, Rs.ev, mapO, mapS, take_len_self, hl_5, h1_5, eq_false c2])
    · dsimp only at hF
      have hE := Option.some.inj hF; subst hE
      simp only [↓reduceIte, Nat.reduceAdd, Nat.reduceMul, Nat.reduceSub, Nat.reduceLT, Nat.reduceLeDiff, Nat.reduceEqDiff, Nat.reducePow, Int.reducePow, Int.reduceLE, Int.reduceLT, Int.reduceEq, Int.reduceToNat, reduceCtorEq, RR, RB, RZ, RE, opEv, fillV, mapO, mapS, b44, hl_0, h0_0, h1_0, wx1, eq_false c2]
      refine W.mono (l44_1 a0   gt11 (Exists.intro _ ( And.intro rfl ?_))) ?_
      · simp only [↓reduceIte, Nat.reduceAdd, Nat.reduceMul, Nat.reduceSub, Nat.reduceLT, Nat.reduceLeDiff, Nat.reduceEqDiff, Nat.reducePow, Int.reducePow, Int.reduceLE, Int.reduceLT, Int.reduceEq, Int.reduceToNat, reduceCtorEq, RR, RB, RZ, RE, hl_0, h0_0, h1_0, wx1, eq_false c2]
      rintro _ e h ⟨rfl, hq⟩
      simp only [↓reduceIte, Nat.reduceAdd, Nat.reduceMul, Nat.reduceSub, Nat.reduceLT, Nat.reduceLeDiff, Nat.reduceEqDiff, Nat.reducePow, Int.reducePow, Int.reduceLE, Int.reduceLT, Int.reduceEq, Int.reduceToNat, reduceCtorEq, RR, RB]
      exact hq
/-! loop.example/g01273/laws.szInt64SSS -/
def F11_1_B (a0 : List (List (List Int))) (v5_1 : Int) (v1_1 : Int) : Option ((Int) ⊕ ((Int) ⊕ Int)) :=
  (getI a0 v5_1).bind fun x6 =>
(F44 x6 v1_1).bind fun x8 =>
if x8 < 0 then
  some (.inr (.inr (-1)))
else
  some (.inl x8)
def F11_1_D (a0 : List (List (List Int))) (v5_1 : Int) (v1_1 : Int) : Option ((Int) ⊕ Int) :=
  some (.inl v1_1)
def F11 (a0 : List (List (List Int))) (a1 : Int) : Option Int :=
  (chk (a1 - (a0.length : Int))).bind fun x1 =>
  if x1 < 0 then
    some (-1)
  else
    (forR 0 (a0.length : Int) (F11_1_B a0) (F11_1_D a0) x1).bind fun t11 => match t11 with
      | .inl zv1_1 =>
        some zv1_1
      | .inr r12 => some r12
def I11_1 (a0 : List (List (List Int)))  (v5_1 : Int) (v1_1 : Int) (e : Env) (h : Heap) : Prop :=
  ∃ k4 : Nat, h = ⟨[], k4⟩ ∧ e.length = 27 ∧ e.at 0 = V.isl (List.map Enc.enc a0) ∧ e.at 1 = V.int .i64 v1_1 ∧ e.at 5 = V.int .i64 v5_1
def P11_1 (a0 : List (List (List Int)))  (t : (Int) ⊕ Int) (x : Ex) (e : Env) (h : Heap) : Prop :=
  match t with
  | .inl zv1_1 => x = .normal ∧ ∃ k4 : Nat, h = ⟨[], k4⟩ ∧ e.length = 27 ∧ e.at 1 = V.int .i64 zv1_1
  | .inr r => x = .ret ∧ Fin p11 (Enc.enc r) .ret e h
theorem l11_1 (a0 : List (List (List Int)))   {lo : Int} {s : Int} {t : (Int) ⊕ Int} (hF : forR lo (a0.length : Int) (F11_1_B a0) (F11_1_D a0) s = some t) {e : Env} {h : Heap} (hI : I11_1 a0  lo s e h) : W A c11_1 e h (P11_1 a0  t) := by
  show W A (.block 0 (.loop false b11_1)) e h _
  rw [W_block]
  refine W_forR hF 0 (by obtain ⟨_, rfl, _⟩ := hI; rfl) (I11_1 a0 ) hI ?_ ?_
  · rintro v5_1 v1_1 e h ⟨k4, rfl, hl_3, h0_3, h1_3, h5_3⟩ hlt hw o ho
    unfold F11_1_B at ho
    obtain ⟨x6, gx6, ho⟩ := bS ho
    obtain ⟨w7a, w7b⟩ := getI_w gx6
    obtain ⟨x8, gx8, ho⟩ := bS ho
    have w9 : ans A 44 [V.isl (List.map Enc.enc x6), V.int .i64 v1_1] = some (V.int .i64 x8) := s44 x6 v1_1  gx8
    by_cases c10 : x8 < 0
    · rw [if_pos c10] at ho
      have hE := Option.some.inj ho; subst hE
      simp only [↓reduceIte, Nat.reduceAdd, Nat.reduceMul, Nat.reduceSub, Nat.reduceLT, Nat.reduceLeDiff, Nat.reduceEqDiff, Nat.reducePow, Int.reducePow, Int.reduceLE, Int.reduceLT, Int.reduceEq, Int.reduceToNat, reduceCtorEq, RR, RB, RZ, RE, opEv, fillV, mapO, mapS, b11_1, hl_3, h0_3, h1_3, h5_3, eq_true hlt, hw, w7a, w7b, w9, eq_true c10]
      intro ht; subst ht
      simp only [↓reduceIte, Nat.reduceAdd, Nat.reduceMul, Nat.reduceSub, Nat.reduceLT, Nat.reduceLeDiff, Nat.reduceEqDiff, Nat.reducePow, Int.reducePow, Int.reduceLE, Int.reduceLT, Int.reduceEq, Int.reduceToNat, reduceCtorEq, RR, RB]
      exact And.intro rfl (fin_ret (by simp only [↓reduceIte, Nat.reduceAdd, Nat.reduceMul, Nat.reduceSub, Nat.reduceLT, Nat.reduceLeDiff, Nat.reduceEqDiff, Nat.reducePow, Int.reducePow, Int.reduceLE, Int.reduceLT, Int.reduceEq, Int.reduceToNat, reduceCtorEq, RR, RB, RZ, RE, fn_out, p11, Rs.ev, mapO, mapS, take_len_self, hl_3, h0_3, h1_3, h5_3, eq_true hlt, hw, w7a, w7b, w9, eq_true c10]))
    · rw [if_neg c10] at ho
      have hE := Option.some.inj ho; subst hE
      simp only [↓reduceIte, Nat.reduceAdd, Nat.reduceMul, Nat.reduceSub, Nat.reduceLT, Nat.reduceLeDiff, Nat.reduceEqDiff, Nat.reducePow, Int.reducePow, Int.reduceLE, Int.reduceLT, Int.reduceEq, Int.reduceToNat, reduceCtorEq, RR, RB, RZ, RE, opEv, fillV, mapO, mapS, b11_1, hl_3, h0_3, h1_3, h5_3, eq_true hlt, hw, w7a, w7b, w9, eq_false c10]
      refine And.intro rfl (Exists.intro _ ( And.intro rfl ?_))
      simp only [↓reduceIte, Nat.reduceAdd, Nat.reduceMul, Nat.reduceSub, Nat.reduceLT, Nat.reduceLeDiff, Nat.reduceEqDiff, Nat.reducePow, Int.reducePow, Int.reduceLE, Int.reduceLT, Int.reduceEq, Int.reduceToNat, reduceCtorEq, RR, RB, RZ, RE, hl_3, h0_3, h1_3, h5_3, eq_true hlt, hw, w7a, w7b, w9, eq_false c10]
  · rintro v5_1 v1_1 e h ⟨k4, rfl, hl_3, h0_3, h1_3, h5_3⟩ hge t1 ho
    unfold F11_1_D at ho
    have hE := Option.some.inj ho; subst hE
    simp only [↓reduceIte, Nat.reduceAdd, Nat.reduceMul, Nat.reduceSub, Nat.reduceLT, Nat.reduceLeDiff, Nat.reduceEqDiff, Nat.reducePow, Int.reducePow, Int.reduceLE, Int.reduceLT, Int.reduceEq, Int.reduceToNat, reduceCtorEq, RR, RB, RZ, RE, opEv, fillV, mapO, mapS, b11_1, hl_3, h0_3, h1_3, h5_3, eq_false hge]
    intro ht; subst ht
    refine And.intro rfl (Exists.intro _ ( And.intro rfl ?_))
    simp only [↓reduceIte, Nat.reduceAdd, Nat.reduceMul, Nat.reduceSub, Nat.reduceLT, Nat.reduceLeDiff, Nat.reduceEqDiff, Nat.reducePow, Int.reducePow, Int.reduceLE, Int.reduceLT, Int.reduceEq, Int.reduceToNat, reduceCtorEq, RR, RB, RZ, RE, hl_3, h0_3, h1_3, h5_3, eq_false hge]
theorem s11 (a0 : List (List (List Int))) (a1 : Int)   {r : Int} (hF : F11 a0 a1 = some r) : ans A 11 [V.isl (List.map Enc.enc a0), V.int .i64 a1] = some (Enc.enc r) := by
  refine ans_of (f := p11) rfl rfl rfl fun e hl he => ?_
  have h0_0 : e.at 0 = V.isl (List.map Enc.enc a0) := he 0 _ rfl
  have h1_0 : e.at 1 = V.int .i64 a1 := he 1 _ rfl
  have hl_0 : e.length = 27 := hl
  clear he hl
  show W A b11 e ⟨[], 0⟩ _
  unfold F11 at hF
  obtain ⟨x1, gx1, hF⟩ := bS hF
  have wx1 := chk_w gx1
  by_cases c2 : x1 < 0
  · rw [if_pos c2] at hF
    have hE := Option.some.inj hF; subst hE
    simp only [↓reduceIte, Nat.reduceAdd, Nat.reduceMul, Nat.reduceSub, Nat.reduceLT, Nat.reduceLeDiff, Nat.reduceEqDiff, Nat.reducePow, Int.reducePow, Int.reduceLE, Int.reduceLT, Int.reduceEq, Int.reduceToNat, reduceCtorEq, RR, RB, RZ, RE, opEv, fillV, mapO, mapS, b11, hl_0, h0_0, h1_0, wx1, eq_true c2]
    exact fin_ret (by simp only [↓reduceIte, Nat.reduceAdd, Nat.reduceMul, Nat.reduceSub, Nat.reduceLT, Nat.reduceLeDiff, Nat.reduceEqDiff, Nat.reducePow, Int.reducePow, Int.reduceLE, Int.reduceLT, Int.reduceEq, Int.reduceToNat, reduceCtorEq, RR, RB, RZ, RE, fn_out, p11, Rs.ev, mapO, mapS, take_len_self, hl_0, h0_0, h1_0, wx1, eq_true c2])
  · rw [if_neg c2] at hF
    obtain ⟨t11, gt11, hF⟩ := bS hF
    rcases t11 with zv1_1 | r12
    · dsimp only at hF
      simp only [↓reduceIte, Nat.reduceAdd, Nat.reduceMul, Nat.reduceSub, Nat.reduceLT, Nat.reduceLeDiff, Nat.reduceEqDiff, Nat.reducePow, Int.reducePow, Int.reduceLE, Int.reduceLT, Int.reduceEq, Int.reduceToNat, reduceCtorEq, RR, RB, RZ, RE, opEv, fillV, mapO, mapS, b11, hl_0, h0_0, h1_0, wx1, eq_false c2]
      refine W.mono (l11_1 a0   gt11 (Exists.intro _ ( And.intro rfl ?_))) ?_
      · simp only [↓reduceIte, Nat.reduceAdd, Nat.reduceMul, Nat.reduceSub, Nat.reduceLT, Nat.reduceLeDiff, Nat.reduceEqDiff, Nat.reducePow, Int.reducePow, Int.reduceLE, Int.reduceLT, Int.reduceEq, Int.reduceToNat, reduceCtorEq, RR, RB, RZ, RE, hl_0, h0_0, h1_0, wx1, eq_false c2]
      rintro _ e _ ⟨rfl, k4, rfl, hl_5, h1_5⟩
      have hE := Option.some.inj hF; subst hE
      simp only [↓reduceIte, Nat.reduceAdd, Nat.reduceMul, Nat.reduceSub, Nat.reduceLT, Nat.reduceLeDiff, Nat.reduceEqDiff, Nat.reducePow, Int.reducePow, Int.reduceLE, Int.reduceLT, Int.reduceEq, Int.reduceToNat, reduceCtorEq, RR, RB, RZ, RE, opEv, fillV, mapO, mapS, hl_5, h1_5, eq_false c2]
      exact fin_ret (by simp only [↓reduceIte, Nat.reduceAdd, Nat.reduceMul, Nat.reduceSub, Nat.reduceLT, Nat.reduceLeDiff, Nat.reduceEqDiff, Nat.reducePow, Int.reducePow, Int.reduceLE, Int.reduceLT, Int.reduceEq, Int.reduceToNat, reduceCtorEq, RR, RB, RZ, RE, fn_out, p11, Rs.ev, mapO, mapS, take_len_self, hl_5, h1_5, eq_false c2])
    · dsimp only at hF
      have hE := Option.some.inj hF; subst hE
      simp only [↓reduceIte, Nat.reduceAdd, Nat.reduceMul, Nat.reduceSub, Nat.reduceLT, Nat.reduceLeDiff, Nat.reduceEqDiff, Nat.reducePow, Int.reducePow, Int.reduceLE, Int.reduceLT, Int.reduceEq, Int.reduceToNat, reduceCtorEq, RR, RB, RZ, RE, opEv, fillV, mapO, mapS, b11, hl_0, h0_0, h1_0, wx1, eq_false c2]
      refine W.mono (l11_1 a0   gt11 (Exists.intro _ ( And.intro rfl ?_))) ?_
      · simp only [↓reduceIte, Nat.reduceAdd, Nat.reduceMul, Nat.reduceSub, Nat.reduceLT, Nat.reduceLeDiff, Nat.reduceEqDiff, Nat.reducePow, Int.reducePow, Int.reduceLE, Int.reduceLT, Int.reduceEq, Int.reduceToNat, reduceCtorEq, RR, RB, RZ, RE, hl_0, h0_0, h1_0, wx1, eq_false c2]
      rintro _ e h ⟨rfl, hq⟩
      simp only [↓reduceIte, Nat.reduceAdd, Nat.reduceMul, Nat.reduceSub, Nat.reduceLT, Nat.reduceLeDiff, Nat.reduceEqDiff, Nat.reducePow, Int.reducePow, Int.reduceLE, Int.reduceLT, Int.reduceEq, Int.reduceToNat, reduceCtorEq, RR, RB]
      exact hq
/-! loop.example/g01273/laws.szComplex -/
def F10 (a0 : GComplex) (a1 : Int) : Option Int :=
  (F43 a0.Dims a1).bind fun x1 =>
  if x1 < 0 then
    some (-1)
  else
    (F11 a0.Maps x1).bind fun x4 =>
    if x4 < 0 then
      some (-1)
    else
      some x4
theorem s10 (a0 : GComplex) (a1 : Int)   {r : Int} (hF : F10 a0 a1 = some r) : ans A 10 [V.agg [V.int .i64 a0.Prime, V.isl (List.map Enc.enc a0.Dims), V.isl (List.map Enc.enc a0.Maps)], V.int .i64 a1] = some (Enc.enc r) := by
  refine ans_of (f := p10) rfl rfl rfl fun e hl he => ?_
  have h0_0 : e.at 0 = V.agg [V.int .i64 a0.Prime, V.isl (List.map Enc.enc a0.Dims), V.isl (List.map Enc.enc a0.Maps)] := he 0 _ rfl
  have h1_0 : e.at 1 = V.int .i64 a1 := he 1 _ rfl
  have hl_0 : e.length = 18 := hl
  clear he hl
  show W A b10 e ⟨[], 0⟩ _
  unfold F10 at hF
  obtain ⟨x1, gx1, hF⟩ := bS hF
  have w2 : ans A 43 [V.isl (List.map Enc.enc a0.Dims), V.int .i64 a1] = some (V.int .i64 x1) := s43 a0.Dims a1  gx1
  by_cases c3 : x1 < 0
  · rw [if_pos c3] at hF
    have hE := Option.some.inj hF; subst hE
    simp only [↓reduceIte, Nat.reduceAdd, Nat.reduceMul, Nat.reduceSub, Nat.reduceLT, Nat.reduceLeDiff, Nat.reduceEqDiff, Nat.reducePow, Int.reducePow, Int.reduceLE, Int.reduceLT, Int.reduceEq, Int.reduceToNat, reduceCtorEq, RR, RB, RZ, RE, opEv, fillV, mapO, mapS, b10, hl_0, h0_0, h1_0, w2, eq_true c3]
    exact fin_ret (by simp only [↓reduceIte, Nat.reduceAdd, Nat.reduceMul, Nat.reduceSub, Nat.reduceLT, Nat.reduceLeDiff, Nat.reduceEqDiff, Nat.reducePow, Int.reducePow, Int.reduceLE, Int.reduceLT, Int.reduceEq, Int.reduceToNat, reduceCtorEq, RR, RB, RZ, RE, fn_out, p10, Rs.ev, mapO, mapS, take_len_self, hl_0, h0_0, h1_0, w2, eq_true c3])
  · rw [if_neg c3] at hF
    obtain ⟨x4, gx4, hF⟩ := bS hF
    have w5 : ans A 11 [V.isl (List.map Enc.enc a0.Maps), V.int .i64 x1] = some (V.int .i64 x4) := s11 a0.Maps x1  gx4
    by_cases c6 : x4 < 0
    · rw [if_pos c6] at hF
      have hE := Option.some.inj hF; subst hE
      simp only [↓reduceIte, Nat.reduceAdd, Nat.reduceMul, Nat.reduceSub, Nat.reduceLT, Nat.reduceLeDiff, Nat.reduceEqDiff, Nat.reducePow, Int.reducePow, Int.reduceLE, Int.reduceLT, Int.reduceEq, Int.reduceToNat, reduceCtorEq, RR, RB, RZ, RE, opEv, fillV, mapO, mapS, b10, hl_0, h0_0, h1_0, w2, eq_false c3, w5, eq_true c6]
      exact fin_ret (by simp only [↓reduceIte, Nat.reduceAdd, Nat.reduceMul, Nat.reduceSub, Nat.reduceLT, Nat.reduceLeDiff, Nat.reduceEqDiff, Nat.reducePow, Int.reducePow, Int.reduceLE, Int.reduceLT, Int.reduceEq, Int.reduceToNat, reduceCtorEq, RR, RB, RZ, RE, fn_out, p10, Rs.ev, mapO, mapS, take_len_self, hl_0, h0_0, h1_0, w2, eq_false c3, w5, eq_true c6])
    · rw [if_neg c6] at hF
      have hE := Option.some.inj hF; subst hE
      simp only [↓reduceIte, Nat.reduceAdd, Nat.reduceMul, Nat.reduceSub, Nat.reduceLT, Nat.reduceLeDiff, Nat.reduceEqDiff, Nat.reducePow, Int.reducePow, Int.reduceLE, Int.reduceLT, Int.reduceEq, Int.reduceToNat, reduceCtorEq, RR, RB, RZ, RE, opEv, fillV, mapO, mapS, b10, hl_0, h0_0, h1_0, w2, eq_false c3, w5, eq_false c6]
      exact fin_ret (by simp only [↓reduceIte, Nat.reduceAdd, Nat.reduceMul, Nat.reduceSub, Nat.reduceLT, Nat.reduceLeDiff, Nat.reduceEqDiff, Nat.reducePow, Int.reducePow, Int.reduceLE, Int.reduceLT, Int.reduceEq, Int.reduceToNat, reduceCtorEq, RR, RB, RZ, RE, fn_out, p10, Rs.ev, mapO, mapS, take_len_self, hl_0, h0_0, h1_0, w2, eq_false c3, w5, eq_false c6])
/-! loop.example/g01273/laws.toInt64S -/
def F47_1_B (a0 : List Int) (v4_1 : Int) (o0_1 : (List Int)) : Option (((List Int)) ⊕ ((List Int))) :=
  (getI a0 v4_1).bind fun x7 =>
(getI o0_1 v4_1).bind fun x9 =>
(setI o0_1 v4_1 x7).bind fun l11 =>
some (.inl l11)
def F47_1_D (a0 : List Int) (v4_1 : Int) (o0_1 : (List Int)) : Option ((List Int)) :=
  some o0_1
def F47 (a0 : List Int) : Option (List Int) :=
  (mkL 8 (a0.length : Int) 0).bind fun l1 =>
  (forR 0 (a0.length : Int) (F47_1_B a0) (F47_1_D a0) l1).bind fun zo0_1 =>
  some zo0_1
def I47_1 (a0 : List Int)  (v4_1 : Int) (o0_1 : (List Int)) (e : Env) (h : Heap) : Prop :=
  ∃ u4 k5 : Nat, h = ⟨[(u4, some (List.map Enc.enc o0_1))], k5⟩ ∧ e.length = 22 ∧ e.at 0 = V.isl (List.map Enc.enc a0) ∧ e.at 3 = V.sl 0 u4 0 o0_1.length 1 ∧ e.at 4 = V.int .i64 v4_1
def P47_1 (a0 : List Int)  (zo0_1 : (List Int)) (x : Ex) (e : Env) (h : Heap) : Prop :=
  x = .normal ∧ ∃ u4 k5 : Nat, h = ⟨[(u4, some (List.map Enc.enc zo0_1))], k5⟩ ∧ e.length = 22 ∧ e.at 3 = V.sl 0 u4 0 zo0_1.length 1
theorem l47_1 (a0 : List Int)   {lo : Int} {s : (List Int)} {t : (List Int)} (hF : forR lo (a0.length : Int) (F47_1_B a0) (F47_1_D a0) s = some t) {e : Env} {h : Heap} (hI : I47_1 a0  lo s e h) : W A c47_1 e h (P47_1 a0  t) := by
  show W A (.block 0 (.loop false b47_1)) e h _
  rw [W_block]
  refine W_forR hF 1 (by obtain ⟨_, _, rfl, _⟩ := hI; rfl) (I47_1 a0 ) hI ?_ ?_
  · rintro v4_1 o0_1 e h ⟨u4, k5, rfl, hl_3, h0_3, h3_3, h4_3⟩ hlt hw o ho
    unfold F47_1_B at ho
    obtain ⟨x7, gx7, ho⟩ := bS ho
    obtain ⟨w8a, w8b⟩ := getI_w gx7
    obtain ⟨x9, gx9, ho⟩ := bS ho
    obtain ⟨w10a, w10b⟩ := getI_w gx9
    have w10c := getI_lt gx9
    have w10d : List.drop (Int.toNat v4_1) (List.map Enc.enc o0_1) = (V.int .i64 x9) :: List.drop ((Int.toNat v4_1) + 1) (List.map Enc.enc o0_1) := drop_enc w10b
    obtain ⟨l11, gl11, ho⟩ := bS ho
    obtain ⟨w12a, w12b, w12c, w12d, w12e⟩ := setI_w gl11
    replace w12e : List.take (Int.toNat v4_1) (List.map Enc.enc o0_1) ++ [V.int .i64 x7] ++ List.drop (Int.toNat v4_1 + 1) (List.map Enc.enc o0_1) = List.map Enc.enc l11 := w12e
    have hE := Option.some.inj ho; subst hE
    simp only [↓reduceIte, Nat.reduceAdd, Nat.reduceMul, Nat.reduceSub, Nat.reduceLT, Nat.reduceLeDiff, Nat.reduceEqDiff, Nat.reducePow, Int.reducePow, Int.reduceLE, Int.reduceLT, Int.reduceEq, Int.reduceToNat, reduceCtorEq, RR, RB, RZ, RE, opEv, fillV, mapO, mapS, b47_1, hl_3, h0_3, h3_3, h4_3, eq_true hlt, hw, w8a, w8b, w10a, w10b, w10c, w10d, w12a, w12b, w12c, w12e]
    refine And.intro rfl (Exists.intro _ ( Exists.intro _ ( And.intro rfl ?_)))
    simp only [↓reduceIte, Nat.reduceAdd, Nat.reduceMul, Nat.reduceSub, Nat.reduceLT, Nat.reduceLeDiff, Nat.reduceEqDiff, Nat.reducePow, Int.reducePow, Int.reduceLE, Int.reduceLT, Int.reduceEq, Int.reduceToNat, reduceCtorEq, RR, RB, RZ, RE, hl_3, h0_3, h3_3, h4_3, eq_true hlt, hw, w8a, w8b, w10a, w10b, w10c, w10d, w12a, w12b, w12c, w12e, w12d]
  · rintro v4_1 o0_1 e h ⟨u4, k5, rfl, hl_3, h0_3, h3_3, h4_3⟩ hge t1 ho
    unfold F47_1_D at ho
    have hE := Option.some.inj ho; subst hE
    simp only [↓reduceIte, Nat.reduceAdd, Nat.reduceMul, Nat.reduceSub, Nat.reduceLT, Nat.reduceLeDiff, Nat.reduceEqDiff, Nat.reducePow, Int.reducePow, Int.reduceLE, Int.reduceLT, Int.reduceEq, Int.reduceToNat, reduceCtorEq, RR, RB, RZ, RE, opEv, fillV, mapO, mapS, b47_1, hl_3, h0_3, h3_3, h4_3, eq_false hge]
    intro ht; subst ht
    refine And.intro rfl (Exists.intro _ ( Exists.intro _ ( And.intro rfl ?_)))
    simp only [↓reduceIte, Nat.reduceAdd, Nat.reduceMul, Nat.reduceSub, Nat.reduceLT, Nat.reduceLeDiff, Nat.reduceEqDiff, Nat.reducePow, Int.reducePow, Int.reduceLE, Int.reduceLT, Int.reduceEq, Int.reduceToNat, reduceCtorEq, RR, RB, RZ, RE, hl_3, h0_3, h3_3, h4_3, eq_false hge]
theorem s47 (a0 : List Int)   {r : List Int} (hF : F47 a0 = some r) : ans A 47 [V.isl (List.map Enc.enc a0)] = some (Enc.enc r) := by
  refine ans_of (f := p47) rfl rfl rfl fun e hl he => ?_
  have h0_0 : e.at 0 = V.isl (List.map Enc.enc a0) := he 0 _ rfl
  have hl_0 : e.length = 22 := hl
  clear he hl
  show W A b47 e ⟨[], 0⟩ _
  unfold F47 at hF
  obtain ⟨l1, gl1, hF⟩ := bS hF
  obtain ⟨w2a, w2b, w2c, w2d, w2e⟩ := mkL_w gl1
  replace w2e : (List.replicate (Int.toNat (a0.length : Int)) [V.int .i64 0]).flatten = List.map Enc.enc l1 := w2e
  obtain ⟨zo0_1, gt13, hF⟩ := bS hF
  simp only [↓reduceIte, Nat.reduceAdd, Nat.reduceMul, Nat.reduceSub, Nat.reduceLT, Nat.reduceLeDiff, Nat.reduceEqDiff, Nat.reducePow, Int.reducePow, Int.reduceLE, Int.reduceLT, Int.reduceEq, Int.reduceToNat, reduceCtorEq, RR, RB, RZ, RE, opEv, fillV, mapO, mapS, b47, hl_0, h0_0, w2a, w2b, w2c, w2e]
  refine W.mono (l47_1 a0   gt13 (Exists.intro _ ( Exists.intro _ ( And.intro rfl ?_)))) ?_
  · simp only [↓reduceIte, Nat.reduceAdd, Nat.reduceMul, Nat.reduceSub, Nat.reduceLT, Nat.reduceLeDiff, Nat.reduceEqDiff, Nat.reducePow, Int.reducePow, Int.reduceLE, Int.reduceLT, Int.reduceEq, Int.reduceToNat, reduceCtorEq, RR, RB, RZ, RE, hl_0, h0_0, w2a, w2b, w2c, w2e, w2d]
  rintro _ e _ ⟨rfl, u4, k5, rfl, hl_6, h3_6⟩
  have hE := Option.some.inj hF; subst hE
  simp only [↓reduceIte, Nat.reduceAdd, Nat.reduceMul, Nat.reduceSub, Nat.reduceLT, Nat.reduceLeDiff, Nat.reduceEqDiff, Nat.reducePow, Int.reducePow, Int.reduceLE, Int.reduceLT, Int.reduceEq, Int.reduceToNat, reduceCtorEq, RR, RB, RZ, RE, opEv, fillV, mapO, mapS, hl_6, h3_6]
  exact fin_ret (by simp only [↓reduceIte, Nat.reduceAdd, Nat.reduceMul, Nat.reduceSub, Nat.reduceLT, Nat.reduceLeDiff, Nat.reduceEqDiff, Nat.reducePow, Int.reducePow, Int.reduceLE, Int.reduceLT, Int.reduceEq, Int.reduceToNat, reduceCtorEq, RR, RB, RZ, RE, fn_out, p47, Rs.ev, mapO, mapS, take_len_self, hl_6, h3_6, frzs (α := Int) zo0_1, takes (α := Int) zo0_1])
theorem t47 (a0 : List Int)   {r : List Int} (hF : F47 a0 = some r) : tans A 47 [1] [V.isl (List.map Enc.enc a0)] = some (Enc.enc r) := by
  refine tans_of (f := p47) rfl rfl rfl fun e hl he => ?_
  have h0_0 : e.at 0 = V.isl (List.map Enc.enc a0) := he 0 _ rfl
  have hl_0 : e.length = 22 := hl
  clear he hl
  show W A b47 e ⟨[], 0⟩ _
  unfold F47 at hF
  obtain ⟨l1, gl1, hF⟩ := bS hF
  obtain ⟨w2a, w2b, w2c, w2d, w2e⟩ := mkL_w gl1
  replace w2e : (List.replicate (Int.toNat (a0.length : Int)) [V.int .i64 0]).flatten = List.map Enc.enc l1 := w2e
  obtain ⟨zo0_1, gt13, hF⟩ := bS hF
  simp only [↓reduceIte, Nat.reduceAdd, Nat.reduceMul, Nat.reduceSub, Nat.reduceLT, Nat.reduceLeDiff, Nat.reduceEqDiff, Nat.reducePow, Int.reducePow, Int.reduceLE, Int.reduceLT, Int.reduceEq, Int.reduceToNat, reduceCtorEq, RR, RB, RZ, RE, opEv, fillV, mapO, mapS, b47, hl_0, h0_0, w2a, w2b, w2c, w2e]
  refine W.mono (l47_1 a0   gt13 (Exists.intro _ ( Exists.intro _ ( And.intro rfl ?_)))) ?_
  · simp only [↓reduceIte, Nat.reduceAdd, Nat.reduceMul, Nat.reduceSub, Nat.reduceLT, Nat.reduceLeDiff, Nat.reduceEqDiff, Nat.reducePow, Int.reducePow, Int.reduceLE, Int.reduceLT, Int.reduceEq, Int.reduceToNat, reduceCtorEq, RR, RB, RZ, RE, hl_0, h0_0, w2a, w2b, w2c, w2e, w2d]
  rintro _ e _ ⟨rfl, u4, k5, rfl, hl_6, h3_6⟩
  have hE := Option.some.inj hF; subst hE
  simp only [↓reduceIte, Nat.reduceAdd, Nat.reduceMul, Nat.reduceSub, Nat.reduceLT, Nat.reduceLeDiff, Nat.reduceEqDiff, Nat.reducePow, Int.reducePow, Int.reduceLE, Int.reduceLT, Int.reduceEq, Int.reduceToNat, reduceCtorEq, RR, RB, RZ, RE, opEv, fillV, mapO, mapS, hl_6, h3_6]
  exact tfin_ret (by simp only [↓reduceIte, Nat.reduceAdd, Nat.reduceMul, Nat.reduceSub, Nat.reduceLT, Nat.reduceLeDiff, Nat.reduceEqDiff, Nat.reducePow, Int.reducePow, Int.reduceLE, Int.reduceLT, Int.reduceEq, Int.reduceToNat, reduceCtorEq, RR, RB, RZ, RE, fn_out, p47, Rs.ev, mapO, mapS, take_len_self, hl_6, h3_6, frzs (α := Int) zo0_1, takes (α := Int) zo0_1])
/-! loop.example/g01273/laws.toInt64SS -/
def F48_1_B (a0 : List (List Int)) (v4_1 : Int) (o0_1 : (List (List Int))) : Option (((List (List Int))) ⊕ ((List (List Int)))) :=
  (getI a0 v4_1).bind fun x7 =>
(F47 x7).bind fun x9 =>
(getI o0_1 v4_1).bind fun x11 =>
(setI o0_1 v4_1 x9).bind fun l13 =>
some (.inl l13)
def F48_1_D (a0 : List (List Int)) (v4_1 : Int) (o0_1 : (List (List Int))) : Option ((List (List Int))) :=
  some o0_1
def F48 (a0 : List (List Int)) : Option (List (List Int)) :=
  (mkL 24 (a0.length : Int) ([] : List Int)).bind fun l1 =>
  (forR 0 (a0.length : Int) (F48_1_B a0) (F48_1_D a0) l1).bind fun zo0_1 =>
  some zo0_1
theorem d48 (a0 : List (List Int)) {r : List (List Int)} (hF : F48 a0 = some r) : ∃ v h', res A 48 [V.isl (List.map Enc.enc a0)] Heap.empty = some (v, h') ∧ ∃ K, Deep.rep h' v r K := by
  refine res_dp (f := p48) rfl rfl rfl fun e hl he => ?_
  have h0_0 : e.at 0 = V.isl (List.map Enc.enc a0) := he 0 _ rfl
  have hl_0 : e.length = 23 := hl
  clear he hl
  show W A b48 e ⟨[], 0⟩ _
  unfold F48 at hF
  obtain ⟨l1, gl1, hF⟩ := bS hF
  obtain ⟨zo, gt, hF⟩ := bS hF
  have hE := Option.some.inj hF; subst hE
  obtain ⟨w1a, w1b, w1c, w1d⟩ := mkL_deep gl1
  simp only [Int.toNat_natCast] at w1d
  have w1e : (List.replicate (Int.toNat (a0.length : Int)) [V.nils]).flatten = List.replicate a0.length V.nils := by rw [Int.toNat_natCast, List.flatten_replicate_singleton]
  subst w1d
  simp only [↓reduceIte, Nat.reduceAdd, Nat.reduceMul, Nat.reduceSub, Nat.reduceLT, Nat.reduceLeDiff, Nat.reduceEqDiff, Nat.reducePow, Int.reducePow, Int.reduceLE, Int.reduceLT, Int.reduceEq, Int.reduceToNat, reduceCtorEq, RR, RB, RZ, opEv, fillV, mapO, mapS, b48, hl_0, h0_0, w1a, w1b, w1c, w1e, Int.toNat_natCast]
  show W A (.block 0 (.loop true b48_1)) _ _ _
  rw [W_block]
  refine W_forR gt _ rfl (fun i l e h => ∃ vs K, h.ents[0]? = some (0, some vs) ∧ reps h vs l K ∧ ¬ K 0 ∧ l.length = a0.length ∧ e.length = 23 ∧ e.at 0 = V.isl (List.map Enc.enc a0) ∧ e.at 3 = V.sl 0 0 0 a0.length 1 ∧ e.at 4 = V.int .i64 i) ?_ ?_ ?_
  · refine ⟨_, fun _ => False, rfl, by rw [List.flatten_replicate_singleton]; exact reps_nils _ _, fun x => x, by simp, ?_⟩
    simp only [↓reduceIte, Nat.reduceAdd, Nat.reduceMul, Nat.reduceSub, Nat.reduceLT, Nat.reduceLeDiff, Nat.reduceEqDiff, Nat.reducePow, Int.reducePow, Int.reduceLE, Int.reduceLT, Int.reduceEq, Int.reduceToNat, reduceCtorEq, RR, RB, RZ, hl_0, h0_0]
  · rintro i l e ⟨E, c⟩ ⟨vs, K, g1, g2, g3, g4, hl_1, h0_1, h3_1, h4_1⟩ hlt hw o ho
    unfold F48_1_B at ho
    obtain ⟨x7, gx7, ho⟩ := bS ho
    obtain ⟨w6a, w6b⟩ := getI_w gx7
    obtain ⟨x9, gx9, ho⟩ := bS ho
    have w8 := t47 x7 gx9
    obtain ⟨x11, gx11, ho⟩ := bS ho
    obtain ⟨l13, gl13, ho⟩ := bS ho
    have sm : l13 = l.set i.toNat x9 := setI_eq gl13
    have hE := Option.some.inj ho; subst hE
    have hil : i.toNat < l.length := by omega
    have hln := g2.len
    have hE0 : 0 < E.length := (List.getElem?_eq_some_iff.1 g1).1
    obtain ⟨x, K1, K2, f1, f2, f3, f4, f5⟩ := g2.focus hil
    have p0 : ∀ y, (E ++ [y])[0]? = some (0, some vs) := fun y => (List.getElem?_append_left hE0).trans g1
    have hs : List.take i.toNat vs ++ [V.sl E.length c 0 x9.length 1] ++ List.drop (i.toNat + 1) vs = vs.set i.toNat (V.sl E.length c 0 x9.length 1) := by
      rw [List.set_eq_take_append_cons_drop, if_pos (by omega)]; simp
    have hle : i.toNat + 1 ≤ vs.length := by omega
    simp only [↓reduceIte, Nat.reduceAdd, Nat.reduceMul, Nat.reduceSub, Nat.reduceLT, Nat.reduceLeDiff, Nat.reduceEqDiff, Nat.reducePow, Int.reducePow, Int.reduceLE, Int.reduceLT, Int.reduceEq, Int.reduceToNat, reduceCtorEq, RR, RB, RZ, opEv, fillV, mapO, mapS, b48_1, hl_1, h0_1, h3_1, h4_1, eq_true hlt, hw, w6a, w6b, w8, callM_tans, thaw_one, p0, hs, hle]
    have r1 := f5 ⟨(E ++ [(c, some (List.map Enc.enc x9))]).set 0 (0, some (vs.set i.toNat (V.sl E.length c 0 x9.length 1))), c + 1⟩ (V.sl E.length c 0 x9.length 1) x9 (fun k => k = E.length) (fun k => k = E.length ∨ K2 k)
      (int_row ((set_ne (by omega)).trans (get_last _ _)) fun k => Iff.rfl)
      (fun k q => set_app_new (fun e => g3 (e ▸ (f4 k).2 (.inr q))) (g2.bd ((f4 k).2 (.inr q))))
      (fun k q q2 => by have := g2.bd ((f4 k).2 (.inr q2)); simp only at this; omega) (fun k => Iff.rfl)
    refine And.intro rfl ⟨_, fun k => k = E.length ∨ K2 k, set_app_key (by simp), by rw [sm]; exact r1, fun q => q.elim (fun q => by omega) (fun q => g3 ((f4 0).2 (.inr q))), by rw [sm, List.length_set]; exact g4, ?_⟩
    simp only [↓reduceIte, Nat.reduceAdd, Nat.reduceMul, Nat.reduceSub, Nat.reduceLT, Nat.reduceLeDiff, Nat.reduceEqDiff, Nat.reducePow, Int.reducePow, Int.reduceLE, Int.reduceLT, Int.reduceEq, Int.reduceToNat, reduceCtorEq, RR, RB, RZ, hl_1, h0_1, h3_1, h4_1, hw]
  · rintro i l e ⟨E, c⟩ ⟨vs, K, g1, g2, g3, g4, hl_1, h0_1, h3_1, h4_1⟩ hge t1 ho
    unfold F48_1_D at ho
    have hE := Option.some.inj ho; subst hE
    simp only [↓reduceIte, Nat.reduceAdd, Nat.reduceMul, Nat.reduceSub, Nat.reduceLT, Nat.reduceLeDiff, Nat.reduceEqDiff, Nat.reducePow, Int.reducePow, Int.reduceLE, Int.reduceLT, Int.reduceEq, Int.reduceToNat, reduceCtorEq, RR, RB, RZ, opEv, fillV, mapO, mapS, b48_1, hl_1, h0_1, h3_1, h4_1, eq_false hge]
    intro ht; subst ht
    refine And.intro (fun _ => trivial) ⟨_, by simp only [↓reduceIte, Nat.reduceAdd, Nat.reduceMul, Nat.reduceSub, Nat.reduceLT, Nat.reduceLeDiff, Nat.reduceEqDiff, Nat.reducePow, Int.reducePow, Int.reduceLE, Int.reduceLT, Int.reduceEq, Int.reduceToNat, reduceCtorEq, RR, RB, RZ, fn_out, p48, Rs.ev, mapO, mapS, hl_1]; rfl, fun k => k = 0 ∨ K k, .inr ⟨0, 0, vs, K, by rw [g4], g1, g2, g3, fun k => Iff.rfl⟩⟩
theorem s48 (a0 : List (List Int)) {r : List (List Int)} (hF : F48 a0 = some r) : ans A 48 [V.isl (List.map Enc.enc a0)] = some (Enc.enc r) := ans_of_deep (by decide) (d48 a0 hF)
theorem x48 (a0 : List (List Int)) {r : List (List Int)} (hF : F48 a0 = some r) : tans A 48 [1, 1] [V.isl (List.map Enc.enc a0)] = some (Enc.enc r) := tans_of_deep (α := List (List Int)) (by decide) (d48 a0 hF)
/-! loop.example/g01273/laws.toInt64SSS -/
def F13_1_B (a0 : List (List (List Int))) (v4_1 : Int) (o0_1 : (List (List (List Int)))) : Option (((List (List (List Int)))) ⊕ ((List (List (List Int))))) :=
  (getI a0 v4_1).bind fun x7 =>
(F48 x7).bind fun x9 =>
(getI o0_1 v4_1).bind fun x11 =>
(setI o0_1 v4_1 x9).bind fun l13 =>
some (.inl l13)
def F13_1_D (a0 : List (List (List Int))) (v4_1 : Int) (o0_1 : (List (List (List Int)))) : Option ((List (List (List Int)))) :=
  some o0_1
def F13 (a0 : List (List (List Int))) : Option (List (List (List Int))) :=
  (mkL 24 (a0.length : Int) ([] : List (List Int))).bind fun l1 =>
  (forR 0 (a0.length : Int) (F13_1_B a0) (F13_1_D a0) l1).bind fun zo0_1 =>
  some zo0_1
theorem d13 (a0 : List (List (List Int))) {r : List (List (List Int))} (hF : F13 a0 = some r) : ∃ v h', res A 13 [V.isl (List.map Enc.enc a0)] Heap.empty = some (v, h') ∧ ∃ K, Deep.rep h' v r K := by
  refine res_dp (f := p13) rfl rfl rfl fun e hl he => ?_
  have h0_0 : e.at 0 = V.isl (List.map Enc.enc a0) := he 0 _ rfl
  have hl_0 : e.length = 23 := hl
  clear he hl
  show W A b13 e ⟨[], 0⟩ _
  unfold F13 at hF
  obtain ⟨l1, gl1, hF⟩ := bS hF
  obtain ⟨zo, gt, hF⟩ := bS hF
  have hE := Option.some.inj hF; subst hE
  obtain ⟨w1a, w1b, w1c, w1d⟩ := mkL_deep gl1
  simp only [Int.toNat_natCast] at w1d
  have w1e : (List.replicate (Int.toNat (a0.length : Int)) [V.nils]).flatten = List.replicate a0.length V.nils := by rw [Int.toNat_natCast, List.flatten_replicate_singleton]
  subst w1d
  simp only [↓reduceIte, Nat.reduceAdd, Nat.reduceMul, Nat.reduceSub, Nat.reduceLT, Nat.reduceLeDiff, Nat.reduceEqDiff, Nat.reducePow, Int.reducePow, Int.reduceLE, Int.reduceLT, Int.reduceEq, Int.reduceToNat, reduceCtorEq, RR, RB, RZ, opEv, fillV, mapO, mapS, b13, hl_0, h0_0, w1a, w1b, w1c, w1e, Int.toNat_natCast]
  show W A (.block 0 (.loop true b13_1)) _ _ _
  rw [W_block]
  refine W_forR gt _ rfl (fun i l e h => ∃ vs K, h.ents[0]? = some (0, some vs) ∧ reps h vs l K ∧ ¬ K 0 ∧ l.length = a0.length ∧ e.length = 23 ∧ e.at 0 = V.isl (List.map Enc.enc a0) ∧ e.at 3 = V.sl 0 0 0 a0.length 1 ∧ e.at 4 = V.int .i64 i) ?_ ?_ ?_
  · refine ⟨_, fun _ => False, rfl, by rw [List.flatten_replicate_singleton]; exact reps_nils _ _, fun x => x, by simp, ?_⟩
    simp only [↓reduceIte, Nat.reduceAdd, Nat.reduceMul, Nat.reduceSub, Nat.reduceLT, Nat.reduceLeDiff, Nat.reduceEqDiff, Nat.reducePow, Int.reducePow, Int.reduceLE, Int.reduceLT, Int.reduceEq, Int.reduceToNat, reduceCtorEq, RR, RB, RZ, hl_0, h0_0]
  · rintro i l e ⟨E, c⟩ ⟨vs, K, g1, g2, g3, g4, hl_1, h0_1, h3_1, h4_1⟩ hlt hw o ho
    unfold F13_1_B at ho
    obtain ⟨x7, gx7, ho⟩ := bS ho
    obtain ⟨w6a, w6b⟩ := getI_w gx7
    obtain ⟨x9, gx9, ho⟩ := bS ho
    have w8 := x48 x7 gx9
    obtain ⟨x11, gx11, ho⟩ := bS ho
    obtain ⟨l13, gl13, ho⟩ := bS ho
    have sm : l13 = l.set i.toNat x9 := setI_eq gl13
    have hE := Option.some.inj ho; subst hE
    have hil : i.toNat < l.length := by omega
    have hln := g2.len
    have hE0 : 0 < E.length := (List.getElem?_eq_some_iff.1 g1).1
    obtain ⟨x, K1, K2, f1, f2, f3, f4, f5⟩ := g2.focus hil
    obtain ⟨v, ⟨E1, c1⟩, t1, t2, t3, t4⟩ := thaw_deep (α := List (List Int)) (by decide) x9 ⟨E, c⟩
    have t1' : thaw 16 [1, 1] (V.isl (List.map Enc.enc x9)) ⟨E, c⟩ = some (v, ⟨E1, c1⟩) := t1
    obtain ⟨v1, v2⟩ := rep_one t2
    simp only at t2 t3 t4 g1
    have p0 : E1[0]? = some (0, some vs) := (t4 0 hE0).trans g1
    have hs : List.take i.toNat vs ++ [v] ++ List.drop (i.toNat + 1) vs = vs.set i.toNat (v) := by
      rw [List.set_eq_take_append_cons_drop, if_pos (by omega)]; simp
    have hle : i.toNat + 1 ≤ vs.length := by omega
    simp only [↓reduceIte, Nat.reduceAdd, Nat.reduceMul, Nat.reduceSub, Nat.reduceLT, Nat.reduceLeDiff, Nat.reduceEqDiff, Nat.reducePow, Int.reducePow, Int.reduceLE, Int.reduceLT, Int.reduceEq, Int.reduceToNat, reduceCtorEq, RR, RB, RZ, opEv, fillV, mapO, mapS, b13_1, hl_1, h0_1, h3_1, h4_1, eq_true hlt, hw, w6a, w6b, w8, callM_tans, t1', v1, v2, p0, hs, hle]
    have r1 := f5 ⟨E1.set 0 (0, some (vs.set i.toNat v)), c1⟩ v x9 (fun k => E.length ≤ k ∧ k < E1.length) (fun k => (E.length ≤ k ∧ k < E1.length) ∨ K2 k)
      (Deep.frame t2 fun k q => set_ne (by omega))
      (fun k q => (set_ne (E := E1) (key := 0) (k := k) (fun e : k = 0 => g3 (e ▸ (f4 k).2 (.inr q)))).trans (t4 k (g2.bd ((f4 k).2 (.inr q)))))
      (fun k q q2 => by have := g2.bd ((f4 k).2 (.inr q2)); simp only at this; omega) (fun k => Iff.rfl)
    refine And.intro rfl ⟨_, fun k => (E.length ≤ k ∧ k < E1.length) ∨ K2 k, set_app_key (by omega), by rw [sm]; exact r1, fun q => q.elim (fun q => by omega) (fun q => g3 ((f4 0).2 (.inr q))), by rw [sm, List.length_set]; exact g4, ?_⟩
    simp only [↓reduceIte, Nat.reduceAdd, Nat.reduceMul, Nat.reduceSub, Nat.reduceLT, Nat.reduceLeDiff, Nat.reduceEqDiff, Nat.reducePow, Int.reducePow, Int.reduceLE, Int.reduceLT, Int.reduceEq, Int.reduceToNat, reduceCtorEq, RR, RB, RZ, hl_1, h0_1, h3_1, h4_1, hw]
  · rintro i l e ⟨E, c⟩ ⟨vs, K, g1, g2, g3, g4, hl_1, h0_1, h3_1, h4_1⟩ hge t1 ho
    unfold F13_1_D at ho
    have hE := Option.some.inj ho; subst hE
    simp only [↓reduceIte, Nat.reduceAdd, Nat.reduceMul, Nat.reduceSub, Nat.reduceLT, Nat.reduceLeDiff, Nat.reduceEqDiff, Nat.reducePow, Int.reducePow, Int.reduceLE, Int.reduceLT, Int.reduceEq, Int.reduceToNat, reduceCtorEq, RR, RB, RZ, opEv, fillV, mapO, mapS, b13_1, hl_1, h0_1, h3_1, h4_1, eq_false hge]
    intro ht; subst ht
    refine And.intro (fun _ => trivial) ⟨_, by simp only [↓reduceIte, Nat.reduceAdd, Nat.reduceMul, Nat.reduceSub, Nat.reduceLT, Nat.reduceLeDiff, Nat.reduceEqDiff, Nat.reducePow, Int.reducePow, Int.reduceLE, Int.reduceLT, Int.reduceEq, Int.reduceToNat, reduceCtorEq, RR, RB, RZ, fn_out, p13, Rs.ev, mapO, mapS, hl_1]; rfl, fun k => k = 0 ∨ K k, .inr ⟨0, 0, vs, K, by rw [g4], g1, g2, g3, fun k => Iff.rfl⟩⟩
theorem s13 (a0 : List (List (List Int))) {r : List (List (List Int))} (hF : F13 a0 = some r) : ans A 13 [V.isl (List.map Enc.enc a0)] = some (Enc.enc r) := ans_of_deep (by decide) (d13 a0 hF)
theorem x13 (a0 : List (List (List Int))) {r : List (List (List Int))} (hF : F13 a0 = some r) : tans A 13 [1, 1, 1] [V.isl (List.map Enc.enc a0)] = some (Enc.enc r) := tans_of_deep (α := List (List (List Int))) (by decide) (d13 a0 hF)
/-! loop.example/g01273/laws.toComplex -/
def F12 (a0 : GComplex) : Option GComplex :=
  (F47 a0.Dims).bind fun x1 =>
  (F13 a0.Maps).bind fun x3 =>
  some ⟨a0.Prime, x1, x3⟩
theorem d12 (x : GComplex) {r : GComplex} (hF : F12 x = some r) : ∃ v h', res A 12 [V.agg [V.int .i64 x.Prime, V.isl (List.map Enc.enc x.Dims), V.isl (List.map Enc.enc x.Maps)]] Heap.empty = some (v, h') ∧ ∃ dv mv, ∃ K1 K2 : Ks, v = V.agg [V.int .i64 r.Prime, dv, mv] ∧ Deep.rep h' dv r.Dims K1 ∧ Deep.rep h' mv r.Maps K2 ∧ ∀ k, K1 k → ¬ K2 k := by
  refine res_dp (f := p12) rfl rfl rfl fun e hl he => ?_
  have h0_0 : e.at 0 = V.agg [V.int .i64 x.Prime, V.isl (List.map Enc.enc x.Dims), V.isl (List.map Enc.enc x.Maps)] := he 0 _ rfl
  have hl_0 : e.length = 16 := hl
  clear he hl
  show W A b12 e ⟨[], 0⟩ _
  unfold F12 at hF
  obtain ⟨d, gd, hF⟩ := bS hF
  have w1 := t47 x.Dims gd
  obtain ⟨ms, gm, hF⟩ := bS hF
  have w2 := x13 x.Maps gm
  have hE := Option.some.inj hF; subst hE
  obtain ⟨mv, ⟨E1, c1⟩, t1, t2, t3, t4⟩ := thaw_deep (α := List (List (List Int))) (by decide) ms ⟨[(0, none), (1, some [V.int .i64 0, V.nils, V.nils]), (2, some [V.int .i64 x.Prime, V.sl 3 3 0 d.length 1, V.nils]), (3, some (List.map Enc.enc d))], 4⟩
  have t1' : thaw 16 [1, 1, 1] (V.isl (List.map Enc.enc ms)) ⟨[(0, none), (1, some [V.int .i64 0, V.nils, V.nils]), (2, some [V.int .i64 x.Prime, V.sl 3 3 0 d.length 1, V.nils]), (3, some (List.map Enc.enc d))], 4⟩ = some (mv, ⟨E1, c1⟩) := t1
  obtain ⟨v1, v2⟩ := rep_one t2
  simp only [List.length_cons, List.length_nil, Nat.zero_add, Nat.reduceAdd] at t2 t3 t4
  have m1 : E1[1]? = some (1, some [V.int .i64 0, V.nils, V.nils]) := t4 1 (by decide)
  have m2 : E1[2]? = some (2, some [V.int .i64 x.Prime, V.sl 3 3 0 d.length 1, V.nils]) := t4 2 (by decide)
  have m3 : E1[3]? = some (3, some (List.map Enc.enc d)) := t4 3 (by decide)
  have n1 : ∀ z, (E1.set 2 z)[1]? = _ := fun z => (set_ne (by decide)).trans m1
  have n2 : ∀ z, (E1.set 2 z)[2]? = some z := fun z => set_app_key (by omega)
  simp only [↓reduceIte, Nat.reduceAdd, Nat.reduceMul, Nat.reduceSub, Nat.reduceLT, Nat.reduceLeDiff, Nat.reduceEqDiff, Nat.reducePow, Int.reducePow, Int.reduceLE, Int.reduceLT, Int.reduceEq, Int.reduceToNat, reduceCtorEq, RR, RB, RZ, RE, opEv, fillV, mapO, mapS, b12, hl_0, h0_0, w1, w2, callM_tans, thaw_one, t1', v1, v2, m1, m2, n1, n2]
  refine And.intro (fun _ => trivial) ⟨_, by simp only [↓reduceIte, Nat.reduceAdd, Nat.reduceMul, Nat.reduceSub, Nat.reduceLT, Nat.reduceLeDiff, Nat.reduceEqDiff, Nat.reducePow, Int.reducePow, Int.reduceLE, Int.reduceLT, Int.reduceEq, Int.reduceToNat, reduceCtorEq, RR, RB, RZ, RE, fn_out, p12, Rs.ev, mapO, mapS, hl_0, set_app_key (show 1 < (E1.set 2 (2, some [V.int .i64 x.Prime, V.sl 3 3 0 d.length 1, mv])).length by simp; omega)], V.sl 3 3 0 d.length 1, mv, fun k => k = 3, _, rfl, int_row ((set_ne (by decide)).trans ((set_ne (by decide)).trans m3)) (fun k => Iff.rfl), Deep.frame t2 fun k q => (set_ne (by omega)).trans (set_ne (by omega)), fun k q => by omega⟩
theorem s12 (x : GComplex) {r : GComplex} (hF : F12 x = some r) : ans A 12 [V.agg [V.int .i64 x.Prime, V.isl (List.map Enc.enc x.Dims), V.isl (List.map Enc.enc x.Maps)]] = some (Enc.enc r) := by
  obtain ⟨v, h', h1, dv, mv, K1, K2, rfl, h2, h3, h4⟩ := d12 x hF
  exact ans_agg2 h1 h2 h3
theorem x12 (x : GComplex) {r : GComplex} (hF : F12 x = some r) : tans A 12 [1, 1, 1] [V.agg [V.int .i64 x.Prime, V.isl (List.map Enc.enc x.Dims), V.isl (List.map Enc.enc x.Maps)]] = some (V.agg [V.int .i64 r.Prime, V.isl (List.map Enc.enc r.Dims), V.isl (List.map Enc.enc r.Maps)]) := by
  obtain ⟨v, h', h1, dv, mv, K1, K2, rfl, h2, h3, h4⟩ := d12 x hF
  exact tans_agg2 h1 h2 h3 h4
/-! loop.example/g01273/laws.eqInt64S -/
def F30_1_B (a0 : List Int) (a1 : List Int) (v5_1 : Int) (s : Unit) : Option ((Unit) ⊕ ((Unit) ⊕ Bool)) :=
  (getI a0 v5_1).bind fun x5 =>
(getI a1 v5_1).bind fun x7 =>
if x5 = x7 then
  some (.inl ())
else
  some (.inr (.inr false))
def F30_1_D (a0 : List Int) (a1 : List Int) (v5_1 : Int) (s : Unit) : Option ((Unit) ⊕ Bool) :=
  some (.inl ())
def F30 (a0 : List Int) (a1 : List Int) : Option Bool :=
  if (a0.length : Int) = (a1.length : Int) then
    (forR 0 (a0.length : Int) (F30_1_B a0 a1) (F30_1_D a0 a1) ()).bind fun t10 => match t10 with
      | .inl _ =>
        some true
      | .inr r11 => some r11
  else
    some false
def I30_1 (a0 : List Int) (a1 : List Int)  (v5_1 : Int) (s : Unit) (e : Env) (h : Heap) : Prop :=
  ∃ k3 : Nat, h = ⟨[], k3⟩ ∧ e.length = 26 ∧ e.at 0 = V.isl (List.map Enc.enc a0) ∧ e.at 1 = V.isl (List.map Enc.enc a1) ∧ e.at 5 = V.int .i64 v5_1
def P30_1 (a0 : List Int) (a1 : List Int)  (t : (Unit) ⊕ Bool) (x : Ex) (e : Env) (h : Heap) : Prop :=
  match t with
  | .inl _ => x = .normal ∧ ∃ k3 : Nat, h = ⟨[], k3⟩ ∧ e.length = 26
  | .inr r => x = .ret ∧ Fin p30 (Enc.enc r) .ret e h
theorem l30_1 (a0 : List Int) (a1 : List Int)   {lo : Int} {s : Unit} {t : (Unit) ⊕ Bool} (hF : forR lo (a0.length : Int) (F30_1_B a0 a1) (F30_1_D a0 a1) s = some t) {e : Env} {h : Heap} (hI : I30_1 a0 a1  lo s e h) : W A c30_1 e h (P30_1 a0 a1  t) := by
  show W A (.block 0 (.loop false b30_1)) e h _
  rw [W_block]
  refine W_forR hF 0 (by obtain ⟨_, rfl, _⟩ := hI; rfl) (I30_1 a0 a1 ) hI ?_ ?_
  · rintro v5_1 _ e h ⟨k3, rfl, hl_2, h0_2, h1_2, h5_2⟩ hlt hw o ho
    unfold F30_1_B at ho
    obtain ⟨x5, gx5, ho⟩ := bS ho
    obtain ⟨w6a, w6b⟩ := getI_w gx5
    obtain ⟨x7, gx7, ho⟩ := bS ho
    obtain ⟨w8a, w8b⟩ := getI_w gx7
    by_cases c9 : x5 = x7
    · rw [if_pos c9] at ho
      have hE := Option.some.inj ho; subst hE
      simp only [↓reduceIte, Nat.reduceAdd, Nat.reduceMul, Nat.reduceSub, Nat.reduceLT, Nat.reduceLeDiff, Nat.reduceEqDiff, Nat.reducePow, Int.reducePow, Int.reduceLE, Int.reduceLT, Int.reduceEq, Int.reduceToNat, reduceCtorEq, RR, RB, RZ, RE, opEv, fillV, mapO, mapS, b30_1, hl_2, h0_2, h1_2, h5_2, eq_true hlt, hw, w6a, w6b, w8a, w8b, eq_true c9]
      refine And.intro rfl (Exists.intro _ ( And.intro rfl ?_))
      simp only [↓reduceIte, Nat.reduceAdd, Nat.reduceMul, Nat.reduceSub, Nat.reduceLT, Nat.reduceLeDiff, Nat.reduceEqDiff, Nat.reducePow, Int.reducePow, Int.reduceLE, Int.reduceLT, Int.reduceEq, Int.reduceToNat, reduceCtorEq, RR, RB, RZ, RE, hl_2, h0_2, h1_2, h5_2, eq_true hlt, hw, w6a, w6b, w8a, w8b, eq_true c9]
    · rw [if_neg c9] at ho
      have hE := Option.some.inj ho; subst hE
      simp only [↓reduceIte, Nat.reduceAdd, Nat.reduceMul, Nat.reduceSub, Nat.reduceLT, Nat.reduceLeDiff, Nat.reduceEqDiff, Nat.reducePow, Int.reducePow, Int.reduceLE, Int.reduceLT, Int.reduceEq, Int.reduceToNat, reduceCtorEq, RR, RB, RZ, RE, opEv, fillV, mapO, mapS, b30_1, hl_2, h0_2, h1_2, h5_2, eq_true hlt, hw, w6a, w6b, w8a, w8b, eq_false c9]
      intro ht; subst ht
      simp only [↓reduceIte, Nat.reduceAdd, Nat.reduceMul, Nat.reduceSub, Nat.reduceLT, Nat.reduceLeDiff, Nat.reduceEqDiff, Nat.reducePow, Int.reducePow, Int.reduceLE, Int.reduceLT, Int.reduceEq, Int.reduceToNat, reduceCtorEq, RR, RB]
      exact And.intro rfl (fin_ret (by simp only [↓reduceIte, Nat.reduceAdd, Nat.reduceMul, Nat.reduceSub, Nat.reduceLT, Nat.reduceLeDiff, Nat.reduceEqDiff, Nat.reducePow, Int.reducePow, Int.reduceLE, Int.reduceLT, Int.reduceEq, Int.reduceToNat, reduceCtorEq, RR, RB, RZ, RE, fn_out, p30, Rs.ev, mapO, mapS, take_len_self, hl_2, h0_2, h1_2, h5_2, eq_true hlt, hw, w6a, w6b, w8a, w8b, eq_false c9]))
  · rintro v5_1 _ e h ⟨k3, rfl, hl_2, h0_2, h1_2, h5_2⟩ hge t1 ho
    unfold F30_1_D at ho
    have hE := Option.some.inj ho; subst hE
    simp only [↓reduceIte, Nat.reduceAdd, Nat.reduceMul, Nat.reduceSub, Nat.reduceLT, Nat.reduceLeDiff, Nat.reduceEqDiff, Nat.reducePow, Int.reducePow, Int.reduceLE, Int.reduceLT, Int.reduceEq, Int.reduceToNat, reduceCtorEq, RR, RB, RZ, RE, opEv, fillV, mapO, mapS, b30_1, hl_2, h0_2, h1_2, h5_2, eq_false hge]
    intro ht; subst ht
    refine And.intro rfl (Exists.intro _ ( And.intro rfl ?_))
    simp only [↓reduceIte, Nat.reduceAdd, Nat.reduceMul, Nat.reduceSub, Nat.reduceLT, Nat.reduceLeDiff, Nat.reduceEqDiff, Nat.reducePow, Int.reducePow, Int.reduceLE, Int.reduceLT, Int.reduceEq, Int.reduceToNat, reduceCtorEq, RR, RB, RZ, RE, hl_2, h0_2, h1_2, h5_2, eq_false hge]
theorem s30 (a0 : List Int) (a1 : List Int)   {r : Bool} (hF : F30 a0 a1 = some r) : ans A 30 [V.isl (List.map Enc.enc a0), V.isl (List.map Enc.enc a1)] = some (Enc.enc r) := by
  refine ans_of (f := p30) rfl rfl rfl fun e hl he => ?_
  have h0_0 : e.at 0 = V.isl (List.map Enc.enc a0) := he 0 _ rfl
  have h1_0 : e.at 1 = V.isl (List.map Enc.enc a1) := he 1 _ rfl
  have hl_0 : e.length = 26 := hl
  clear he hl
  show W A b30 e ⟨[], 0⟩ _
  unfold F30 at hF
  by_cases c1 : (a0.length : Int) = (a1.length : Int)
  · rw [if_pos c1] at hF
    obtain ⟨t10, gt10, hF⟩ := bS hF
    rcases t10 with _ | r11
    · dsimp only at hF
      simp only [↓reduceIte, Nat.reduceAdd, Nat.reduceMul, Nat.reduceSub, Nat.reduceLT, Nat.reduceLeDiff, Nat.reduceEqDiff, Nat.reducePow, Int.reducePow, Int.reduceLE, Int.reduceLT, Int.reduceEq, Int.reduceToNat, reduceCtorEq, RR, RB, RZ, RE, opEv, fillV, mapO, mapS, b30, hl_0, h0_0, h1_0, eq_true c1]
      refine W.mono (l30_1 a0 a1   gt10 (Exists.intro _ ( And.intro rfl ?_))) ?_
      · simp only [↓reduceIte, Nat.reduceAdd, Nat.reduceMul, Nat.reduceSub, Nat.reduceLT, Nat.reduceLeDiff, Nat.reduceEqDiff, Nat.reducePow, Int.reducePow, Int.reduceLE, Int.reduceLT, Int.reduceEq, Int.reduceToNat, reduceCtorEq, RR, RB, RZ, RE, hl_0, h0_0, h1_0, eq_true c1]
      rintro _ e _ ⟨rfl, k3, rfl, hl_4⟩
      have hE := Option.some.inj hF; subst hE
      simp only [↓reduceIte, Nat.reduceAdd, Nat.reduceMul, Nat.reduceSub, Nat.reduceLT, Nat.reduceLeDiff, Nat.reduceEqDiff, Nat.reducePow, Int.reducePow, Int.reduceLE, Int.reduceLT, Int.reduceEq, Int.reduceToNat, reduceCtorEq, RR, RB, RZ, RE, opEv, fillV, mapO, mapS, hl_4, eq_true c1]
      exact fin_ret (by simp only [↓reduceIte, Nat.reduceAdd, Nat.reduceMul, Nat.reduceSub, Nat.reduceLT, Nat.reduceLeDiff, Nat.reduceEqDiff, Nat.reducePow, Int.reducePow, Int.reduceLE, Int.reduceLT, Int.reduceEq, Int.reduceToNat, reduceCtorEq, RR, RB, RZ, RE, fn_out, p30, Rs.ev, mapO, mapS, take_len_self, hl_4, eq_true c1])
    · dsimp only at hF
      have hE := Option.some.inj hF; subst hE
      simp only [↓reduceIte, Nat.reduceAdd, Nat.reduceMul, Nat.reduceSub, Nat.reduceLT, Nat.reduceLeDiff, Nat.reduceEqDiff, Nat.reducePow, Int.reducePow, Int.reduceLE, Int.reduceLT, Int.reduceEq, Int.reduceToNat, reduceCtorEq, RR, RB, RZ, RE, opEv, fillV, mapO, mapS, b30, hl_0, h0_0, h1_0, eq_true c1]
      refine W.mono (l30_1 a0 a1   gt10 (Exists.intro _ ( And.intro rfl ?_))) ?_
      · simp only [↓reduceIte, Nat.reduceAdd, Nat.reduceMul, Nat.reduceSub, Nat.reduceLT, Nat.reduceLeDiff, Nat.reduceEqDiff, Nat.reducePow, Int.reducePow, Int.reduceLE, Int.reduceLT, Int.reduceEq, Int.reduceToNat, reduceCtorEq, RR, RB, RZ, RE, hl_0, h0_0, h1_0, eq_true c1]
      rintro _ e h ⟨rfl, hq⟩
      simp only [↓reduceIte, Nat.reduceAdd, Nat.reduceMul, Nat.reduceSub, Nat.reduceLT, Nat.reduceLeDiff, Nat.reduceEqDiff, Nat.reducePow, Int.reducePow, Int.reduceLE, Int.reduceLT, Int.reduceEq, Int.reduceToNat, reduceCtorEq, RR, RB]
      exact hq
  · rw [if_neg c1] at hF
    have hE := Option.some.inj hF; subst hE
    simp only [↓reduceIte, Nat.reduceAdd, Nat.reduceMul, Nat.reduceSub, Nat.reduceLT, Nat.reduceLeDiff, Nat.reduceEqDiff, Nat.reducePow, Int.reducePow, Int.reduceLE, Int.reduceLT, Int.reduceEq, Int.reduceToNat, reduceCtorEq, RR, RB, RZ, RE, opEv, fillV, mapO, mapS, b30, hl_0, h0_0, h1_0, eq_false c1]
    exact fin_ret (by simp only [↓reduceIte, Nat.reduceAdd, Nat.reduceMul, Nat.reduceSub, Nat.reduceLT, Nat.reduceLeDiff, Nat.reduceEqDiff, Nat.reducePow, Int.reducePow, Int.reduceLE, Int.reduceLT, Int.reduceEq, Int.reduceToNat, reduceCtorEq, RR, RB, RZ, RE, fn_out, p30, Rs.ev, mapO, mapS, take_len_self, hl_0, h0_0, h1_0, eq_false c1])
/-! loop.example/g01273/laws.eqInt64SS -/
def F51_1_B (a0 : List (List Int)) (a1 : List (List Int)) (v5_1 : Int) (s : Unit) : Option ((Unit) ⊕ ((Unit) ⊕ Bool)) :=
  (getI a0 v5_1).bind fun x5 =>
(getI a1 v5_1).bind fun x7 =>
(F30 x5 x7).bind fun x9 =>
if x9 = true then
  some (.inl ())
else
  some (.inr (.inr false))
def F51_1_D (a0 : List (List Int)) (a1 : List (List Int)) (v5_1 : Int) (s : Unit) : Option ((Unit) ⊕ Bool) :=
  some (.inl ())
def F51 (a0 : List (List Int)) (a1 : List (List Int)) : Option Bool :=
  if (a0.length : Int) = (a1.length : Int) then
    (forR 0 (a0.length : Int) (F51_1_B a0 a1) (F51_1_D a0 a1) ()).bind fun t11 => match t11 with
      | .inl _ =>
        some true
      | .inr r12 => some r12
  else
    some false
def I51_1 (a0 : List (List Int)) (a1 : List (List Int))  (v5_1 : Int) (s : Unit) (e : Env) (h : Heap) : Prop :=
  ∃ k3 : Nat, h = ⟨[], k3⟩ ∧ e.length = 27 ∧ e.at 0 = V.isl (List.map Enc.enc a0) ∧ e.at 1 = V.isl (List.map Enc.enc a1) ∧ e.at 5 = V.int .i64 v5_1
def P51_1 (a0 : List (List Int)) (a1 : List (List Int))  (t : (Unit) ⊕ Bool) (x : Ex) (e : Env) (h : Heap) : Prop :=
  match t with
  | .inl _ => x = .normal ∧ ∃ k3 : Nat, h = ⟨[], k3⟩ ∧ e.length = 27
  | .inr r => x = .ret ∧ Fin p51 (Enc.enc r) .ret e h
theorem l51_1 (a0 : List (List Int)) (a1 : List (List Int))   {lo : Int} {s : Unit} {t : (Unit) ⊕ Bool} (hF : forR lo (a0.length : Int) (F51_1_B a0 a1) (F51_1_D a0 a1) s = some t) {e : Env} {h : Heap} (hI : I51_1 a0 a1  lo s e h) : W A c51_1 e h (P51_1 a0 a1  t) := by
  show W A (.block 0 (.loop false b51_1)) e h _
  rw [W_block]
  refine W_forR hF 0 (by obtain ⟨_, rfl, _⟩ := hI; rfl) (I51_1 a0 a1 ) hI ?_ ?_
  · rintro v5_1 _ e h ⟨k3, rfl, hl_2, h0_2, h1_2, h5_2⟩ hlt hw o ho
    unfold F51_1_B at ho
    obtain ⟨x5, gx5, ho⟩ := bS ho
    obtain ⟨w6a, w6b⟩ := getI_w gx5
    obtain ⟨x7, gx7, ho⟩ := bS ho
    obtain ⟨w8a, w8b⟩ := getI_w gx7
    obtain ⟨x9, gx9, ho⟩ := bS ho
    have w10 : ans A 30 [V.isl (List.map Enc.enc x5), V.isl (List.map Enc.enc x7)] = some (V.bool x9) := s30 x5 x7  gx9
    cases x9 with
    | true =>
      rw [if_pos rfl] at ho
      have hE := Option.some.inj ho; subst hE
      simp only [↓reduceIte, Nat.reduceAdd, Nat.reduceMul, Nat.reduceSub, Nat.reduceLT, Nat.reduceLeDiff, Nat.reduceEqDiff, Nat.reducePow, Int.reducePow, Int.reduceLE, Int.reduceLT, Int.reduceEq, Int.reduceToNat, reduceCtorEq, RR, RB, RZ, RE, opEv, fillV, mapO, mapS, b51_1, hl_2, h0_2, h1_2, h5_2, eq_true hlt, hw, w6a, w6b, w8a, w8b, w10]
      refine And.intro rfl (Exists.intro _ ( And.intro rfl ?_))
      simp only [↓reduceIte, Nat.reduceAdd, Nat.reduceMul, Nat.reduceSub, Nat.reduceLT, Nat.reduceLeDiff, Nat.reduceEqDiff, Nat.reducePow, Int.reducePow, Int.reduceLE, Int.reduceLT, Int.reduceEq, Int.reduceToNat, reduceCtorEq, RR, RB, RZ, RE, hl_2, h0_2, h1_2, h5_2, eq_true hlt, hw, w6a, w6b, w8a, w8b, w10]
    | false =>
      rw [if_neg Bool.false_ne_true] at ho
      have hE := Option.some.inj ho; subst hE
      simp only [↓reduceIte, Nat.reduceAdd, Nat.reduceMul, Nat.reduceSub, Nat.reduceLT, Nat.reduceLeDiff, Nat.reduceEqDiff, Nat.reducePow, Int.reducePow, Int.reduceLE, Int.reduceLT, Int.reduceEq, Int.reduceToNat, reduceCtorEq, RR, RB, RZ, RE, opEv, fillV, mapO, mapS, b51_1, hl_2, h0_2, h1_2, h5_2, eq_true hlt, hw, w6a, w6b, w8a, w8b, w10]
      intro ht; subst ht
      simp only [↓reduceIte, Nat.reduceAdd, Nat.reduceMul, Nat.reduceSub, Nat.reduceLT, Nat.reduceLeDiff, Nat.reduceEqDiff, Nat.reducePow, Int.reducePow, Int.reduceLE, Int.reduceLT, Int.reduceEq, Int.reduceToNat, reduceCtorEq, RR, RB]
      exact And.intro rfl (fin_ret (by simp only [↓reduceIte, Nat.reduceAdd, Nat.reduceMul, Nat.reduceSub, Nat.reduceLT, Nat.reduceLeDiff, Nat.reduceEqDiff, Nat.reducePow, Int.reducePow, Int.reduceLE, Int.reduceLT, Int.reduceEq, Int.reduceToNat, reduceCtorEq, RR, RB, RZ, RE, fn_out, p51, Rs.ev, mapO, mapS, take_len_self, hl_2, h0_2, h1_2, h5_2, eq_true hlt, hw, w6a, w6b, w8a, w8b, w10]))
  · rintro v5_1 _ e h ⟨k3, rfl, hl_2, h0_2, h1_2, h5_2⟩ hge t1 ho
    unfold F51_1_D at ho
    have hE := Option.some.inj ho; subst hE
    simp only [↓reduceIte, Nat.reduceAdd, Nat.reduceMul, Nat.reduceSub, Nat.reduceLT, Nat.reduceLeDiff, Nat.reduceEqDiff, Nat.reducePow, Int.reducePow, Int.reduceLE, Int.reduceLT, Int.reduceEq, Int.reduceToNat, reduceCtorEq, RR, RB, RZ, RE, opEv, fillV, mapO, mapS, b51_1, hl_2, h0_2, h1_2, h5_2, eq_false hge]
    intro ht; subst ht
    refine And.intro rfl (Exists.intro _ ( And.intro rfl ?_))
    simp only [↓reduceIte, Nat.reduceAdd, Nat.reduceMul, Nat.reduceSub, Nat.reduceLT, Nat.reduceLeDiff, Nat.reduceEqDiff, Nat.reducePow, Int.reducePow, Int.reduceLE, Int.reduceLT, Int.reduceEq, Int.reduceToNat, reduceCtorEq, RR, RB, RZ, RE, hl_2, h0_2, h1_2, h5_2, eq_false hge]
theorem s51 (a0 : List (List Int)) (a1 : List (List Int))   {r : Bool} (hF : F51 a0 a1 = some r) : ans A 51 [V.isl (List.map Enc.enc a0), V.isl (List.map Enc.enc a1)] = some (Enc.enc r) := by
  refine ans_of (f := p51) rfl rfl rfl fun e hl he => ?_
  have h0_0 : e.at 0 = V.isl (List.map Enc.enc a0) := he 0 _ rfl
  have h1_0 : e.at 1 = V.isl (List.map Enc.enc a1) := he 1 _ rfl
  have hl_0 : e.length = 27 := hl
  clear he hl
  show W A b51 e ⟨[], 0⟩ _
  unfold F51 at hF
  by_cases c1 : (a0.length : Int) = (a1.length : Int)
  · rw [if_pos c1] at hF
    obtain ⟨t11, gt11, hF⟩ := bS hF
    rcases t11 with _ | r12
    · dsimp only at hF
      simp only [↓reduceIte, Nat.reduceAdd, Nat.reduceMul, Nat.reduceSub, Nat.reduceLT, Nat.reduceLeDiff, Nat.reduceEqDiff, Nat.reducePow, Int.reducePow, Int.reduceLE, Int.reduceLT, Int.reduceEq, Int.reduceToNat, reduceCtorEq, RR, RB, RZ, RE, opEv, fillV, mapO, mapS, b51, hl_0, h0_0, h1_0, eq_true c1]
      refine W.mono (l51_1 a0 a1   gt11 (Exists.intro _ ( And.intro rfl ?_))) ?_
      · simp only [↓reduceIte, Nat.reduceAdd, Nat.reduceMul, Nat.reduceSub, Nat.reduceLT, Nat.reduceLeDiff, Nat.reduceEqDiff, Nat.reducePow, Int.reducePow, Int.reduceLE, Int.reduceLT, Int.reduceEq, Int.reduceToNat, reduceCtorEq, RR, RB, RZ, RE, hl_0, h0_0, h1_0, eq_true c1]
      rintro _ e _ ⟨rfl, k3, rfl, hl_4⟩
      have hE := Option.some.inj hF; subst hE
      simp only [↓reduceIte, Nat.reduceAdd, Nat.reduceMul, Nat.reduceSub, Nat.reduceLT, Nat.reduceLeDiff, Nat.reduceEqDiff, Nat.reducePow, Int.reducePow, Int.reduceLE, Int.reduceLT, Int.reduceEq, Int.reduceToNat, reduceCtorEq, RR, RB, RZ, RE, opEv, fillV, mapO, mapS, hl_4, eq_true c1]
      exact fin_ret (by simp only [↓reduceIte, Nat.reduceAdd, Nat.reduceMul, Nat.reduceSub, Nat.reduceLT, Nat.reduceLeDiff, Nat.reduceEqDiff, Nat.reducePow, Int.reducePow, Int.reduceLE, Int.reduceLT, Int.reduceEq, Int.reduceToNat, reduceCtorEq, RR, RB, RZ, RE, fn_out, p51, Rs.ev, mapO, mapS, take_len_self, hl_4, eq_true c1])
    · dsimp only at hF
      have hE := Option.some.inj hF; subst hE
      simp only [↓reduceIte, Nat.reduceAdd, Nat.reduceMul, Nat.reduceSub, Nat.reduceLT, Nat.reduceLeDiff, Nat.reduceEqDiff, Nat.reducePow, Int.reducePow, Int.reduceLE, Int.reduceLT, Int.reduceEq, Int.reduceToNat, reduceCtorEq, RR, RB, RZ, RE, opEv, fillV, mapO, mapS, b51, hl_0, h0_0, h1_0, eq_true c1]
      refine W.mono (l51_1 a0 a1   gt11 (Exists.intro _ ( And.intro rfl ?_))) ?_
      · simp only [↓reduceIte, Nat.reduceAdd, Nat.reduceMul, Nat.reduceSub, Nat.reduceLT, Nat.reduceLeDiff, Nat.reduceEqDiff, Nat.reducePow, Int.reducePow, Int.reduceLE, Int.reduceLT, Int.reduceEq, Int.reduceToNat, reduceCtorEq, RR, RB, RZ, RE, hl_0, h0_0, h1_0, eq_true c1]
      rintro _ e h ⟨rfl, hq⟩
      simp only [↓reduceIte, Nat.reduceAdd, Nat.reduceMul, Nat.reduceSub, Nat.reduceLT, Nat.reduceLeDiff, Nat.reduceEqDiff, Nat.reducePow, Int.reducePow, Int.reduceLE, Int.reduceLT, Int.reduceEq, Int.reduceToNat, reduceCtorEq, RR, RB]
      exact hq
  · rw [if_neg c1] at hF
    have hE := Option.some.inj hF; subst hE
    simp only [↓reduceIte, Nat.reduceAdd, Nat.reduceMul, Nat.reduceSub, Nat.reduceLT, Nat.reduceLeDiff, Nat.reduceEqDiff, Nat.reducePow, Int.reducePow, Int.reduceLE, Int.reduceLT, Int.reduceEq, Int.reduceToNat, reduceCtorEq, RR, RB, RZ, RE, opEv, fillV, mapO, mapS, b51, hl_0, h0_0, h1_0, eq_false c1]
    exact fin_ret (by simp only [↓reduceIte, Nat.reduceAdd, Nat.reduceMul, Nat.reduceSub, Nat.reduceLT, Nat.reduceLeDiff, Nat.reduceEqDiff, Nat.reducePow, Int.reducePow, Int.reduceLE, Int.reduceLT, Int.reduceEq, Int.reduceToNat, reduceCtorEq, RR, RB, RZ, RE, fn_out, p51, Rs.ev, mapO, mapS, take_len_self, hl_0, h0_0, h1_0, eq_false c1])
/-! loop.example/g01273/laws.eqInt64SSS -/
def F17_1_B (a0 : List (List (List Int))) (a1 : List (List (List Int))) (v5_1 : Int) (s : Unit) : Option ((Unit) ⊕ ((Unit) ⊕ Bool)) :=
  (getI a0 v5_1).bind fun x5 =>
(getI a1 v5_1).bind fun x7 =>
(F51 x5 x7).bind fun x9 =>
if x9 = true then
  some (.inl ())
else
  some (.inr (.inr false))
def F17_1_D (a0 : List (List (List Int))) (a1 : List (List (List Int))) (v5_1 : Int) (s : Unit) : Option ((Unit) ⊕ Bool) :=
  some (.inl ())
def F17 (a0 : List (List (List Int))) (a1 : List (List (List Int))) : Option Bool :=
  if (a0.length : Int) = (a1.length : Int) then
    (forR 0 (a0.length : Int) (F17_1_B a0 a1) (F17_1_D a0 a1) ()).bind fun t11 => match t11 with
      | .inl _ =>
        some true
      | .inr r12 => some r12
  else
    some false
def I17_1 (a0 : List (List (List Int))) (a1 : List (List (List Int)))  (v5_1 : Int) (s : Unit) (e : Env) (h : Heap) : Prop :=
  ∃ k3 : Nat, h = ⟨[], k3⟩ ∧ e.length = 27 ∧ e.at 0 = V.isl (List.map Enc.enc a0) ∧ e.at 1 = V.isl (List.map Enc.enc a1) ∧ e.at 5 = V.int .i64 v5_1
def P17_1 (a0 : List (List (List Int))) (a1 : List (List (List Int)))  (t : (Unit) ⊕ Bool) (x : Ex) (e : Env) (h : Heap) : Prop :=
  match t with
  | .inl _ => x = .normal ∧ ∃ k3 : Nat, h = ⟨[], k3⟩ ∧ e.length = 27
  | .inr r => x = .ret ∧ Fin p17 (Enc.enc r) .ret e h
theorem l17_1 (a0 : List (List (List Int))) (a1 : List (List (List Int)))   {lo : Int} {s : Unit} {t : (Unit) ⊕ Bool} (hF : forR lo (a0.length : Int) (F17_1_B a0 a1) (F17_1_D a0 a1) s = some t) {e : Env} {h : Heap} (hI : I17_1 a0 a1  lo s e h) : W A c17_1 e h (P17_1 a0 a1  t) := by
  show W A (.block 0 (.loop false b17_1)) e h _
  rw [W_block]
  refine W_forR hF 0 (by obtain ⟨_, rfl, _⟩ := hI; rfl) (I17_1 a0 a1 ) hI ?_ ?_
  · rintro v5_1 _ e h ⟨k3, rfl, hl_2, h0_2, h1_2, h5_2⟩ hlt hw o ho
    unfold F17_1_B at ho
    obtain ⟨x5, gx5, ho⟩ := bS ho
    obtain ⟨w6a, w6b⟩ := getI_w gx5
    obtain ⟨x7, gx7, ho⟩ := bS ho
    obtain ⟨w8a, w8b⟩ := getI_w gx7
    obtain ⟨x9, gx9, ho⟩ := bS ho
    have w10 : ans A 51 [V.isl (List.map Enc.enc x5), V.isl (List.map Enc.enc x7)] = some (V.bool x9) := s51 x5 x7  gx9
    cases x9 with
    | true =>
      rw [if_pos rfl] at ho
      have hE := Option.some.inj ho; subst hE
      simp only [↓reduceIte, Nat.reduceAdd, Nat.reduceMul, Nat.reduceSub, Nat.reduceLT, Nat.reduceLeDiff, Nat.reduceEqDiff, Nat.reducePow, Int.reducePow, Int.reduceLE, Int.reduceLT, Int.reduceEq, Int.reduceToNat, reduceCtorEq, RR, RB, RZ, RE, opEv, fillV, mapO, mapS, b17_1, hl_2, h0_2, h1_2, h5_2, eq_true hlt, hw, w6a, w6b, w8a, w8b, w10]
      refine And.intro rfl (Exists.intro _ ( And.intro rfl ?_))
      simp only [↓reduceIte, Nat.reduceAdd, Nat.reduceMul, Nat.reduceSub, Nat.reduceLT, Nat.reduceLeDiff, Nat.reduceEqDiff, Nat.reducePow, Int.reducePow, Int.reduceLE, Int.reduceLT, Int.reduceEq, Int.reduceToNat, reduceCtorEq, RR, RB, RZ, RE, hl_2, h0_2, h1_2, h5_2, eq_true hlt, hw, w6a, w6b, w8a, w8b, w10]
    | false =>
      rw [if_neg Bool.false_ne_true] at ho
      have hE := Option.some.inj ho; subst hE
      simp only [↓reduceIte, Nat.reduceAdd, Nat.reduceMul, Nat.reduceSub, Nat.reduceLT, Nat.reduceLeDiff, Nat.reduceEqDiff, Nat.reducePow, Int.reducePow, Int.reduceLE, Int.reduceLT, Int.reduceEq, Int.reduceToNat, reduceCtorEq, RR, RB, RZ, RE, opEv, fillV, mapO, mapS, b17_1, hl_2, h0_2, h1_2, h5_2, eq_true hlt, hw, w6a, w6b, w8a, w8b, w10]
      intro ht; subst ht
      simp only [↓reduceIte, Nat.reduceAdd, Nat.reduceMul, Nat.reduceSub, Nat.reduceLT, Nat.reduceLeDiff, Nat.reduceEqDiff, Nat.reducePow, Int.reducePow, Int.reduceLE, Int.reduceLT, Int.reduceEq, Int.reduceToNat, reduceCtorEq, RR, RB]
      exact And.intro rfl (fin_ret (by simp only [↓reduceIte, Nat.reduceAdd, Nat.reduceMul, Nat.reduceSub, Nat.reduceLT, Nat.reduceLeDiff, Nat.reduceEqDiff, Nat.reducePow, Int.reducePow, Int.reduceLE, Int.reduceLT, Int.reduceEq, Int.reduceToNat, reduceCtorEq, RR, RB, RZ, RE, fn_out, p17, Rs.ev, mapO, mapS, take_len_self, hl_2, h0_2, h1_2, h5_2, eq_true hlt, hw, w6a, w6b, w8a, w8b, w10]))
  · rintro v5_1 _ e h ⟨k3, rfl, hl_2, h0_2, h1_2, h5_2⟩ hge t1 ho
    unfold F17_1_D at ho
    have hE := Option.some.inj ho; subst hE
    simp only [↓reduceIte, Nat.reduceAdd, Nat.reduceMul, Nat.reduceSub, Nat.reduceLT, Nat.reduceLeDiff, Nat.reduceEqDiff, Nat.reducePow, Int.reducePow, Int.reduceLE, Int.reduceLT, Int.reduceEq, Int.reduceToNat, reduceCtorEq, RR, RB, RZ, RE, opEv, fillV, mapO, mapS, b17_1, hl_2, h0_2, h1_2, h5_2, eq_false hge]
    intro ht; subst ht
    refine And.intro rfl (Exists.intro _ ( And.intro rfl ?_))
    simp only [↓reduceIte, Nat.reduceAdd, Nat.reduceMul, Nat.reduceSub, Nat.reduceLT, Nat.reduceLeDiff, Nat.reduceEqDiff, Nat.reducePow, Int.reducePow, Int.reduceLE, Int.reduceLT, Int.reduceEq, Int.reduceToNat, reduceCtorEq, RR, RB, RZ, RE, hl_2, h0_2, h1_2, h5_2, eq_false hge]
theorem s17 (a0 : List (List (List Int))) (a1 : List (List (List Int)))   {r : Bool} (hF : F17 a0 a1 = some r) : ans A 17 [V.isl (List.map Enc.enc a0), V.isl (List.map Enc.enc a1)] = some (Enc.enc r) := by
  refine ans_of (f := p17) rfl rfl rfl fun e hl he => ?_
  have h0_0 : e.at 0 = V.isl (List.map Enc.enc a0) := he 0 _ rfl
  have h1_0 : e.at 1 = V.isl (List.map Enc.enc a1) := he 1 _ rfl
  have hl_0 : e.length = 27 := hl
  clear he hl
  show W A b17 e ⟨[], 0⟩ _
  unfold F17 at hF
  by_cases c1 : (a0.length : Int) = (a1.length : Int)
  · rw [if_pos c1] at hF
    obtain ⟨t11, gt11, hF⟩ := bS hF
    rcases t11 with _ | r12
    · dsimp only at hF
      simp only [↓reduceIte, Nat.reduceAdd, Nat.reduceMul, Nat.reduceSub, Nat.reduceLT, Nat.reduceLeDiff, Nat.reduceEqDiff, Nat.reducePow, Int.reducePow, Int.reduceLE, Int.reduceLT, Int.reduceEq, Int.reduceToNat, reduceCtorEq, RR, RB, RZ, RE, opEv, fillV, mapO, mapS, b17, hl_0, h0_0, h1_0, eq_true c1]
      refine W.mono (l17_1 a0 a1   gt11 (Exists.intro _ ( And.intro rfl ?_))) ?_
      · simp only [↓reduceIte, Nat.reduceAdd, Nat.reduceMul, Nat.reduceSub, Nat.reduceLT, Nat.reduceLeDiff, Nat.reduceEqDiff, Nat.reducePow, Int.reducePow, Int.reduceLE, Int.reduceLT, Int.reduceEq, Int.reduceToNat, reduceCtorEq, RR, RB, RZ, RE, hl_0, h0_0, h1_0, eq_true c1]
      rintro _ e _ ⟨rfl, k3, rfl, hl_4⟩
      have hE := Option.some.inj hF; subst hE
      simp only [↓reduceIte, Nat.reduceAdd, Nat.reduceMul, Nat.reduceSub, Nat.reduceLT, Nat.reduceLeDiff, Nat.reduceEqDiff, Nat.reducePow, Int.reducePow, Int.reduceLE, Int.reduceLT, Int.reduceEq, Int.reduceToNat, reduceCtorEq, RR, RB, RZ, RE, opEv, fillV, mapO, mapS, hl_4, eq_true c1]
      exact fin_ret (by simp only [↓reduceIte, Nat.reduceAdd, Nat.reduceMul, Nat.reduceSub, Nat.reduceLT, Nat.reduceLeDiff, Nat.reduceEqDiff, Nat.reducePow, Int.reducePow, Int.reduceLE, Int.reduceLT, Int.reduceEq, Int.reduceToNat, reduceCtorEq, RR, RB, RZ, RE, fn_out, p17, Rs.ev, mapO, mapS, take_len_self, hl_4, eq_true c1])
    · dsimp only at hF
      have hE := Option.some.inj hF; subst hE
      simp only [↓reduceIte, Nat.reduceAdd, Nat.reduceMul, Nat.reduceSub, Nat.reduceLT, Nat.reduceLeDiff, Nat.reduceEqDiff, Nat.reducePow, Int.reducePow, Int.reduceLE, Int.reduceLT, Int.reduceEq, Int.reduceToNat, reduceCtorEq, RR, RB, RZ, RE, opEv, fillV, mapO, mapS, b17, hl_0, h0_0, h1_0, eq_true c1]
      refine W.mono (l17_1 a0 a1   gt11 (Exists.intro _ ( And.intro rfl ?_))) ?_
      · simp only [↓reduceIte, Nat.reduceAdd, Nat.reduceMul, Nat.reduceSub, Nat.reduceLT, Nat.reduceLeDiff, Nat.reduceEqDiff, Nat.reducePow, Int.reducePow, Int.reduceLE, Int.reduceLT, Int.reduceEq, Int.reduceToNat, reduceCtorEq, RR, RB, RZ, RE, hl_0, h0_0, h1_0, eq_true c1]
      rintro _ e h ⟨rfl, hq⟩
      simp only [↓reduceIte, Nat.reduceAdd, Nat.reduceMul, Nat.reduceSub, Nat.reduceLT, Nat.reduceLeDiff, Nat.reduceEqDiff, Nat.reducePow, Int.reducePow, Int.reduceLE, Int.reduceLT, Int.reduceEq, Int.reduceToNat, reduceCtorEq, RR, RB]
      exact hq
  · rw [if_neg c1] at hF
    have hE := Option.some.inj hF; subst hE
    simp only [↓reduceIte, Nat.reduceAdd, Nat.reduceMul, Nat.reduceSub, Nat.reduceLT, Nat.reduceLeDiff, Nat.reduceEqDiff, Nat.reducePow, Int.reducePow, Int.reduceLE, Int.reduceLT, Int.reduceEq, Int.reduceToNat, reduceCtorEq, RR, RB, RZ, RE, opEv, fillV, mapO, mapS, b17, hl_0, h0_0, h1_0, eq_false c1]
    exact fin_ret (by simp only [↓reduceIte, Nat.reduceAdd, Nat.reduceMul, Nat.reduceSub, Nat.reduceLT, Nat.reduceLeDiff, Nat.reduceEqDiff, Nat.reducePow, Int.reducePow, Int.reduceLE, Int.reduceLT, Int.reduceEq, Int.reduceToNat, reduceCtorEq, RR, RB, RZ, RE, fn_out, p17, Rs.ev, mapO, mapS, take_len_self, hl_0, h0_0, h1_0, eq_false c1])
/-! loop.example/g01273/laws.eqComplex -/
def F16 (a0 : GComplex) (a1 : GComplex) : Option Bool :=
  if a0.Prime = a1.Prime then
    (F30 a0.Dims a1.Dims).bind fun x2 =>
    if x2 = true then
      (F17 a0.Maps a1.Maps).bind fun x4 =>
      if x4 = true then
        some true
      else
        some false
    else
      some false
  else
    some false
theorem s16 (a0 : GComplex) (a1 : GComplex)   {r : Bool} (hF : F16 a0 a1 = some r) : ans A 16 [V.agg [V.int .i64 a0.Prime, V.isl (List.map Enc.enc a0.Dims), V.isl (List.map Enc.enc a0.Maps)], V.agg [V.int .i64 a1.Prime, V.isl (List.map Enc.enc a1.Dims), V.isl (List.map Enc.enc a1.Maps)]] = some (Enc.enc r) := by
  refine ans_of (f := p16) rfl rfl rfl fun e hl he => ?_
  have h0_0 : e.at 0 = V.agg [V.int .i64 a0.Prime, V.isl (List.map Enc.enc a0.Dims), V.isl (List.map Enc.enc a0.Maps)] := he 0 _ rfl
  have h1_0 : e.at 1 = V.agg [V.int .i64 a1.Prime, V.isl (List.map Enc.enc a1.Dims), V.isl (List.map Enc.enc a1.Maps)] := he 1 _ rfl
  have hl_0 : e.length = 22 := hl
  clear he hl
  show W A b16 e ⟨[], 0⟩ _
  unfold F16 at hF
  by_cases c1 : a0.Prime = a1.Prime
  · rw [if_pos c1] at hF
    obtain ⟨x2, gx2, hF⟩ := bS hF
    have w3 : ans A 30 [V.isl (List.map Enc.enc a0.Dims), V.isl (List.map Enc.enc a1.Dims)] = some (V.bool x2) := s30 a0.Dims a1.Dims  gx2
    cases x2 with
    | true =>
      rw [if_pos rfl] at hF
      obtain ⟨x4, gx4, hF⟩ := bS hF
      have w5 : ans A 17 [V.isl (List.map Enc.enc a0.Maps), V.isl (List.map Enc.enc a1.Maps)] = some (V.bool x4) := s17 a0.Maps a1.Maps  gx4
      cases x4 with
      | true =>
        rw [if_pos rfl] at hF
        have hE := Option.some.inj hF; subst hE
        simp only [↓reduceIte, Nat.reduceAdd, Nat.reduceMul, Nat.reduceSub, Nat.reduceLT, Nat.reduceLeDiff, Nat.reduceEqDiff, Nat.reducePow, Int.reducePow, Int.reduceLE, Int.reduceLT, Int.reduceEq, Int.reduceToNat, reduceCtorEq, RR, RB, RZ, RE, opEv, fillV, mapO, mapS, b16, hl_0, h0_0, h1_0, eq_true c1, w3, w5]
        exact fin_ret (by simp only [↓reduceIte, Nat.reduceAdd, Nat.reduceMul, Nat.reduceSub, Nat.reduceLT, Nat.reduceLeDiff, Nat.reduceEqDiff, Nat.reducePow, Int.reducePow, Int.reduceLE, Int.reduceLT, Int.reduceEq, Int.reduceToNat, reduceCtorEq, RR, RB, RZ, RE, fn_out, p16, Rs.ev, mapO, mapS, take_len_self, hl_0, h0_0, h1_0, eq_true c1, w3, w5])
      | false =>
        rw [if_neg Bool.false_ne_true] at hF
        have hE := Option.some.inj hF; subst hE
        simp only [↓reduceIte, Nat.reduceAdd, Nat.reduceMul, Nat.reduceSub, Nat.reduceLT, Nat.reduceLeDiff, Nat.reduceEqDiff, Nat.reducePow, Int.reducePow, Int.reduceLE, Int.reduceLT, Int.reduceEq, Int.reduceToNat, reduceCtorEq, RR, RB, RZ, RE, opEv, fillV, mapO, mapS, b16, hl_0, h0_0, h1_0, eq_true c1, w3, w5]
        exact fin_ret (by simp only [↓reduceIte, Nat.reduceAdd, Nat.reduceMul, Nat.reduceSub, Nat.reduceLT, Nat.reduceLeDiff, Nat.reduceEqDiff, Nat.reducePow, Int.reducePow, Int.reduceLE, Int.reduceLT, Int.reduceEq, Int.reduceToNat, reduceCtorEq, RR, RB, RZ, RE, fn_out, p16, Rs.ev, mapO, mapS, take_len_self, hl_0, h0_0, h1_0, eq_true c1, w3, w5])
    | false =>
      rw [if_neg Bool.false_ne_true] at hF
      have hE := Option.some.inj hF; subst hE
      simp only [↓reduceIte, Nat.reduceAdd, Nat.reduceMul, Nat.reduceSub, Nat.reduceLT, Nat.reduceLeDiff, Nat.reduceEqDiff, Nat.reducePow, Int.reducePow, Int.reduceLE, Int.reduceLT, Int.reduceEq, Int.reduceToNat, reduceCtorEq, RR, RB, RZ, RE, opEv, fillV, mapO, mapS, b16, hl_0, h0_0, h1_0, eq_true c1, w3]
      exact fin_ret (by simp only [↓reduceIte, Nat.reduceAdd, Nat.reduceMul, Nat.reduceSub, Nat.reduceLT, Nat.reduceLeDiff, Nat.reduceEqDiff, Nat.reducePow, Int.reducePow, Int.reduceLE, Int.reduceLT, Int.reduceEq, Int.reduceToNat, reduceCtorEq, RR, RB, RZ, RE, fn_out, p16, Rs.ev, mapO, mapS, take_len_self, hl_0, h0_0, h1_0, eq_true c1, w3])
  · rw [if_neg c1] at hF
    have hE := Option.some.inj hF; subst hE
    simp only [↓reduceIte, Nat.reduceAdd, Nat.reduceMul, Nat.reduceSub, Nat.reduceLT, Nat.reduceLeDiff, Nat.reduceEqDiff, Nat.reducePow, Int.reducePow, Int.reduceLE, Int.reduceLT, Int.reduceEq, Int.reduceToNat, reduceCtorEq, RR, RB, RZ, RE, opEv, fillV, mapO, mapS, b16, hl_0, h0_0, h1_0, eq_false c1]
    exact fin_ret (by simp only [↓reduceIte, Nat.reduceAdd, Nat.reduceMul, Nat.reduceSub, Nat.reduceLT, Nat.reduceLeDiff, Nat.reduceEqDiff, Nat.reducePow, Int.reducePow, Int.reduceLE, Int.reduceLT, Int.reduceEq, Int.reduceToNat, reduceCtorEq, RR, RB, RZ, RE, fn_out, p16, Rs.ev, mapO, mapS, take_len_self, hl_0, h0_0, h1_0, eq_false c1])
/-! loop.example/g01273/laws.markInt64S -/
def F31_1_B (i : Int) (s : List Int × Int) : Option ((List Int × Int) ⊕ (List Int × Int)) :=
  (setI s.1 i s.2).bind fun l => (chk (s.2 + 1)).bind fun k => some (.inl (l, k))
def F31_1_D (i : Int) (s : List Int × Int) : Option (List Int × Int) := some s
def F31 (l : List Int) (k : Int) : Option (List Int × Int) := forR 0 (l.length : Int) F31_1_B F31_1_D (l, k)
def FM31 (x : List Int) (k : Int) : Option ((List Int) × Int) := F31 x k
theorem d31 {l : List Int} {k : Int} {r : List Int × Int} (hF : F31 l k = some r) (h : Heap) {v : V} {K : Ks} (hr : Deep.rep h v l K) :
    ∃ h', res A 31 [v, V.int .i64 k] h = some (V.int .i64 r.2, h') ∧ Deep.rep h' v r.1 K ∧ (∀ k, ¬ K k → h'.ents[k]? = h.ents[k]?) ∧ h'.ents.length = h.ents.length := by
  refine res_ex (f := p31) rfl rfl rfl fun e hl he => ?_
  have h0_0 : e.at 0 = v := he 0 _ rfl
  have h1_0 : e.at 1 = V.int .i64 k := he 1 _ rfl
  have hl_0 : e.length = 19 := hl
  clear he hl
  show W A b31 e h _
  unfold F31 at hF
  obtain ⟨E, c⟩ := h
  simp only [↓reduceIte, Nat.reduceAdd, Nat.reduceMul, Nat.reduceSub, Nat.reduceLT, Nat.reduceLeDiff, Nat.reduceEqDiff, Nat.reducePow, Int.reducePow, Int.reduceLE, Int.reduceLT, Int.reduceEq, Int.reduceToNat, reduceCtorEq, RR, RB, RZ, opEv, fillV, mapO, mapS, b31, hl_0, h0_0, h1_0]
  show W A (.block 0 (.loop true b31_1)) _ _ _
  rw [W_block]
  refine W_forR hF _ rfl (fun i s e h => Deep.rep h v s.1 K ∧ (∀ k, ¬ K k → h.ents[k]? = E[k]?) ∧ h.ents.length = E.length ∧ s.1.length = l.length ∧ e.length = 19 ∧ e.at 0 = v ∧ e.at 1 = V.int .i64 s.2 ∧ e.at 5 = V.int .i64 i) ?_ ?_ ?_
  · refine ⟨hr, fun _ _ => rfl, rfl, rfl, ?_⟩
    simp only [↓reduceIte, Nat.reduceAdd, Nat.reduceMul, Nat.reduceSub, Nat.reduceLT, Nat.reduceLeDiff, Nat.reduceEqDiff, Nat.reducePow, Int.reducePow, Int.reduceLE, Int.reduceLT, Int.reduceEq, Int.reduceToNat, reduceCtorEq, RR, RB, RZ, hl_0, h0_0, h1_0]
  · clear hl_0 h0_0 h1_0
    rintro i ⟨s, q⟩ e ⟨E3, c3⟩ ⟨q1, q2, q3, q4, hl_1, h0_1, h1_1, h5_1⟩ hlt hw oo ho
    unfold F31_1_B at ho
    simp only at ho q1 q2 q3 q4 h1_1
    obtain ⟨s2, gs, ho⟩ := bS ho
    obtain ⟨s1, s2', s3, s4, s5⟩ := setI_w gs
    obtain ⟨k2, gk, ho⟩ := bS ho
    have wk := chk_w gk
    have hE := Option.some.inj ho; subst hE
    rcases row_int q1 with ⟨_, rfl, _⟩ | ⟨key3, uid3, hx2, d1, d2⟩
    · simp at s2'; omega
    simp only at d1
    have s5' : List.take i.toNat (List.map Enc.enc s) ++ [V.int .i64 q] ++ List.drop (i.toNat + 1) (List.map Enc.enc s) = List.map Enc.enc s2 := s5
    rw [q4] at s3
    simp only [↓reduceIte, Nat.reduceAdd, Nat.reduceMul, Nat.reduceSub, Nat.reduceLT, Nat.reduceLeDiff, Nat.reduceEqDiff, Nat.reducePow, Int.reducePow, Int.reduceLE, Int.reduceLT, Int.reduceEq, Int.reduceToNat, reduceCtorEq, RR, RB, RZ, opEv, fillV, mapO, mapS, b31_1, hl_1, h0_1, h1_1, h5_1, eq_true hlt, hw, hx2, q4, d1, s1, s3, s5', wk]
    have hk3 : key3 < E3.length := (List.getElem?_eq_some_iff.1 d1).1
    have hsl : s2.length = l.length := by rw [s4]; exact q4
    refine And.intro rfl ⟨?_, fun k nk => ?_, by rw [← q3]; simp, hsl, ?_⟩
    · rw [← hsl]; exact int_row (set_app_key hk3) d2
    · exact (set_ne (fun e => nk ((d2 k).2 e))).trans (q2 k nk)
    · simp only [↓reduceIte, Nat.reduceAdd, Nat.reduceMul, Nat.reduceSub, Nat.reduceLT, Nat.reduceLeDiff, Nat.reduceEqDiff, Nat.reducePow, Int.reducePow, Int.reduceLE, Int.reduceLT, Int.reduceEq, Int.reduceToNat, reduceCtorEq, RR, RB, RZ, hl_1, h0_1, h1_1, h5_1, hw, hx2, q4]
  · clear hl_0 h0_0 h1_0
    rintro i ⟨s, q⟩ e ⟨E3, c3⟩ ⟨q1, q2, q3, q4, hl_1, h0_1, h1_1, h5_1⟩ hge t1 ho
    have hE := Option.some.inj ho; subst hE
    have hlen := rep_len q1
    simp only at hlen q1 q2 q3 q4 h1_1
    simp only [↓reduceIte, Nat.reduceAdd, Nat.reduceMul, Nat.reduceSub, Nat.reduceLT, Nat.reduceLeDiff, Nat.reduceEqDiff, Nat.reducePow, Int.reducePow, Int.reduceLE, Int.reduceLT, Int.reduceEq, Int.reduceToNat, reduceCtorEq, RR, RB, RZ, opEv, fillV, mapO, mapS, b31_1, hl_1, h0_1, h1_1, h5_1, hlen, q4, eq_false hge]
    intro ht; subst ht
    refine And.intro (fun _ => trivial) ⟨?_, q1, q2, q3⟩
    simp only [↓reduceIte, Nat.reduceAdd, Nat.reduceMul, Nat.reduceSub, Nat.reduceLT, Nat.reduceLeDiff, Nat.reduceEqDiff, Nat.reducePow, Int.reducePow, Int.reduceLE, Int.reduceLT, Int.reduceEq, Int.reduceToNat, reduceCtorEq, RR, RB, RZ, fn_out, p31, Rs.ev, mapO, hl_1]
theorem dm31 {x : List Int} {k : Int} {r : (List Int) × Int} (hF : FM31 x k = some r) (h : Heap) {v : V} {K : Ks} (hr : Deep.rep h v x K) : ∃ h', res A 31 [v, V.int .i64 k] h = some (V.int .i64 r.2, h') ∧ Deep.rep h' v r.1 K ∧ (∀ k, k < h.ents.length → ¬ K k → h'.ents[k]? = h.ents[k]?) ∧ h.ents.length ≤ h'.ents.length := by
  obtain ⟨h', w, q1, q2, q3⟩ := d31 hF h hr
  exact ⟨h', w, q1, fun k _ nk => q2 k nk, by omega⟩
/-! loop.example/g01273/laws.markInt64SS -/
def F52_1_B (i : Int) (s : List (List Int) × Int) : Option ((List (List Int) × Int) ⊕ (List (List Int) × Int)) :=
  (getI s.1 i).bind fun r => (F31 r s.2).bind fun q => (setI s.1 i q.1).bind fun l => some (.inl (l, q.2))
def F52_1_D (i : Int) (s : List (List Int) × Int) : Option (List (List Int) × Int) := some s
def F52 (l : List (List Int)) (k : Int) : Option (List (List Int) × Int) := forR 0 (l.length : Int) F52_1_B F52_1_D (l, k)
def FM52 (x : List (List Int)) (k : Int) : Option ((List (List Int)) × Int) := F52 x k
theorem d52 {l : List (List Int)} {k : Int} {r : List (List Int) × Int} (hF : F52 l k = some r) (h : Heap) {v : V} {K : Ks} (hr : Deep.rep h v l K) :
    ∃ h', res A 52 [v, V.int .i64 k] h = some (V.int .i64 r.2, h') ∧ Deep.rep h' v r.1 K ∧ (∀ k, ¬ K k → h'.ents[k]? = h.ents[k]?) ∧ h'.ents.length = h.ents.length := by
  refine res_ex (f := p52) rfl rfl rfl fun e hl he => ?_
  have h0_0 : e.at 0 = v := he 0 _ rfl
  have h1_0 : e.at 1 = V.int .i64 k := he 1 _ rfl
  have hl_0 : e.length = 19 := hl
  clear he hl
  show W A b52 e h _
  unfold F52 at hF
  obtain ⟨E, c⟩ := h
  simp only [↓reduceIte, Nat.reduceAdd, Nat.reduceMul, Nat.reduceSub, Nat.reduceLT, Nat.reduceLeDiff, Nat.reduceEqDiff, Nat.reducePow, Int.reducePow, Int.reduceLE, Int.reduceLT, Int.reduceEq, Int.reduceToNat, reduceCtorEq, RR, RB, RZ, opEv, fillV, mapO, mapS, b52, hl_0, h0_0, h1_0]
  show W A (.block 0 (.loop true b52_1)) _ _ _
  rw [W_block]
  refine W_forR hF _ rfl (fun i s e h => Deep.rep h v s.1 K ∧ (∀ k, ¬ K k → h.ents[k]? = E[k]?) ∧ h.ents.length = E.length ∧ s.1.length = l.length ∧ e.length = 19 ∧ e.at 0 = v ∧ e.at 1 = V.int .i64 s.2 ∧ e.at 5 = V.int .i64 i) ?_ ?_ ?_
  · refine ⟨hr, fun _ _ => rfl, rfl, rfl, ?_⟩
    simp only [↓reduceIte, Nat.reduceAdd, Nat.reduceMul, Nat.reduceSub, Nat.reduceLT, Nat.reduceLeDiff, Nat.reduceEqDiff, Nat.reducePow, Int.reducePow, Int.reduceLE, Int.reduceLT, Int.reduceEq, Int.reduceToNat, reduceCtorEq, RR, RB, RZ, hl_0, h0_0, h1_0]
  · clear hl_0 h0_0 h1_0
    rintro i ⟨s, q⟩ e ⟨E3, c3⟩ ⟨q1, q2, q3, q4, hl_1, h0_1, h1_1, h5_1⟩ hlt hw oo ho
    unfold F52_1_B at ho
    simp only at ho q1 q2 q3 q4 h1_1
    obtain ⟨row, gr, ho⟩ := bS ho
    obtain ⟨ra, rb⟩ := getI_w gr
    obtain ⟨t, gt, ho⟩ := bS ho
    obtain ⟨s2, gs, ho⟩ := bS ho
    have sm : s2 = s.set i.toNat t.1 := setI_eq gs
    have hE := Option.some.inj ho; subst hE
    obtain ⟨key, uid, vs, x1, K1, hm, a1, a2, a3, a4, a5, a6⟩ := rep_focus q1 rb
    obtain ⟨⟨E4, c4⟩, w1, r1, r2, r3⟩ := d31 gt ⟨E3, c3⟩ a4
    have o1 := ofCells_drop a2
    simp only at a1 r2 r3
    have hsl : s2.length = l.length := by rw [sm, List.length_set]; exact q4
    have r4 := a6 _ _ r1 fun k _ nk => r2 k nk
    rw [← sm] at r4
    simp only [↓reduceIte, Nat.reduceAdd, Nat.reduceMul, Nat.reduceSub, Nat.reduceLT, Nat.reduceLeDiff, Nat.reduceEqDiff, Nat.reducePow, Int.reducePow, Int.reduceLE, Int.reduceLT, Int.reduceEq, Int.reduceToNat, reduceCtorEq, RR, RB, RZ, opEv, fillV, mapO, mapS, b52_1, hl_1, h0_1, h1_1, h5_1, eq_true hlt, hw, hm, q4, a1, ra, o1, callM_plain_eq, w1]
    refine And.intro rfl ⟨?_, fun k nk => (r2 k fun p => nk (a5 k p)).trans (q2 k nk), by rw [← q3]; exact r3, hsl, ?_⟩
    · rw [← q4, ← hm]; exact r4
    · simp only [↓reduceIte, Nat.reduceAdd, Nat.reduceMul, Nat.reduceSub, Nat.reduceLT, Nat.reduceLeDiff, Nat.reduceEqDiff, Nat.reducePow, Int.reducePow, Int.reduceLE, Int.reduceLT, Int.reduceEq, Int.reduceToNat, reduceCtorEq, RR, RB, RZ, hl_1, h0_1, h1_1, h5_1, hw, hm, q4]
  · clear hl_0 h0_0 h1_0
    rintro i ⟨s, q⟩ e ⟨E3, c3⟩ ⟨q1, q2, q3, q4, hl_1, h0_1, h1_1, h5_1⟩ hge t1 ho
    have hE := Option.some.inj ho; subst hE
    have hlen := rep_len q1
    simp only at hlen q1 q2 q3 q4 h1_1
    simp only [↓reduceIte, Nat.reduceAdd, Nat.reduceMul, Nat.reduceSub, Nat.reduceLT, Nat.reduceLeDiff, Nat.reduceEqDiff, Nat.reducePow, Int.reducePow, Int.reduceLE, Int.reduceLT, Int.reduceEq, Int.reduceToNat, reduceCtorEq, RR, RB, RZ, opEv, fillV, mapO, mapS, b52_1, hl_1, h0_1, h1_1, h5_1, hlen, q4, eq_false hge]
    intro ht; subst ht
    refine And.intro (fun _ => trivial) ⟨?_, q1, q2, q3⟩
    simp only [↓reduceIte, Nat.reduceAdd, Nat.reduceMul, Nat.reduceSub, Nat.reduceLT, Nat.reduceLeDiff, Nat.reduceEqDiff, Nat.reducePow, Int.reducePow, Int.reduceLE, Int.reduceLT, Int.reduceEq, Int.reduceToNat, reduceCtorEq, RR, RB, RZ, fn_out, p52, Rs.ev, mapO, hl_1]
theorem dm52 {x : List (List Int)} {k : Int} {r : (List (List Int)) × Int} (hF : FM52 x k = some r) (h : Heap) {v : V} {K : Ks} (hr : Deep.rep h v x K) : ∃ h', res A 52 [v, V.int .i64 k] h = some (V.int .i64 r.2, h') ∧ Deep.rep h' v r.1 K ∧ (∀ k, k < h.ents.length → ¬ K k → h'.ents[k]? = h.ents[k]?) ∧ h.ents.length ≤ h'.ents.length := by
  obtain ⟨h', w, q1, q2, q3⟩ := d52 hF h hr
  exact ⟨h', w, q1, fun k _ nk => q2 k nk, by omega⟩
/-! loop.example/g01273/laws.markInt64SSS -/
def F21_1_B (i : Int) (s : List (List (List Int)) × Int) : Option ((List (List (List Int)) × Int) ⊕ (List (List (List Int)) × Int)) :=
  (getI s.1 i).bind fun r => (F52 r s.2).bind fun q => (setI s.1 i q.1).bind fun l => some (.inl (l, q.2))
def F21_1_D (i : Int) (s : List (List (List Int)) × Int) : Option (List (List (List Int)) × Int) := some s
def F21 (l : List (List (List Int))) (k : Int) : Option (List (List (List Int)) × Int) := forR 0 (l.length : Int) F21_1_B F21_1_D (l, k)
def FM21 (x : List (List (List Int))) (k : Int) : Option ((List (List (List Int))) × Int) := F21 x k
theorem d21 {l : List (List (List Int))} {k : Int} {r : List (List (List Int)) × Int} (hF : F21 l k = some r) (h : Heap) {v : V} {K : Ks} (hr : Deep.rep h v l K) :
    ∃ h', res A 21 [v, V.int .i64 k] h = some (V.int .i64 r.2, h') ∧ Deep.rep h' v r.1 K ∧ (∀ k, ¬ K k → h'.ents[k]? = h.ents[k]?) ∧ h'.ents.length = h.ents.length := by
  refine res_ex (f := p21) rfl rfl rfl fun e hl he => ?_
  have h0_0 : e.at 0 = v := he 0 _ rfl
  have h1_0 : e.at 1 = V.int .i64 k := he 1 _ rfl
  have hl_0 : e.length = 19 := hl
  clear he hl
  show W A b21 e h _
  unfold F21 at hF
  obtain ⟨E, c⟩ := h
  simp only [↓reduceIte, Nat.reduceAdd, Nat.reduceMul, Nat.reduceSub, Nat.reduceLT, Nat.reduceLeDiff, Nat.reduceEqDiff, Nat.reducePow, Int.reducePow, Int.reduceLE, Int.reduceLT, Int.reduceEq, Int.reduceToNat, reduceCtorEq, RR, RB, RZ, opEv, fillV, mapO, mapS, b21, hl_0, h0_0, h1_0]
  show W A (.block 0 (.loop true b21_1)) _ _ _
  rw [W_block]
  refine W_forR hF _ rfl (fun i s e h => Deep.rep h v s.1 K ∧ (∀ k, ¬ K k → h.ents[k]? = E[k]?) ∧ h.ents.length = E.length ∧ s.1.length = l.length ∧ e.length = 19 ∧ e.at 0 = v ∧ e.at 1 = V.int .i64 s.2 ∧ e.at 5 = V.int .i64 i) ?_ ?_ ?_
  · refine ⟨hr, fun _ _ => rfl, rfl, rfl, ?_⟩
    simp only [↓reduceIte, Nat.reduceAdd, Nat.reduceMul, Nat.reduceSub, Nat.reduceLT, Nat.reduceLeDiff, Nat.reduceEqDiff, Nat.reducePow, Int.reducePow, Int.reduceLE, Int.reduceLT, Int.reduceEq, Int.reduceToNat, reduceCtorEq, RR, RB, RZ, hl_0, h0_0, h1_0]
  · clear hl_0 h0_0 h1_0
    rintro i ⟨s, q⟩ e ⟨E3, c3⟩ ⟨q1, q2, q3, q4, hl_1, h0_1, h1_1, h5_1⟩ hlt hw oo ho
    unfold F21_1_B at ho
    simp only at ho q1 q2 q3 q4 h1_1
    obtain ⟨row, gr, ho⟩ := bS ho
    obtain ⟨ra, rb⟩ := getI_w gr
    obtain ⟨t, gt, ho⟩ := bS ho
    obtain ⟨s2, gs, ho⟩ := bS ho
    have sm : s2 = s.set i.toNat t.1 := setI_eq gs
    have hE := Option.some.inj ho; subst hE
    obtain ⟨key, uid, vs, x1, K1, hm, a1, a2, a3, a4, a5, a6⟩ := rep_focus q1 rb
    obtain ⟨⟨E4, c4⟩, w1, r1, r2, r3⟩ := d52 gt ⟨E3, c3⟩ a4
    have o1 := ofCells_drop a2
    simp only at a1 r2 r3
    have hsl : s2.length = l.length := by rw [sm, List.length_set]; exact q4
    have r4 := a6 _ _ r1 fun k _ nk => r2 k nk
    rw [← sm] at r4
    simp only [↓reduceIte, Nat.reduceAdd, Nat.reduceMul, Nat.reduceSub, Nat.reduceLT, Nat.reduceLeDiff, Nat.reduceEqDiff, Nat.reducePow, Int.reducePow, Int.reduceLE, Int.reduceLT, Int.reduceEq, Int.reduceToNat, reduceCtorEq, RR, RB, RZ, opEv, fillV, mapO, mapS, b21_1, hl_1, h0_1, h1_1, h5_1, eq_true hlt, hw, hm, q4, a1, ra, o1, callM_plain_eq, w1]
    refine And.intro rfl ⟨?_, fun k nk => (r2 k fun p => nk (a5 k p)).trans (q2 k nk), by rw [← q3]; exact r3, hsl, ?_⟩
    · rw [← q4, ← hm]; exact r4
    · simp only [↓reduceIte, Nat.reduceAdd, Nat.reduceMul, Nat.reduceSub, Nat.reduceLT, Nat.reduceLeDiff, Nat.reduceEqDiff, Nat.reducePow, Int.reducePow, Int.reduceLE, Int.reduceLT, Int.reduceEq, Int.reduceToNat, reduceCtorEq, RR, RB, RZ, hl_1, h0_1, h1_1, h5_1, hw, hm, q4]
  · clear hl_0 h0_0 h1_0
    rintro i ⟨s, q⟩ e ⟨E3, c3⟩ ⟨q1, q2, q3, q4, hl_1, h0_1, h1_1, h5_1⟩ hge t1 ho
    have hE := Option.some.inj ho; subst hE
    have hlen := rep_len q1
    simp only at hlen q1 q2 q3 q4 h1_1
    simp only [↓reduceIte, Nat.reduceAdd, Nat.reduceMul, Nat.reduceSub, Nat.reduceLT, Nat.reduceLeDiff, Nat.reduceEqDiff, Nat.reducePow, Int.reducePow, Int.reduceLE, Int.reduceLT, Int.reduceEq, Int.reduceToNat, reduceCtorEq, RR, RB, RZ, opEv, fillV, mapO, mapS, b21_1, hl_1, h0_1, h1_1, h5_1, hlen, q4, eq_false hge]
    intro ht; subst ht
    refine And.intro (fun _ => trivial) ⟨?_, q1, q2, q3⟩
    simp only [↓reduceIte, Nat.reduceAdd, Nat.reduceMul, Nat.reduceSub, Nat.reduceLT, Nat.reduceLeDiff, Nat.reduceEqDiff, Nat.reducePow, Int.reducePow, Int.reduceLE, Int.reduceLT, Int.reduceEq, Int.reduceToNat, reduceCtorEq, RR, RB, RZ, fn_out, p21, Rs.ev, mapO, hl_1]
theorem dm21 {x : List (List (List Int))} {k : Int} {r : (List (List (List Int))) × Int} (hF : FM21 x k = some r) (h : Heap) {v : V} {K : Ks} (hr : Deep.rep h v x K) : ∃ h', res A 21 [v, V.int .i64 k] h = some (V.int .i64 r.2, h') ∧ Deep.rep h' v r.1 K ∧ (∀ k, k < h.ents.length → ¬ K k → h'.ents[k]? = h.ents[k]?) ∧ h.ents.length ≤ h'.ents.length := by
  obtain ⟨h', w, q1, q2, q3⟩ := d21 hF h hr
  exact ⟨h', w, q1, fun k _ nk => q2 k nk, by omega⟩
/-! loop.example/g01273/laws.markComplex -/
def F20 (d : List Int) (ms : List (List (List Int))) (k : Int) : Option (List Int × List (List (List Int)) × Int) :=
  (F31 d k).bind fun q => (F21 ms q.2).bind fun t => some (q.1, t.1, t.2)
def FM20 (x : GComplex) (k : Int) : Option (GComplex × Int) := (F20 x.Dims x.Maps k).bind fun t => some (⟨x.Prime, t.1, t.2.1⟩, t.2.2)
theorem d20 {d : List Int} {ms : List (List (List Int))} {p k : Int} {r : List Int × List (List (List Int)) × Int} (hF : F20 d ms k = some r) (h : Heap) {dv mv : V} {K1 K2 : Ks} (h1 : Deep.rep h dv d K1) (h2 : Deep.rep h mv ms K2) (hd : ∀ k, K1 k → ¬ K2 k) :
    ∃ h', res A 20 [V.agg [V.int .i64 p, dv, mv], V.int .i64 k] h = some (V.int .i64 r.2.2, h') ∧ Deep.rep h' dv r.1 K1 ∧ Deep.rep h' mv r.2.1 K2 ∧ (∀ k, k < h.ents.length → ¬ K1 k → ¬ K2 k → h'.ents[k]? = h.ents[k]?) ∧ h.ents.length ≤ h'.ents.length := by
  refine res_ex (f := p20) rfl rfl rfl fun e hl he => ?_
  have h0_0 : e.at 0 = V.agg [V.int .i64 p, dv, mv] := he 0 _ rfl
  have h1_0 : e.at 1 = V.int .i64 k := he 1 _ rfl
  have hl_0 : e.length = 14 := hl
  clear he hl
  show W A b20 e h _
  unfold F20 at hF
  obtain ⟨q, gq, hF⟩ := bS hF
  obtain ⟨t, gt, hF⟩ := bS hF
  have hE := Option.some.inj hF; subst hE
  obtain ⟨E, c⟩ := h
  have pre : ∀ (x : Nat × Option (List V)) k, k < E.length → (E ++ [x])[k]? = E[k]? := fun x k hk => List.getElem?_append_left hk
  have n1 : ¬ K1 E.length := fun x => by have := Deep.bd h1 x; simp at this
  have n2 : ¬ K2 E.length := fun x => by have := Deep.bd h2 x; simp at this
  obtain ⟨⟨E3, c3⟩, w1, a1, a2, a3⟩ := d31 gq ⟨E ++ [(c, some [V.int .i64 p, dv, mv])], c + 1⟩ (Deep.frame h1 fun k hk => pre _ k (Deep.bd h1 hk))
  simp only at a2 a3
  have m1 : E3[E.length]? = some (c, some [V.int .i64 p, dv, mv]) := (a2 _ n1).trans (get_last _ _)
  have h2' : Deep.rep ⟨E3, c3⟩ mv ms K2 := Deep.frame h2 fun k hk => (a2 k fun x => hd k x hk).trans (pre _ k (Deep.bd h2 hk))
  obtain ⟨⟨E4, c4⟩, w2, b1, b2, b3⟩ := d21 gt ⟨E3, c3⟩ h2'
  simp only at b2 b3
  have h1' : Deep.rep ⟨E4, c4⟩ dv q.1 K1 := Deep.frame a1 fun k hk => b2 k (hd k hk)
  simp only [↓reduceIte, Nat.reduceAdd, Nat.reduceMul, Nat.reduceSub, Nat.reduceLT, Nat.reduceLeDiff, Nat.reduceEqDiff, Nat.reducePow, Int.reducePow, Int.reduceLE, Int.reduceLT, Int.reduceEq, Int.reduceToNat, reduceCtorEq, RR, RB, RZ, opEv, fillV, mapO, mapS, b20, hl_0, h0_0, h1_0, get_last, callM_plain_eq, w1, m1, w2]
  refine And.intro (fun _ => trivial) ⟨?_, h1', b1, fun k hk x y => (b2 k y).trans ((a2 k x).trans (pre _ k hk)), by simp at a3; omega⟩
  simp only [↓reduceIte, Nat.reduceAdd, Nat.reduceMul, Nat.reduceSub, Nat.reduceLT, Nat.reduceLeDiff, Nat.reduceEqDiff, Nat.reducePow, Int.reducePow, Int.reduceLE, Int.reduceLT, Int.reduceEq, Int.reduceToNat, reduceCtorEq, RR, RB, RZ, fn_out, p20, Rs.ev, mapO, hl_0]
theorem dm20 {x : GComplex} {k : Int} {r : GComplex × Int} (hF : FM20 x k = some r) (h : Heap) {v : V} {K : Ks} (hr : Deep.rep h v x K) : ∃ h', res A 20 [v, V.int .i64 k] h = some (V.int .i64 r.2, h') ∧ Deep.rep h' v r.1 K ∧ (∀ k, k < h.ents.length → ¬ K k → h'.ents[k]? = h.ents[k]?) ∧ h.ents.length ≤ h'.ents.length := by
  obtain ⟨vs, rfl, r0⟩ := hr
  obtain ⟨dv, mv, K1, K2, rfl, h1, h2, h3, h4⟩ := rec3_un r0
  unfold FM20 at hF
  obtain ⟨t, gt, hF⟩ := bS hF
  have hE := Option.some.inj hF; subst hE
  obtain ⟨h', w, q1, q2, q3, q4⟩ := d20 (p := x.Prime) gt h h1 h2 h3
  exact ⟨h', w, ⟨_, rfl, (rec3 q1 q2 h3).to h4⟩, fun k hk nk => q3 k hk (fun y => nk ((h4 k).2 (.inl y))) (fun y => nk ((h4 k).2 (.inr y))), q4⟩
/-! loop.example/g01273/spec.l01In -/
def F54 (a0 : Int) (a1 : Int) (a2 : Int) : Option Bool :=
  if a1 ≤ a0 then
    some (decide (a0 ≤ a2))
  else
    some false
theorem s54 (a0 : Int) (a1 : Int) (a2 : Int)   {r : Bool} (hF : F54 a0 a1 a2 = some r) : ans A 54 [V.int .i64 a0, V.int .i64 a1, V.int .i64 a2] = some (Enc.enc r) := by
  refine ans_of (f := p54) rfl rfl rfl fun e hl he => ?_
  have h0_0 : e.at 0 = V.int .i64 a0 := he 0 _ rfl
  have h1_0 : e.at 1 = V.int .i64 a1 := he 1 _ rfl
  have h2_0 : e.at 2 = V.int .i64 a2 := he 2 _ rfl
  have hl_0 : e.length = 15 := hl
  clear he hl
  show W A b54 e ⟨[], 0⟩ _
  unfold F54 at hF
  by_cases c1 : a1 ≤ a0
  · rw [if_pos c1] at hF
    have hE := Option.some.inj hF; subst hE
    simp only [↓reduceIte, Nat.reduceAdd, Nat.reduceMul, Nat.reduceSub, Nat.reduceLT, Nat.reduceLeDiff, Nat.reduceEqDiff, Nat.reducePow, Int.reducePow, Int.reduceLE, Int.reduceLT, Int.reduceEq, Int.reduceToNat, reduceCtorEq, RR, RB, RZ, RE, opEv, fillV, mapO, mapS, b54, hl_0, h0_0, h1_0, h2_0, eq_true c1]
    exact fin_ret (by simp only [↓reduceIte, Nat.reduceAdd, Nat.reduceMul, Nat.reduceSub, Nat.reduceLT, Nat.reduceLeDiff, Nat.reduceEqDiff, Nat.reducePow, Int.reducePow, Int.reduceLE, Int.reduceLT, Int.reduceEq, Int.reduceToNat, reduceCtorEq, RR, RB, RZ, RE, fn_out, p54, Rs.ev, mapO, mapS, take_len_self, hl_0, h0_0, h1_0, h2_0, eq_true c1])
  · rw [if_neg c1] at hF
    have hE := Option.some.inj hF; subst hE
    simp only [↓reduceIte, Nat.reduceAdd, Nat.reduceMul, Nat.reduceSub, Nat.reduceLT, Nat.reduceLeDiff, Nat.reduceEqDiff, Nat.reducePow, Int.reducePow, Int.reduceLE, Int.reduceLT, Int.reduceEq, Int.reduceToNat, reduceCtorEq, RR, RB, RZ, RE, opEv, fillV, mapO, mapS, b54, hl_0, h0_0, h1_0, h2_0, eq_false c1]
    exact fin_ret (by simp only [↓reduceIte, Nat.reduceAdd, Nat.reduceMul, Nat.reduceSub, Nat.reduceLT, Nat.reduceLeDiff, Nat.reduceEqDiff, Nat.reducePow, Int.reducePow, Int.reduceLE, Int.reduceLT, Int.reduceEq, Int.reduceToNat, reduceCtorEq, RR, RB, RZ, RE, fn_out, p54, Rs.ev, mapO, mapS, take_len_self, hl_0, h0_0, h1_0, h2_0, eq_false c1])
/-! loop.example/g01273/spec.l01Prime -/
def F78 (a0 : Int) : Option Bool :=
  if a0 = 2 then
    some true
  else
    if a0 = 3 then
      some true
    else
      if a0 = 5 then
        some true
      else
        some (decide (a0 = 7))
theorem s78 (a0 : Int)   {r : Bool} (hF : F78 a0 = some r) : ans A 78 [V.int .i64 a0] = some (Enc.enc r) := by
  refine ans_of (f := p78) rfl rfl rfl fun e hl he => ?_
  have h0_0 : e.at 0 = V.int .i64 a0 := he 0 _ rfl
  have hl_0 : e.length = 17 := hl
  clear he hl
  show W A b78 e ⟨[], 0⟩ _
  unfold F78 at hF
  by_cases c1 : a0 = 2
  · rw [if_pos c1] at hF
    have hE := Option.some.inj hF; subst hE
    simp only [↓reduceIte, Nat.reduceAdd, Nat.reduceMul, Nat.reduceSub, Nat.reduceLT, Nat.reduceLeDiff, Nat.reduceEqDiff, Nat.reducePow, Int.reducePow, Int.reduceLE, Int.reduceLT, Int.reduceEq, Int.reduceToNat, reduceCtorEq, RR, RB, RZ, RE, opEv, fillV, mapO, mapS, b78, hl_0, h0_0, eq_true c1]
    exact fin_ret (by simp only [↓reduceIte, Nat.reduceAdd, Nat.reduceMul, Nat.reduceSub, Nat.reduceLT, Nat.reduceLeDiff, Nat.reduceEqDiff, Nat.reducePow, Int.reducePow, Int.reduceLE, Int.reduceLT, Int.reduceEq, Int.reduceToNat, reduceCtorEq, RR, RB, RZ, RE, fn_out, p78, Rs.ev, mapO, mapS, take_len_self, hl_0, h0_0, eq_true c1])
  · rw [if_neg c1] at hF
    by_cases c2 : a0 = 3
    · rw [if_pos c2] at hF
      have hE := Option.some.inj hF; subst hE
      simp only [↓reduceIte, Nat.reduceAdd, Nat.reduceMul, Nat.reduceSub, Nat.reduceLT, Nat.reduceLeDiff, Nat.reduceEqDiff, Nat.reducePow, Int.reducePow, Int.reduceLE, Int.reduceLT, Int.reduceEq, Int.reduceToNat, reduceCtorEq, RR, RB, RZ, RE, opEv, fillV, mapO, mapS, b78, hl_0, h0_0, eq_false c1, eq_true c2]
      exact fin_ret (by simp only [↓reduceIte, Nat.reduceAdd, Nat.reduceMul, Nat.reduceSub, Nat.reduceLT, Nat.reduceLeDiff, Nat.reduceEqDiff, Nat.reducePow, Int.reducePow, Int.reduceLE, Int.reduceLT, Int.reduceEq, Int.reduceToNat, reduceCtorEq, RR, RB, RZ, RE, fn_out, p78, Rs.ev, mapO, mapS, take_len_self, hl_0, h0_0, eq_false c1, eq_true c2])
    · rw [if_neg c2] at hF
      by_cases c3 : a0 = 5
      · rw [if_pos c3] at hF
        have hE := Option.some.inj hF; subst hE
        simp only [↓reduceIte, Nat.reduceAdd, Nat.reduceMul, Nat.reduceSub, Nat.reduceLT, Nat.reduceLeDiff, Nat.reduceEqDiff, Nat.reducePow, Int.reducePow, Int.reduceLE, Int.reduceLT, Int.reduceEq, Int.reduceToNat, reduceCtorEq, RR, RB, RZ, RE, opEv, fillV, mapO, mapS, b78, hl_0, h0_0, eq_false c1, eq_false c2, eq_true c3]
        exact fin_ret (by simp only [↓reduceIte, Nat.reduceAdd, Nat.reduceMul, Nat.reduceSub, Nat.reduceLT, Nat.reduceLeDiff, Nat.reduceEqDiff, Nat.reducePow, Int.reducePow, Int.reduceLE, Int.reduceLT, Int.reduceEq, Int.reduceToNat, reduceCtorEq, RR, RB, RZ, RE, fn_out, p78, Rs.ev, mapO, mapS, take_len_self, hl_0, h0_0, eq_false c1, eq_false c2, eq_true c3])
      · rw [if_neg c3] at hF
        have hE := Option.some.inj hF; subst hE
        simp only [↓reduceIte, Nat.reduceAdd, Nat.reduceMul, Nat.reduceSub, Nat.reduceLT, Nat.reduceLeDiff, Nat.reduceEqDiff, Nat.reducePow, Int.reducePow, Int.reduceLE, Int.reduceLT, Int.reduceEq, Int.reduceToNat, reduceCtorEq, RR, RB, RZ, RE, opEv, fillV, mapO, mapS, b78, hl_0, h0_0, eq_false c1, eq_false c2, eq_false c3]
        exact fin_ret (by simp only [↓reduceIte, Nat.reduceAdd, Nat.reduceMul, Nat.reduceSub, Nat.reduceLT, Nat.reduceLeDiff, Nat.reduceEqDiff, Nat.reducePow, Int.reducePow, Int.reduceLE, Int.reduceLT, Int.reduceEq, Int.reduceToNat, reduceCtorEq, RR, RB, RZ, RE, fn_out, p78, Rs.ev, mapO, mapS, take_len_self, hl_0, h0_0, eq_false c1, eq_false c2, eq_false c3])
/-! loop.example/g01273/spec.l01Table -/
def F79_2_S (a0 : Int) (a1 : List (List Int)) (a3 : Int) (v9_1 : Int) (v10_2 : Int) : Option ((Int) ⊕ ((Unit) ⊕ Bool)) :=
  (getI a1 v9_1).bind fun x11 =>
if v10_2 < (x11.length : Int) then
  (getI x11 v10_2).bind fun x14 =>
  (chk (a0 - 1)).bind fun x16 =>
  (F54 x14 0 x16).bind fun x17 =>
  if x17 = true then
    (chk (v10_2 + 1)).bind fun x19 =>
    some (.inl x19)
  else
    some (.inr (.inr false))
else
  some (.inr (.inl ()))
def F79_1_B (a0 : Int) (a1 : List (List Int)) (a3 : Int) (v9_1 : Int) (s : Unit) : Option ((Unit) ⊕ ((Unit) ⊕ Bool)) :=
  (getI a1 v9_1).bind fun x5 =>
if (x5.length : Int) = a3 then
  (loopW (F79_2_S a0 a1 a3 v9_1) 0).bind fun t20 => match t20 with
    | .inl _ =>
      some (.inl ())
    | .inr r21 => some (.inr (.inr r21))
else
  some (.inr (.inr false))
def F79_1_D (a0 : Int) (a1 : List (List Int)) (a3 : Int) (v9_1 : Int) (s : Unit) : Option ((Unit) ⊕ Bool) :=
  some (.inl ())
def F79 (a0 : Int) (a1 : List (List Int)) (a2 : Int) (a3 : Int) : Option Bool :=
  if (a1.length : Int) = a2 then
    (forR 0 (a1.length : Int) (F79_1_B a0 a1 a3) (F79_1_D a0 a1 a3) ()).bind fun t22 => match t22 with
      | .inl _ =>
        some true
      | .inr r23 => some r23
  else
    some false
def I79_2 (a0 : Int) (a1 : List (List Int)) (a3 : Int) (v9_1 : Int)  (v10_2 : Int) (e : Env) (h : Heap) : Prop :=
  ∃ k9 : Nat, h = ⟨[], k9⟩ ∧ e.length = 48 ∧ e.at 0 = V.int .i64 a0 ∧ e.at 1 = V.isl (List.map Enc.enc a1) ∧ e.at 3 = V.int .i64 a3 ∧ e.at 9 = V.int .i64 v9_1 ∧ e.at 10 = V.int .i64 v10_2
def P79_2 (a0 : Int) (a1 : List (List Int)) (a3 : Int) (v9_1 : Int)  (t : (Unit) ⊕ Bool) (x : Ex) (e : Env) (h : Heap) : Prop :=
  match t with
  | .inl _ => x = .normal ∧ ∃ k9 : Nat, h = ⟨[], k9⟩ ∧ e.length = 48 ∧ e.at 0 = V.int .i64 a0 ∧ e.at 1 = V.isl (List.map Enc.enc a1) ∧ e.at 3 = V.int .i64 a3 ∧ e.at 9 = V.int .i64 v9_1
  | .inr r => x = .ret ∧ Fin p79 (Enc.enc r) .ret e h
theorem l79_2 (a0 : Int) (a1 : List (List Int)) (a3 : Int) (v9_1 : Int)   {s : Int} {t : (Unit) ⊕ Bool} (hF : loopW (F79_2_S a0 a1 a3 v9_1) s = some t) {e : Env} {h : Heap} (hI : I79_2 a0 a1 a3 v9_1  s e h) : W A c79_2 e h (P79_2 a0 a1 a3 v9_1  t) := by
  show W A (.block 2 (.loop false b79_2)) e h _
  rw [W_block]
  refine W_loop hF 0 (by obtain ⟨_, rfl, _⟩ := hI; rfl) (I79_2 a0 a1 a3 v9_1 ) hI ?_
  · rintro v10_2 e h ⟨k9, rfl, hl_8, h0_8, h1_8, h3_8, h9_8, h10_8⟩ o ho
    unfold F79_2_S at ho
    obtain ⟨x11, gx11, ho⟩ := bS ho
    obtain ⟨w12a, w12b⟩ := getI_w gx11
    by_cases c13 : v10_2 < (x11.length : Int)
    · rw [if_pos c13] at ho
      obtain ⟨x14, gx14, ho⟩ := bS ho
      obtain ⟨w15a, w15b⟩ := getI_w gx14
      obtain ⟨x16, gx16, ho⟩ := bS ho
      have wx16 := chk_w gx16
      obtain ⟨x17, gx17, ho⟩ := bS ho
      have w18 : ans A 54 [V.int .i64 x14, V.int .i64 0, V.int .i64 x16] = some (V.bool x17) := s54 x14 0 x16  gx17
      cases x17 with
      | true =>
        rw [if_pos rfl] at ho
        obtain ⟨x19, gx19, ho⟩ := bS ho
        have wx19 := chk_w gx19
        have hE := Option.some.inj ho; subst hE
        simp only [↓reduceIte, Nat.reduceAdd, Nat.reduceMul, Nat.reduceSub, Nat.reduceLT, Nat.reduceLeDiff, Nat.reduceEqDiff, Nat.reducePow, Int.reducePow, Int.reduceLE, Int.reduceLT, Int.reduceEq, Int.reduceToNat, reduceCtorEq, RR, RB, RZ, RE, opEv, fillV, mapO, mapS, b79_2, hl_8, h0_8, h1_8, h3_8, h9_8, h10_8, w12a, w12b, eq_true c13, w15a, w15b, wx16, w18, wx19]
        refine And.intro rfl (Exists.intro _ ( And.intro rfl ?_))
        simp only [↓reduceIte, Nat.reduceAdd, Nat.reduceMul, Nat.reduceSub, Nat.reduceLT, Nat.reduceLeDiff, Nat.reduceEqDiff, Nat.reducePow, Int.reducePow, Int.reduceLE, Int.reduceLT, Int.reduceEq, Int.reduceToNat, reduceCtorEq, RR, RB, RZ, RE, hl_8, h0_8, h1_8, h3_8, h9_8, h10_8, w12a, w12b, eq_true c13, w15a, w15b, wx16, w18, wx19]
      | false =>
        rw [if_neg Bool.false_ne_true] at ho
        have hE := Option.some.inj ho; subst hE
        simp only [↓reduceIte, Nat.reduceAdd, Nat.reduceMul, Nat.reduceSub, Nat.reduceLT, Nat.reduceLeDiff, Nat.reduceEqDiff, Nat.reducePow, Int.reducePow, Int.reduceLE, Int.reduceLT, Int.reduceEq, Int.reduceToNat, reduceCtorEq, RR, RB, RZ, RE, opEv, fillV, mapO, mapS, b79_2, hl_8, h0_8, h1_8, h3_8, h9_8, h10_8, w12a, w12b, eq_true c13, w15a, w15b, wx16, w18]
        intro ht; subst ht
        simp only [↓reduceIte, Nat.reduceAdd, Nat.reduceMul, Nat.reduceSub, Nat.reduceLT, Nat.reduceLeDiff, Nat.reduceEqDiff, Nat.reducePow, Int.reducePow, Int.reduceLE, Int.reduceLT, Int.reduceEq, Int.reduceToNat, reduceCtorEq, RR, RB]
        exact And.intro rfl (fin_ret (by simp only [↓reduceIte, Nat.reduceAdd, Nat.reduceMul, Nat.reduceSub, Nat.reduceLT, Nat.reduceLeDiff, Nat.reduceEqDiff, Nat.reducePow, Int.reducePow, Int.reduceLE, Int.reduceLT, Int.reduceEq, Int.reduceToNat, reduceCtorEq, RR, RB, RZ, RE, fn_out, p79, Rs.ev, mapO, mapS, take_len_self, hl_8, h0_8, h1_8, h3_8, h9_8, h10_8, w12a, w12b, eq_true c13, w15a, w15b, wx16, w18]))
    · rw [if_neg c13] at ho
      have hE := Option.some.inj ho; subst hE
      simp only [↓reduceIte, Nat.reduceAdd, Nat.reduceMul, Nat.reduceSub, Nat.reduceLT, Nat.reduceLeDiff, Nat.reduceEqDiff, Nat.reducePow, Int.reducePow, Int.reduceLE, Int.reduceLT, Int.reduceEq, Int.reduceToNat, reduceCtorEq, RR, RB, RZ, RE, opEv, fillV, mapO, mapS, b79_2, hl_8, h0_8, h1_8, h3_8, h9_8, h10_8, w12a, w12b, eq_false c13]
      intro ht; subst ht
      simp only [↓reduceIte, Nat.reduceAdd, Nat.reduceMul, Nat.reduceSub, Nat.reduceLT, Nat.reduceLeDiff, Nat.reduceEqDiff, Nat.reducePow, Int.reducePow, Int.reduceLE, Int.reduceLT, Int.reduceEq, Int.reduceToNat, reduceCtorEq, RR, RB]
      refine And.intro rfl (Exists.intro _ ( And.intro rfl ?_))
      simp only [↓reduceIte, Nat.reduceAdd, Nat.reduceMul, Nat.reduceSub, Nat.reduceLT, Nat.reduceLeDiff, Nat.reduceEqDiff, Nat.reducePow, Int.reducePow, Int.reduceLE, Int.reduceLT, Int.reduceEq, Int.reduceToNat, reduceCtorEq, RR, RB, RZ, RE, hl_8, h0_8, h1_8, h3_8, h9_8, h10_8, w12a, w12b, eq_false c13]
def I79_1 (a0 : Int) (a1 : List (List Int)) (a3 : Int)  (v9_1 : Int) (s : Unit) (e : Env) (h : Heap) : Prop :=
  ∃ k3 : Nat, h = ⟨[], k3⟩ ∧ e.length = 48 ∧ e.at 0 = V.int .i64 a0 ∧ e.at 1 = V.isl (List.map Enc.enc a1) ∧ e.at 3 = V.int .i64 a3 ∧ e.at 9 = V.int .i64 v9_1
def P79_1 (a0 : Int) (a1 : List (List Int)) (a3 : Int)  (t : (Unit) ⊕ Bool) (x : Ex) (e : Env) (h : Heap) : Prop :=
  match t with
  | .inl _ => x = .normal ∧ ∃ k3 : Nat, h = ⟨[], k3⟩ ∧ e.length = 48
  | .inr r => x = .ret ∧ Fin p79 (Enc.enc r) .ret e h
theorem l79_1 (a0 : Int) (a1 : List (List Int)) (a3 : Int)   {lo : Int} {s : Unit} {t : (Unit) ⊕ Bool} (hF : forR lo (a1.length : Int) (F79_1_B a0 a1 a3) (F79_1_D a0 a1 a3) s = some t) {e : Env} {h : Heap} (hI : I79_1 a0 a1 a3  lo s e h) : W A c79_1 e h (P79_1 a0 a1 a3  t) := by
  show W A (.block 0 (.loop false b79_1)) e h _
  rw [W_block]
  refine W_forR hF 0 (by obtain ⟨_, rfl, _⟩ := hI; rfl) (I79_1 a0 a1 a3 ) hI ?_ ?_
  · rintro v9_1 _ e h ⟨k3, rfl, hl_2, h0_2, h1_2, h3_2, h9_2⟩ hlt hw o ho
    unfold F79_1_B at ho
    obtain ⟨x5, gx5, ho⟩ := bS ho
    obtain ⟨w6a, w6b⟩ := getI_w gx5
    by_cases c7 : (x5.length : Int) = a3
    · rw [if_pos c7] at ho
      obtain ⟨t20, gt20, ho⟩ := bS ho
      rcases t20 with _ | r21
      · dsimp only at ho
        simp only [↓reduceIte, Nat.reduceAdd, Nat.reduceMul, Nat.reduceSub, Nat.reduceLT, Nat.reduceLeDiff, Nat.reduceEqDiff, Nat.reducePow, Int.reducePow, Int.reduceLE, Int.reduceLT, Int.reduceEq, Int.reduceToNat, reduceCtorEq, RR, RB, RZ, RE, opEv, fillV, mapO, mapS, b79_1, hl_2, h0_2, h1_2, h3_2, h9_2, eq_true hlt, hw, w6a, w6b, eq_true c7]
        refine W.mono (l79_2 a0 a1 a3 v9_1   gt20 (Exists.intro _ ( And.intro rfl ?_))) ?_
        · simp only [↓reduceIte, Nat.reduceAdd, Nat.reduceMul, Nat.reduceSub, Nat.reduceLT, Nat.reduceLeDiff, Nat.reduceEqDiff, Nat.reducePow, Int.reducePow, Int.reduceLE, Int.reduceLT, Int.reduceEq, Int.reduceToNat, reduceCtorEq, RR, RB, RZ, RE, hl_2, h0_2, h1_2, h3_2, h9_2, eq_true hlt, hw, w6a, w6b, eq_true c7]
        rintro _ e _ ⟨rfl, k9, rfl, hl_10, h0_10, h1_10, h3_10, h9_10⟩
        have hE := Option.some.inj ho; subst hE
        simp only [↓reduceIte, Nat.reduceAdd, Nat.reduceMul, Nat.reduceSub, Nat.reduceLT, Nat.reduceLeDiff, Nat.reduceEqDiff, Nat.reducePow, Int.reducePow, Int.reduceLE, Int.reduceLT, Int.reduceEq, Int.reduceToNat, reduceCtorEq, RR, RB, RZ, RE, opEv, fillV, mapO, mapS, hl_10, h0_10, h1_10, h3_10, h9_10, eq_true hlt, hw, eq_true c7]
        refine And.intro rfl (Exists.intro _ ( And.intro rfl ?_))
        simp only [↓reduceIte, Nat.reduceAdd, Nat.reduceMul, Nat.reduceSub, Nat.reduceLT, Nat.reduceLeDiff, Nat.reduceEqDiff, Nat.reducePow, Int.reducePow, Int.reduceLE, Int.reduceLT, Int.reduceEq, Int.reduceToNat, reduceCtorEq, RR, RB, RZ, RE, hl_10, h0_10, h1_10, h3_10, h9_10, eq_true hlt, hw, eq_true c7]
      · dsimp only at ho
        have hE := Option.some.inj ho; subst hE
        simp only [↓reduceIte, Nat.reduceAdd, Nat.reduceMul, Nat.reduceSub, Nat.reduceLT, Nat.reduceLeDiff, Nat.reduceEqDiff, Nat.reducePow, Int.reducePow, Int.reduceLE, Int.reduceLT, Int.reduceEq, Int.reduceToNat, reduceCtorEq, RR, RB, RZ, RE, opEv, fillV, mapO, mapS, b79_1, hl_2, h0_2, h1_2, h3_2, h9_2, eq_true hlt, hw, w6a, w6b, eq_true c7]
        refine W.mono (l79_2 a0 a1 a3 v9_1   gt20 (Exists.intro _ ( And.intro rfl ?_))) ?_
        · simp only [↓reduceIte, Nat.reduceAdd, Nat.reduceMul, Nat.reduceSub, Nat.reduceLT, Nat.reduceLeDiff, Nat.reduceEqDiff, Nat.reducePow, Int.reducePow, Int.reduceLE, Int.reduceLT, Int.reduceEq, Int.reduceToNat, reduceCtorEq, RR, RB, RZ, RE, hl_2, h0_2, h1_2, h3_2, h9_2, eq_true hlt, hw, w6a, w6b, eq_true c7]
        rintro _ e h ⟨rfl, hq⟩
        simp only [↓reduceIte, Nat.reduceAdd, Nat.reduceMul, Nat.reduceSub, Nat.reduceLT, Nat.reduceLeDiff, Nat.reduceEqDiff, Nat.reducePow, Int.reducePow, Int.reduceLE, Int.reduceLT, Int.reduceEq, Int.reduceToNat, reduceCtorEq, RR, RB]
        intro ht; subst ht
        simp only [↓reduceIte, Nat.reduceAdd, Nat.reduceMul, Nat.reduceSub, Nat.reduceLT, Nat.reduceLeDiff, Nat.reduceEqDiff, Nat.reducePow, Int.reducePow, Int.reduceLE, Int.reduceLT, Int.reduceEq, Int.reduceToNat, reduceCtorEq, RR, RB]
        exact And.intro rfl hq
    · rw [if_neg c7] at ho
      have hE := Option.some.inj ho; subst hE
      simp only [↓reduceIte, Nat.reduceAdd, Nat.reduceMul, Nat.reduceSub, Nat.reduceLT, Nat.reduceLeDiff, Nat.reduceEqDiff, Nat.reducePow, Int.reducePow, Int.reduceLE, Int.reduceLT, Int.reduceEq, Int.reduceToNat, reduceCtorEq, RR, RB, RZ, RE, opEv, fillV, mapO, mapS, b79_1, hl_2, h0_2, h1_2, h3_2, h9_2, eq_true hlt, hw, w6a, w6b, eq_false c7]
      intro ht; subst ht
      simp only [↓reduceIte, Nat.reduceAdd, Nat.reduceMul, Nat.reduceSub, Nat.reduceLT, Nat.reduceLeDiff, Nat.reduceEqDiff, Nat.reducePow, Int.reducePow, Int.reduceLE, Int.reduceLT, Int.reduceEq, Int.reduceToNat, reduceCtorEq, RR, RB]
      exact And.intro rfl (fin_ret (by simp only [↓reduceIte, Nat.reduceAdd, Nat.reduceMul, Nat.reduceSub, Nat.reduceLT, Nat.reduceLeDiff, Nat.reduceEqDiff, Nat.reducePow, Int.reducePow, Int.reduceLE, Int.reduceLT, Int.reduceEq, Int.reduceToNat, reduceCtorEq, RR, RB, RZ, RE, fn_out, p79, Rs.ev, mapO, mapS, take_len_self, hl_2, h0_2, h1_2, h3_2, h9_2, eq_true hlt, hw, w6a, w6b, eq_false c7]))
  · rintro v9_1 _ e h ⟨k3, rfl, hl_2, h0_2, h1_2, h3_2, h9_2⟩ hge t1 ho
    unfold F79_1_D at ho
    have hE := Option.some.inj ho; subst hE
    simp only [↓reduceIte, Nat.reduceAdd, Nat.reduceMul, Nat.reduceSub, Nat.reduceLT, Nat.reduceLeDiff, Nat.reduceEqDiff, Nat.reducePow, Int.reducePow, Int.reduceLE, Int.reduceLT, Int.reduceEq, Int.reduceToNat, reduceCtorEq, RR, RB, RZ, RE, opEv, fillV, mapO, mapS, b79_1, hl_2, h0_2, h1_2, h3_2, h9_2, eq_false hge]
    intro ht; subst ht
    refine And.intro rfl (Exists.intro _ ( And.intro rfl ?_))
    simp only [↓reduceIte, Nat.reduceAdd, Nat.reduceMul, Nat.reduceSub, Nat.reduceLT, Nat.reduceLeDiff, Nat.reduceEqDiff, Nat.reducePow, Int.reducePow, Int.reduceLE, Int.reduceLT, Int.reduceEq, Int.reduceToNat, reduceCtorEq, RR, RB, RZ, RE, hl_2, h0_2, h1_2, h3_2, h9_2, eq_false hge]
theorem s79 (a0 : Int) (a1 : List (List Int)) (a2 : Int) (a3 : Int)   {r : Bool} (hF : F79 a0 a1 a2 a3 = some r) : ans A 79 [V.int .i64 a0, V.isl (List.map Enc.enc a1), V.int .i64 a2, V.int .i64 a3] = some (Enc.enc r) := by
  refine ans_of (f := p79) rfl rfl rfl fun e hl he => ?_
  have h0_0 : e.at 0 = V.int .i64 a0 := he 0 _ rfl
  have h1_0 : e.at 1 = V.isl (List.map Enc.enc a1) := he 1 _ rfl
  have h2_0 : e.at 2 = V.int .i64 a2 := he 2 _ rfl
  have h3_0 : e.at 3 = V.int .i64 a3 := he 3 _ rfl
  have hl_0 : e.length = 48 := hl
  clear he hl
  show W A b79 e ⟨[], 0⟩ _
  unfold F79 at hF
  by_cases c1 : (a1.length : Int) = a2
  · rw [if_pos c1] at hF
    obtain ⟨t22, gt22, hF⟩ := bS hF
    rcases t22 with _ | r23
    · dsimp only at hF
      simp only [↓reduceIte, Nat.reduceAdd, Nat.reduceMul, Nat.reduceSub, Nat.reduceLT, Nat.reduceLeDiff, Nat.reduceEqDiff, Nat.reducePow, Int.reducePow, Int.reduceLE, Int.reduceLT, Int.reduceEq, Int.reduceToNat, reduceCtorEq, RR, RB, RZ, RE, opEv, fillV, mapO, mapS, b79, hl_0, h0_0, h1_0, h2_0, h3_0, eq_true c1]
      refine W.mono (l79_1 a0 a1 a3   gt22 (Exists.intro _ ( And.intro rfl ?_))) ?_
      · simp only [↓reduceIte, Nat.reduceAdd, Nat.reduceMul, Nat.reduceSub, Nat.reduceLT, Nat.reduceLeDiff, Nat.reduceEqDiff, Nat.reducePow, Int.reducePow, Int.reduceLE, Int.reduceLT, Int.reduceEq, Int.reduceToNat, reduceCtorEq, RR, RB, RZ, RE, hl_0, h0_0, h1_0, h2_0, h3_0, eq_true c1]
      rintro _ e _ ⟨rfl, k3, rfl, hl_4⟩
      have hE := Option.some.inj hF; subst hE
      simp only [↓reduceIte, Nat.reduceAdd, Nat.reduceMul, Nat.reduceSub, Nat.reduceLT, Nat.reduceLeDiff, Nat.reduceEqDiff, Nat.reducePow, Int.reducePow, Int.reduceLE, Int.reduceLT, Int.reduceEq, Int.reduceToNat, reduceCtorEq, RR, RB, RZ, RE, opEv, fillV, mapO, mapS, hl_4, eq_true c1]
      exact fin_ret (by simp only [↓reduceIte, Nat.reduceAdd, Nat.reduceMul, Nat.reduceSub, Nat.reduceLT, Nat.reduceLeDiff, Nat.reduceEqDiff, Nat.reducePow, Int.reducePow, Int.reduceLE, Int.reduceLT, Int.reduceEq, Int.reduceToNat, reduceCtorEq, RR, RB, RZ, RE, fn_out, p79, Rs.ev, mapO, mapS, take_len_self, hl_4, eq_true c1])
    · dsimp only at hF
      have hE := Option.some.inj hF; subst hE
      simp only [↓reduceIte, Nat.reduceAdd, Nat.reduceMul, Nat.reduceSub, Nat.reduceLT, Nat.reduceLeDiff, Nat.reduceEqDiff, Nat.reducePow, Int.reducePow, Int.reduceLE, Int.reduceLT, Int.reduceEq, Int.reduceToNat, reduceCtorEq, RR, RB, RZ, RE, opEv, fillV, mapO, mapS, b79, hl_0, h0_0, h1_0, h2_0, h3_0, eq_true c1]
      refine W.mono (l79_1 a0 a1 a3   gt22 (Exists.intro _ ( And.intro rfl ?_))) ?_
      · simp only [↓reduceIte, Nat.reduceAdd, Nat.reduceMul, Nat.reduceSub, Nat.reduceLT, Nat.reduceLeDiff, Nat.reduceEqDiff, Nat.reducePow, Int.reducePow, Int.reduceLE, Int.reduceLT, Int.reduceEq, Int.reduceToNat, reduceCtorEq, RR, RB, RZ, RE, hl_0, h0_0, h1_0, h2_0, h3_0, eq_true c1]
      rintro _ e h ⟨rfl, hq⟩
      simp only [↓reduceIte, Nat.reduceAdd, Nat.reduceMul, Nat.reduceSub, Nat.reduceLT, Nat.reduceLeDiff, Nat.reduceEqDiff, Nat.reducePow, Int.reducePow, Int.reduceLE, Int.reduceLT, Int.reduceEq, Int.reduceToNat, reduceCtorEq, RR, RB]
      exact hq
  · rw [if_neg c1] at hF
    have hE := Option.some.inj hF; subst hE
    simp only [↓reduceIte, Nat.reduceAdd, Nat.reduceMul, Nat.reduceSub, Nat.reduceLT, Nat.reduceLeDiff, Nat.reduceEqDiff, Nat.reducePow, Int.reducePow, Int.reduceLE, Int.reduceLT, Int.reduceEq, Int.reduceToNat, reduceCtorEq, RR, RB, RZ, RE, opEv, fillV, mapO, mapS, b79, hl_0, h0_0, h1_0, h2_0, h3_0, eq_false c1]
    exact fin_ret (by simp only [↓reduceIte, Nat.reduceAdd, Nat.reduceMul, Nat.reduceSub, Nat.reduceLT, Nat.reduceLeDiff, Nat.reduceEqDiff, Nat.reducePow, Int.reducePow, Int.reduceLE, Int.reduceLT, Int.reduceEq, Int.reduceToNat, reduceCtorEq, RR, RB, RZ, RE, fn_out, p79, Rs.ev, mapO, mapS, take_len_self, hl_0, h0_0, h1_0, h2_0, h3_0, eq_false c1])
/-! loop.example/g01273/spec.l01Apply -/
def F80_2_S (a0 : Int) (a1 : List (List Int)) (a2 : List Int) (v10_1 : Int) (s : (List Int) × Int) : Option (((List Int) × Int) ⊕ ((List Int))) :=
  match s with
  | (o0_2, v11_2) =>
    if v11_2 < ((o0_2.length : Nat) : Int) then
      (getI o0_2 v11_2).bind fun x12 =>
      (getI a2 v10_1).bind fun x14 =>
      (getI a1 v10_1).bind fun x16 =>
      (getI x16 v11_2).bind fun x18 =>
      (chk (x14 * x18)).bind fun x20 =>
      (chk (x12 + x20)).bind fun x21 =>
      (remI x21 a0).bind fun x22 =>
      (setI o0_2 v11_2 x22).bind fun l24 =>
      (chk (v11_2 + 1)).bind fun x26 =>
      some (.inl (l24, x26))
    else
      some (.inr o0_2)
def F80_1_B (a0 : Int) (a1 : List (List Int)) (a2 : List Int) (v10_1 : Int) (o0_1 : (List Int)) : Option (((List Int)) ⊕ ((List Int))) :=
  (loopW (F80_2_S a0 a1 a2 v10_1) (o0_1, 0)).bind fun zo0_2 =>
some (.inl zo0_2)
def F80_1_D (a0 : Int) (a1 : List (List Int)) (a2 : List Int) (v10_1 : Int) (o0_1 : (List Int)) : Option ((List Int)) :=
  some o0_1
def F80 (a0 : Int) (a1 : List (List Int)) (a2 : List Int) (a3 : Int) : Option (List Int) :=
  (mkL 8 a3 0).bind fun l1 =>
  (forR 0 (a2.length : Int) (F80_1_B a0 a1 a2) (F80_1_D a0 a1 a2) l1).bind fun zo0_1 =>
  some zo0_1
def I80_2 (a0 : Int) (a1 : List (List Int)) (a2 : List Int) (v10_1 : Int)  (s : (List Int) × Int) (e : Env) (h : Heap) : Prop :=
  match s with
  | (o0_2, v11_2) =>
    ∃ u8 k9 : Nat, h = ⟨[(u8, some (List.map Enc.enc o0_2))], k9⟩ ∧ e.length = 49 ∧ e.at 0 = V.int .i64 a0 ∧ e.at 1 = V.isl (List.map Enc.enc a1) ∧ e.at 2 = V.isl (List.map Enc.enc a2) ∧ e.at 9 = V.sl 0 u8 0 o0_2.length 1 ∧ e.at 10 = V.int .i64 v10_1 ∧ e.at 11 = V.int .i64 v11_2
def P80_2 (a0 : Int) (a1 : List (List Int)) (a2 : List Int) (v10_1 : Int)  (zo0_2 : (List Int)) (x : Ex) (e : Env) (h : Heap) : Prop :=
  x = .normal ∧ ∃ u8 k9 : Nat, h = ⟨[(u8, some (List.map Enc.enc zo0_2))], k9⟩ ∧ e.length = 49 ∧ e.at 0 = V.int .i64 a0 ∧ e.at 1 = V.isl (List.map Enc.enc a1) ∧ e.at 2 = V.isl (List.map Enc.enc a2) ∧ e.at 9 = V.sl 0 u8 0 zo0_2.length 1 ∧ e.at 10 = V.int .i64 v10_1
theorem l80_2 (a0 : Int) (a1 : List (List Int)) (a2 : List Int) (v10_1 : Int)   {s : (List Int) × Int} {t : (List Int)} (hF : loopW (F80_2_S a0 a1 a2 v10_1) s = some t) {e : Env} {h : Heap} (hI : I80_2 a0 a1 a2 v10_1  s e h) : W A c80_2 e h (P80_2 a0 a1 a2 v10_1  t) := by
  show W A (.block 2 (.loop false b80_2)) e h _
  rw [W_block]
  refine W_loop hF 1 (by rcases s with ⟨_, _⟩; obtain ⟨_, _, rfl, _⟩ := hI; rfl) (I80_2 a0 a1 a2 v10_1 ) hI ?_
  · rintro ⟨o0_2, v11_2⟩ e h ⟨u8, k9, rfl, hl_7, h0_7, h1_7, h2_7, h9_7, h10_7, h11_7⟩ o ho
    unfold F80_2_S at ho
    dsimp only at ho
    by_cases c11 : v11_2 < ((o0_2.length : Nat) : Int)
    · rw [if_pos c11] at ho
      obtain ⟨x12, gx12, ho⟩ := bS ho
      obtain ⟨w13a, w13b⟩ := getI_w gx12
      have w13c := getI_lt gx12
      have w13d : List.drop (Int.toNat v11_2) (List.map Enc.enc o0_2) = (V.int .i64 x12) :: List.drop ((Int.toNat v11_2) + 1) (List.map Enc.enc o0_2) := drop_enc w13b
      obtain ⟨x14, gx14, ho⟩ := bS ho
      obtain ⟨w15a, w15b⟩ := getI_w gx14
      obtain ⟨x16, gx16, ho⟩ := bS ho
      obtain ⟨w17a, w17b⟩ := getI_w gx16
      obtain ⟨x18, gx18, ho⟩ := bS ho
      obtain ⟨w19a, w19b⟩ := getI_w gx18
      obtain ⟨x20, gx20, ho⟩ := bS ho
      have wx20 := chk_w gx20
      obtain ⟨x21, gx21, ho⟩ := bS ho
      have wx21 := chk_w gx21
      obtain ⟨x22, gx22, ho⟩ := bS ho
      obtain ⟨w23a, w23b⟩ := rem_w gx22
      obtain ⟨l24, gl24, ho⟩ := bS ho
      obtain ⟨w25a, w25b, w25c, w25d, w25e⟩ := setI_w gl24
      replace w25e : List.take (Int.toNat v11_2) (List.map Enc.enc o0_2) ++ [V.int .i64 x22] ++ List.drop (Int.toNat v11_2 + 1) (List.map Enc.enc o0_2) = List.map Enc.enc l24 := w25e
      obtain ⟨x26, gx26, ho⟩ := bS ho
      have wx26 := chk_w gx26
      have hE := Option.some.inj ho; subst hE
      simp only [↓reduceIte, Nat.reduceAdd, Nat.reduceMul, Nat.reduceSub, Nat.reduceLT, Nat.reduceLeDiff, Nat.reduceEqDiff, Nat.reducePow, Int.reducePow, Int.reduceLE, Int.reduceLT, Int.reduceEq, Int.reduceToNat, reduceCtorEq, RR, RB, RZ, RE, opEv, fillV, mapO, mapS, b80_2, hl_7, h0_7, h1_7, h2_7, h9_7, h10_7, h11_7, eq_true c11, w13a, w13b, w13c, w13d, w15a, w15b, w17a, w17b, w19a, w19b, wx20, wx21, eq_false w23a, w23b, w25a, w25b, w25c, w25e, wx26]
      refine And.intro rfl (Exists.intro _ ( Exists.intro _ ( And.intro rfl ?_)))
      simp only [↓reduceIte, Nat.reduceAdd, Nat.reduceMul, Nat.reduceSub, Nat.reduceLT, Nat.reduceLeDiff, Nat.reduceEqDiff, Nat.reducePow, Int.reducePow, Int.reduceLE, Int.reduceLT, Int.reduceEq, Int.reduceToNat, reduceCtorEq, RR, RB, RZ, RE, hl_7, h0_7, h1_7, h2_7, h9_7, h10_7, h11_7, eq_true c11, w13a, w13b, w13c, w13d, w15a, w15b, w17a, w17b, w19a, w19b, wx20, wx21, eq_false w23a, w23b, w25a, w25b, w25c, w25e, wx26, w25d]
    · rw [if_neg c11] at ho
      have hE := Option.some.inj ho; subst hE
      simp only [↓reduceIte, Nat.reduceAdd, Nat.reduceMul, Nat.reduceSub, Nat.reduceLT, Nat.reduceLeDiff, Nat.reduceEqDiff, Nat.reducePow, Int.reducePow, Int.reduceLE, Int.reduceLT, Int.reduceEq, Int.reduceToNat, reduceCtorEq, RR, RB, RZ, RE, opEv, fillV, mapO, mapS, b80_2, hl_7, h0_7, h1_7, h2_7, h9_7, h10_7, h11_7, eq_false c11]
      intro ht; subst ht
      simp only [↓reduceIte, Nat.reduceAdd, Nat.reduceMul, Nat.reduceSub, Nat.reduceLT, Nat.reduceLeDiff, Nat.reduceEqDiff, Nat.reducePow, Int.reducePow, Int.reduceLE, Int.reduceLT, Int.reduceEq, Int.reduceToNat, reduceCtorEq, RR, RB]
      refine And.intro rfl (Exists.intro _ ( Exists.intro _ ( And.intro rfl ?_)))
      simp only [↓reduceIte, Nat.reduceAdd, Nat.reduceMul, Nat.reduceSub, Nat.reduceLT, Nat.reduceLeDiff, Nat.reduceEqDiff, Nat.reducePow, Int.reducePow, Int.reduceLE, Int.reduceLT, Int.reduceEq, Int.reduceToNat, reduceCtorEq, RR, RB, RZ, RE, hl_7, h0_7, h1_7, h2_7, h9_7, h10_7, h11_7, eq_false c11]
def I80_1 (a0 : Int) (a1 : List (List Int)) (a2 : List Int)  (v10_1 : Int) (o0_1 : (List Int)) (e : Env) (h : Heap) : Prop :=
  ∃ u4 k5 : Nat, h = ⟨[(u4, some (List.map Enc.enc o0_1))], k5⟩ ∧ e.length = 49 ∧ e.at 0 = V.int .i64 a0 ∧ e.at 1 = V.isl (List.map Enc.enc a1) ∧ e.at 2 = V.isl (List.map Enc.enc a2) ∧ e.at 9 = V.sl 0 u4 0 o0_1.length 1 ∧ e.at 10 = V.int .i64 v10_1
def P80_1 (a0 : Int) (a1 : List (List Int)) (a2 : List Int)  (zo0_1 : (List Int)) (x : Ex) (e : Env) (h : Heap) : Prop :=
  x = .normal ∧ ∃ u4 k5 : Nat, h = ⟨[(u4, some (List.map Enc.enc zo0_1))], k5⟩ ∧ e.length = 49 ∧ e.at 9 = V.sl 0 u4 0 zo0_1.length 1
theorem l80_1 (a0 : Int) (a1 : List (List Int)) (a2 : List Int)   {lo : Int} {s : (List Int)} {t : (List Int)} (hF : forR lo (a2.length : Int) (F80_1_B a0 a1 a2) (F80_1_D a0 a1 a2) s = some t) {e : Env} {h : Heap} (hI : I80_1 a0 a1 a2  lo s e h) : W A c80_1 e h (P80_1 a0 a1 a2  t) := by
  show W A (.block 0 (.loop false b80_1)) e h _
  rw [W_block]
  refine W_forR hF 1 (by obtain ⟨_, _, rfl, _⟩ := hI; rfl) (I80_1 a0 a1 a2 ) hI ?_ ?_
  · rintro v10_1 o0_1 e h ⟨u4, k5, rfl, hl_3, h0_3, h1_3, h2_3, h9_3, h10_3⟩ hlt hw o ho
    unfold F80_1_B at ho
    obtain ⟨zo0_2, gt27, ho⟩ := bS ho
    simp only [↓reduceIte, Nat.reduceAdd, Nat.reduceMul, Nat.reduceSub, Nat.reduceLT, Nat.reduceLeDiff, Nat.reduceEqDiff, Nat.reducePow, Int.reducePow, Int.reduceLE, Int.reduceLT, Int.reduceEq, Int.reduceToNat, reduceCtorEq, RR, RB, RZ, RE, opEv, fillV, mapO, mapS, b80_1, hl_3, h0_3, h1_3, h2_3, h9_3, h10_3, eq_true hlt, hw]
    refine W.mono (l80_2 a0 a1 a2 v10_1   gt27 (Exists.intro _ ( Exists.intro _ ( And.intro rfl ?_)))) ?_
    · simp only [↓reduceIte, Nat.reduceAdd, Nat.reduceMul, Nat.reduceSub, Nat.reduceLT, Nat.reduceLeDiff, Nat.reduceEqDiff, Nat.reducePow, Int.reducePow, Int.reduceLE, Int.reduceLT, Int.reduceEq, Int.reduceToNat, reduceCtorEq, RR, RB, RZ, RE, hl_3, h0_3, h1_3, h2_3, h9_3, h10_3, eq_true hlt, hw]
    rintro _ e _ ⟨rfl, u8, k9, rfl, hl_10, h0_10, h1_10, h2_10, h9_10, h10_10⟩
    have hE := Option.some.inj ho; subst hE
    simp only [↓reduceIte, Nat.reduceAdd, Nat.reduceMul, Nat.reduceSub, Nat.reduceLT, Nat.reduceLeDiff, Nat.reduceEqDiff, Nat.reducePow, Int.reducePow, Int.reduceLE, Int.reduceLT, Int.reduceEq, Int.reduceToNat, reduceCtorEq, RR, RB, RZ, RE, opEv, fillV, mapO, mapS, hl_10, h0_10, h1_10, h2_10, h9_10, h10_10, eq_true hlt, hw]
    refine And.intro rfl (Exists.intro _ ( Exists.intro _ ( And.intro rfl ?_)))
    simp only [↓reduceIte, Nat.reduceAdd, Nat.reduceMul, Nat.reduceSub, Nat.reduceLT, Nat.reduceLeDiff, Nat.reduceEqDiff, Nat.reducePow, Int.reducePow, Int.reduceLE, Int.reduceLT, Int.reduceEq, Int.reduceToNat, reduceCtorEq, RR, RB, RZ, RE, hl_10, h0_10, h1_10, h2_10, h9_10, h10_10, eq_true hlt, hw]
  · rintro v10_1 o0_1 e h ⟨u4, k5, rfl, hl_3, h0_3, h1_3, h2_3, h9_3, h10_3⟩ hge t1 ho
    unfold F80_1_D at ho
    have hE := Option.some.inj ho; subst hE
    simp only [↓reduceIte, Nat.reduceAdd, Nat.reduceMul, Nat.reduceSub, Nat.reduceLT, Nat.reduceLeDiff, Nat.reduceEqDiff, Nat.reducePow, Int.reducePow, Int.reduceLE, Int.reduceLT, Int.reduceEq, Int.reduceToNat, reduceCtorEq, RR, RB, RZ, RE, opEv, fillV, mapO, mapS, b80_1, hl_3, h0_3, h1_3, h2_3, h9_3, h10_3, eq_false hge]
    intro ht; subst ht
    refine And.intro rfl (Exists.intro _ ( Exists.intro _ ( And.intro rfl ?_)))
    simp only [↓reduceIte, Nat.reduceAdd, Nat.reduceMul, Nat.reduceSub, Nat.reduceLT, Nat.reduceLeDiff, Nat.reduceEqDiff, Nat.reducePow, Int.reducePow, Int.reduceLE, Int.reduceLT, Int.reduceEq, Int.reduceToNat, reduceCtorEq, RR, RB, RZ, RE, hl_3, h0_3, h1_3, h2_3, h9_3, h10_3, eq_false hge]
theorem s80 (a0 : Int) (a1 : List (List Int)) (a2 : List Int) (a3 : Int)   {r : List Int} (hF : F80 a0 a1 a2 a3 = some r) : ans A 80 [V.int .i64 a0, V.isl (List.map Enc.enc a1), V.isl (List.map Enc.enc a2), V.int .i64 a3] = some (Enc.enc r) := by
  refine ans_of (f := p80) rfl rfl rfl fun e hl he => ?_
  have h0_0 : e.at 0 = V.int .i64 a0 := he 0 _ rfl
  have h1_0 : e.at 1 = V.isl (List.map Enc.enc a1) := he 1 _ rfl
  have h2_0 : e.at 2 = V.isl (List.map Enc.enc a2) := he 2 _ rfl
  have h3_0 : e.at 3 = V.int .i64 a3 := he 3 _ rfl
  have hl_0 : e.length = 49 := hl
  clear he hl
  show W A b80 e ⟨[], 0⟩ _
  unfold F80 at hF
  obtain ⟨l1, gl1, hF⟩ := bS hF
  obtain ⟨w2a, w2b, w2c, w2d, w2e⟩ := mkL_w gl1
  replace w2e : (List.replicate (Int.toNat a3) [V.int .i64 0]).flatten = List.map Enc.enc l1 := w2e
  obtain ⟨zo0_1, gt28, hF⟩ := bS hF
  simp only [↓reduceIte, Nat.reduceAdd, Nat.reduceMul, Nat.reduceSub, Nat.reduceLT, Nat.reduceLeDiff, Nat.reduceEqDiff, Nat.reducePow, Int.reducePow, Int.reduceLE, Int.reduceLT, Int.reduceEq, Int.reduceToNat, reduceCtorEq, RR, RB, RZ, RE, opEv, fillV, mapO, mapS, b80, hl_0, h0_0, h1_0, h2_0, h3_0, w2a, w2b, w2c, w2e]
  refine W.mono (l80_1 a0 a1 a2   gt28 (Exists.intro _ ( Exists.intro _ ( And.intro rfl ?_)))) ?_
  · simp only [↓reduceIte, Nat.reduceAdd, Nat.reduceMul, Nat.reduceSub, Nat.reduceLT, Nat.reduceLeDiff, Nat.reduceEqDiff, Nat.reducePow, Int.reducePow, Int.reduceLE, Int.reduceLT, Int.reduceEq, Int.reduceToNat, reduceCtorEq, RR, RB, RZ, RE, hl_0, h0_0, h1_0, h2_0, h3_0, w2a, w2b, w2c, w2e, w2d]
  rintro _ e _ ⟨rfl, u4, k5, rfl, hl_6, h9_6⟩
  have hE := Option.some.inj hF; subst hE
  simp only [↓reduceIte, Nat.reduceAdd, Nat.reduceMul, Nat.reduceSub, Nat.reduceLT, Nat.reduceLeDiff, Nat.reduceEqDiff, Nat.reducePow, Int.reducePow, Int.reduceLE, Int.reduceLT, Int.reduceEq, Int.reduceToNat, reduceCtorEq, RR, RB, RZ, RE, opEv, fillV, mapO, mapS, hl_6, h9_6]
  exact fin_ret (by simp only [↓reduceIte, Nat.reduceAdd, Nat.reduceMul, Nat.reduceSub, Nat.reduceLT, Nat.reduceLeDiff, Nat.reduceEqDiff, Nat.reducePow, Int.reducePow, Int.reduceLE, Int.reduceLT, Int.reduceEq, Int.reduceToNat, reduceCtorEq, RR, RB, RZ, RE, fn_out, p80, Rs.ev, mapO, mapS, take_len_self, hl_6, h9_6, frzs (α := Int) zo0_1, takes (α := Int) zo0_1])
/-! loop.example/g01273/spec.l01Lead -/
def F81_1_B (a0 : List Int) (v3_1 : Int) (s : Unit) : Option ((Unit) ⊕ ((Unit) ⊕ Int)) :=
  (getI a0 v3_1).bind fun x4 =>
if x4 = 0 then
  some (.inl ())
else
  some (.inr (.inr v3_1))
def F81_1_D (a0 : List Int) (v3_1 : Int) (s : Unit) : Option ((Unit) ⊕ Int) :=
  some (.inl ())
def F81 (a0 : List Int) : Option Int :=
  (forR 0 (a0.length : Int) (F81_1_B a0) (F81_1_D a0) ()).bind fun t7 => match t7 with
    | .inl _ =>
      some (-1)
    | .inr r8 => some r8
def I81_1 (a0 : List Int)  (v3_1 : Int) (s : Unit) (e : Env) (h : Heap) : Prop :=
  ∃ k2 : Nat, h = ⟨[], k2⟩ ∧ e.length = 16 ∧ e.at 0 = V.isl (List.map Enc.enc a0) ∧ e.at 3 = V.int .i64 v3_1
def P81_1 (a0 : List Int)  (t : (Unit) ⊕ Int) (x : Ex) (e : Env) (h : Heap) : Prop :=
  match t with
  | .inl _ => x = .normal ∧ ∃ k2 : Nat, h = ⟨[], k2⟩ ∧ e.length = 16
  | .inr r => x = .ret ∧ Fin p81 (Enc.enc r) .ret e h
theorem l81_1 (a0 : List Int)   {lo : Int} {s : Unit} {t : (Unit) ⊕ Int} (hF : forR lo (a0.length : Int) (F81_1_B a0) (F81_1_D a0) s = some t) {e : Env} {h : Heap} (hI : I81_1 a0  lo s e h) : W A c81_1 e h (P81_1 a0  t) := by
  show W A (.block 0 (.loop false b81_1)) e h _
  rw [W_block]
  refine W_forR hF 0 (by obtain ⟨_, rfl, _⟩ := hI; rfl) (I81_1 a0 ) hI ?_ ?_
  · rintro v3_1 _ e h ⟨k2, rfl, hl_1, h0_1, h3_1⟩ hlt hw o ho
    unfold F81_1_B at ho
    obtain ⟨x4, gx4, ho⟩ := bS ho
    obtain ⟨w5a, w5b⟩ := getI_w gx4
    by_cases c6 : x4 = 0
    · rw [if_pos c6] at ho
      have hE := Option.some.inj ho; subst hE
      simp only [↓reduceIte, Nat.reduceAdd, Nat.reduceMul, Nat.reduceSub, Nat.reduceLT, Nat.reduceLeDiff, Nat.reduceEqDiff, Nat.reducePow, Int.reducePow, Int.reduceLE, Int.reduceLT, Int.reduceEq, Int.reduceToNat, reduceCtorEq, RR, RB, RZ, RE, opEv, fillV, mapO, mapS, b81_1, hl_1, h0_1, h3_1, eq_true hlt, hw, w5a, w5b, eq_true c6]
      refine And.intro rfl (Exists.intro _ ( And.intro rfl ?_))
      simp only [↓reduceIte, Nat.reduceAdd, Nat.reduceMul, Nat.reduceSub, Nat.reduceLT, Nat.reduceLeDiff, Nat.reduceEqDiff, Nat.reducePow, Int.reducePow, Int.reduceLE, Int.reduceLT, Int.reduceEq, Int.reduceToNat, reduceCtorEq, RR, RB, RZ, RE, hl_1, h0_1, h3_1, eq_true hlt, hw, w5a, w5b, eq_true c6]
    · rw [if_neg c6] at ho
      have hE := Option.some.inj ho; subst hE
      simp only [↓reduceIte, Nat.reduceAdd, Nat.reduceMul, Nat.reduceSub, Nat.reduceLT, Nat.reduceLeDiff, Nat.reduceEqDiff, Nat.reducePow, Int.reducePow, Int.reduceLE, Int.reduceLT, Int.reduceEq, Int.reduceToNat, reduceCtorEq, RR, RB, RZ, RE, opEv, fillV, mapO, mapS, b81_1, hl_1, h0_1, h3_1, eq_true hlt, hw, w5a, w5b, eq_false c6]
      intro ht; subst ht
      simp only [↓reduceIte, Nat.reduceAdd, Nat.reduceMul, Nat.reduceSub, Nat.reduceLT, Nat.reduceLeDiff, Nat.reduceEqDiff, Nat.reducePow, Int.reducePow, Int.reduceLE, Int.reduceLT, Int.reduceEq, Int.reduceToNat, reduceCtorEq, RR, RB]
      exact And.intro rfl (fin_ret (by simp only [↓reduceIte, Nat.reduceAdd, Nat.reduceMul, Nat.reduceSub, Nat.reduceLT, Nat.reduceLeDiff, Nat.reduceEqDiff, Nat.reducePow, Int.reducePow, Int.reduceLE, Int.reduceLT, Int.reduceEq, Int.reduceToNat, reduceCtorEq, RR, RB, RZ, RE, fn_out, p81, Rs.ev, mapO, mapS, take_len_self, hl_1, h0_1, h3_1, eq_true hlt, hw, w5a, w5b, eq_false c6]))
  · rintro v3_1 _ e h ⟨k2, rfl, hl_1, h0_1, h3_1⟩ hge t1 ho
    unfold F81_1_D at ho
    have hE := Option.some.inj ho; subst hE
    simp only [↓reduceIte, Nat.reduceAdd, Nat.reduceMul, Nat.reduceSub, Nat.reduceLT, Nat.reduceLeDiff, Nat.reduceEqDiff, Nat.reducePow, Int.reducePow, Int.reduceLE, Int.reduceLT, Int.reduceEq, Int.reduceToNat, reduceCtorEq, RR, RB, RZ, RE, opEv, fillV, mapO, mapS, b81_1, hl_1, h0_1, h3_1, eq_false hge]
    intro ht; subst ht
    refine And.intro rfl (Exists.intro _ ( And.intro rfl ?_))
    simp only [↓reduceIte, Nat.reduceAdd, Nat.reduceMul, Nat.reduceSub, Nat.reduceLT, Nat.reduceLeDiff, Nat.reduceEqDiff, Nat.reducePow, Int.reducePow, Int.reduceLE, Int.reduceLT, Int.reduceEq, Int.reduceToNat, reduceCtorEq, RR, RB, RZ, RE, hl_1, h0_1, h3_1, eq_false hge]
theorem s81 (a0 : List Int)   {r : Int} (hF : F81 a0 = some r) : ans A 81 [V.isl (List.map Enc.enc a0)] = some (Enc.enc r) := by
  refine ans_of (f := p81) rfl rfl rfl fun e hl he => ?_
  have h0_0 : e.at 0 = V.isl (List.map Enc.enc a0) := he 0 _ rfl
  have hl_0 : e.length = 16 := hl
  clear he hl
  show W A b81 e ⟨[], 0⟩ _
  unfold F81 at hF
  obtain ⟨t7, gt7, hF⟩ := bS hF
  rcases t7 with _ | r8
  · dsimp only at hF
    simp only [↓reduceIte, Nat.reduceAdd, Nat.reduceMul, Nat.reduceSub, Nat.reduceLT, Nat.reduceLeDiff, Nat.reduceEqDiff, Nat.reducePow, Int.reducePow, Int.reduceLE, Int.reduceLT, Int.reduceEq, Int.reduceToNat, reduceCtorEq, RR, RB, RZ, RE, opEv, fillV, mapO, mapS, b81, hl_0, h0_0]
    refine W.mono (l81_1 a0   gt7 (Exists.intro _ ( And.intro rfl ?_))) ?_
    · simp only [↓reduceIte, Nat.reduceAdd, Nat.reduceMul, Nat.reduceSub, Nat.reduceLT, Nat.reduceLeDiff, Nat.reduceEqDiff, Nat.reducePow, Int.reducePow, Int.reduceLE, Int.reduceLT, Int.reduceEq, Int.reduceToNat, reduceCtorEq, RR, RB, RZ, RE, hl_0, h0_0]
    rintro _ e _ ⟨rfl, k2, rfl, hl_3⟩
    have hE := Option.some.inj hF; subst hE
    simp only [↓reduceIte, Nat.reduceAdd, Nat.reduceMul, Nat.reduceSub, Nat.reduceLT, Nat.reduceLeDiff, Nat.reduceEqDiff, Nat.reducePow, Int.reducePow, Int.reduceLE, Int.reduceLT, Int.reduceEq, Int.reduceToNat, reduceCtorEq, RR, RB, RZ, RE, opEv, fillV, mapO, mapS, hl_3]
    exact fin_ret (by simp only [↓reduceIte, Nat.reduceAdd, Nat.reduceMul, Nat.reduceSub, Nat.reduceLT, Nat.reduceLeDiff, Nat.reduceEqDiff, Nat.reducePow, Int.reducePow, Int.reduceLE, Int.reduceLT, Int.reduceEq, Int.reduceToNat, reduceCtorEq, RR, RB, RZ, RE, fn_out, p81, Rs.ev, mapO, mapS, take_len_self, hl_3])
  · dsimp only at hF
    have hE := Option.some.inj hF; subst hE
    simp only [↓reduceIte, Nat.reduceAdd, Nat.reduceMul, Nat.reduceSub, Nat.reduceLT, Nat.reduceLeDiff, Nat.reduceEqDiff, Nat.reducePow, Int.reducePow, Int.reduceLE, Int.reduceLT, Int.reduceEq, Int.reduceToNat, reduceCtorEq, RR, RB, RZ, RE, opEv, fillV, mapO, mapS, b81, hl_0, h0_0]
    refine W.mono (l81_1 a0   gt7 (Exists.intro _ ( And.intro rfl ?_))) ?_
    · simp only [↓reduceIte, Nat.reduceAdd, Nat.reduceMul, Nat.reduceSub, Nat.reduceLT, Nat.reduceLeDiff, Nat.reduceEqDiff, Nat.reducePow, Int.reducePow, Int.reduceLE, Int.reduceLT, Int.reduceEq, Int.reduceToNat, reduceCtorEq, RR, RB, RZ, RE, hl_0, h0_0]
    rintro _ e h ⟨rfl, hq⟩
    simp only [↓reduceIte, Nat.reduceAdd, Nat.reduceMul, Nat.reduceSub, Nat.reduceLT, Nat.reduceLeDiff, Nat.reduceEqDiff, Nat.reducePow, Int.reducePow, Int.reduceLE, Int.reduceLT, Int.reduceEq, Int.reduceToNat, reduceCtorEq, RR, RB]
    exact hq
/-! loop.example/g01273/spec.l01Is -/
def F39_1_B (a0 : GComplex) (v3_1 : Int) (s : Unit) : Option ((Unit) ⊕ ((Unit) ⊕ Bool)) :=
  (getI a0.Dims v3_1).bind fun x10 =>
(F54 x10 0 8).bind fun x12 =>
if x12 = true then
  some (.inl ())
else
  some (.inr (.inr false))
def F39_1_D (a0 : GComplex) (v3_1 : Int) (s : Unit) : Option ((Unit) ⊕ Bool) :=
  some (.inl ())
def F39_3_S (a0 : GComplex) (v4_2 : Int) (v5_3 : Int) : Option ((Int) ⊕ ((Unit) ⊕ Bool)) :=
  (getI a0.Maps v4_2).bind fun x29 =>
if v5_3 < (x29.length : Int) then
  if 0 < v4_2 then
    (chk (v4_2 - 1)).bind fun x33 =>
    (getI a0.Maps x33).bind fun x34 =>
    (getI x29 v5_3).bind fun x36 =>
    (getI a0.Dims x33).bind fun x38 =>
    (F80 a0.Prime x34 x36 x38).bind fun x40 =>
    (F81 x40).bind fun x42 =>
    if 0 ≤ x42 then
      some (.inr (.inr false))
    else
      (chk (v5_3 + 1)).bind fun x45 =>
      some (.inl x45)
  else
    some (.inr (.inl ()))
else
  some (.inr (.inl ()))
def F39_2_B (a0 : GComplex) (v4_2 : Int) (s : Unit) : Option ((Unit) ⊕ ((Unit) ⊕ Bool)) :=
  (getI a0.Maps v4_2).bind fun x18 =>
(getI a0.Dims (v4_2 + 1)).bind fun x20 =>
(getI a0.Dims v4_2).bind fun x22 =>
(F79 a0.Prime x18 x20 x22).bind fun x24 =>
if x24 = true then
  (loopW (F39_3_S a0 v4_2) 0).bind fun t46 => match t46 with
    | .inl _ =>
      some (.inl ())
    | .inr r47 => some (.inr (.inr r47))
else
  some (.inr (.inr false))
def F39_2_D (a0 : GComplex) (v4_2 : Int) (s : Unit) : Option ((Unit) ⊕ Bool) :=
  some (.inl ())
def F39 (a0 : GComplex) : Option Bool :=
  (F78 a0.Prime).bind fun x1 =>
  if x1 = true then
    if (a0.Dims.length : Int) < 1 then
      some false
    else
      if 6 < (a0.Dims.length : Int) then
        some false
      else
        (chk ((a0.Dims.length : Int) - 1)).bind fun x5 =>
        if (a0.Maps.length : Int) = x5 then
          (forR 0 (a0.Dims.length : Int) (F39_1_B a0) (F39_1_D a0) ()).bind fun t14 => match t14 with
            | .inl _ =>
              (forR 0 (a0.Maps.length : Int) (F39_2_B a0) (F39_2_D a0) ()).bind fun t48 => match t48 with
                | .inl _ =>
                  some true
                | .inr r49 => some r49
            | .inr r50 => some r50
        else
          some false
  else
    some false
def I39_1 (a0 : GComplex)  (v3_1 : Int) (s : Unit) (e : Env) (h : Heap) : Prop :=
  ∃ k8 : Nat, h = ⟨[(0, none)], k8⟩ ∧ e.length = 112 ∧ e.at 1 = V.iptr [V.int .i64 a0.Prime, V.isl (List.map Enc.enc a0.Dims), V.isl (List.map Enc.enc a0.Maps)] ∧ e.at 3 = V.int .i64 v3_1
def P39_1 (a0 : GComplex)  (t : (Unit) ⊕ Bool) (x : Ex) (e : Env) (h : Heap) : Prop :=
  match t with
  | .inl _ => x = .normal ∧ ∃ k8 : Nat, h = ⟨[(0, none)], k8⟩ ∧ e.length = 112 ∧ e.at 1 = V.iptr [V.int .i64 a0.Prime, V.isl (List.map Enc.enc a0.Dims), V.isl (List.map Enc.enc a0.Maps)]
  | .inr r => x = .ret ∧ Fin p39 (Enc.enc r) .ret e h
theorem l39_1 (a0 : GComplex)   {lo : Int} {s : Unit} {t : (Unit) ⊕ Bool} (hF : forR lo (a0.Dims.length : Int) (F39_1_B a0) (F39_1_D a0) s = some t) {e : Env} {h : Heap} (hI : I39_1 a0  lo s e h) : W A c39_1 e h (P39_1 a0  t) := by
  show W A (.block 0 (.loop false b39_1)) e h _
  rw [W_block]
  refine W_forR hF 1 (by obtain ⟨_, rfl, _⟩ := hI; rfl) (I39_1 a0 ) hI ?_ ?_
  · rintro v3_1 _ e h ⟨k8, rfl, hl_7, h1_7, h3_7⟩ hlt hw o ho
    unfold F39_1_B at ho
    obtain ⟨x10, gx10, ho⟩ := bS ho
    obtain ⟨w11a, w11b⟩ := getI_w gx10
    obtain ⟨x12, gx12, ho⟩ := bS ho
    have w13 : ans A 54 [V.int .i64 x10, V.int .i64 0, V.int .i64 8] = some (V.bool x12) := s54 x10 0 8  gx12
    cases x12 with
    | true =>
      rw [if_pos rfl] at ho
      have hE := Option.some.inj ho; subst hE
      simp only [↓reduceIte, Nat.reduceAdd, Nat.reduceMul, Nat.reduceSub, Nat.reduceLT, Nat.reduceLeDiff, Nat.reduceEqDiff, Nat.reducePow, Int.reducePow, Int.reduceLE, Int.reduceLT, Int.reduceEq, Int.reduceToNat, reduceCtorEq, RR, RB, RZ, RE, opEv, fillV, mapO, mapS, b39_1, hl_7, h1_7, h3_7, eq_true hlt, hw, w11a, w11b, w13]
      refine And.intro rfl (Exists.intro _ ( And.intro rfl ?_))
      simp only [↓reduceIte, Nat.reduceAdd, Nat.reduceMul, Nat.reduceSub, Nat.reduceLT, Nat.reduceLeDiff, Nat.reduceEqDiff, Nat.reducePow, Int.reducePow, Int.reduceLE, Int.reduceLT, Int.reduceEq, Int.reduceToNat, reduceCtorEq, RR, RB, RZ, RE, hl_7, h1_7, h3_7, eq_true hlt, hw, w11a, w11b, w13]
    | false =>
      rw [if_neg Bool.false_ne_true] at ho
      have hE := Option.some.inj ho; subst hE
      simp only [↓reduceIte, Nat.reduceAdd, Nat.reduceMul, Nat.reduceSub, Nat.reduceLT, Nat.reduceLeDiff, Nat.reduceEqDiff, Nat.reducePow, Int.reducePow, Int.reduceLE, Int.reduceLT, Int.reduceEq, Int.reduceToNat, reduceCtorEq, RR, RB, RZ, RE, opEv, fillV, mapO, mapS, b39_1, hl_7, h1_7, h3_7, eq_true hlt, hw, w11a, w11b, w13]
      intro ht; subst ht
      simp only [↓reduceIte, Nat.reduceAdd, Nat.reduceMul, Nat.reduceSub, Nat.reduceLT, Nat.reduceLeDiff, Nat.reduceEqDiff, Nat.reducePow, Int.reducePow, Int.reduceLE, Int.reduceLT, Int.reduceEq, Int.reduceToNat, reduceCtorEq, RR, RB]
      exact And.intro rfl (fin_ret (by simp only [↓reduceIte, Nat.reduceAdd, Nat.reduceMul, Nat.reduceSub, Nat.reduceLT, Nat.reduceLeDiff, Nat.reduceEqDiff, Nat.reducePow, Int.reducePow, Int.reduceLE, Int.reduceLT, Int.reduceEq, Int.reduceToNat, reduceCtorEq, RR, RB, RZ, RE, fn_out, p39, Rs.ev, mapO, mapS, take_len_self, hl_7, h1_7, h3_7, eq_true hlt, hw, w11a, w11b, w13]))
  · rintro v3_1 _ e h ⟨k8, rfl, hl_7, h1_7, h3_7⟩ hge t1 ho
    unfold F39_1_D at ho
    have hE := Option.some.inj ho; subst hE
    simp only [↓reduceIte, Nat.reduceAdd, Nat.reduceMul, Nat.reduceSub, Nat.reduceLT, Nat.reduceLeDiff, Nat.reduceEqDiff, Nat.reducePow, Int.reducePow, Int.reduceLE, Int.reduceLT, Int.reduceEq, Int.reduceToNat, reduceCtorEq, RR, RB, RZ, RE, opEv, fillV, mapO, mapS, b39_1, hl_7, h1_7, h3_7, eq_false hge]
    intro ht; subst ht
    refine And.intro rfl (Exists.intro _ ( And.intro rfl ?_))
    simp only [↓reduceIte, Nat.reduceAdd, Nat.reduceMul, Nat.reduceSub, Nat.reduceLT, Nat.reduceLeDiff, Nat.reduceEqDiff, Nat.reducePow, Int.reducePow, Int.reduceLE, Int.reduceLT, Int.reduceEq, Int.reduceToNat, reduceCtorEq, RR, RB, RZ, RE, hl_7, h1_7, h3_7, eq_false hge]
def I39_3 (a0 : GComplex) (v4_2 : Int)  (v5_3 : Int) (e : Env) (h : Heap) : Prop :=
  ∃ k27 : Nat, h = ⟨[(0, none)], k27⟩ ∧ e.length = 112 ∧ e.at 1 = V.iptr [V.int .i64 a0.Prime, V.isl (List.map Enc.enc a0.Dims), V.isl (List.map Enc.enc a0.Maps)] ∧ e.at 4 = V.int .i64 v4_2 ∧ e.at 5 = V.int .i64 v5_3
def P39_3 (a0 : GComplex) (v4_2 : Int)  (t : (Unit) ⊕ Bool) (x : Ex) (e : Env) (h : Heap) : Prop :=
  match t with
  | .inl _ => x = .normal ∧ ∃ k27 : Nat, h = ⟨[(0, none)], k27⟩ ∧ e.length = 112 ∧ e.at 1 = V.iptr [V.int .i64 a0.Prime, V.isl (List.map Enc.enc a0.Dims), V.isl (List.map Enc.enc a0.Maps)] ∧ e.at 4 = V.int .i64 v4_2
  | .inr r => x = .ret ∧ Fin p39 (Enc.enc r) .ret e h
theorem l39_3 (a0 : GComplex) (v4_2 : Int)   {s : Int} {t : (Unit) ⊕ Bool} (hF : loopW (F39_3_S a0 v4_2) s = some t) {e : Env} {h : Heap} (hI : I39_3 a0 v4_2  s e h) : W A c39_3 e h (P39_3 a0 v4_2  t) := by
  show W A (.block 4 (.loop false b39_3)) e h _
  rw [W_block]
  refine W_loop hF 1 (by obtain ⟨_, rfl, _⟩ := hI; rfl) (I39_3 a0 v4_2 ) hI ?_
  · rintro v5_3 e h ⟨k27, rfl, hl_26, h1_26, h4_26, h5_26⟩ o ho
    unfold F39_3_S at ho
    obtain ⟨x29, gx29, ho⟩ := bS ho
    obtain ⟨w30a, w30b⟩ := getI_w gx29
    by_cases c31 : v5_3 < (x29.length : Int)
    · rw [if_pos c31] at ho
      by_cases c32 : 0 < v4_2
      · rw [if_pos c32] at ho
        obtain ⟨x33, gx33, ho⟩ := bS ho
        have wx33 := chk_w gx33
        obtain ⟨x34, gx34, ho⟩ := bS ho
        obtain ⟨w35a, w35b⟩ := getI_w gx34
        obtain ⟨x36, gx36, ho⟩ := bS ho
        obtain ⟨w37a, w37b⟩ := getI_w gx36
        obtain ⟨x38, gx38, ho⟩ := bS ho
        obtain ⟨w39a, w39b⟩ := getI_w gx38
        obtain ⟨x40, gx40, ho⟩ := bS ho
        have w41 : ans A 80 [V.int .i64 a0.Prime, V.isl (List.map Enc.enc x34), V.isl (List.map Enc.enc x36), V.int .i64 x38] = some (V.isl (List.map Enc.enc x40)) := s80 a0.Prime x34 x36 x38  gx40
        obtain ⟨x42, gx42, ho⟩ := bS ho
        have w43 : ans A 81 [V.isl (List.map Enc.enc x40)] = some (V.int .i64 x42) := s81 x40  gx42
        by_cases c44 : 0 ≤ x42
        · rw [if_pos c44] at ho
          have hE := Option.some.inj ho; subst hE
          simp only [↓reduceIte, Nat.reduceAdd, Nat.reduceMul, Nat.reduceSub, Nat.reduceLT, Nat.reduceLeDiff, Nat.reduceEqDiff, Nat.reducePow, Int.reducePow, Int.reduceLE, Int.reduceLT, Int.reduceEq, Int.reduceToNat, reduceCtorEq, RR, RB, RZ, RE, opEv, fillV, mapO, mapS, b39_3, hl_26, h1_26, h4_26, h5_26, w30a, w30b, eq_true c31, eq_true c32, wx33, w35a, w35b, w37a, w37b, w39a, w39b, w41, w43, eq_true c44]
          intro ht; subst ht
          simp only [↓reduceIte, Nat.reduceAdd, Nat.reduceMul, Nat.reduceSub, Nat.reduceLT, Nat.reduceLeDiff, Nat.reduceEqDiff, Nat.reducePow, Int.reducePow, Int.reduceLE, Int.reduceLT, Int.reduceEq, Int.reduceToNat, reduceCtorEq, RR, RB]
          exact And.intro rfl (fin_ret (by simp only [↓reduceIte, Nat.reduceAdd, Nat.reduceMul, Nat.reduceSub, Nat.reduceLT, Nat.reduceLeDiff, Nat.reduceEqDiff, Nat.reducePow, Int.reducePow, Int.reduceLE, Int.reduceLT, Int.reduceEq, Int.reduceToNat, reduceCtorEq, RR, RB, RZ, RE, fn_out, p39, Rs.ev, mapO, mapS, take_len_self, hl_26, h1_26, h4_26, h5_26, w30a, w30b, eq_true c31, eq_true c32, wx33, w35a, w35b, w37a, w37b, w39a, w39b, w41, w43, eq_true c44]))
        · rw [if_neg c44] at ho
          obtain ⟨x45, gx45, ho⟩ := bS ho
          have wx45 := chk_w gx45
          have hE := Option.some.inj ho; subst hE
          simp only [↓reduceIte, Nat.reduceAdd, Nat.reduceMul, Nat.reduceSub, Nat.reduceLT, Nat.reduceLeDiff, Nat.reduceEqDiff, Nat.reducePow, Int.reducePow, Int.reduceLE, Int.reduceLT, Int.reduceEq, Int.reduceToNat, reduceCtorEq, RR, RB, RZ, RE, opEv, fillV, mapO, mapS, b39_3, hl_26, h1_26, h4_26, h5_26, w30a, w30b, eq_true c31, eq_true c32, wx33, w35a, w35b, w37a, w37b, w39a, w39b, w41, w43, eq_false c44, wx45]
          refine And.intro rfl (Exists.intro _ ( And.intro rfl ?_))
          simp only [↓reduceIte, Nat.reduceAdd, Nat.reduceMul, Nat.reduceSub, Nat.reduceLT, Nat.reduceLeDiff, Nat.reduceEqDiff, Nat.reducePow, Int.reducePow, Int.reduceLE, Int.reduceLT, Int.reduceEq, Int.reduceToNat, reduceCtorEq, RR, RB, RZ, RE, hl_26, h1_26, h4_26, h5_26, w30a, w30b, eq_true c31, eq_true c32, wx33, w35a, w35b, w37a, w37b, w39a, w39b, w41, w43, eq_false c44, wx45]
      · rw [if_neg c32] at ho
        have hE := Option.some.inj ho; subst hE
        simp only [↓reduceIte, Nat.reduceAdd, Nat.reduceMul, Nat.reduceSub, Nat.reduceLT, Nat.reduceLeDiff, Nat.reduceEqDiff, Nat.reducePow, Int.reducePow, Int.reduceLE, Int.reduceLT, Int.reduceEq, Int.reduceToNat, reduceCtorEq, RR, RB, RZ, RE, opEv, fillV, mapO, mapS, b39_3, hl_26, h1_26, h4_26, h5_26, w30a, w30b, eq_true c31, eq_false c32]
        intro ht; subst ht
        simp only [↓reduceIte, Nat.reduceAdd, Nat.reduceMul, Nat.reduceSub, Nat.reduceLT, Nat.reduceLeDiff, Nat.reduceEqDiff, Nat.reducePow, Int.reducePow, Int.reduceLE, Int.reduceLT, Int.reduceEq, Int.reduceToNat, reduceCtorEq, RR, RB]
        refine And.intro rfl (Exists.intro _ ( And.intro rfl ?_))
        simp only [↓reduceIte, Nat.reduceAdd, Nat.reduceMul, Nat.reduceSub, Nat.reduceLT, Nat.reduceLeDiff, Nat.reduceEqDiff, Nat.reducePow, Int.reducePow, Int.reduceLE, Int.reduceLT, Int.reduceEq, Int.reduceToNat, reduceCtorEq, RR, RB, RZ, RE, hl_26, h1_26, h4_26, h5_26, w30a, w30b, eq_true c31, eq_false c32]
    · rw [if_neg c31] at ho
      have hE := Option.some.inj ho; subst hE
      simp only [↓reduceIte, Nat.reduceAdd, Nat.reduceMul, Nat.reduceSub, Nat.reduceLT, Nat.reduceLeDiff, Nat.reduceEqDiff, Nat.reducePow, Int.reducePow, Int.reduceLE, Int.reduceLT, Int.reduceEq, Int.reduceToNat, reduceCtorEq, RR, RB, RZ, RE, opEv, fillV, mapO, mapS, b39_3, hl_26, h1_26, h4_26, h5_26, w30a, w30b, eq_false c31]
      intro ht; subst ht
      simp only [↓reduceIte, Nat.reduceAdd, Nat.reduceMul, Nat.reduceSub, Nat.reduceLT, Nat.reduceLeDiff, Nat.reduceEqDiff, Nat.reducePow, Int.reducePow, Int.reduceLE, Int.reduceLT, Int.reduceEq, Int.reduceToNat, reduceCtorEq, RR, RB]
      refine And.intro rfl (Exists.intro _ ( And.intro rfl ?_))
      simp only [↓reduceIte, Nat.reduceAdd, Nat.reduceMul, Nat.reduceSub, Nat.reduceLT, Nat.reduceLeDiff, Nat.reduceEqDiff, Nat.reducePow, Int.reducePow, Int.reduceLE, Int.reduceLT, Int.reduceEq, Int.reduceToNat, reduceCtorEq, RR, RB, RZ, RE, hl_26, h1_26, h4_26, h5_26, w30a, w30b, eq_false c31]
def I39_2 (a0 : GComplex)  (v4_2 : Int) (s : Unit) (e : Env) (h : Heap) : Prop :=
  ∃ k16 : Nat, h = ⟨[(0, none)], k16⟩ ∧ e.length = 112 ∧ e.at 1 = V.iptr [V.int .i64 a0.Prime, V.isl (List.map Enc.enc a0.Dims), V.isl (List.map Enc.enc a0.Maps)] ∧ e.at 4 = V.int .i64 v4_2
def P39_2 (a0 : GComplex)  (t : (Unit) ⊕ Bool) (x : Ex) (e : Env) (h : Heap) : Prop :=
  match t with
  | .inl _ => x = .normal ∧ ∃ k16 : Nat, h = ⟨[(0, none)], k16⟩ ∧ e.length = 112
  | .inr r => x = .ret ∧ Fin p39 (Enc.enc r) .ret e h
theorem l39_2 (a0 : GComplex)   {lo : Int} {s : Unit} {t : (Unit) ⊕ Bool} (hF : forR lo (a0.Maps.length : Int) (F39_2_B a0) (F39_2_D a0) s = some t) {e : Env} {h : Heap} (hI : I39_2 a0  lo s e h) : W A c39_2 e h (P39_2 a0  t) := by
  show W A (.block 2 (.loop false b39_2)) e h _
  rw [W_block]
  refine W_forR hF 1 (by obtain ⟨_, rfl, _⟩ := hI; rfl) (I39_2 a0 ) hI ?_ ?_
  · rintro v4_2 _ e h ⟨k16, rfl, hl_15, h1_15, h4_15⟩ hlt hw o ho
    unfold F39_2_B at ho
    obtain ⟨x18, gx18, ho⟩ := bS ho
    obtain ⟨w19a, w19b⟩ := getI_w gx18
    obtain ⟨x20, gx20, ho⟩ := bS ho
    obtain ⟨w21a, w21b⟩ := getI_w gx20
    obtain ⟨x22, gx22, ho⟩ := bS ho
    obtain ⟨w23a, w23b⟩ := getI_w gx22
    obtain ⟨x24, gx24, ho⟩ := bS ho
    have w25 : ans A 79 [V.int .i64 a0.Prime, V.isl (List.map Enc.enc x18), V.int .i64 x20, V.int .i64 x22] = some (V.bool x24) := s79 a0.Prime x18 x20 x22  gx24
    cases x24 with
    | true =>
      rw [if_pos rfl] at ho
      obtain ⟨t46, gt46, ho⟩ := bS ho
      rcases t46 with _ | r47
      · dsimp only at ho
        simp only [↓reduceIte, Nat.reduceAdd, Nat.reduceMul, Nat.reduceSub, Nat.reduceLT, Nat.reduceLeDiff, Nat.reduceEqDiff, Nat.reducePow, Int.reducePow, Int.reduceLE, Int.reduceLT, Int.reduceEq, Int.reduceToNat, reduceCtorEq, RR, RB, RZ, RE, opEv, fillV, mapO, mapS, b39_2, hl_15, h1_15, h4_15, eq_true hlt, hw, w19a, w19b, w21a, w21b, w23a, w23b, w25]
        refine W.mono (l39_3 a0 v4_2   gt46 (Exists.intro _ ( And.intro rfl ?_))) ?_
        · simp only [↓reduceIte, Nat.reduceAdd, Nat.reduceMul, Nat.reduceSub, Nat.reduceLT, Nat.reduceLeDiff, Nat.reduceEqDiff, Nat.reducePow, Int.reducePow, Int.reduceLE, Int.reduceLT, Int.reduceEq, Int.reduceToNat, reduceCtorEq, RR, RB, RZ, RE, hl_15, h1_15, h4_15, eq_true hlt, hw, w19a, w19b, w21a, w21b, w23a, w23b, w25]
        rintro _ e _ ⟨rfl, k27, rfl, hl_28, h1_28, h4_28⟩
        have hE := Option.some.inj ho; subst hE
        simp only [↓reduceIte, Nat.reduceAdd, Nat.reduceMul, Nat.reduceSub, Nat.reduceLT, Nat.reduceLeDiff, Nat.reduceEqDiff, Nat.reducePow, Int.reducePow, Int.reduceLE, Int.reduceLT, Int.reduceEq, Int.reduceToNat, reduceCtorEq, RR, RB, RZ, RE, opEv, fillV, mapO, mapS, hl_28, h1_28, h4_28, eq_true hlt, hw]
        refine And.intro rfl (Exists.intro _ ( And.intro rfl ?_))
        simp only [↓reduceIte, Nat.reduceAdd, Nat.reduceMul, Nat.reduceSub, Nat.reduceLT, Nat.reduceLeDiff, Nat.reduceEqDiff, Nat.reducePow, Int.reducePow, Int.reduceLE, Int.reduceLT, Int.reduceEq, Int.reduceToNat, reduceCtorEq, RR, RB, RZ, RE, hl_28, h1_28, h4_28, eq_true hlt, hw]
      · dsimp only at ho
        have hE := Option.some.inj ho; subst hE
        simp only [↓reduceIte, Nat.reduceAdd, Nat.reduceMul, Nat.reduceSub, Nat.reduceLT, Nat.reduceLeDiff, Nat.reduceEqDiff, Nat.reducePow, Int.reducePow, Int.reduceLE, Int.reduceLT, Int.reduceEq, Int.reduceToNat, reduceCtorEq, RR, RB, RZ, RE, opEv, fillV, mapO, mapS, b39_2, hl_15, h1_15, h4_15, eq_true hlt, hw, w19a, w19b, w21a, w21b, w23a, w23b, w25]
        refine W.mono (l39_3 a0 v4_2   gt46 (Exists.intro _ ( And.intro rfl ?_))) ?_
        · simp only [↓reduceIte, Nat.reduceAdd, Nat.reduceMul, Nat.reduceSub, Nat.reduceLT, Nat.reduceLeDiff, Nat.reduceEqDiff, Nat.reducePow, Int.reducePow, Int.reduceLE, Int.reduceLT, Int.reduceEq, Int.reduceToNat, reduceCtorEq, RR, RB, RZ, RE, hl_15, h1_15, h4_15, eq_true hlt, hw, w19a, w19b, w21a, w21b, w23a, w23b, w25]
        rintro _ e h ⟨rfl, hq⟩
        simp only [↓reduceIte, Nat.reduceAdd, Nat.reduceMul, Nat.reduceSub, Nat.reduceLT, Nat.reduceLeDiff, Nat.reduceEqDiff, Nat.reducePow, Int.reducePow, Int.reduceLE, Int.reduceLT, Int.reduceEq, Int.reduceToNat, reduceCtorEq, RR, RB]
        intro ht; subst ht
        simp only [↓reduceIte, Nat.reduceAdd, Nat.reduceMul, Nat.reduceSub, Nat.reduceLT, Nat.reduceLeDiff, Nat.reduceEqDiff, Nat.reducePow, Int.reducePow, Int.reduceLE, Int.reduceLT, Int.reduceEq, Int.reduceToNat, reduceCtorEq, RR, RB]
        exact And.intro rfl hq
    | false =>
      rw [if_neg Bool.false_ne_true] at ho
      have hE := Option.some.inj ho; subst hE
      simp only [↓reduceIte, Nat.reduceAdd, Nat.reduceMul, Nat.reduceSub, Nat.reduceLT, Nat.reduceLeDiff, Nat.reduceEqDiff, Nat.reducePow, Int.reducePow, Int.reduceLE, Int.reduceLT, Int.reduceEq, Int.reduceToNat, reduceCtorEq, RR, RB, RZ, RE, opEv, fillV, mapO, mapS, b39_2, hl_15, h1_15, h4_15, eq_true hlt, hw, w19a, w19b, w21a, w21b, w23a, w23b, w25]
      intro ht; subst ht
      simp only [↓reduceIte, Nat.reduceAdd, Nat.reduceMul, Nat.reduceSub, Nat.reduceLT, Nat.reduceLeDiff, Nat.reduceEqDiff, Nat.reducePow, Int.reducePow, Int.reduceLE, Int.reduceLT, Int.reduceEq, Int.reduceToNat, reduceCtorEq, RR, RB]
      exact And.intro rfl (fin_ret (by simp only [↓reduceIte, Nat.reduceAdd, Nat.reduceMul, Nat.reduceSub, Nat.reduceLT, Nat.reduceLeDiff, Nat.reduceEqDiff, Nat.reducePow, Int.reducePow, Int.reduceLE, Int.reduceLT, Int.reduceEq, Int.reduceToNat, reduceCtorEq, RR, RB, RZ, RE, fn_out, p39, Rs.ev, mapO, mapS, take_len_self, hl_15, h1_15, h4_15, eq_true hlt, hw, w19a, w19b, w21a, w21b, w23a, w23b, w25]))
  · rintro v4_2 _ e h ⟨k16, rfl, hl_15, h1_15, h4_15⟩ hge t1 ho
    unfold F39_2_D at ho
    have hE := Option.some.inj ho; subst hE
    simp only [↓reduceIte, Nat.reduceAdd, Nat.reduceMul, Nat.reduceSub, Nat.reduceLT, Nat.reduceLeDiff, Nat.reduceEqDiff, Nat.reducePow, Int.reducePow, Int.reduceLE, Int.reduceLT, Int.reduceEq, Int.reduceToNat, reduceCtorEq, RR, RB, RZ, RE, opEv, fillV, mapO, mapS, b39_2, hl_15, h1_15, h4_15, eq_false hge]
    intro ht; subst ht
    refine And.intro rfl (Exists.intro _ ( And.intro rfl ?_))
    simp only [↓reduceIte, Nat.reduceAdd, Nat.reduceMul, Nat.reduceSub, Nat.reduceLT, Nat.reduceLeDiff, Nat.reduceEqDiff, Nat.reducePow, Int.reducePow, Int.reduceLE, Int.reduceLT, Int.reduceEq, Int.reduceToNat, reduceCtorEq, RR, RB, RZ, RE, hl_15, h1_15, h4_15, eq_false hge]
theorem s39 (a0 : GComplex)   {r : Bool} (hF : F39 a0 = some r) : ans A 39 [V.agg [V.int .i64 a0.Prime, V.isl (List.map Enc.enc a0.Dims), V.isl (List.map Enc.enc a0.Maps)]] = some (Enc.enc r) := by
  refine ans_of (f := p39) rfl rfl rfl fun e hl he => ?_
  have h0_0 : e.at 0 = V.agg [V.int .i64 a0.Prime, V.isl (List.map Enc.enc a0.Dims), V.isl (List.map Enc.enc a0.Maps)] := he 0 _ rfl
  have hl_0 : e.length = 112 := hl
  clear he hl
  show W A b39 e ⟨[], 0⟩ _
  unfold F39 at hF
  obtain ⟨x1, gx1, hF⟩ := bS hF
  have w2 : ans A 78 [V.int .i64 a0.Prime] = some (V.bool x1) := s78 a0.Prime  gx1
  cases x1 with
  | true =>
    rw [if_pos rfl] at hF
    by_cases c3 : (a0.Dims.length : Int) < 1
    · rw [if_pos c3] at hF
      have hE := Option.some.inj hF; subst hE
      simp only [↓reduceIte, Nat.reduceAdd, Nat.reduceMul, Nat.reduceSub, Nat.reduceLT, Nat.reduceLeDiff, Nat.reduceEqDiff, Nat.reducePow, Int.reducePow, Int.reduceLE, Int.reduceLT, Int.reduceEq, Int.reduceToNat, reduceCtorEq, RR, RB, RZ, RE, opEv, fillV, mapO, mapS, b39, hl_0, h0_0, w2, eq_true c3]
      exact fin_ret (by simp only [↓reduceIte, Nat.reduceAdd, Nat.reduceMul, Nat.reduceSub, Nat.reduceLT, Nat.reduceLeDiff, Nat.reduceEqDiff, Nat.reducePow, Int.reducePow, Int.reduceLE, Int.reduceLT, Int.reduceEq, Int.reduceToNat, reduceCtorEq, RR, RB, RZ, RE, fn_out, p39, Rs.ev, mapO, mapS, take_len_self, hl_0, h0_0, w2, eq_true c3])
    · rw [if_neg c3] at hF
      by_cases c4 : 6 < (a0.Dims.length : Int)
      · rw [if_pos c4] at hF
        have hE := Option.some.inj hF; subst hE
        simp only [↓reduceIte, Nat.reduceAdd, Nat.reduceMul, Nat.reduceSub, Nat.reduceLT, Nat.reduceLeDiff, Nat.reduceEqDiff, Nat.reducePow, Int.reducePow, Int.reduceLE, Int.reduceLT, Int.reduceEq, Int.reduceToNat, reduceCtorEq, RR, RB, RZ, RE, opEv, fillV, mapO, mapS, b39, hl_0, h0_0, w2, eq_false c3, eq_true c4]
        exact fin_ret (by simp only [↓reduceIte, Nat.reduceAdd, Nat.reduceMul, Nat.reduceSub, Nat.reduceLT, Nat.reduceLeDiff, Nat.reduceEqDiff, Nat.reducePow, Int.reducePow, Int.reduceLE, Int.reduceLT, Int.reduceEq, Int.reduceToNat, reduceCtorEq, RR, RB, RZ, RE, fn_out, p39, Rs.ev, mapO, mapS, take_len_self, hl_0, h0_0, w2, eq_false c3, eq_true c4])
      · rw [if_neg c4] at hF
        obtain ⟨x5, gx5, hF⟩ := bS hF
        have wx5 := chk_w gx5
        by_cases c6 : (a0.Maps.length : Int) = x5
        · rw [if_pos c6] at hF
          obtain ⟨t14, gt14, hF⟩ := bS hF
          rcases t14 with _ | r50
          · dsimp only at hF
            simp only [↓reduceIte, Nat.reduceAdd, Nat.reduceMul, Nat.reduceSub, Nat.reduceLT, Nat.reduceLeDiff, Nat.reduceEqDiff, Nat.reducePow, Int.reducePow, Int.reduceLE, Int.reduceLT, Int.reduceEq, Int.reduceToNat, reduceCtorEq, RR, RB, RZ, RE, opEv, fillV, mapO, mapS, b39, hl_0, h0_0, w2, eq_false c3, eq_false c4, wx5, eq_true c6]
            refine W.mono (l39_1 a0   gt14 (Exists.intro _ ( And.intro rfl ?_))) ?_
            · simp only [↓reduceIte, Nat.reduceAdd, Nat.reduceMul, Nat.reduceSub, Nat.reduceLT, Nat.reduceLeDiff, Nat.reduceEqDiff, Nat.reducePow, Int.reducePow, Int.reduceLE, Int.reduceLT, Int.reduceEq, Int.reduceToNat, reduceCtorEq, RR, RB, RZ, RE, hl_0, h0_0, w2, eq_false c3, eq_false c4, wx5, eq_true c6]
            rintro _ e _ ⟨rfl, k8, rfl, hl_9, h1_9⟩
            obtain ⟨t48, gt48, hF⟩ := bS hF
            rcases t48 with _ | r49
            · dsimp only at hF
              simp only [↓reduceIte, Nat.reduceAdd, Nat.reduceMul, Nat.reduceSub, Nat.reduceLT, Nat.reduceLeDiff, Nat.reduceEqDiff, Nat.reducePow, Int.reducePow, Int.reduceLE, Int.reduceLT, Int.reduceEq, Int.reduceToNat, reduceCtorEq, RR, RB, RZ, RE, opEv, fillV, mapO, mapS, hl_9, h1_9, eq_false c3, eq_false c4, eq_true c6]
              refine W.mono (l39_2 a0   gt48 (Exists.intro _ ( And.intro rfl ?_))) ?_
              · simp only [↓reduceIte, Nat.reduceAdd, Nat.reduceMul, Nat.reduceSub, Nat.reduceLT, Nat.reduceLeDiff, Nat.reduceEqDiff, Nat.reducePow, Int.reducePow, Int.reduceLE, Int.reduceLT, Int.reduceEq, Int.reduceToNat, reduceCtorEq, RR, RB, RZ, RE, hl_9, h1_9, eq_false c3, eq_false c4, eq_true c6]
              rintro _ e _ ⟨rfl, k16, rfl, hl_17⟩
              have hE := Option.some.inj hF; subst hE
              simp only [↓reduceIte, Nat.reduceAdd, Nat.reduceMul, Nat.reduceSub, Nat.reduceLT, Nat.reduceLeDiff, Nat.reduceEqDiff, Nat.reducePow, Int.reducePow, Int.reduceLE, Int.reduceLT, Int.reduceEq, Int.reduceToNat, reduceCtorEq, RR, RB, RZ, RE, opEv, fillV, mapO, mapS, hl_17, eq_false c3, eq_false c4, eq_true c6]
              exact fin_ret (by simp only [↓reduceIte, Nat.reduceAdd, Nat.reduceMul, Nat.reduceSub, Nat.reduceLT, Nat.reduceLeDiff, Nat.reduceEqDiff, Nat.reducePow, Int.reducePow, Int.reduceLE, Int.reduceLT, Int.reduceEq, Int.reduceToNat, reduceCtorEq, RR, RB, RZ, RE, fn_out, p39, Rs.ev, mapO, mapS, take_len_self, hl_17, eq_false c3, eq_false c4, eq_true c6])
            · dsimp only at hF
              have hE := Option.some.inj hF; subst hE
              simp only [↓reduceIte, Nat.reduceAdd, Nat.reduceMul, Nat.reduceSub, Nat.reduceLT, Nat.reduceLeDiff, Nat.reduceEqDiff, Nat.reducePow, Int.reducePow, Int.reduceLE, Int.reduceLT, Int.reduceEq, Int.reduceToNat, reduceCtorEq, RR, RB, RZ, RE, opEv, fillV, mapO, mapS, hl_9, h1_9, eq_false c3, eq_false c4, eq_true c6]
              refine W.mono (l39_2 a0   gt48 (Exists.intro _ ( And.intro rfl ?_))) ?_
              · simp only [↓reduceIte, Nat.reduceAdd, Nat.reduceMul, Nat.reduceSub, Nat.reduceLT, Nat.reduceLeDiff, Nat.reduceEqDiff, Nat.reducePow, Int.reducePow, Int.reduceLE, Int.reduceLT, Int.reduceEq, Int.reduceToNat, reduceCtorEq, RR, RB, RZ, RE, hl_9, h1_9, eq_false c3, eq_false c4, eq_true c6]
              rintro _ e h ⟨rfl, hq⟩
              simp only [↓reduceIte, Nat.reduceAdd, Nat.reduceMul, Nat.reduceSub, Nat.reduceLT, Nat.reduceLeDiff, Nat.reduceEqDiff, Nat.reducePow, Int.reducePow, Int.reduceLE, Int.reduceLT, Int.reduceEq, Int.reduceToNat, reduceCtorEq, RR, RB]
              exact hq
          · dsimp only at hF
            have hE := Option.some.inj hF; subst hE
            simp only [↓reduceIte, Nat.reduceAdd, Nat.reduceMul, Nat.reduceSub, Nat.reduceLT, Nat.reduceLeDiff, Nat.reduceEqDiff, Nat.reducePow, Int.reducePow, Int.reduceLE, Int.reduceLT, Int.reduceEq, Int.reduceToNat, reduceCtorEq, RR, RB, RZ, RE, opEv, fillV, mapO, mapS, b39, hl_0, h0_0, w2, eq_false c3, eq_false c4, wx5, eq_true c6]
            refine W.mono (l39_1 a0   gt14 (Exists.intro _ ( And.intro rfl ?_))) ?_
            · simp only [↓reduceIte, Nat.reduceAdd, Nat.reduceMul, Nat.reduceSub, Nat.reduceLT, Nat.reduceLeDiff, Nat.reduceEqDiff, Nat.reducePow, Int.reducePow, Int.reduceLE, Int.reduceLT, Int.reduceEq, Int.reduceToNat, reduceCtorEq, RR, RB, RZ, RE, hl_0, h0_0, w2, eq_false c3, eq_false c4, wx5, eq_true c6]
            rintro _ e h ⟨rfl, hq⟩
            simp only [↓reduceIte, Nat.reduceAdd, Nat.reduceMul, Nat.reduceSub, Nat.reduceLT, Nat.reduceLeDiff, Nat.reduceEqDiff, Nat.reducePow, Int.reducePow, Int.reduceLE, Int.reduceLT, Int.reduceEq, Int.reduceToNat, reduceCtorEq, RR, RB]
            exact hq
        · rw [if_neg c6] at hF
          have hE := Option.some.inj hF; subst hE
          simp only [↓reduceIte, Nat.reduceAdd, Nat.reduceMul, Nat.reduceSub, Nat.reduceLT, Nat.reduceLeDiff, Nat.reduceEqDiff, Nat.reducePow, Int.reducePow, Int.reduceLE, Int.reduceLT, Int.reduceEq, Int.reduceToNat, reduceCtorEq, RR, RB, RZ, RE, opEv, fillV, mapO, mapS, b39, hl_0, h0_0, w2, eq_false c3, eq_false c4, wx5, eq_false c6]
          exact fin_ret (by simp only [↓reduceIte, Nat.reduceAdd, Nat.reduceMul, Nat.reduceSub, Nat.reduceLT, Nat.reduceLeDiff, Nat.reduceEqDiff, Nat.reducePow, Int.reducePow, Int.reduceLE, Int.reduceLT, Int.reduceEq, Int.reduceToNat, reduceCtorEq, RR, RB, RZ, RE, fn_out, p39, Rs.ev, mapO, mapS, take_len_self, hl_0, h0_0, w2, eq_false c3, eq_false c4, wx5, eq_false c6])
  | false =>
    rw [if_neg Bool.false_ne_true] at hF
    have hE := Option.some.inj hF; subst hE
    simp only [↓reduceIte, Nat.reduceAdd, Nat.reduceMul, Nat.reduceSub, Nat.reduceLT, Nat.reduceLeDiff, Nat.reduceEqDiff, Nat.reducePow, Int.reducePow, Int.reduceLE, Int.reduceLT, Int.reduceEq, Int.reduceToNat, reduceCtorEq, RR, RB, RZ, RE, opEv, fillV, mapO, mapS, b39, hl_0, h0_0, w2]
    exact fin_ret (by simp only [↓reduceIte, Nat.reduceAdd, Nat.reduceMul, Nat.reduceSub, Nat.reduceLT, Nat.reduceLeDiff, Nat.reduceEqDiff, Nat.reducePow, Int.reducePow, Int.reduceLE, Int.reduceLT, Int.reduceEq, Int.reduceToNat, reduceCtorEq, RR, RB, RZ, RE, fn_out, p39, Rs.ev, mapO, mapS, take_len_self, hl_0, h0_0, w2])
/-! loop.example/g01273/spec.l01Own -/
def F94 (a0 : List Int) : Option (List Int) :=
  (app 8 ([] : List Int) a0).bind fun l2 =>
  some l2
theorem s94 (a0 : List Int)   {r : List Int} (hF : F94 a0 = some r) : ans A 94 [V.isl (List.map Enc.enc a0)] = some (Enc.enc r) := by
  refine ans_of (f := p94) rfl rfl rfl fun e hl he => ?_
  have h0_0 : e.at 0 = V.isl (List.map Enc.enc a0) := he 0 _ rfl
  have hl_0 : e.length = 6 := hl
  clear he hl
  show W A b94 e ⟨[], 0⟩ _
  unfold F94 at hF
  obtain ⟨l2, gl2, hF⟩ := bS hF
  have w1 := fun ents key uid clk he => appendV_w (α := Int) (n := 0) (m := a0.length) (ds := List.map Enc.enc a0) gl2 (by first | rfl | simp only [List.length_nil]) (by first | rfl | simp only [List.length_nil]) rfl ents key uid clk he
  have w1l := app_len gl2
  have hE := Option.some.inj hF; subst hE
  simp only [↓reduceIte, Nat.reduceAdd, Nat.reduceMul, Nat.reduceSub, Nat.reduceLT, Nat.reduceLeDiff, Nat.reduceEqDiff, Nat.reducePow, Int.reducePow, Int.reduceLE, Int.reduceLT, Int.reduceEq, Int.reduceToNat, reduceCtorEq, RR, RB, RZ, RE, opEv, fillV, mapO, mapS, b94, hl_0, h0_0, w1]
  exact fin_ret (by simp only [↓reduceIte, Nat.reduceAdd, Nat.reduceMul, Nat.reduceSub, Nat.reduceLT, Nat.reduceLeDiff, Nat.reduceEqDiff, Nat.reducePow, Int.reducePow, Int.reduceLE, Int.reduceLT, Int.reduceEq, Int.reduceToNat, reduceCtorEq, RR, RB, RZ, RE, fn_out, p94, Rs.ev, mapO, mapS, take_len_self, hl_0, h0_0, w1, frzs (α := Int) l2, takes (α := Int) l2])
theorem t94 (a0 : List Int)   {r : List Int} (hF : F94 a0 = some r) : tans A 94 [1] [V.isl (List.map Enc.enc a0)] = some (Enc.enc r) := by
  refine tans_of (f := p94) rfl rfl rfl fun e hl he => ?_
  have h0_0 : e.at 0 = V.isl (List.map Enc.enc a0) := he 0 _ rfl
  have hl_0 : e.length = 6 := hl
  clear he hl
  show W A b94 e ⟨[], 0⟩ _
  unfold F94 at hF
  obtain ⟨l2, gl2, hF⟩ := bS hF
  have w1 := fun ents key uid clk he => appendV_w (α := Int) (n := 0) (m := a0.length) (ds := List.map Enc.enc a0) gl2 (by first | rfl | simp only [List.length_nil]) (by first | rfl | simp only [List.length_nil]) rfl ents key uid clk he
  have w1l := app_len gl2
  have hE := Option.some.inj hF; subst hE
  simp only [↓reduceIte, Nat.reduceAdd, Nat.reduceMul, Nat.reduceSub, Nat.reduceLT, Nat.reduceLeDiff, Nat.reduceEqDiff, Nat.reducePow, Int.reducePow, Int.reduceLE, Int.reduceLT, Int.reduceEq, Int.reduceToNat, reduceCtorEq, RR, RB, RZ, RE, opEv, fillV, mapO, mapS, b94, hl_0, h0_0, w1]
  exact tfin_ret (by simp only [↓reduceIte, Nat.reduceAdd, Nat.reduceMul, Nat.reduceSub, Nat.reduceLT, Nat.reduceLeDiff, Nat.reduceEqDiff, Nat.reducePow, Int.reducePow, Int.reduceLE, Int.reduceLT, Int.reduceEq, Int.reduceToNat, reduceCtorEq, RR, RB, RZ, RE, fn_out, p94, Rs.ev, mapO, mapS, take_len_self, hl_0, h0_0, w1, frzs (α := Int) l2, takes (α := Int) l2])
/-! loop.example/g01273/spec.l01Rows -/
def F95_1_B (a0 : List (List Int)) (v4_1 : Int) (o0_1 : (List (List Int))) : Option (((List (List Int))) ⊕ ((List (List Int)))) :=
  (getI a0 v4_1).bind fun x5 =>
(F94 x5).bind fun x7 =>
(app 24 o0_1 [x7]).bind fun l10 =>
some (.inl l10)
def F95_1_D (a0 : List (List Int)) (v4_1 : Int) (o0_1 : (List (List Int))) : Option ((List (List Int))) :=
  some o0_1
def F95 (a0 : List (List Int)) : Option (List (List Int)) :=
  (forR 0 (a0.length : Int) (F95_1_B a0) (F95_1_D a0) ([] : (List (List Int)))).bind fun zo0_1 =>
  some zo0_1
theorem d95 (a0 : List (List Int)) {r : List (List Int)} (hF : F95 a0 = some r) : ∃ v h', res A 95 [V.isl (List.map Enc.enc a0)] Heap.empty = some (v, h') ∧ ∃ K, Deep.rep h' v r K := by
  refine res_dp (f := p95) rfl rfl rfl fun e hl he => ?_
  have h0_0 : e.at 0 = V.isl (List.map Enc.enc a0) := he 0 _ rfl
  have hl_0 : e.length = 21 := hl
  clear he hl
  show W A b95 e ⟨[], 0⟩ _
  unfold F95 at hF
  obtain ⟨zo0_1, gt11, hF⟩ := bS hF
  have hE := Option.some.inj hF; subst hE
  simp only [↓reduceIte, Nat.reduceAdd, Nat.reduceMul, Nat.reduceSub, Nat.reduceLT, Nat.reduceLeDiff, Nat.reduceEqDiff, Nat.reducePow, Int.reducePow, Int.reduceLE, Int.reduceLT, Int.reduceEq, Int.reduceToNat, reduceCtorEq, RR, RB, RZ, opEv, fillV, mapO, mapS, b95, hl_0, h0_0]
  show W A (.block 0 (.loop true b95_1)) _ _ _
  rw [W_block]
  refine W_forR gt11 _ rfl (fun i l e h => ∃ u vs K, h.ents[0]? = some (u, some vs) ∧ reps h vs l K ∧ ¬ K 0 ∧ e.length = 21 ∧ e.at 0 = V.isl (List.map Enc.enc a0) ∧ e.at 3 = V.sl 0 u 0 l.length 1 ∧ e.at 4 = V.int .i64 i) ?_ ?_ ?_
  · refine ⟨0, [], fun _ => False, rfl, fun _ x => x, fun x => x, ?_⟩
    simp only [↓reduceIte, Nat.reduceAdd, Nat.reduceMul, Nat.reduceSub, Nat.reduceLT, Nat.reduceLeDiff, Nat.reduceEqDiff, Nat.reducePow, Int.reducePow, Int.reduceLE, Int.reduceLT, Int.reduceEq, Int.reduceToNat, reduceCtorEq, RR, RB, RZ, hl_0, h0_0]
  · rintro i l e ⟨E, c⟩ ⟨u, vs, K, g1, g2, g3, hl_1, h0_1, h3_1, h4_1⟩ hlt hw o ho
    unfold F95_1_B at ho
    obtain ⟨x5, gx5, ho⟩ := bS ho
    obtain ⟨w6a, w6b⟩ := getI_w gx5
    obtain ⟨x7, gx7, ho⟩ := bS ho
    have w8 := t94 x5 gx7
    obtain ⟨l10, gl10, ho⟩ := bS ho
    obtain ⟨q1, q2, rfl⟩ := app_w gl10
    have hE := Option.some.inj ho; subst hE
    have hln := g2.len
    have hE0 : 0 < E.length := (List.getElem?_eq_some_iff.1 g1).1
    have w9 : ∀ x y c', appendV 1 24 (.sl 0 u 0 l.length 1) 1 [V.sl E.length c 0 x7.length 1] ⟨E ++ [x] ++ [y], c'⟩ = _ := fun x y c' => appendV_deep (E := E ++ [x] ++ [y]) (vs := vs) (by rw [List.getElem?_append_left (by simp), List.getElem?_append_left hE0]; exact g1) hln (by simpa using q1) (by simpa using q2)
    simp only [↓reduceIte, Nat.reduceAdd, Nat.reduceMul, Nat.reduceSub, Nat.reduceLT, Nat.reduceLeDiff, Nat.reduceEqDiff, Nat.reducePow, Int.reducePow, Int.reduceLE, Int.reduceLT, Int.reduceEq, Int.reduceToNat, reduceCtorEq, RR, RB, RZ, opEv, fillV, mapO, mapS, b95_1, hl_1, h0_1, h3_1, h4_1, eq_true hlt, hw, w6a, w6b, w8, callM_tans, thaw_one, get_last, w9]
    have r1 := deep_round (h := ⟨E, c⟩) (h1 := ⟨E ++ [(c, some (List.map Enc.enc x7))], c + 1⟩) (h2 := ⟨(E ++ [(c, some (List.map Enc.enc x7))] ++ [(c + 1, some [V.sl E.length c 0 x7.length 1])]).set 0 (c + 1 + 1, some (vs ++ [V.sl E.length c 0 x7.length 1])), c + 1 + 1 + 1⟩) g2
      (int_row (l := x7) (K := fun k => k = E.length) (get_last _ _) fun k => Iff.rfl) (fun k q => by show E.length ≤ k; omega) (fun k q => List.getElem?_append_left q) (fun k p q => set_app_new (fun e => by subst e; exact q.elim g3 (fun q => by omega)) p) (by simp)
    refine And.intro rfl ⟨_, _, _, set_app_key (by simp), r1, fun q => q.elim g3 (fun q => by omega), ?_⟩
    simp only [↓reduceIte, Nat.reduceAdd, Nat.reduceMul, Nat.reduceSub, Nat.reduceLT, Nat.reduceLeDiff, Nat.reduceEqDiff, Nat.reducePow, Int.reducePow, Int.reduceLE, Int.reduceLT, Int.reduceEq, Int.reduceToNat, reduceCtorEq, RR, RB, RZ, hl_1, h0_1, h3_1, h4_1, eq_true hlt, hw, w6a, w6b, w8, List.length_append]
  · rintro i l e ⟨E, c⟩ ⟨u, vs, K, g1, g2, g3, hl_1, h0_1, h3_1, h4_1⟩ hge t1 ho
    unfold F95_1_D at ho
    have hE := Option.some.inj ho; subst hE
    simp only [↓reduceIte, Nat.reduceAdd, Nat.reduceMul, Nat.reduceSub, Nat.reduceLT, Nat.reduceLeDiff, Nat.reduceEqDiff, Nat.reducePow, Int.reducePow, Int.reduceLE, Int.reduceLT, Int.reduceEq, Int.reduceToNat, reduceCtorEq, RR, RB, RZ, opEv, fillV, mapO, mapS, b95_1, hl_1, h0_1, h3_1, h4_1, eq_false hge]
    intro ht; subst ht
    refine And.intro (fun _ => trivial) ⟨_, by simp only [↓reduceIte, Nat.reduceAdd, Nat.reduceMul, Nat.reduceSub, Nat.reduceLT, Nat.reduceLeDiff, Nat.reduceEqDiff, Nat.reducePow, Int.reducePow, Int.reduceLE, Int.reduceLT, Int.reduceEq, Int.reduceToNat, reduceCtorEq, RR, RB, RZ, fn_out, p95, Rs.ev, mapO, mapS, hl_1], fun k => k = 0 ∨ K k, .inr ⟨0, u, vs, K, rfl, g1, g2, g3, fun k => Iff.rfl⟩⟩
theorem s95 (a0 : List (List Int)) {r : List (List Int)} (hF : F95 a0 = some r) : ans A 95 [V.isl (List.map Enc.enc a0)] = some (Enc.enc r) := ans_of_deep (by decide) (d95 a0 hF)
theorem x95 (a0 : List (List Int)) {r : List (List Int)} (hF : F95 a0 = some r) : tans A 95 [1, 1] [V.isl (List.map Enc.enc a0)] = some (Enc.enc r) := tans_of_deep (α := List (List Int)) (by decide) (d95 a0 hF)
/-! loop.example/g01273/spec.l01Copy -/
def F55_1_B (a0 : GComplex) (v4_1 : Int) (s : (List (List (List Int))) × Int × (List Int)) : Option (((List (List (List Int))) × Int × (List Int)) ⊕ ((List (List (List Int))) × Int × (List Int))) :=
  match s with
  | (o2_1, q3_0_1, q3_1_1) =>
    (getI a0.Maps v4_1).bind fun x7 =>
    (F95 x7).bind fun x9 =>
    (app 24 o2_1 [x9]).bind fun l12 =>
    some (.inl (l12, q3_0_1, q3_1_1))
def F55_1_D (a0 : GComplex) (v4_1 : Int) (s : (List (List (List Int))) × Int × (List Int)) : Option ((List (List (List Int))) × Int × (List Int)) :=
  match s with
  | (o2_1, q3_0_1, q3_1_1) =>
    some (o2_1, q3_0_1, q3_1_1)
def F55 (a0 : GComplex) : Option GComplex :=
  (F94 a0.Dims).bind fun x1 =>
  (forR 0 (a0.Maps.length : Int) (F55_1_B a0) (F55_1_D a0) ([], a0.Prime, x1)).bind fun t13 => match t13 with
    | (zo2_1, zq3_0_1, zq3_1_1) =>
      some ⟨zq3_0_1, zq3_1_1, zo2_1⟩
theorem d55 (x : GComplex) {r : GComplex} (hF : F55 x = some r) : ∃ v h', res A 55 [V.agg [V.int .i64 x.Prime, V.isl (List.map Enc.enc x.Dims), V.isl (List.map Enc.enc x.Maps)]] Heap.empty = some (v, h') ∧ ∃ m K, v = V.agg [V.int .i64 r.Prime, V.isl (List.map Enc.enc r.Dims), m] ∧ Deep.rep h' m r.Maps K := by
  refine res_dp (f := p55) rfl rfl rfl fun e hl he => ?_
  have h0_0 : e.at 0 = V.agg [V.int .i64 x.Prime, V.isl (List.map Enc.enc x.Dims), V.isl (List.map Enc.enc x.Maps)] := he 0 _ rfl
  have hl_0 : e.length = 31 := hl
  clear he hl
  show W A b55 e ⟨[], 0⟩ _
  unfold F55 at hF
  obtain ⟨x1, gx1, hF⟩ := bS hF
  have w1 : ans A 94 [V.isl (List.map Enc.enc x.Dims)] = some (V.isl (List.map Enc.enc x1)) := s94 x.Dims gx1
  obtain ⟨t13, gt13, hF⟩ := bS hF
  simp only [↓reduceIte, Nat.reduceAdd, Nat.reduceMul, Nat.reduceSub, Nat.reduceLT, Nat.reduceLeDiff, Nat.reduceEqDiff, Nat.reducePow, Int.reducePow, Int.reduceLE, Int.reduceLT, Int.reduceEq, Int.reduceToNat, reduceCtorEq, RR, RB, RZ, RE, opEv, fillV, mapO, mapS, b55, hl_0, h0_0, w1]
  show W A (.block 0 (.loop true b55_1)) _ _ _
  rw [W_block]
  refine W_forR gt13 _ rfl (fun i s e h => s.2 = (x.Prime, x1) ∧ ∃ u vs K, h.ents[1]? = some (1, some [V.int .i64 0, V.nils, V.nils]) ∧ h.ents[2]? = some (u, some vs) ∧ h.ents[3]? = some (3, some [V.int .i64 x.Prime, V.isl (List.map Enc.enc x1), V.sl 2 u 0 s.1.length 1]) ∧ reps h vs s.1 K ∧ (∀ k, K k → 4 ≤ k) ∧ e.length = 31 ∧ e.at 1 = V.iptr [V.int .i64 x.Prime, V.isl (List.map Enc.enc x.Dims), V.isl (List.map Enc.enc x.Maps)] ∧ e.at 2 = V.ptr 1 1 0 ∧ e.at 3 = V.ptr 3 3 0 ∧ e.at 4 = V.int .i64 i) ?_ ?_ ?_
  · refine ⟨rfl, 2, [], fun _ => False, rfl, rfl, rfl, fun _ x => x, fun _ x => x.elim, ?_⟩
    simp only [↓reduceIte, Nat.reduceAdd, Nat.reduceMul, Nat.reduceSub, Nat.reduceLT, Nat.reduceLeDiff, Nat.reduceEqDiff, Nat.reducePow, Int.reducePow, Int.reduceLE, Int.reduceLT, Int.reduceEq, Int.reduceToNat, reduceCtorEq, RR, RB, RZ, RE, hl_0, h0_0]
  · rintro i ⟨l, q⟩ e ⟨E, c⟩ ⟨rfl, u, vs, K, g1, g2, g3, g4, g5, hl_1, h1_1, h2_1, h3_1, h4_1⟩ hlt hw o ho
    unfold F55_1_B at ho
    simp only at ho g3
    obtain ⟨x5, gx5, ho⟩ := bS ho
    obtain ⟨w6a, w6b⟩ := getI_w gx5
    obtain ⟨x7, gx7, ho⟩ := bS ho
    have w8 := x95 x5 gx7
    obtain ⟨l10, gl10, ho⟩ := bS ho
    obtain ⟨q1, q2, rfl⟩ := app_w gl10
    have hE := Option.some.inj ho; subst hE
    have hln := g4.len
    have hE0 : 3 < E.length := (List.getElem?_eq_some_iff.1 g3).1
    obtain ⟨v, ⟨E1, c1⟩, t1, t2, t3, t4⟩ := thaw_deep (α := List (List Int)) (by decide) x7 ⟨E, c⟩
    have t1' : thaw 16 [1, 1] (V.isl (List.map Enc.enc x7)) ⟨E, c⟩ = some (v, ⟨E1, c1⟩) := t1
    simp only at t2 t3 t4 g1 g2 g3
    have m1 := (t4 1 (by omega)).trans g1
    have m2 := (t4 2 (by omega)).trans g2
    have m3 := (t4 3 (by omega)).trans g3
    have n1 : ∀ y z, (((E1 ++ [y]).set 2 z))[1]? = _ := fun y z => (set_app_new (by decide) (by omega)).trans m1
    have n3 : ∀ y z, (((E1 ++ [y]).set 2 z))[3]? = _ := fun y z => (set_app_new (by decide) (by omega)).trans m3
    obtain ⟨v1, v2⟩ := rep_one t2
    have w9 : ∀ y c', appendV 1 24 (.sl 2 u 0 l.length 1) 1 [v] ⟨E1 ++ [y], c'⟩ = _ := fun y c' => appendV_deep (E := E1 ++ [y]) (vs := vs) (by rw [List.getElem?_append_left (by omega)]; exact m2) hln (by simpa using q1) (by simpa using q2)
    simp only [↓reduceIte, Nat.reduceAdd, Nat.reduceMul, Nat.reduceSub, Nat.reduceLT, Nat.reduceLeDiff, Nat.reduceEqDiff, Nat.reducePow, Int.reducePow, Int.reduceLE, Int.reduceLT, Int.reduceEq, Int.reduceToNat, reduceCtorEq, RR, RB, RZ, RE, opEv, fillV, mapO, mapS, b55_1, hl_1, h1_1, h2_1, h3_1, h4_1, eq_true hlt, hw, w6a, w6b, w8, callM_tans, t1', v1, v2, m1, m2, m3, get_last, w9, n1, n3, g1, g2, g3]
    have r1 := deep_round (h := ⟨E, c⟩) (h1 := ⟨E1, c1⟩) (h2 := ⟨((E1 ++ [(c1, some [v])]).set 2 (c1 + 1, some (vs ++ [v]))).set 3 (3, some [V.int .i64 x.Prime, V.isl (List.map Enc.enc x1), V.sl 2 (c1 + 1) 0 (l.length + 1) 1]), c1 + 1 + 1⟩) (K := K) g4
      t2 (fun k q => q.1) t4 (fun k p q => by
        have hk : 4 ≤ k := q.elim (g5 _) (fun q => by omega)
        rw [set_ne (by omega)]
        exact set_app_new (by omega) p) t3
    refine And.intro rfl (And.intro rfl ⟨c1 + 1, vs ++ [v], fun k => K k ∨ (E.length ≤ k ∧ k < E1.length), ?_, ?_, ?_, r1, fun k q => q.elim (g5 _) (fun q => by omega), ?_⟩)
    rotate_left
    · exact (set_ne (by decide)).trans (set_app_key (by simp; omega))
    · simp only [List.length_append, List.length_cons, List.length_nil, Nat.zero_add]
      exact set_app_key (by simp; omega)
    · simp only [↓reduceIte, Nat.reduceAdd, Nat.reduceMul, Nat.reduceSub, Nat.reduceLT, Nat.reduceLeDiff, Nat.reduceEqDiff, Nat.reducePow, Int.reducePow, Int.reduceLE, Int.reduceLT, Int.reduceEq, Int.reduceToNat, reduceCtorEq, RR, RB, RZ, RE, hl_1, h1_1, h2_1, h3_1, h4_1, eq_true hlt, hw, w6a, w6b, w8]
    · exact (set_ne (by decide)).trans (n1 _ _)
  · rintro i ⟨l, q⟩ e ⟨E, c⟩ ⟨rfl, u, vs, K, g1, g2, g3, g4, g5, hl_1, h1_1, h2_1, h3_1, h4_1⟩ hge t1 ho
    unfold F55_1_D at ho
    have hE := Option.some.inj ho; subst hE
    simp only at hF g1 g2 g3
    simp only [↓reduceIte, Nat.reduceAdd, Nat.reduceMul, Nat.reduceSub, Nat.reduceLT, Nat.reduceLeDiff, Nat.reduceEqDiff, Nat.reducePow, Int.reducePow, Int.reduceLE, Int.reduceLT, Int.reduceEq, Int.reduceToNat, reduceCtorEq, RR, RB, RZ, RE, opEv, fillV, mapO, mapS, b55_1, hl_1, h1_1, h2_1, h3_1, h4_1, eq_false hge, g1, g2, g3]
    intro ht; subst ht
    have hE := Option.some.inj hF; subst hE
    have hE0 : 3 < E.length := (List.getElem?_eq_some_iff.1 g3).1
    refine And.intro (fun _ => trivial) ⟨_, by simp only [↓reduceIte, Nat.reduceAdd, Nat.reduceMul, Nat.reduceSub, Nat.reduceLT, Nat.reduceLeDiff, Nat.reduceEqDiff, Nat.reducePow, Int.reducePow, Int.reduceLE, Int.reduceLT, Int.reduceEq, Int.reduceToNat, reduceCtorEq, RR, RB, RZ, RE, fn_out, p55, Rs.ev, mapO, mapS, hl_1, h2_1, set_app_key (show 1 < E.length by omega)]; rfl, _, _, rfl, rep_at (α := List (List Int)) (K := K) ?_ (g4.frame fun k q => set_ne (by have := g5 k q; omega)) (fun q => by have := g5 _ q; omega)⟩
    exact (set_ne (by decide)).trans g2
theorem fz55 (x : GComplex) {r : GComplex} (hF : F55 x = some r) : ans A 55 [V.agg [V.int .i64 x.Prime, V.isl (List.map Enc.enc x.Dims), V.isl (List.map Enc.enc x.Maps)]] = some (Enc.enc r) := by
  obtain ⟨v, h', h1, m, K, rfl, h2⟩ := d55 x hF
  exact ans_agg h1 h2
theorem s55 (x : GComplex) {r : GComplex} (hF : F55 x = some r) : ans A 55 [V.agg [V.int .i64 x.Prime, V.isl (List.map Enc.enc x.Dims), V.isl (List.map Enc.enc x.Maps)]] = some (Enc.enc r) := fz55 x hF
theorem x55 (x : GComplex) {r : GComplex} (hF : F55 x = some r) : tans A 55 [1, 1, 1] [V.agg [V.int .i64 x.Prime, V.isl (List.map Enc.enc x.Dims), V.isl (List.map Enc.enc x.Maps)]] = some (V.agg [V.int .i64 r.Prime, V.iptr [V.isl (List.map Enc.enc r.Dims)], V.isl (List.map Enc.enc r.Maps)]) := by
  obtain ⟨v, h', h1, m, K, rfl, h2⟩ := d55 x hF
  exact tans_agg h1 h2
/-! loop.example/g01273/spec.FlatFiltered -/
def F23_2_S (a0 : GComplex) (a1 : Int) (o2_1 : List (List Int)) (q3_0_1 : Int) (q3_1_1 : List Int) (q3_2_1 : List (List (List Int))) (v7_1 : Int) (s : (List Int) × Int) : Option (((List Int) × Int) ⊕ ((List Int))) :=
  match s with
  | (o4_2, v9_2) =>
    (getI a0.Dims v7_1).bind fun x15 =>
    if v9_2 < x15 then
      (app 8 o4_2 [a1]).bind fun l19 =>
      (chk (v9_2 + 1)).bind fun x20 =>
      some (.inl (l19, x20))
    else
      some (.inr o4_2)
def F23_1_B (a0 : GComplex) (a1 : Int) (v7_1 : Int) (s : (List (List Int)) × Int × (List Int) × (List (List (List Int)))) : Option (((List (List Int)) × Int × (List Int) × (List (List (List Int)))) ⊕ ((List (List Int)) × Int × (List Int) × (List (List (List Int))))) :=
  match s with
  | (o2_1, q3_0_1, q3_1_1, q3_2_1) =>
    (loopW (F23_2_S a0 a1 o2_1 q3_0_1 q3_1_1 q3_2_1 v7_1) ([], 0)).bind fun zo4_2 =>
    (app 24 o2_1 [zo4_2]).bind fun l23 =>
    some (.inl (l23, q3_0_1, q3_1_1, q3_2_1))
def F23_1_D (a0 : GComplex) (a1 : Int) (v7_1 : Int) (s : (List (List Int)) × Int × (List Int) × (List (List (List Int)))) : Option ((List (List Int)) × Int × (List Int) × (List (List (List Int)))) :=
  match s with
  | (o2_1, q3_0_1, q3_1_1, q3_2_1) =>
    some (o2_1, q3_0_1, q3_1_1, q3_2_1)
def F23 (a0 : GComplex) (a1 : Int) : Option (T2 GFiltered Int) :=
  (F39 a0).bind fun x1 =>
  if x1 = true then
    (F54 a1 0 5).bind fun x3 =>
    if x3 = true then
      (F55 a0).bind fun x5 =>
      (forR 0 (a0.Dims.length : Int) (F23_1_B a0 a1) (F23_1_D a0 a1) ([], x5.Prime, x5.Dims, x5.Maps)).bind fun t24 => match t24 with
        | (zo2_1, zq3_0_1, zq3_1_1, zq3_2_1) =>
          some ⟨⟨⟨zq3_0_1, zq3_1_1, zq3_2_1⟩, zo2_1⟩, 0⟩
    else
      some ⟨⟨⟨0, [], []⟩, []⟩, 2⟩
  else
    some ⟨⟨⟨0, [], []⟩, []⟩, 1⟩
def I23_2 (a0 : GComplex) (a1 : Int) (o2_1 : List (List Int)) (q3_0_1 : Int) (q3_1_1 : List Int) (q3_2_1 : List (List (List Int))) (v7_1 : Int) (u8 : Nat) (s : (List Int) × Int) (e : Env) (h : Heap) : Prop :=
  match s with
  | (o4_2, v9_2) =>
    ∃ u12 k13 : Nat, h = ⟨[(0, none), (1, some [V.int .i64 0, V.nils, V.nils, V.nils]), (u8, some (List.map Enc.enc o2_1)), (3, some [V.int .i64 q3_0_1, V.isl (List.map Enc.enc q3_1_1), V.isl (List.map Enc.enc q3_2_1), V.sl 2 u8 0 o2_1.length 1]), (u12, some (List.map Enc.enc o4_2))], k13⟩ ∧ e.length = 52 ∧ e.at 1 = V.int .i64 a1 ∧ e.at 2 = V.iptr [V.int .i64 a0.Prime, V.isl (List.map Enc.enc a0.Dims), V.isl (List.map Enc.enc a0.Maps)] ∧ e.at 4 = V.ptr 1 1 0 ∧ e.at 6 = V.ptr 3 3 0 ∧ e.at 7 = V.int .i64 v7_1 ∧ e.at 8 = V.sl 4 u12 0 o4_2.length 1 ∧ e.at 9 = V.int .i64 v9_2
def P23_2 (a0 : GComplex) (a1 : Int) (o2_1 : List (List Int)) (q3_0_1 : Int) (q3_1_1 : List Int) (q3_2_1 : List (List (List Int))) (v7_1 : Int) (u8 : Nat) (zo4_2 : (List Int)) (x : Ex) (e : Env) (h : Heap) : Prop :=
  x = .normal ∧ ∃ u12 k13 : Nat, h = ⟨[(0, none), (1, some [V.int .i64 0, V.nils, V.nils, V.nils]), (u8, some (List.map Enc.enc o2_1)), (3, some [V.int .i64 q3_0_1, V.isl (List.map Enc.enc q3_1_1), V.isl (List.map Enc.enc q3_2_1), V.sl 2 u8 0 o2_1.length 1]), (u12, some (List.map Enc.enc zo4_2))], k13⟩ ∧ e.length = 52 ∧ e.at 1 = V.int .i64 a1 ∧ e.at 2 = V.iptr [V.int .i64 a0.Prime, V.isl (List.map Enc.enc a0.Dims), V.isl (List.map Enc.enc a0.Maps)] ∧ e.at 4 = V.ptr 1 1 0 ∧ e.at 6 = V.ptr 3 3 0 ∧ e.at 7 = V.int .i64 v7_1 ∧ e.at 8 = V.sl 4 u12 0 zo4_2.length 1
theorem l23_2 (a0 : GComplex) (a1 : Int) (o2_1 : List (List Int)) (q3_0_1 : Int) (q3_1_1 : List Int) (q3_2_1 : List (List (List Int))) (v7_1 : Int) (u8 : Nat)  {s : (List Int) × Int} {t : (List Int)} (hF : loopW (F23_2_S a0 a1 o2_1 q3_0_1 q3_1_1 q3_2_1 v7_1) s = some t) {e : Env} {h : Heap} (hI : I23_2 a0 a1 o2_1 q3_0_1 q3_1_1 q3_2_1 v7_1 u8 s e h) : W A c23_2 e h (P23_2 a0 a1 o2_1 q3_0_1 q3_1_1 q3_2_1 v7_1 u8 t) := by
  show W A (.block 3 (.loop false b23_2)) e h _
  rw [W_block]
  refine W_loop hF 5 (by rcases s with ⟨_, _⟩; obtain ⟨_, _, rfl, _⟩ := hI; rfl) (I23_2 a0 a1 o2_1 q3_0_1 q3_1_1 q3_2_1 v7_1 u8) hI ?_
  · rintro ⟨o4_2, v9_2⟩ e h ⟨u12, k13, rfl, hl_11, h1_11, h2_11, h4_11, h6_11, h7_11, h8_11, h9_11⟩ o ho
    unfold F23_2_S at ho
    dsimp only at ho
    obtain ⟨x15, gx15, ho⟩ := bS ho
    obtain ⟨w16a, w16b⟩ := getI_w gx15
    by_cases c17 : v9_2 < x15
    · rw [if_pos c17] at ho
      obtain ⟨l19, gl19, ho⟩ := bS ho
      have w18 := fun ents key uid clk he => appendV_w (α := Int) (n := o4_2.length) (m := 1) (ds := [V.int .i64 a1]) gl19 (by first | rfl | simp only [List.length_nil]) (by first | rfl | simp only [List.length_nil]) rfl ents key uid clk he
      have w18l := app_len gl19
      obtain ⟨x20, gx20, ho⟩ := bS ho
      have wx20 := chk_w gx20
      have hE := Option.some.inj ho; subst hE
      simp only [↓reduceIte, Nat.reduceAdd, Nat.reduceMul, Nat.reduceSub, Nat.reduceLT, Nat.reduceLeDiff, Nat.reduceEqDiff, Nat.reducePow, Int.reducePow, Int.reduceLE, Int.reduceLT, Int.reduceEq, Int.reduceToNat, reduceCtorEq, RR, RB, RZ, RE, opEv, fillV, mapO, mapS, b23_2, hl_11, h1_11, h2_11, h4_11, h6_11, h7_11, h8_11, h9_11, w16a, w16b, eq_true c17, w18, wx20]
      refine And.intro rfl (Exists.intro _ ( Exists.intro _ ( And.intro rfl ?_)))
      simp only [↓reduceIte, Nat.reduceAdd, Nat.reduceMul, Nat.reduceSub, Nat.reduceLT, Nat.reduceLeDiff, Nat.reduceEqDiff, Nat.reducePow, Int.reducePow, Int.reduceLE, Int.reduceLT, Int.reduceEq, Int.reduceToNat, reduceCtorEq, RR, RB, RZ, RE, hl_11, h1_11, h2_11, h4_11, h6_11, h7_11, h8_11, h9_11, w16a, w16b, eq_true c17, w18, wx20]
    · rw [if_neg c17] at ho
      have hE := Option.some.inj ho; subst hE
      simp only [↓reduceIte, Nat.reduceAdd, Nat.reduceMul, Nat.reduceSub, Nat.reduceLT, Nat.reduceLeDiff, Nat.reduceEqDiff, Nat.reducePow, Int.reducePow, Int.reduceLE, Int.reduceLT, Int.reduceEq, Int.reduceToNat, reduceCtorEq, RR, RB, RZ, RE, opEv, fillV, mapO, mapS, b23_2, hl_11, h1_11, h2_11, h4_11, h6_11, h7_11, h8_11, h9_11, w16a, w16b, eq_false c17]
      intro ht; subst ht
      simp only [↓reduceIte, Nat.reduceAdd, Nat.reduceMul, Nat.reduceSub, Nat.reduceLT, Nat.reduceLeDiff, Nat.reduceEqDiff, Nat.reducePow, Int.reducePow, Int.reduceLE, Int.reduceLT, Int.reduceEq, Int.reduceToNat, reduceCtorEq, RR, RB]
      refine And.intro rfl (Exists.intro _ ( Exists.intro _ ( And.intro rfl ?_)))
      simp only [↓reduceIte, Nat.reduceAdd, Nat.reduceMul, Nat.reduceSub, Nat.reduceLT, Nat.reduceLeDiff, Nat.reduceEqDiff, Nat.reducePow, Int.reducePow, Int.reduceLE, Int.reduceLT, Int.reduceEq, Int.reduceToNat, reduceCtorEq, RR, RB, RZ, RE, hl_11, h1_11, h2_11, h4_11, h6_11, h7_11, h8_11, h9_11, w16a, w16b, eq_false c17]
def I23_1 (a0 : GComplex) (a1 : Int)  (v7_1 : Int) (s : (List (List Int)) × Int × (List Int) × (List (List (List Int)))) (e : Env) (h : Heap) : Prop :=
  match s with
  | (o2_1, q3_0_1, q3_1_1, q3_2_1) =>
    ∃ u8 k9 : Nat, h = ⟨[(0, none), (1, some [V.int .i64 0, V.nils, V.nils, V.nils]), (u8, some (List.map Enc.enc o2_1)), (3, some [V.int .i64 q3_0_1, V.isl (List.map Enc.enc q3_1_1), V.isl (List.map Enc.enc q3_2_1), V.sl 2 u8 0 o2_1.length 1])], k9⟩ ∧ e.length = 52 ∧ e.at 1 = V.int .i64 a1 ∧ e.at 2 = V.iptr [V.int .i64 a0.Prime, V.isl (List.map Enc.enc a0.Dims), V.isl (List.map Enc.enc a0.Maps)] ∧ e.at 4 = V.ptr 1 1 0 ∧ e.at 6 = V.ptr 3 3 0 ∧ e.at 7 = V.int .i64 v7_1
def P23_1 (a0 : GComplex) (a1 : Int)  (t : (List (List Int)) × Int × (List Int) × (List (List (List Int)))) (x : Ex) (e : Env) (h : Heap) : Prop :=
  match t with
  | (zo2_1, zq3_0_1, zq3_1_1, zq3_2_1) =>
    x = .normal ∧ ∃ u8 k9 : Nat, h = ⟨[(0, none), (1, some [V.int .i64 0, V.nils, V.nils, V.nils]), (u8, some (List.map Enc.enc zo2_1)), (3, some [V.int .i64 zq3_0_1, V.isl (List.map Enc.enc zq3_1_1), V.isl (List.map Enc.enc zq3_2_1), V.sl 2 u8 0 zo2_1.length 1])], k9⟩ ∧ e.length = 52 ∧ e.at 4 = V.ptr 1 1 0 ∧ e.at 6 = V.ptr 3 3 0
theorem l23_1 (a0 : GComplex) (a1 : Int)   {lo : Int} {s : (List (List Int)) × Int × (List Int) × (List (List (List Int)))} {t : (List (List Int)) × Int × (List Int) × (List (List (List Int)))} (hF : forR lo (a0.Dims.length : Int) (F23_1_B a0 a1) (F23_1_D a0 a1) s = some t) {e : Env} {h : Heap} (hI : I23_1 a0 a1  lo s e h) : W A c23_1 e h (P23_1 a0 a1  t) := by
  show W A (.block 1 (.loop false b23_1)) e h _
  rw [W_block]
  refine W_forR hF 4 (by rcases s with ⟨_, _, _, _⟩; obtain ⟨_, _, rfl, _⟩ := hI; rfl) (I23_1 a0 a1 ) hI ?_ ?_
  · rintro v7_1 ⟨o2_1, q3_0_1, q3_1_1, q3_2_1⟩ e h ⟨u8, k9, rfl, hl_7, h1_7, h2_7, h4_7, h6_7, h7_7⟩ hlt hw o ho
    unfold F23_1_B at ho
    dsimp only at ho
    obtain ⟨zo4_2, gt21, ho⟩ := bS ho
    simp only [↓reduceIte, Nat.reduceAdd, Nat.reduceMul, Nat.reduceSub, Nat.reduceLT, Nat.reduceLeDiff, Nat.reduceEqDiff, Nat.reducePow, Int.reducePow, Int.reduceLE, Int.reduceLT, Int.reduceEq, Int.reduceToNat, reduceCtorEq, RR, RB, RZ, RE, opEv, fillV, mapO, mapS, b23_1, hl_7, h1_7, h2_7, h4_7, h6_7, h7_7, eq_true hlt, hw]
    refine W.mono (l23_2 a0 a1 o2_1 q3_0_1 q3_1_1 q3_2_1 v7_1 u8  gt21 (Exists.intro _ ( Exists.intro _ ( And.intro rfl ?_)))) ?_
    · simp only [↓reduceIte, Nat.reduceAdd, Nat.reduceMul, Nat.reduceSub, Nat.reduceLT, Nat.reduceLeDiff, Nat.reduceEqDiff, Nat.reducePow, Int.reducePow, Int.reduceLE, Int.reduceLT, Int.reduceEq, Int.reduceToNat, reduceCtorEq, RR, RB, RZ, RE, hl_7, h1_7, h2_7, h4_7, h6_7, h7_7, eq_true hlt, hw]
    rintro _ e _ ⟨rfl, u12, k13, rfl, hl_14, h1_14, h2_14, h4_14, h6_14, h7_14, h8_14⟩
    obtain ⟨l23, gl23, ho⟩ := bS ho
    have w22 := fun ents key uid clk he => appendV_w (α := List Int) (n := o2_1.length) (m := 1) (ds := [V.isl (List.map Enc.enc zo4_2)]) gl23 (by first | rfl | simp only [List.length_nil]) (by first | rfl | simp only [List.length_nil]) rfl ents key uid clk he
    have w22l := app_len gl23
    have hE := Option.some.inj ho; subst hE
    simp only [↓reduceIte, Nat.reduceAdd, Nat.reduceMul, Nat.reduceSub, Nat.reduceLT, Nat.reduceLeDiff, Nat.reduceEqDiff, Nat.reducePow, Int.reducePow, Int.reduceLE, Int.reduceLT, Int.reduceEq, Int.reduceToNat, reduceCtorEq, RR, RB, RZ, RE, opEv, fillV, mapO, mapS, hl_14, h1_14, h2_14, h4_14, h6_14, h7_14, h8_14, eq_true hlt, hw, takes (α := Int) zo4_2, w22]
    refine And.intro rfl (Exists.intro _ ( Exists.intro _ ( And.intro rfl ?_)))
    simp only [↓reduceIte, Nat.reduceAdd, Nat.reduceMul, Nat.reduceSub, Nat.reduceLT, Nat.reduceLeDiff, Nat.reduceEqDiff, Nat.reducePow, Int.reducePow, Int.reduceLE, Int.reduceLT, Int.reduceEq, Int.reduceToNat, reduceCtorEq, RR, RB, RZ, RE, hl_14, h1_14, h2_14, h4_14, h6_14, h7_14, h8_14, eq_true hlt, hw, takes (α := Int) zo4_2, w22]
  · rintro v7_1 ⟨o2_1, q3_0_1, q3_1_1, q3_2_1⟩ e h ⟨u8, k9, rfl, hl_7, h1_7, h2_7, h4_7, h6_7, h7_7⟩ hge t1 ho
    unfold F23_1_D at ho
    dsimp only at ho
    have hE := Option.some.inj ho; subst hE
    simp only [↓reduceIte, Nat.reduceAdd, Nat.reduceMul, Nat.reduceSub, Nat.reduceLT, Nat.reduceLeDiff, Nat.reduceEqDiff, Nat.reducePow, Int.reducePow, Int.reduceLE, Int.reduceLT, Int.reduceEq, Int.reduceToNat, reduceCtorEq, RR, RB, RZ, RE, opEv, fillV, mapO, mapS, b23_1, hl_7, h1_7, h2_7, h4_7, h6_7, h7_7, eq_false hge]
    intro ht; subst ht
    refine And.intro rfl (Exists.intro _ ( Exists.intro _ ( And.intro rfl ?_)))
    simp only [↓reduceIte, Nat.reduceAdd, Nat.reduceMul, Nat.reduceSub, Nat.reduceLT, Nat.reduceLeDiff, Nat.reduceEqDiff, Nat.reducePow, Int.reducePow, Int.reduceLE, Int.reduceLT, Int.reduceEq, Int.reduceToNat, reduceCtorEq, RR, RB, RZ, RE, hl_7, h1_7, h2_7, h4_7, h6_7, h7_7, eq_false hge]
theorem s23 (a0 : GComplex) (a1 : Int)   {r : T2 GFiltered Int} (hF : F23 a0 a1 = some r) : ans A 23 [V.agg [V.int .i64 a0.Prime, V.isl (List.map Enc.enc a0.Dims), V.isl (List.map Enc.enc a0.Maps)], V.int .i64 a1] = some (EncR.enc r) := by
  refine ans_of (f := p23) rfl rfl rfl fun e hl he => ?_
  have h0_0 : e.at 0 = V.agg [V.int .i64 a0.Prime, V.isl (List.map Enc.enc a0.Dims), V.isl (List.map Enc.enc a0.Maps)] := he 0 _ rfl
  have h1_0 : e.at 1 = V.int .i64 a1 := he 1 _ rfl
  have hl_0 : e.length = 52 := hl
  clear he hl
  show W A b23 e ⟨[], 0⟩ _
  unfold F23 at hF
  obtain ⟨x1, gx1, hF⟩ := bS hF
  have w2 : ans A 39 [V.agg [V.int .i64 a0.Prime, V.isl (List.map Enc.enc a0.Dims), V.isl (List.map Enc.enc a0.Maps)]] = some (V.bool x1) := s39 a0  gx1
  cases x1 with
  | true =>
    rw [if_pos rfl] at hF
    obtain ⟨x3, gx3, hF⟩ := bS hF
    have w4 : ans A 54 [V.int .i64 a1, V.int .i64 0, V.int .i64 5] = some (V.bool x3) := s54 a1 0 5  gx3
    cases x3 with
    | true =>
      rw [if_pos rfl] at hF
      obtain ⟨x5, gx5, hF⟩ := bS hF
      have w6 : ans A 55 [V.agg [V.int .i64 a0.Prime, V.isl (List.map Enc.enc a0.Dims), V.isl (List.map Enc.enc a0.Maps)]] = some (V.agg [V.int .i64 x5.Prime, V.isl (List.map Enc.enc x5.Dims), V.isl (List.map Enc.enc x5.Maps)]) := s55 a0  gx5
      obtain ⟨⟨zo2_1, zq3_0_1, zq3_1_1, zq3_2_1⟩, gt24, hF⟩ := bS hF
      dsimp only at hF
      simp only [↓reduceIte, Nat.reduceAdd, Nat.reduceMul, Nat.reduceSub, Nat.reduceLT, Nat.reduceLeDiff, Nat.reduceEqDiff, Nat.reducePow, Int.reducePow, Int.reduceLE, Int.reduceLT, Int.reduceEq, Int.reduceToNat, reduceCtorEq, RR, RB, RZ, RE, opEv, fillV, mapO, mapS, b23, hl_0, h0_0, h1_0, w2, w4, w6]
      refine W.mono (l23_1 a0 a1   gt24 (Exists.intro _ ( Exists.intro _ ( And.intro rfl ?_)))) ?_
      · simp only [↓reduceIte, Nat.reduceAdd, Nat.reduceMul, Nat.reduceSub, Nat.reduceLT, Nat.reduceLeDiff, Nat.reduceEqDiff, Nat.reducePow, Int.reducePow, Int.reduceLE, Int.reduceLT, Int.reduceEq, Int.reduceToNat, reduceCtorEq, RR, RB, RZ, RE, hl_0, h0_0, h1_0, w2, w4, w6]
      rintro _ e _ ⟨rfl, u8, k9, rfl, hl_10, h4_10, h6_10⟩
      have hE := Option.some.inj hF; subst hE
      simp only [↓reduceIte, Nat.reduceAdd, Nat.reduceMul, Nat.reduceSub, Nat.reduceLT, Nat.reduceLeDiff, Nat.reduceEqDiff, Nat.reducePow, Int.reducePow, Int.reduceLE, Int.reduceLT, Int.reduceEq, Int.reduceToNat, reduceCtorEq, RR, RB, RZ, RE, opEv, fillV, mapO, mapS, hl_10, h4_10, h6_10]
      exact fin_ret (by simp only [↓reduceIte, Nat.reduceAdd, Nat.reduceMul, Nat.reduceSub, Nat.reduceLT, Nat.reduceLeDiff, Nat.reduceEqDiff, Nat.reducePow, Int.reducePow, Int.reduceLE, Int.reduceLT, Int.reduceEq, Int.reduceToNat, reduceCtorEq, RR, RB, RZ, RE, fn_out, p23, Rs.ev, mapO, mapS, take_len_self, hl_10, h4_10, h6_10, frzs (α := List Int) zo2_1, takes (α := List Int) zo2_1])
    | false =>
      rw [if_neg Bool.false_ne_true] at hF
      have hE := Option.some.inj hF; subst hE
      simp only [↓reduceIte, Nat.reduceAdd, Nat.reduceMul, Nat.reduceSub, Nat.reduceLT, Nat.reduceLeDiff, Nat.reduceEqDiff, Nat.reducePow, Int.reducePow, Int.reduceLE, Int.reduceLT, Int.reduceEq, Int.reduceToNat, reduceCtorEq, RR, RB, RZ, RE, opEv, fillV, mapO, mapS, b23, hl_0, h0_0, h1_0, w2, w4]
      exact fin_ret (by simp only [↓reduceIte, Nat.reduceAdd, Nat.reduceMul, Nat.reduceSub, Nat.reduceLT, Nat.reduceLeDiff, Nat.reduceEqDiff, Nat.reducePow, Int.reducePow, Int.reduceLE, Int.reduceLT, Int.reduceEq, Int.reduceToNat, reduceCtorEq, RR, RB, RZ, RE, fn_out, p23, Rs.ev, mapO, mapS, take_len_self, hl_0, h0_0, h1_0, w2, w4])
  | false =>
    rw [if_neg Bool.false_ne_true] at hF
    have hE := Option.some.inj hF; subst hE
    simp only [↓reduceIte, Nat.reduceAdd, Nat.reduceMul, Nat.reduceSub, Nat.reduceLT, Nat.reduceLeDiff, Nat.reduceEqDiff, Nat.reducePow, Int.reducePow, Int.reduceLE, Int.reduceLT, Int.reduceEq, Int.reduceToNat, reduceCtorEq, RR, RB, RZ, RE, opEv, fillV, mapO, mapS, b23, hl_0, h0_0, h1_0, w2]
    exact fin_ret (by simp only [↓reduceIte, Nat.reduceAdd, Nat.reduceMul, Nat.reduceSub, Nat.reduceLT, Nat.reduceLeDiff, Nat.reduceEqDiff, Nat.reducePow, Int.reducePow, Int.reduceLE, Int.reduceLT, Int.reduceEq, Int.reduceToNat, reduceCtorEq, RR, RB, RZ, RE, fn_out, p23, Rs.ev, mapO, mapS, take_len_self, hl_0, h0_0, h1_0, w2])
/-! loop.example/g01273/impl.between -/
def F56 (a0 : Int) (a1 : Int) (a2 : Int) : Option Bool :=
  if a1 ≤ a0 then
    some (decide (a0 ≤ a2))
  else
    some false
theorem s56 (a0 : Int) (a1 : Int) (a2 : Int)   {r : Bool} (hF : F56 a0 a1 a2 = some r) : ans A 56 [V.int .i64 a0, V.int .i64 a1, V.int .i64 a2] = some (Enc.enc r) := by
  refine ans_of (f := p56) rfl rfl rfl fun e hl he => ?_
  have h0_0 : e.at 0 = V.int .i64 a0 := he 0 _ rfl
  have h1_0 : e.at 1 = V.int .i64 a1 := he 1 _ rfl
  have h2_0 : e.at 2 = V.int .i64 a2 := he 2 _ rfl
  have hl_0 : e.length = 15 := hl
  clear he hl
  show W A b56 e ⟨[], 0⟩ _
  unfold F56 at hF
  by_cases c1 : a1 ≤ a0
  · rw [if_pos c1] at hF
    have hE := Option.some.inj hF; subst hE
    simp only [↓reduceIte, Nat.reduceAdd, Nat.reduceMul, Nat.reduceSub, Nat.reduceLT, Nat.reduceLeDiff, Nat.reduceEqDiff, Nat.reducePow, Int.reducePow, Int.reduceLE, Int.reduceLT, Int.reduceEq, Int.reduceToNat, reduceCtorEq, RR, RB, RZ, RE, opEv, fillV, mapO, mapS, b56, hl_0, h0_0, h1_0, h2_0, eq_true c1]
    exact fin_ret (by simp only [↓reduceIte, Nat.reduceAdd, Nat.reduceMul, Nat.reduceSub, Nat.reduceLT, Nat.reduceLeDiff, Nat.reduceEqDiff, Nat.reducePow, Int.reducePow, Int.reduceLE, Int.reduceLT, Int.reduceEq, Int.reduceToNat, reduceCtorEq, RR, RB, RZ, RE, fn_out, p56, Rs.ev, mapO, mapS, take_len_self, hl_0, h0_0, h1_0, h2_0, eq_true c1])
  · rw [if_neg c1] at hF
    have hE := Option.some.inj hF; subst hE
    simp only [↓reduceIte, Nat.reduceAdd, Nat.reduceMul, Nat.reduceSub, Nat.reduceLT, Nat.reduceLeDiff, Nat.reduceEqDiff, Nat.reducePow, Int.reducePow, Int.reduceLE, Int.reduceLT, Int.reduceEq, Int.reduceToNat, reduceCtorEq, RR, RB, RZ, RE, opEv, fillV, mapO, mapS, b56, hl_0, h0_0, h1_0, h2_0, eq_false c1]
    exact fin_ret (by simp only [↓reduceIte, Nat.reduceAdd, Nat.reduceMul, Nat.reduceSub, Nat.reduceLT, Nat.reduceLeDiff, Nat.reduceEqDiff, Nat.reducePow, Int.reducePow, Int.reduceLE, Int.reduceLT, Int.reduceEq, Int.reduceToNat, reduceCtorEq, RR, RB, RZ, RE, fn_out, p56, Rs.ev, mapO, mapS, take_len_self, hl_0, h0_0, h1_0, h2_0, eq_false c1])
/-! loop.example/g01273/impl.isPrime -/
def F67 (a0 : Int) : Option Bool :=
  if a0 = 2 then
    some true
  else
    if a0 = 3 then
      some true
    else
      if a0 = 5 then
        some true
      else
        some (decide (a0 = 7))
theorem s67 (a0 : Int)   {r : Bool} (hF : F67 a0 = some r) : ans A 67 [V.int .i64 a0] = some (Enc.enc r) := by
  refine ans_of (f := p67) rfl rfl rfl fun e hl he => ?_
  have h0_0 : e.at 0 = V.int .i64 a0 := he 0 _ rfl
  have hl_0 : e.length = 17 := hl
  clear he hl
  show W A b67 e ⟨[], 0⟩ _
  unfold F67 at hF
  by_cases c1 : a0 = 2
  · rw [if_pos c1] at hF
    have hE := Option.some.inj hF; subst hE
    simp only [↓reduceIte, Nat.reduceAdd, Nat.reduceMul, Nat.reduceSub, Nat.reduceLT, Nat.reduceLeDiff, Nat.reduceEqDiff, Nat.reducePow, Int.reducePow, Int.reduceLE, Int.reduceLT, Int.reduceEq, Int.reduceToNat, reduceCtorEq, RR, RB, RZ, RE, opEv, fillV, mapO, mapS, b67, hl_0, h0_0, eq_true c1]
    exact fin_ret (by simp only [↓reduceIte, Nat.reduceAdd, Nat.reduceMul, Nat.reduceSub, Nat.reduceLT, Nat.reduceLeDiff, Nat.reduceEqDiff, Nat.reducePow, Int.reducePow, Int.reduceLE, Int.reduceLT, Int.reduceEq, Int.reduceToNat, reduceCtorEq, RR, RB, RZ, RE, fn_out, p67, Rs.ev, mapO, mapS, take_len_self, hl_0, h0_0, eq_true c1])
  · rw [if_neg c1] at hF
    by_cases c2 : a0 = 3
    · rw [if_pos c2] at hF
      have hE := Option.some.inj hF; subst hE
      simp only [↓reduceIte, Nat.reduceAdd, Nat.reduceMul, Nat.reduceSub, Nat.reduceLT, Nat.reduceLeDiff, Nat.reduceEqDiff, Nat.reducePow, Int.reducePow, Int.reduceLE, Int.reduceLT, Int.reduceEq, Int.reduceToNat, reduceCtorEq, RR, RB, RZ, RE, opEv, fillV, mapO, mapS, b67, hl_0, h0_0, eq_false c1, eq_true c2]
      exact fin_ret (by simp only [↓reduceIte, Nat.reduceAdd, Nat.reduceMul, Nat.reduceSub, Nat.reduceLT, Nat.reduceLeDiff, Nat.reduceEqDiff, Nat.reducePow, Int.reducePow, Int.reduceLE, Int.reduceLT, Int.reduceEq, Int.reduceToNat, reduceCtorEq, RR, RB, RZ, RE, fn_out, p67, Rs.ev, mapO, mapS, take_len_self, hl_0, h0_0, eq_false c1, eq_true c2])
    · rw [if_neg c2] at hF
      by_cases c3 : a0 = 5
      · rw [if_pos c3] at hF
        have hE := Option.some.inj hF; subst hE
        simp only [↓reduceIte, Nat.reduceAdd, Nat.reduceMul, Nat.reduceSub, Nat.reduceLT, Nat.reduceLeDiff, Nat.reduceEqDiff, Nat.reducePow, Int.reducePow, Int.reduceLE, Int.reduceLT, Int.reduceEq, Int.reduceToNat, reduceCtorEq, RR, RB, RZ, RE, opEv, fillV, mapO, mapS, b67, hl_0, h0_0, eq_false c1, eq_false c2, eq_true c3]
        exact fin_ret (by simp only [↓reduceIte, Nat.reduceAdd, Nat.reduceMul, Nat.reduceSub, Nat.reduceLT, Nat.reduceLeDiff, Nat.reduceEqDiff, Nat.reducePow, Int.reducePow, Int.reduceLE, Int.reduceLT, Int.reduceEq, Int.reduceToNat, reduceCtorEq, RR, RB, RZ, RE, fn_out, p67, Rs.ev, mapO, mapS, take_len_self, hl_0, h0_0, eq_false c1, eq_false c2, eq_true c3])
      · rw [if_neg c3] at hF
        have hE := Option.some.inj hF; subst hE
        simp only [↓reduceIte, Nat.reduceAdd, Nat.reduceMul, Nat.reduceSub, Nat.reduceLT, Nat.reduceLeDiff, Nat.reduceEqDiff, Nat.reducePow, Int.reducePow, Int.reduceLE, Int.reduceLT, Int.reduceEq, Int.reduceToNat, reduceCtorEq, RR, RB, RZ, RE, opEv, fillV, mapO, mapS, b67, hl_0, h0_0, eq_false c1, eq_false c2, eq_false c3]
        exact fin_ret (by simp only [↓reduceIte, Nat.reduceAdd, Nat.reduceMul, Nat.reduceSub, Nat.reduceLT, Nat.reduceLeDiff, Nat.reduceEqDiff, Nat.reducePow, Int.reducePow, Int.reduceLE, Int.reduceLT, Int.reduceEq, Int.reduceToNat, reduceCtorEq, RR, RB, RZ, RE, fn_out, p67, Rs.ev, mapO, mapS, take_len_self, hl_0, h0_0, eq_false c1, eq_false c2, eq_false c3])
/-! slices.IndexFunc(()int64,int64) -/
def F115_1_B (a0 : List Int) (f1 : Int → Option Bool) (v8_1 : Int) (s : Unit) : Option ((Unit) ⊕ ((Unit) ⊕ Int)) :=
  (getI a0 v8_1).bind fun x4 =>
(f1 x4).bind fun x6 =>
if x6 = true then
  some (.inr (.inr v8_1))
else
  some (.inl ())
def F115_1_D (a0 : List Int) (f1 : Int → Option Bool) (v8_1 : Int) (s : Unit) : Option ((Unit) ⊕ Int) :=
  some (.inl ())
def F115 (a0 : List Int) (f1 : Int → Option Bool) : Option Int :=
  (forR 0 (a0.length : Int) (F115_1_B a0 f1) (F115_1_D a0 f1) ()).bind fun t8 => match t8 with
    | .inl _ =>
      some (-1)
    | .inr r9 => some r9
def I115_1 (a0 : List Int) (f1 : Int → Option Bool) (vf1 : V) (v8_1 : Int) (s : Unit) (e : Env) (h : Heap) : Prop :=
  ∃ k2 : Nat, h = ⟨[], k2⟩ ∧ e.length = 19 ∧ e.at 0 = V.isl (List.map Enc.enc a0) ∧ e.at 1 = vf1 ∧ e.at 7 = V.int .i64 (a0.length : Int) ∧ e.at 8 = V.int .i64 v8_1
def P115_1 (a0 : List Int) (f1 : Int → Option Bool) (vf1 : V) (t : (Unit) ⊕ Int) (x : Ex) (e : Env) (h : Heap) : Prop :=
  match t with
  | .inl _ => x = .normal ∧ ∃ k2 : Nat, h = ⟨[], k2⟩ ∧ e.length = 19
  | .inr r => x = .ret ∧ Fin p115 (Enc.enc r) .ret e h
theorem l115_1 (a0 : List Int) (f1 : Int → Option Bool) (vf1 : V) (hf1 : Clo1 A vf1 f1) {lo : Int} {s : Unit} {t : (Unit) ⊕ Int} (hF : forR lo (a0.length : Int) (F115_1_B a0 f1) (F115_1_D a0 f1) s = some t) {e : Env} {h : Heap} (hI : I115_1 a0 f1 vf1 lo s e h) : W A c115_1 e h (P115_1 a0 f1 vf1 t) := by
  obtain ⟨g_f1, fs_f1, cs_f1, hv_f1, hc_f1⟩ := id hf1
  show W A (.block 0 (.loop false b115_1)) e h _
  rw [W_block]
  refine W_forR hF 0 (by obtain ⟨_, rfl, _⟩ := hI; rfl) (I115_1 a0 f1 vf1) hI ?_ ?_
  · rintro v8_1 _ e h ⟨k2, rfl, hl_1, h0_1, h1_1, h7_1, h8_1⟩ hlt hw o ho
    unfold F115_1_B at ho
    obtain ⟨x4, gx4, ho⟩ := bS ho
    obtain ⟨w5a, w5b⟩ := getI_w gx4
    obtain ⟨x6, gx6, ho⟩ := bS ho
    have w7a : ∀ h, mapO (frz h 16) (fs_f1 ++ [V.int .i64 x4] ++ cs_f1) = some (fs_f1 ++ [V.int .i64 x4] ++ cs_f1) := fun h => hc_f1.zf x4 h
    have w7b : List.all (fs_f1 ++ [V.int .i64 x4] ++ cs_f1) (refless 16) = true := hc_f1.zr x4
    have w7c : ans A g_f1 (fs_f1 ++ [V.int .i64 x4] ++ cs_f1) = some (V.bool x6) := hc_f1.ka x4 _ gx6
    cases x6 with
    | true =>
      rw [if_pos rfl] at ho
      have hE := Option.some.inj ho; subst hE
      simp only [↓reduceIte, Nat.reduceAdd, Nat.reduceMul, Nat.reduceSub, Nat.reduceLT, Nat.reduceLeDiff, Nat.reduceEqDiff, Nat.reducePow, Int.reducePow, Int.reduceLE, Int.reduceLT, Int.reduceEq, Int.reduceToNat, reduceCtorEq, RR, RB, RZ, RE, opEv, fillV, mapO, mapS, b115_1, hl_1, h0_1, h1_1, h7_1, h8_1, eq_true hlt, hw, w5a, w5b, hv_f1, w7a, w7b, w7c]
      intro ht; subst ht
      simp only [↓reduceIte, Nat.reduceAdd, Nat.reduceMul, Nat.reduceSub, Nat.reduceLT, Nat.reduceLeDiff, Nat.reduceEqDiff, Nat.reducePow, Int.reducePow, Int.reduceLE, Int.reduceLT, Int.reduceEq, Int.reduceToNat, reduceCtorEq, RR, RB]
      exact And.intro rfl (fin_ret (by simp only [↓reduceIte, Nat.reduceAdd, Nat.reduceMul, Nat.reduceSub, Nat.reduceLT, Nat.reduceLeDiff, Nat.reduceEqDiff, Nat.reducePow, Int.reducePow, Int.reduceLE, Int.reduceLT, Int.reduceEq, Int.reduceToNat, reduceCtorEq, RR, RB, RZ, RE, fn_out, p115, Rs.ev, mapO, mapS, take_len_self, hl_1, h0_1, h1_1, h7_1, h8_1, eq_true hlt, hw, w5a, w5b, hv_f1, w7a, w7b, w7c]))
    | false =>
      rw [if_neg Bool.false_ne_true] at ho
      have hE := Option.some.inj ho; subst hE
      simp only [↓reduceIte, Nat.reduceAdd, Nat.reduceMul, Nat.reduceSub, Nat.reduceLT, Nat.reduceLeDiff, Nat.reduceEqDiff, Nat.reducePow, Int.reducePow, Int.reduceLE, Int.reduceLT, Int.reduceEq, Int.reduceToNat, reduceCtorEq, RR, RB, RZ, RE, opEv, fillV, mapO, mapS, b115_1, hl_1, h0_1, h1_1, h7_1, h8_1, eq_true hlt, hw, w5a, w5b, hv_f1, w7a, w7b, w7c]
      refine And.intro rfl (Exists.intro _ ( And.intro rfl ?_))
      simp only [↓reduceIte, Nat.reduceAdd, Nat.reduceMul, Nat.reduceSub, Nat.reduceLT, Nat.reduceLeDiff, Nat.reduceEqDiff, Nat.reducePow, Int.reducePow, Int.reduceLE, Int.reduceLT, Int.reduceEq, Int.reduceToNat, reduceCtorEq, RR, RB, RZ, RE, hl_1, h0_1, h1_1, h7_1, h8_1, eq_true hlt, hw, w5a, w5b, hv_f1, w7a, w7b, w7c]
  · rintro v8_1 _ e h ⟨k2, rfl, hl_1, h0_1, h1_1, h7_1, h8_1⟩ hge t1 ho
    unfold F115_1_D at ho
    have hE := Option.some.inj ho; subst hE
    simp only [↓reduceIte, Nat.reduceAdd, Nat.reduceMul, Nat.reduceSub, Nat.reduceLT, Nat.reduceLeDiff, Nat.reduceEqDiff, Nat.reducePow, Int.reducePow, Int.reduceLE, Int.reduceLT, Int.reduceEq, Int.reduceToNat, reduceCtorEq, RR, RB, RZ, RE, opEv, fillV, mapO, mapS, b115_1, hl_1, h0_1, h1_1, h7_1, h8_1, eq_false hge]
    intro ht; subst ht
    refine And.intro rfl (Exists.intro _ ( And.intro rfl ?_))
    simp only [↓reduceIte, Nat.reduceAdd, Nat.reduceMul, Nat.reduceSub, Nat.reduceLT, Nat.reduceLeDiff, Nat.reduceEqDiff, Nat.reducePow, Int.reducePow, Int.reduceLE, Int.reduceLT, Int.reduceEq, Int.reduceToNat, reduceCtorEq, RR, RB, RZ, RE, hl_1, h0_1, h1_1, h7_1, h8_1, eq_false hge]
theorem s115 (a0 : List Int) (f1 : Int → Option Bool) {vf1 : V} (hf1 : Clo1 A vf1 f1) {r : Int} (hF : F115 a0 f1 = some r) : ans A 115 [V.isl (List.map Enc.enc a0), vf1] = some (Enc.enc r) := by
  refine ans_of (f := p115) rfl rfl rfl fun e hl he => ?_
  have h0_0 : e.at 0 = V.isl (List.map Enc.enc a0) := he 0 _ rfl
  have h1_0 : e.at 1 = vf1 := he 1 _ rfl
  obtain ⟨g_f1, fs_f1, cs_f1, hv_f1, hc_f1⟩ := id hf1
  have hl_0 : e.length = 19 := hl
  clear he hl
  show W A b115 e ⟨[], 0⟩ _
  unfold F115 at hF
  obtain ⟨t8, gt8, hF⟩ := bS hF
  rcases t8 with _ | r9
  · dsimp only at hF
    simp only [↓reduceIte, Nat.reduceAdd, Nat.reduceMul, Nat.reduceSub, Nat.reduceLT, Nat.reduceLeDiff, Nat.reduceEqDiff, Nat.reducePow, Int.reducePow, Int.reduceLE, Int.reduceLT, Int.reduceEq, Int.reduceToNat, reduceCtorEq, RR, RB, RZ, RE, opEv, fillV, mapO, mapS, b115, hl_0, h0_0, h1_0]
    refine W.mono (l115_1 a0 f1 vf1 hf1 gt8 (Exists.intro _ ( And.intro rfl ?_))) ?_
    · simp only [↓reduceIte, Nat.reduceAdd, Nat.reduceMul, Nat.reduceSub, Nat.reduceLT, Nat.reduceLeDiff, Nat.reduceEqDiff, Nat.reducePow, Int.reducePow, Int.reduceLE, Int.reduceLT, Int.reduceEq, Int.reduceToNat, reduceCtorEq, RR, RB, RZ, RE, hl_0, h0_0, h1_0]
    rintro _ e _ ⟨rfl, k2, rfl, hl_3⟩
    have hE := Option.some.inj hF; subst hE
    simp only [↓reduceIte, Nat.reduceAdd, Nat.reduceMul, Nat.reduceSub, Nat.reduceLT, Nat.reduceLeDiff, Nat.reduceEqDiff, Nat.reducePow, Int.reducePow, Int.reduceLE, Int.reduceLT, Int.reduceEq, Int.reduceToNat, reduceCtorEq, RR, RB, RZ, RE, opEv, fillV, mapO, mapS, hl_3]
    exact fin_ret (by simp only [↓reduceIte, Nat.reduceAdd, Nat.reduceMul, Nat.reduceSub, Nat.reduceLT, Nat.reduceLeDiff, Nat.reduceEqDiff, Nat.reducePow, Int.reducePow, Int.reduceLE, Int.reduceLT, Int.reduceEq, Int.reduceToNat, reduceCtorEq, RR, RB, RZ, RE, fn_out, p115, Rs.ev, mapO, mapS, take_len_self, hl_3])
  · dsimp only at hF
    have hE := Option.some.inj hF; subst hE
    simp only [↓reduceIte, Nat.reduceAdd, Nat.reduceMul, Nat.reduceSub, Nat.reduceLT, Nat.reduceLeDiff, Nat.reduceEqDiff, Nat.reducePow, Int.reducePow, Int.reduceLE, Int.reduceLT, Int.reduceEq, Int.reduceToNat, reduceCtorEq, RR, RB, RZ, RE, opEv, fillV, mapO, mapS, b115, hl_0, h0_0, h1_0]
    refine W.mono (l115_1 a0 f1 vf1 hf1 gt8 (Exists.intro _ ( And.intro rfl ?_))) ?_
    · simp only [↓reduceIte, Nat.reduceAdd, Nat.reduceMul, Nat.reduceSub, Nat.reduceLT, Nat.reduceLeDiff, Nat.reduceEqDiff, Nat.reducePow, Int.reducePow, Int.reduceLE, Int.reduceLT, Int.reduceEq, Int.reduceToNat, reduceCtorEq, RR, RB, RZ, RE, hl_0, h0_0, h1_0]
    rintro _ e h ⟨rfl, hq⟩
    simp only [↓reduceIte, Nat.reduceAdd, Nat.reduceMul, Nat.reduceSub, Nat.reduceLT, Nat.reduceLeDiff, Nat.reduceEqDiff, Nat.reducePow, Int.reducePow, Int.reduceLE, Int.reduceLT, Int.reduceEq, Int.reduceToNat, reduceCtorEq, RR, RB]
    exact hq
/-! slices.ContainsFunc(()int64,int64) -/
def F82 (a0 : List Int) (f1 : Int → Option Bool) : Option Bool :=
  (F115 a0 f1).bind fun x1 =>
  some (decide (0 ≤ x1))
theorem s82 (a0 : List Int) (f1 : Int → Option Bool) {vf1 : V} (hf1 : Clo1 A vf1 f1) {r : Bool} (hF : F82 a0 f1 = some r) : ans A 82 [V.isl (List.map Enc.enc a0), vf1] = some (Enc.enc r) := by
  refine ans_of (f := p82) rfl rfl rfl fun e hl he => ?_
  have h0_0 : e.at 0 = V.isl (List.map Enc.enc a0) := he 0 _ rfl
  have h1_0 : e.at 1 = vf1 := he 1 _ rfl
  obtain ⟨g_f1, fs_f1, cs_f1, hv_f1, hc_f1⟩ := id hf1
  have hl_0 : e.length = 9 := hl
  clear he hl
  show W A b82 e ⟨[], 0⟩ _
  unfold F82 at hF
  obtain ⟨x1, gx1, hF⟩ := bS hF
  have w2 : ans A 115 [V.isl (List.map Enc.enc a0), vf1] = some (V.int .i64 x1) := s115 a0 f1 hf1 gx1
  have hE := Option.some.inj hF; subst hE
  simp only [↓reduceIte, Nat.reduceAdd, Nat.reduceMul, Nat.reduceSub, Nat.reduceLT, Nat.reduceLeDiff, Nat.reduceEqDiff, Nat.reducePow, Int.reducePow, Int.reduceLE, Int.reduceLT, Int.reduceEq, Int.reduceToNat, reduceCtorEq, RR, RB, RZ, RE, opEv, fillV, mapO, mapS, b82, hl_0, h0_0, h1_0, hf1.fz, hf1.rl, w2]
  exact fin_ret (by simp only [↓reduceIte, Nat.reduceAdd, Nat.reduceMul, Nat.reduceSub, Nat.reduceLT, Nat.reduceLeDiff, Nat.reduceEqDiff, Nat.reducePow, Int.reducePow, Int.reduceLE, Int.reduceLT, Int.reduceEq, Int.reduceToNat, reduceCtorEq, RR, RB, RZ, RE, fn_out, p82, Rs.ev, mapO, mapS, take_len_self, hl_0, h0_0, h1_0, hf1.fz, hf1.rl, w2])
/-! loop.example/g01273/impl.size(int64) -/
def F73 (a0 : List Int) : Option Int :=
  some (a0.length : Int)
theorem s73 (a0 : List Int)   {r : Int} (hF : F73 a0 = some r) : ans A 73 [V.isl (List.map Enc.enc a0)] = some (Enc.enc r) := by
  refine ans_of (f := p73) rfl rfl rfl fun e hl he => ?_
  have h0_0 : e.at 0 = V.isl (List.map Enc.enc a0) := he 0 _ rfl
  have hl_0 : e.length = 5 := hl
  clear he hl
  show W A b73 e ⟨[], 0⟩ _
  unfold F73 at hF
  have hE := Option.some.inj hF; subst hE
  simp only [↓reduceIte, Nat.reduceAdd, Nat.reduceMul, Nat.reduceSub, Nat.reduceLT, Nat.reduceLeDiff, Nat.reduceEqDiff, Nat.reducePow, Int.reducePow, Int.reduceLE, Int.reduceLT, Int.reduceEq, Int.reduceToNat, reduceCtorEq, RR, RB, RZ, RE, opEv, fillV, mapO, mapS, b73, hl_0, h0_0]
  exact fin_ret (by simp only [↓reduceIte, Nat.reduceAdd, Nat.reduceMul, Nat.reduceSub, Nat.reduceLT, Nat.reduceLeDiff, Nat.reduceEqDiff, Nat.reducePow, Int.reducePow, Int.reduceLE, Int.reduceLT, Int.reduceEq, Int.reduceToNat, reduceCtorEq, RR, RB, RZ, RE, fn_out, p73, Rs.ev, mapO, mapS, take_len_self, hl_0, h0_0])
/-! (loop.example/g01273/impl.Complex).top -/
def F86 (a0 : GComplex) : Option Int :=
  (chk ((a0.Dims.length : Int) - 1)).bind fun x3 =>
  some x3
theorem s86 (a0 : GComplex)   {r : Int} (hF : F86 a0 = some r) : ans A 86 [V.agg [V.int .i64 a0.Prime, V.isl (List.map Enc.enc a0.Dims), V.isl (List.map Enc.enc a0.Maps)]] = some (Enc.enc r) := by
  refine ans_of (f := p86) rfl rfl rfl fun e hl he => ?_
  have h0_0 : e.at 0 = V.agg [V.int .i64 a0.Prime, V.isl (List.map Enc.enc a0.Dims), V.isl (List.map Enc.enc a0.Maps)] := he 0 _ rfl
  have hl_0 : e.length = 7 := hl
  clear he hl
  show W A b86 e ⟨[], 0⟩ _
  unfold F86 at hF
  have w2 : ans A 73 [V.isl (List.map Enc.enc a0.Dims)] = some (V.int .i64 (a0.Dims.length : Int)) := s73 a0.Dims  rfl
  obtain ⟨x3, gx3, hF⟩ := bS hF
  have wx3 := chk_w gx3
  have hE := Option.some.inj hF; subst hE
  simp only [↓reduceIte, Nat.reduceAdd, Nat.reduceMul, Nat.reduceSub, Nat.reduceLT, Nat.reduceLeDiff, Nat.reduceEqDiff, Nat.reducePow, Int.reducePow, Int.reduceLE, Int.reduceLT, Int.reduceEq, Int.reduceToNat, reduceCtorEq, RR, RB, RZ, RE, opEv, fillV, mapO, mapS, b86, hl_0, h0_0, w2, wx3]
  exact fin_ret (by simp only [↓reduceIte, Nat.reduceAdd, Nat.reduceMul, Nat.reduceSub, Nat.reduceLT, Nat.reduceLeDiff, Nat.reduceEqDiff, Nat.reducePow, Int.reducePow, Int.reduceLE, Int.reduceLT, Int.reduceEq, Int.reduceToNat, reduceCtorEq, RR, RB, RZ, RE, fn_out, p86, Rs.ev, mapO, mapS, take_len_self, hl_0, h0_0, w2, wx3])
/-! loop.example/g01273/impl.size(()()int64) -/
def F87 (a0 : List (List (List Int))) : Option Int :=
  some (a0.length : Int)
theorem s87 (a0 : List (List (List Int)))   {r : Int} (hF : F87 a0 = some r) : ans A 87 [V.isl (List.map Enc.enc a0)] = some (Enc.enc r) := by
  refine ans_of (f := p87) rfl rfl rfl fun e hl he => ?_
  have h0_0 : e.at 0 = V.isl (List.map Enc.enc a0) := he 0 _ rfl
  have hl_0 : e.length = 5 := hl
  clear he hl
  show W A b87 e ⟨[], 0⟩ _
  unfold F87 at hF
  have hE := Option.some.inj hF; subst hE
  simp only [↓reduceIte, Nat.reduceAdd, Nat.reduceMul, Nat.reduceSub, Nat.reduceLT, Nat.reduceLeDiff, Nat.reduceEqDiff, Nat.reducePow, Int.reducePow, Int.reduceLE, Int.reduceLT, Int.reduceEq, Int.reduceToNat, reduceCtorEq, RR, RB, RZ, RE, opEv, fillV, mapO, mapS, b87, hl_0, h0_0]
  exact fin_ret (by simp only [↓reduceIte, Nat.reduceAdd, Nat.reduceMul, Nat.reduceSub, Nat.reduceLT, Nat.reduceLeDiff, Nat.reduceEqDiff, Nat.reducePow, Int.reducePow, Int.reduceLE, Int.reduceLT, Int.reduceEq, Int.reduceToNat, reduceCtorEq, RR, RB, RZ, RE, fn_out, p87, Rs.ev, mapO, mapS, take_len_self, hl_0, h0_0])
/-! loop.example/g01273/impl.IsComplex$1 -/
def F88 (a0 : Int) : Option Bool :=
  (F56 a0 0 8).bind fun x1 =>
  some (!x1)
theorem s88 (a0 : Int)   {r : Bool} (hF : F88 a0 = some r) : ans A 88 [V.int .i64 a0] = some (Enc.enc r) := by
  refine ans_of (f := p88) rfl rfl rfl fun e hl he => ?_
  have h0_0 : e.at 0 = V.int .i64 a0 := he 0 _ rfl
  have hl_0 : e.length = 6 := hl
  clear he hl
  show W A b88 e ⟨[], 0⟩ _
  unfold F88 at hF
  obtain ⟨x1, gx1, hF⟩ := bS hF
  have w2 : ans A 56 [V.int .i64 a0, V.int .i64 0, V.int .i64 8] = some (V.bool x1) := s56 a0 0 8  gx1
  have hE := Option.some.inj hF; subst hE
  simp only [↓reduceIte, Nat.reduceAdd, Nat.reduceMul, Nat.reduceSub, Nat.reduceLT, Nat.reduceLeDiff, Nat.reduceEqDiff, Nat.reducePow, Int.reducePow, Int.reduceLE, Int.reduceLT, Int.reduceEq, Int.reduceToNat, reduceCtorEq, RR, RB, RZ, RE, opEv, fillV, mapO, mapS, b88, hl_0, h0_0, w2]
  exact fin_ret (by simp only [↓reduceIte, Nat.reduceAdd, Nat.reduceMul, Nat.reduceSub, Nat.reduceLT, Nat.reduceLeDiff, Nat.reduceEqDiff, Nat.reducePow, Int.reducePow, Int.reduceLE, Int.reduceLT, Int.reduceEq, Int.reduceToNat, reduceCtorEq, RR, RB, RZ, RE, fn_out, p88, Rs.ev, mapO, mapS, take_len_self, hl_0, h0_0, w2])
/-! loop.example/g01273/impl.size(()int64) -/
def F89 (a0 : List (List Int)) : Option Int :=
  some (a0.length : Int)
theorem s89 (a0 : List (List Int))   {r : Int} (hF : F89 a0 = some r) : ans A 89 [V.isl (List.map Enc.enc a0)] = some (Enc.enc r) := by
  refine ans_of (f := p89) rfl rfl rfl fun e hl he => ?_
  have h0_0 : e.at 0 = V.isl (List.map Enc.enc a0) := he 0 _ rfl
  have hl_0 : e.length = 5 := hl
  clear he hl
  show W A b89 e ⟨[], 0⟩ _
  unfold F89 at hF
  have hE := Option.some.inj hF; subst hE
  simp only [↓reduceIte, Nat.reduceAdd, Nat.reduceMul, Nat.reduceSub, Nat.reduceLT, Nat.reduceLeDiff, Nat.reduceEqDiff, Nat.reducePow, Int.reducePow, Int.reduceLE, Int.reduceLT, Int.reduceEq, Int.reduceToNat, reduceCtorEq, RR, RB, RZ, RE, opEv, fillV, mapO, mapS, b89, hl_0, h0_0]
  exact fin_ret (by simp only [↓reduceIte, Nat.reduceAdd, Nat.reduceMul, Nat.reduceSub, Nat.reduceLT, Nat.reduceLeDiff, Nat.reduceEqDiff, Nat.reducePow, Int.reducePow, Int.reduceLE, Int.reduceLT, Int.reduceEq, Int.reduceToNat, reduceCtorEq, RR, RB, RZ, RE, fn_out, p89, Rs.ev, mapO, mapS, take_len_self, hl_0, h0_0])
/-! loop.example/g01273/impl.isVector$1 -/
def F130 (a0 : Int) (d0 : Int) : Option Bool :=
  (chk (d0 - 1)).bind fun x1 =>
  (F56 a0 0 x1).bind fun x2 =>
  some (!x2)
theorem s130 (a0 : Int) (d0 : Int)   {r : Bool} (hF : F130 a0 d0 = some r) : ans A 130 [V.int .i64 a0, V.iptr [V.int .i64 d0]] = some (Enc.enc r) := by
  refine ans_of (f := p130) rfl rfl rfl fun e hl he => ?_
  have h0_0 : e.at 0 = V.int .i64 a0 := he 0 _ rfl
  have h1_0 : e.at 1 = V.iptr [V.int .i64 d0] := he 1 _ rfl
  have hl_0 : e.length = 9 := hl
  clear he hl
  show W A b130 e ⟨[], 0⟩ _
  unfold F130 at hF
  obtain ⟨x1, gx1, hF⟩ := bS hF
  have wx1 := chk_w gx1
  obtain ⟨x2, gx2, hF⟩ := bS hF
  have w3 : ans A 56 [V.int .i64 a0, V.int .i64 0, V.int .i64 x1] = some (V.bool x2) := s56 a0 0 x1  gx2
  have hE := Option.some.inj hF; subst hE
  simp only [↓reduceIte, Nat.reduceAdd, Nat.reduceMul, Nat.reduceSub, Nat.reduceLT, Nat.reduceLeDiff, Nat.reduceEqDiff, Nat.reducePow, Int.reducePow, Int.reduceLE, Int.reduceLT, Int.reduceEq, Int.reduceToNat, reduceCtorEq, RR, RB, RZ, RE, opEv, fillV, mapO, mapS, b130, hl_0, h0_0, h1_0, wx1, w3]
  exact fin_ret (by simp only [↓reduceIte, Nat.reduceAdd, Nat.reduceMul, Nat.reduceSub, Nat.reduceLT, Nat.reduceLeDiff, Nat.reduceEqDiff, Nat.reducePow, Int.reducePow, Int.reduceLE, Int.reduceLT, Int.reduceEq, Int.reduceToNat, reduceCtorEq, RR, RB, RZ, RE, fn_out, p130, Rs.ev, mapO, mapS, take_len_self, hl_0, h0_0, h1_0, wx1, w3])
/-! loop.example/g01273/impl.isVector -/
def F129 (a0 : Int) (a1 : Int) (a2 : List Int) : Option Bool :=
  if (a2.length : Int) = a1 then
    (F82 a2 (fun x => F130 x a0)).bind fun x4 =>
    some (!x4)
  else
    some false
theorem s129 (a0 : Int) (a1 : Int) (a2 : List Int)   {r : Bool} (hF : F129 a0 a1 a2 = some r) : ans A 129 [V.int .i64 a0, V.int .i64 a1, V.isl (List.map Enc.enc a2)] = some (Enc.enc r) := by
  refine ans_of (f := p129) rfl rfl rfl fun e hl he => ?_
  have h0_0 : e.at 0 = V.int .i64 a0 := he 0 _ rfl
  have h1_0 : e.at 1 = V.int .i64 a1 := he 1 _ rfl
  have h2_0 : e.at 2 = V.isl (List.map Enc.enc a2) := he 2 _ rfl
  have hl_0 : e.length = 17 := hl
  clear he hl
  show W A b129 e ⟨[], 0⟩ _
  unfold F129 at hF
  have w2 : ans A 73 [V.isl (List.map Enc.enc a2)] = some (V.int .i64 (a2.length : Int)) := s73 a2  rfl
  by_cases c3 : (a2.length : Int) = a1
  · rw [if_pos c3] at hF
    obtain ⟨x4, gx4, hF⟩ := bS hF
    have w5 : ans A 82 [V.isl (List.map Enc.enc a2), V.fn 130 [] [V.iptr [V.int .i64 a0]]] = some (V.bool x4) := s82 a2 (fun x => F130 x a0) (Clo1.of (by intro h f; simp only [RZ, mapO]) (by intro h f; simp only [RZ, mapO]) (by intro f; simp only [RZ, RB]) (by intro f; simp only [RZ, RB]) (fun x _ hr => s130 x a0 hr)) gx4
    have hE := Option.some.inj hF; subst hE
    simp only [↓reduceIte, Nat.reduceAdd, Nat.reduceMul, Nat.reduceSub, Nat.reduceLT, Nat.reduceLeDiff, Nat.reduceEqDiff, Nat.reducePow, Int.reducePow, Int.reduceLE, Int.reduceLT, Int.reduceEq, Int.reduceToNat, reduceCtorEq, RR, RB, RZ, RE, opEv, fillV, mapO, mapS, b129, hl_0, h0_0, h1_0, h2_0, w2, eq_true c3, w5]
    exact fin_ret (by simp only [↓reduceIte, Nat.reduceAdd, Nat.reduceMul, Nat.reduceSub, Nat.reduceLT, Nat.reduceLeDiff, Nat.reduceEqDiff, Nat.reducePow, Int.reducePow, Int.reduceLE, Int.reduceLT, Int.reduceEq, Int.reduceToNat, reduceCtorEq, RR, RB, RZ, RE, fn_out, p129, Rs.ev, mapO, mapS, take_len_self, hl_0, h0_0, h1_0, h2_0, w2, eq_true c3, w5])
  · rw [if_neg c3] at hF
    have hE := Option.some.inj hF; subst hE
    simp only [↓reduceIte, Nat.reduceAdd, Nat.reduceMul, Nat.reduceSub, Nat.reduceLT, Nat.reduceLeDiff, Nat.reduceEqDiff, Nat.reducePow, Int.reducePow, Int.reduceLE, Int.reduceLT, Int.reduceEq, Int.reduceToNat, reduceCtorEq, RR, RB, RZ, RE, opEv, fillV, mapO, mapS, b129, hl_0, h0_0, h1_0, h2_0, w2, eq_false c3]
    exact fin_ret (by simp only [↓reduceIte, Nat.reduceAdd, Nat.reduceMul, Nat.reduceSub, Nat.reduceLT, Nat.reduceLeDiff, Nat.reduceEqDiff, Nat.reducePow, Int.reducePow, Int.reduceLE, Int.reduceLT, Int.reduceEq, Int.reduceToNat, reduceCtorEq, RR, RB, RZ, RE, fn_out, p129, Rs.ev, mapO, mapS, take_len_self, hl_0, h0_0, h1_0, h2_0, w2, eq_false c3])
/-! loop.example/g01273/impl.areRows$1 -/
def F116 (a0 : List Int) (d0 : Int) (d1 : Int) : Option Bool :=
  (F129 d0 d1 a0).bind fun x1 =>
  some (!x1)
theorem s116 (a0 : List Int) (d0 : Int) (d1 : Int)   {r : Bool} (hF : F116 a0 d0 d1 = some r) : ans A 116 [V.isl (List.map Enc.enc a0), V.iptr [V.int .i64 d0], V.iptr [V.int .i64 d1]] = some (Enc.enc r) := by
  refine ans_of (f := p116) rfl rfl rfl fun e hl he => ?_
  have h0_0 : e.at 0 = V.isl (List.map Enc.enc a0) := he 0 _ rfl
  have h1_0 : e.at 1 = V.iptr [V.int .i64 d0] := he 1 _ rfl
  have h2_0 : e.at 2 = V.iptr [V.int .i64 d1] := he 2 _ rfl
  have hl_0 : e.length = 10 := hl
  clear he hl
  show W A b116 e ⟨[], 0⟩ _
  unfold F116 at hF
  obtain ⟨x1, gx1, hF⟩ := bS hF
  have w2 : ans A 129 [V.int .i64 d0, V.int .i64 d1, V.isl (List.map Enc.enc a0)] = some (V.bool x1) := s129 d0 d1 a0  gx1
  have hE := Option.some.inj hF; subst hE
  simp only [↓reduceIte, Nat.reduceAdd, Nat.reduceMul, Nat.reduceSub, Nat.reduceLT, Nat.reduceLeDiff, Nat.reduceEqDiff, Nat.reducePow, Int.reducePow, Int.reduceLE, Int.reduceLT, Int.reduceEq, Int.reduceToNat, reduceCtorEq, RR, RB, RZ, RE, opEv, fillV, mapO, mapS, b116, hl_0, h0_0, h1_0, h2_0, w2]
  exact fin_ret (by simp only [↓reduceIte, Nat.reduceAdd, Nat.reduceMul, Nat.reduceSub, Nat.reduceLT, Nat.reduceLeDiff, Nat.reduceEqDiff, Nat.reducePow, Int.reducePow, Int.reduceLE, Int.reduceLT, Int.reduceEq, Int.reduceToNat, reduceCtorEq, RR, RB, RZ, RE, fn_out, p116, Rs.ev, mapO, mapS, take_len_self, hl_0, h0_0, h1_0, h2_0, w2])
/-! slices.IndexFunc(()()int64,()int64) -/
def F128_1_B (a0 : List (List Int)) (f1 : (List Int) → Option Bool) (v8_1 : Int) (s : Unit) : Option ((Unit) ⊕ ((Unit) ⊕ Int)) :=
  (getI a0 v8_1).bind fun x4 =>
(f1 x4).bind fun x6 =>
if x6 = true then
  some (.inr (.inr v8_1))
else
  some (.inl ())
def F128_1_D (a0 : List (List Int)) (f1 : (List Int) → Option Bool) (v8_1 : Int) (s : Unit) : Option ((Unit) ⊕ Int) :=
  some (.inl ())
def F128 (a0 : List (List Int)) (f1 : (List Int) → Option Bool) : Option Int :=
  (forR 0 (a0.length : Int) (F128_1_B a0 f1) (F128_1_D a0 f1) ()).bind fun t8 => match t8 with
    | .inl _ =>
      some (-1)
    | .inr r9 => some r9
def I128_1 (a0 : List (List Int)) (f1 : (List Int) → Option Bool) (vf1 : V) (v8_1 : Int) (s : Unit) (e : Env) (h : Heap) : Prop :=
  ∃ k2 : Nat, h = ⟨[], k2⟩ ∧ e.length = 19 ∧ e.at 0 = V.isl (List.map Enc.enc a0) ∧ e.at 1 = vf1 ∧ e.at 7 = V.int .i64 (a0.length : Int) ∧ e.at 8 = V.int .i64 v8_1
def P128_1 (a0 : List (List Int)) (f1 : (List Int) → Option Bool) (vf1 : V) (t : (Unit) ⊕ Int) (x : Ex) (e : Env) (h : Heap) : Prop :=
  match t with
  | .inl _ => x = .normal ∧ ∃ k2 : Nat, h = ⟨[], k2⟩ ∧ e.length = 19
  | .inr r => x = .ret ∧ Fin p128 (Enc.enc r) .ret e h
theorem l128_1 (a0 : List (List Int)) (f1 : (List Int) → Option Bool) (vf1 : V) (hf1 : Clo1 A vf1 f1) {lo : Int} {s : Unit} {t : (Unit) ⊕ Int} (hF : forR lo (a0.length : Int) (F128_1_B a0 f1) (F128_1_D a0 f1) s = some t) {e : Env} {h : Heap} (hI : I128_1 a0 f1 vf1 lo s e h) : W A c128_1 e h (P128_1 a0 f1 vf1 t) := by
  obtain ⟨g_f1, fs_f1, cs_f1, hv_f1, hc_f1⟩ := id hf1
  show W A (.block 0 (.loop false b128_1)) e h _
  rw [W_block]
  refine W_forR hF 0 (by obtain ⟨_, rfl, _⟩ := hI; rfl) (I128_1 a0 f1 vf1) hI ?_ ?_
  · rintro v8_1 _ e h ⟨k2, rfl, hl_1, h0_1, h1_1, h7_1, h8_1⟩ hlt hw o ho
    unfold F128_1_B at ho
    obtain ⟨x4, gx4, ho⟩ := bS ho
    obtain ⟨w5a, w5b⟩ := getI_w gx4
    obtain ⟨x6, gx6, ho⟩ := bS ho
    have w7a : ∀ h, mapO (frz h 16) (fs_f1 ++ [V.isl (List.map Enc.enc x4)] ++ cs_f1) = some (fs_f1 ++ [V.isl (List.map Enc.enc x4)] ++ cs_f1) := fun h => hc_f1.zf x4 h
    have w7b : List.all (fs_f1 ++ [V.isl (List.map Enc.enc x4)] ++ cs_f1) (refless 16) = true := hc_f1.zr x4
    have w7c : ans A g_f1 (fs_f1 ++ [V.isl (List.map Enc.enc x4)] ++ cs_f1) = some (V.bool x6) := hc_f1.ka x4 _ gx6
    cases x6 with
    | true =>
      rw [if_pos rfl] at ho
      have hE := Option.some.inj ho; subst hE
      simp only [↓reduceIte, Nat.reduceAdd, Nat.reduceMul, Nat.reduceSub, Nat.reduceLT, Nat.reduceLeDiff, Nat.reduceEqDiff, Nat.reducePow, Int.reducePow, Int.reduceLE, Int.reduceLT, Int.reduceEq, Int.reduceToNat, reduceCtorEq, RR, RB, RZ, RE, opEv, fillV, mapO, mapS, b128_1, hl_1, h0_1, h1_1, h7_1, h8_1, eq_true hlt, hw, w5a, w5b, hv_f1, w7a, w7b, w7c]
      intro ht; subst ht
      simp only [↓reduceIte, Nat.reduceAdd, Nat.reduceMul, Nat.reduceSub, Nat.reduceLT, Nat.reduceLeDiff, Nat.reduceEqDiff, Nat.reducePow, Int.reducePow, Int.reduceLE, Int.reduceLT, Int.reduceEq, Int.reduceToNat, reduceCtorEq, RR, RB]
      exact And.intro rfl (fin_ret (by simp only [↓reduceIte, Nat.reduceAdd, Nat.reduceMul, Nat.reduceSub, Nat.reduceLT, Nat.reduceLeDiff, Nat.reduceEqDiff, Nat.reducePow, Int.reducePow, Int.reduceLE, Int.reduceLT, Int.reduceEq, Int.reduceToNat, reduceCtorEq, RR, RB, RZ, RE, fn_out, p128, Rs.ev, mapO, mapS, take_len_self, hl_1, h0_1, h1_1, h7_1, h8_1, eq_true hlt, hw, w5a, w5b, hv_f1, w7a, w7b, w7c]))
    | false =>
      rw [if_neg Bool.false_ne_true] at ho
      have hE := Option.some.inj ho; subst hE
      simp only [↓reduceIte, Nat.reduceAdd, Nat.reduceMul, Nat.reduceSub, Nat.reduceLT, Nat.reduceLeDiff, Nat.reduceEqDiff, Nat.reducePow, Int.reducePow, Int.reduceLE, Int.reduceLT, Int.reduceEq, Int.reduceToNat, reduceCtorEq, RR, RB, RZ, RE, opEv, fillV, mapO, mapS, b128_1, hl_1, h0_1, h1_1, h7_1, h8_1, eq_true hlt, hw, w5a, w5b, hv_f1, w7a, w7b, w7c]
      refine And.intro rfl (Exists.intro _ ( And.intro rfl ?_))
      simp only [↓reduceIte, Nat.reduceAdd, Nat.reduceMul, Nat.reduceSub, Nat.reduceLT, Nat.reduceLeDiff, Nat.reduceEqDiff, Nat.reducePow, Int.reducePow, Int.reduceLE, Int.reduceLT, Int.reduceEq, Int.reduceToNat, reduceCtorEq, RR, RB, RZ, RE, hl_1, h0_1, h1_1, h7_1, h8_1, eq_true hlt, hw, w5a, w5b, hv_f1, w7a, w7b, w7c]
  · rintro v8_1 _ e h ⟨k2, rfl, hl_1, h0_1, h1_1, h7_1, h8_1⟩ hge t1 ho
    unfold F128_1_D at ho
    have hE := Option.some.inj ho; subst hE
    simp only [↓reduceIte, Nat.reduceAdd, Nat.reduceMul, Nat.reduceSub, Nat.reduceLT, Nat.reduceLeDiff, Nat.reduceEqDiff, Nat.reducePow, Int.reducePow, Int.reduceLE, Int.reduceLT, Int.reduceEq, Int.reduceToNat, reduceCtorEq, RR, RB, RZ, RE, opEv, fillV, mapO, mapS, b128_1, hl_1, h0_1, h1_1, h7_1, h8_1, eq_false hge]
    intro ht; subst ht
    refine And.intro rfl (Exists.intro _ ( And.intro rfl ?_))
    simp only [↓reduceIte, Nat.reduceAdd, Nat.reduceMul, Nat.reduceSub, Nat.reduceLT, Nat.reduceLeDiff, Nat.reduceEqDiff, Nat.reducePow, Int.reducePow, Int.reduceLE, Int.reduceLT, Int.reduceEq, Int.reduceToNat, reduceCtorEq, RR, RB, RZ, RE, hl_1, h0_1, h1_1, h7_1, h8_1, eq_false hge]
theorem s128 (a0 : List (List Int)) (f1 : (List Int) → Option Bool) {vf1 : V} (hf1 : Clo1 A vf1 f1) {r : Int} (hF : F128 a0 f1 = some r) : ans A 128 [V.isl (List.map Enc.enc a0), vf1] = some (Enc.enc r) := by
  refine ans_of (f := p128) rfl rfl rfl fun e hl he => ?_
  have h0_0 : e.at 0 = V.isl (List.map Enc.enc a0) := he 0 _ rfl
  have h1_0 : e.at 1 = vf1 := he 1 _ rfl
  obtain ⟨g_f1, fs_f1, cs_f1, hv_f1, hc_f1⟩ := id hf1
  have hl_0 : e.length = 19 := hl
  clear he hl
  show W A b128 e ⟨[], 0⟩ _
  unfold F128 at hF
  obtain ⟨t8, gt8, hF⟩ := bS hF
  rcases t8 with _ | r9
  · dsimp only at hF
    simp only [↓reduceIte, Nat.reduceAdd, Nat.reduceMul, Nat.reduceSub, Nat.reduceLT, Nat.reduceLeDiff, Nat.reduceEqDiff, Nat.reducePow, Int.reducePow, Int.reduceLE, Int.reduceLT, Int.reduceEq, Int.reduceToNat, reduceCtorEq, RR, RB, RZ, RE, opEv, fillV, mapO, mapS, b128, hl_0, h0_0, h1_0]
    refine W.mono (l128_1 a0 f1 vf1 hf1 gt8 (Exists.intro _ ( And.intro rfl ?_))) ?_
    · simp only [↓reduceIte, Nat.reduceAdd, Nat.reduceMul, Nat.reduceSub, Nat.reduceLT, Nat.reduceLeDiff, Nat.reduceEqDiff, Nat.reducePow, Int.reducePow, Int.reduceLE, Int.reduceLT, Int.reduceEq, Int.reduceToNat, reduceCtorEq, RR, RB, RZ, RE, hl_0, h0_0, h1_0]
    rintro _ e _ ⟨rfl, k2, rfl, hl_3⟩
    have hE := Option.some.inj hF; subst hE
    simp only [↓reduceIte, Nat.reduceAdd, Nat.reduceMul, Nat.reduceSub, Nat.reduceLT, Nat.reduceLeDiff, Nat.reduceEqDiff, Nat.reducePow, Int.reducePow, Int.reduceLE, Int.reduceLT, Int.reduceEq, Int.reduceToNat, reduceCtorEq, RR, RB, RZ, RE, opEv, fillV, mapO, mapS, hl_3]
    exact fin_ret (by simp only [↓reduceIte, Nat.reduceAdd, Nat.reduceMul, Nat.reduceSub, Nat.reduceLT, Nat.reduceLeDiff, Nat.reduceEqDiff, Nat.reducePow, Int.reducePow, Int.reduceLE, Int.reduceLT, Int.reduceEq, Int.reduceToNat, reduceCtorEq, RR, RB, RZ, RE, fn_out, p128, Rs.ev, mapO, mapS, take_len_self, hl_3])
  · dsimp only at hF
    have hE := Option.some.inj hF; subst hE
    simp only [↓reduceIte, Nat.reduceAdd, Nat.reduceMul, Nat.reduceSub, Nat.reduceLT, Nat.reduceLeDiff, Nat.reduceEqDiff, Nat.reducePow, Int.reducePow, Int.reduceLE, Int.reduceLT, Int.reduceEq, Int.reduceToNat, reduceCtorEq, RR, RB, RZ, RE, opEv, fillV, mapO, mapS, b128, hl_0, h0_0, h1_0]
    refine W.mono (l128_1 a0 f1 vf1 hf1 gt8 (Exists.intro _ ( And.intro rfl ?_))) ?_
    · simp only [↓reduceIte, Nat.reduceAdd, Nat.reduceMul, Nat.reduceSub, Nat.reduceLT, Nat.reduceLeDiff, Nat.reduceEqDiff, Nat.reducePow, Int.reducePow, Int.reduceLE, Int.reduceLT, Int.reduceEq, Int.reduceToNat, reduceCtorEq, RR, RB, RZ, RE, hl_0, h0_0, h1_0]
    rintro _ e h ⟨rfl, hq⟩
    simp only [↓reduceIte, Nat.reduceAdd, Nat.reduceMul, Nat.reduceSub, Nat.reduceLT, Nat.reduceLeDiff, Nat.reduceEqDiff, Nat.reducePow, Int.reducePow, Int.reduceLE, Int.reduceLT, Int.reduceEq, Int.reduceToNat, reduceCtorEq, RR, RB]
    exact hq
/-! slices.ContainsFunc(()()int64,()int64) -/
def F117 (a0 : List (List Int)) (f1 : (List Int) → Option Bool) : Option Bool :=
  (F128 a0 f1).bind fun x1 =>
  some (decide (0 ≤ x1))
theorem s117 (a0 : List (List Int)) (f1 : (List Int) → Option Bool) {vf1 : V} (hf1 : Clo1 A vf1 f1) {r : Bool} (hF : F117 a0 f1 = some r) : ans A 117 [V.isl (List.map Enc.enc a0), vf1] = some (Enc.enc r) := by
  refine ans_of (f := p117) rfl rfl rfl fun e hl he => ?_
  have h0_0 : e.at 0 = V.isl (List.map Enc.enc a0) := he 0 _ rfl
  have h1_0 : e.at 1 = vf1 := he 1 _ rfl
  obtain ⟨g_f1, fs_f1, cs_f1, hv_f1, hc_f1⟩ := id hf1
  have hl_0 : e.length = 9 := hl
  clear he hl
  show W A b117 e ⟨[], 0⟩ _
  unfold F117 at hF
  obtain ⟨x1, gx1, hF⟩ := bS hF
  have w2 : ans A 128 [V.isl (List.map Enc.enc a0), vf1] = some (V.int .i64 x1) := s128 a0 f1 hf1 gx1
  have hE := Option.some.inj hF; subst hE
  simp only [↓reduceIte, Nat.reduceAdd, Nat.reduceMul, Nat.reduceSub, Nat.reduceLT, Nat.reduceLeDiff, Nat.reduceEqDiff, Nat.reducePow, Int.reducePow, Int.reduceLE, Int.reduceLT, Int.reduceEq, Int.reduceToNat, reduceCtorEq, RR, RB, RZ, RE, opEv, fillV, mapO, mapS, b117, hl_0, h0_0, h1_0, hf1.fz, hf1.rl, w2]
  exact fin_ret (by simp only [↓reduceIte, Nat.reduceAdd, Nat.reduceMul, Nat.reduceSub, Nat.reduceLT, Nat.reduceLeDiff, Nat.reduceEqDiff, Nat.reducePow, Int.reducePow, Int.reduceLE, Int.reduceLT, Int.reduceEq, Int.reduceToNat, reduceCtorEq, RR, RB, RZ, RE, fn_out, p117, Rs.ev, mapO, mapS, take_len_self, hl_0, h0_0, h1_0, hf1.fz, hf1.rl, w2])
/-! loop.example/g01273/impl.areRows -/
def F90 (a0 : Int) (a1 : Int) (a2 : List (List Int)) : Option Bool :=
  (F117 a2 (fun x => F116 x a0 a1)).bind fun x1 =>
  some (!x1)
theorem s90 (a0 : Int) (a1 : Int) (a2 : List (List Int))   {r : Bool} (hF : F90 a0 a1 a2 = some r) : ans A 90 [V.int .i64 a0, V.int .i64 a1, V.isl (List.map Enc.enc a2)] = some (Enc.enc r) := by
  refine ans_of (f := p90) rfl rfl rfl fun e hl he => ?_
  have h0_0 : e.at 0 = V.int .i64 a0 := he 0 _ rfl
  have h1_0 : e.at 1 = V.int .i64 a1 := he 1 _ rfl
  have h2_0 : e.at 2 = V.isl (List.map Enc.enc a2) := he 2 _ rfl
  have hl_0 : e.length = 11 := hl
  clear he hl
  show W A b90 e ⟨[], 0⟩ _
  unfold F90 at hF
  obtain ⟨x1, gx1, hF⟩ := bS hF
  have w2 : ans A 117 [V.isl (List.map Enc.enc a2), V.fn 116 [] [V.iptr [V.int .i64 a0], V.iptr [V.int .i64 a1]]] = some (V.bool x1) := s117 a2 (fun x => F116 x a0 a1) (Clo1.of (by intro h f; simp only [RZ, mapO]) (by intro h f; simp only [RZ, mapO]) (by intro f; simp only [RZ, RB]) (by intro f; simp only [RZ, RB]) (fun x _ hr => s116 x a0 a1 hr)) gx1
  have hE := Option.some.inj hF; subst hE
  simp only [↓reduceIte, Nat.reduceAdd, Nat.reduceMul, Nat.reduceSub, Nat.reduceLT, Nat.reduceLeDiff, Nat.reduceEqDiff, Nat.reducePow, Int.reducePow, Int.reduceLE, Int.reduceLT, Int.reduceEq, Int.reduceToNat, reduceCtorEq, RR, RB, RZ, RE, opEv, fillV, mapO, mapS, b90, hl_0, h0_0, h1_0, h2_0, w2]
  exact fin_ret (by simp only [↓reduceIte, Nat.reduceAdd, Nat.reduceMul, Nat.reduceSub, Nat.reduceLT, Nat.reduceLeDiff, Nat.reduceEqDiff, Nat.reducePow, Int.reducePow, Int.reduceLE, Int.reduceLT, Int.reduceEq, Int.reduceToNat, reduceCtorEq, RR, RB, RZ, RE, fn_out, p90, Rs.ev, mapO, mapS, take_len_self, hl_0, h0_0, h1_0, h2_0, w2])
/-! loop.example/g01273/impl.combine -/
def F119_2_B (a0 : Int) (a2 : List Int) (a3 : List (List Int)) (v18_1 : Int) (x7 : Int) (x9 : List Int) (v28_2 : Int) (o0_2 : (List Int)) : Option (((List Int)) ⊕ ((List Int))) :=
  (getI x9 v28_2).bind fun x15 =>
(getI o0_2 v28_2).bind fun x17 =>
(chk (x7 * x15)).bind fun x19 =>
(chk (x17 + x19)).bind fun x20 =>
(remI x20 a0).bind fun x21 =>
(setI o0_2 v28_2 x21).bind fun l23 =>
some (.inl l23)
def F119_2_D (a0 : Int) (a2 : List Int) (a3 : List (List Int)) (v18_1 : Int) (x7 : Int) (x9 : List Int) (v28_2 : Int) (o0_2 : (List Int)) : Option ((List Int)) :=
  some o0_2
def F119_1_B (a0 : Int) (a2 : List Int) (a3 : List (List Int)) (v18_1 : Int) (o0_1 : (List Int)) : Option (((List Int)) ⊕ ((List Int))) :=
  (getI a2 v18_1).bind fun x7 =>
(getI a3 v18_1).bind fun x9 =>
(forR 0 (x9.length : Int) (F119_2_B a0 a2 a3 v18_1 x7 x9) (F119_2_D a0 a2 a3 v18_1 x7 x9) o0_1).bind fun zo0_2 =>
some (.inl zo0_2)
def F119_1_D (a0 : Int) (a2 : List Int) (a3 : List (List Int)) (v18_1 : Int) (o0_1 : (List Int)) : Option ((List Int)) :=
  some o0_1
def F119 (a0 : Int) (a1 : Int) (a2 : List Int) (a3 : List (List Int)) : Option (List Int) :=
  (mkL 8 a1 0).bind fun l1 =>
  (forR 0 (a2.length : Int) (F119_1_B a0 a2 a3) (F119_1_D a0 a2 a3) l1).bind fun zo0_1 =>
  some zo0_1
def I119_2 (a0 : Int) (a2 : List Int) (a3 : List (List Int)) (v18_1 : Int) (x7 : Int) (x9 : List Int)  (v28_2 : Int) (o0_2 : (List Int)) (e : Env) (h : Heap) : Prop :=
  ∃ u12 k13 : Nat, h = ⟨[(u12, some (List.map Enc.enc o0_2))], k13⟩ ∧ e.length = 49 ∧ e.at 0 = V.int .i64 a0 ∧ e.at 3 = V.isl (List.map Enc.enc a3) ∧ e.at 9 = V.sl 0 u12 0 o0_2.length 1 ∧ e.at 11 = V.int .i64 x7 ∧ e.at 16 = V.isl (List.map Enc.enc a2) ∧ e.at 17 = V.int .i64 (a2.length : Int) ∧ e.at 18 = V.int .i64 v18_1 ∧ e.at 26 = V.isl (List.map Enc.enc x9) ∧ e.at 27 = V.int .i64 (x9.length : Int) ∧ e.at 28 = V.int .i64 v28_2
def P119_2 (a0 : Int) (a2 : List Int) (a3 : List (List Int)) (v18_1 : Int) (x7 : Int) (x9 : List Int)  (zo0_2 : (List Int)) (x : Ex) (e : Env) (h : Heap) : Prop :=
  x = .normal ∧ ∃ u12 k13 : Nat, h = ⟨[(u12, some (List.map Enc.enc zo0_2))], k13⟩ ∧ e.length = 49 ∧ e.at 0 = V.int .i64 a0 ∧ e.at 3 = V.isl (List.map Enc.enc a3) ∧ e.at 9 = V.sl 0 u12 0 zo0_2.length 1 ∧ e.at 16 = V.isl (List.map Enc.enc a2) ∧ e.at 17 = V.int .i64 (a2.length : Int) ∧ e.at 18 = V.int .i64 v18_1
theorem l119_2 (a0 : Int) (a2 : List Int) (a3 : List (List Int)) (v18_1 : Int) (x7 : Int) (x9 : List Int)   {lo : Int} {s : (List Int)} {t : (List Int)} (hF : forR lo (x9.length : Int) (F119_2_B a0 a2 a3 v18_1 x7 x9) (F119_2_D a0 a2 a3 v18_1 x7 x9) s = some t) {e : Env} {h : Heap} (hI : I119_2 a0 a2 a3 v18_1 x7 x9  lo s e h) : W A c119_2 e h (P119_2 a0 a2 a3 v18_1 x7 x9  t) := by
  show W A (.block 2 (.loop false b119_2)) e h _
  rw [W_block]
  refine W_forR hF 1 (by obtain ⟨_, _, rfl, _⟩ := hI; rfl) (I119_2 a0 a2 a3 v18_1 x7 x9 ) hI ?_ ?_
  · rintro v28_2 o0_2 e h ⟨u12, k13, rfl, hl_11, h0_11, h3_11, h9_11, h11_11, h16_11, h17_11, h18_11, h26_11, h27_11, h28_11⟩ hlt hw o ho
    unfold F119_2_B at ho
    obtain ⟨x15, gx15, ho⟩ := bS ho
    obtain ⟨w16a, w16b⟩ := getI_w gx15
    obtain ⟨x17, gx17, ho⟩ := bS ho
    obtain ⟨w18a, w18b⟩ := getI_w gx17
    have w18c := getI_lt gx17
    have w18d : List.drop (Int.toNat v28_2) (List.map Enc.enc o0_2) = (V.int .i64 x17) :: List.drop ((Int.toNat v28_2) + 1) (List.map Enc.enc o0_2) := drop_enc w18b
    obtain ⟨x19, gx19, ho⟩ := bS ho
    have wx19 := chk_w gx19
    obtain ⟨x20, gx20, ho⟩ := bS ho
    have wx20 := chk_w gx20
    obtain ⟨x21, gx21, ho⟩ := bS ho
    obtain ⟨w22a, w22b⟩ := rem_w gx21
    obtain ⟨l23, gl23, ho⟩ := bS ho
    obtain ⟨w24a, w24b, w24c, w24d, w24e⟩ := setI_w gl23
    replace w24e : List.take (Int.toNat v28_2) (List.map Enc.enc o0_2) ++ [V.int .i64 x21] ++ List.drop (Int.toNat v28_2 + 1) (List.map Enc.enc o0_2) = List.map Enc.enc l23 := w24e
    have hE := Option.some.inj ho; subst hE
    simp only [↓reduceIte, Nat.reduceAdd, Nat.reduceMul, Nat.reduceSub, Nat.reduceLT, Nat.reduceLeDiff, Nat.reduceEqDiff, Nat.reducePow, Int.reducePow, Int.reduceLE, Int.reduceLT, Int.reduceEq, Int.reduceToNat, reduceCtorEq, RR, RB, RZ, RE, opEv, fillV, mapO, mapS, b119_2, hl_11, h0_11, h3_11, h9_11, h11_11, h16_11, h17_11, h18_11, h26_11, h27_11, h28_11, eq_true hlt, hw, w16a, w16b, w18a, w18b, w18c, w18d, wx19, wx20, eq_false w22a, w22b, w24a, w24b, w24c, w24e]
    refine And.intro rfl (Exists.intro _ ( Exists.intro _ ( And.intro rfl ?_)))
    simp only [↓reduceIte, Nat.reduceAdd, Nat.reduceMul, Nat.reduceSub, Nat.reduceLT, Nat.reduceLeDiff, Nat.reduceEqDiff, Nat.reducePow, Int.reducePow, Int.reduceLE, Int.reduceLT, Int.reduceEq, Int.reduceToNat, reduceCtorEq, RR, RB, RZ, RE, hl_11, h0_11, h3_11, h9_11, h11_11, h16_11, h17_11, h18_11, h26_11, h27_11, h28_11, eq_true hlt, hw, w16a, w16b, w18a, w18b, w18c, w18d, wx19, wx20, eq_false w22a, w22b, w24a, w24b, w24c, w24e, w24d]
  · rintro v28_2 o0_2 e h ⟨u12, k13, rfl, hl_11, h0_11, h3_11, h9_11, h11_11, h16_11, h17_11, h18_11, h26_11, h27_11, h28_11⟩ hge t1 ho
    unfold F119_2_D at ho
    have hE := Option.some.inj ho; subst hE
    simp only [↓reduceIte, Nat.reduceAdd, Nat.reduceMul, Nat.reduceSub, Nat.reduceLT, Nat.reduceLeDiff, Nat.reduceEqDiff, Nat.reducePow, Int.reducePow, Int.reduceLE, Int.reduceLT, Int.reduceEq, Int.reduceToNat, reduceCtorEq, RR, RB, RZ, RE, opEv, fillV, mapO, mapS, b119_2, hl_11, h0_11, h3_11, h9_11, h11_11, h16_11, h17_11, h18_11, h26_11, h27_11, h28_11, eq_false hge]
    intro ht; subst ht
    refine And.intro rfl (Exists.intro _ ( Exists.intro _ ( And.intro rfl ?_)))
    simp only [↓reduceIte, Nat.reduceAdd, Nat.reduceMul, Nat.reduceSub, Nat.reduceLT, Nat.reduceLeDiff, Nat.reduceEqDiff, Nat.reducePow, Int.reducePow, Int.reduceLE, Int.reduceLT, Int.reduceEq, Int.reduceToNat, reduceCtorEq, RR, RB, RZ, RE, hl_11, h0_11, h3_11, h9_11, h11_11, h16_11, h17_11, h18_11, h26_11, h27_11, h28_11, eq_false hge]
def I119_1 (a0 : Int) (a2 : List Int) (a3 : List (List Int))  (v18_1 : Int) (o0_1 : (List Int)) (e : Env) (h : Heap) : Prop :=
  ∃ u4 k5 : Nat, h = ⟨[(u4, some (List.map Enc.enc o0_1))], k5⟩ ∧ e.length = 49 ∧ e.at 0 = V.int .i64 a0 ∧ e.at 3 = V.isl (List.map Enc.enc a3) ∧ e.at 9 = V.sl 0 u4 0 o0_1.length 1 ∧ e.at 16 = V.isl (List.map Enc.enc a2) ∧ e.at 17 = V.int .i64 (a2.length : Int) ∧ e.at 18 = V.int .i64 v18_1
def P119_1 (a0 : Int) (a2 : List Int) (a3 : List (List Int))  (zo0_1 : (List Int)) (x : Ex) (e : Env) (h : Heap) : Prop :=
  x = .normal ∧ ∃ u4 k5 : Nat, h = ⟨[(u4, some (List.map Enc.enc zo0_1))], k5⟩ ∧ e.length = 49 ∧ e.at 9 = V.sl 0 u4 0 zo0_1.length 1
theorem l119_1 (a0 : Int) (a2 : List Int) (a3 : List (List Int))   {lo : Int} {s : (List Int)} {t : (List Int)} (hF : forR lo (a2.length : Int) (F119_1_B a0 a2 a3) (F119_1_D a0 a2 a3) s = some t) {e : Env} {h : Heap} (hI : I119_1 a0 a2 a3  lo s e h) : W A c119_1 e h (P119_1 a0 a2 a3  t) := by
  show W A (.block 0 (.loop false b119_1)) e h _
  rw [W_block]
  refine W_forR hF 1 (by obtain ⟨_, _, rfl, _⟩ := hI; rfl) (I119_1 a0 a2 a3 ) hI ?_ ?_
  · rintro v18_1 o0_1 e h ⟨u4, k5, rfl, hl_3, h0_3, h3_3, h9_3, h16_3, h17_3, h18_3⟩ hlt hw o ho
    unfold F119_1_B at ho
    obtain ⟨x7, gx7, ho⟩ := bS ho
    obtain ⟨w8a, w8b⟩ := getI_w gx7
    obtain ⟨x9, gx9, ho⟩ := bS ho
    obtain ⟨w10a, w10b⟩ := getI_w gx9
    obtain ⟨zo0_2, gt25, ho⟩ := bS ho
    simp only [↓reduceIte, Nat.reduceAdd, Nat.reduceMul, Nat.reduceSub, Nat.reduceLT, Nat.reduceLeDiff, Nat.reduceEqDiff, Nat.reducePow, Int.reducePow, Int.reduceLE, Int.reduceLT, Int.reduceEq, Int.reduceToNat, reduceCtorEq, RR, RB, RZ, RE, opEv, fillV, mapO, mapS, b119_1, hl_3, h0_3, h3_3, h9_3, h16_3, h17_3, h18_3, eq_true hlt, hw, w8a, w8b, w10a, w10b]
    refine W.mono (l119_2 a0 a2 a3 v18_1 x7 x9   gt25 (Exists.intro _ ( Exists.intro _ ( And.intro rfl ?_)))) ?_
    · simp only [↓reduceIte, Nat.reduceAdd, Nat.reduceMul, Nat.reduceSub, Nat.reduceLT, Nat.reduceLeDiff, Nat.reduceEqDiff, Nat.reducePow, Int.reducePow, Int.reduceLE, Int.reduceLT, Int.reduceEq, Int.reduceToNat, reduceCtorEq, RR, RB, RZ, RE, hl_3, h0_3, h3_3, h9_3, h16_3, h17_3, h18_3, eq_true hlt, hw, w8a, w8b, w10a, w10b]
    rintro _ e _ ⟨rfl, u12, k13, rfl, hl_14, h0_14, h3_14, h9_14, h16_14, h17_14, h18_14⟩
    have hE := Option.some.inj ho; subst hE
    simp only [↓reduceIte, Nat.reduceAdd, Nat.reduceMul, Nat.reduceSub, Nat.reduceLT, Nat.reduceLeDiff, Nat.reduceEqDiff, Nat.reducePow, Int.reducePow, Int.reduceLE, Int.reduceLT, Int.reduceEq, Int.reduceToNat, reduceCtorEq, RR, RB, RZ, RE, opEv, fillV, mapO, mapS, hl_14, h0_14, h3_14, h9_14, h16_14, h17_14, h18_14, eq_true hlt, hw]
    refine And.intro rfl (Exists.intro _ ( Exists.intro _ ( And.intro rfl ?_)))
    simp only [↓reduceIte, Nat.reduceAdd, Nat.reduceMul, Nat.reduceSub, Nat.reduceLT, Nat.reduceLeDiff, Nat.reduceEqDiff, Nat.reducePow, Int.reducePow, Int.reduceLE, Int.reduceLT, Int.reduceEq, Int.reduceToNat, reduceCtorEq, RR, RB, RZ, RE, hl_14, h0_14, h3_14, h9_14, h16_14, h17_14, h18_14, eq_true hlt, hw]
  · rintro v18_1 o0_1 e h ⟨u4, k5, rfl, hl_3, h0_3, h3_3, h9_3, h16_3, h17_3, h18_3⟩ hge t1 ho
    unfold F119_1_D at ho
    have hE := Option.some.inj ho; subst hE
    simp only [↓reduceIte, Nat.reduceAdd, Nat.reduceMul, Nat.reduceSub, Nat.reduceLT, Nat.reduceLeDiff, Nat.reduceEqDiff, Nat.reducePow, Int.reducePow, Int.reduceLE, Int.reduceLT, Int.reduceEq, Int.reduceToNat, reduceCtorEq, RR, RB, RZ, RE, opEv, fillV, mapO, mapS, b119_1, hl_3, h0_3, h3_3, h9_3, h16_3, h17_3, h18_3, eq_false hge]
    intro ht; subst ht
    refine And.intro rfl (Exists.intro _ ( Exists.intro _ ( And.intro rfl ?_)))
    simp only [↓reduceIte, Nat.reduceAdd, Nat.reduceMul, Nat.reduceSub, Nat.reduceLT, Nat.reduceLeDiff, Nat.reduceEqDiff, Nat.reducePow, Int.reducePow, Int.reduceLE, Int.reduceLT, Int.reduceEq, Int.reduceToNat, reduceCtorEq, RR, RB, RZ, RE, hl_3, h0_3, h3_3, h9_3, h16_3, h17_3, h18_3, eq_false hge]
theorem s119 (a0 : Int) (a1 : Int) (a2 : List Int) (a3 : List (List Int))   {r : List Int} (hF : F119 a0 a1 a2 a3 = some r) : ans A 119 [V.int .i64 a0, V.int .i64 a1, V.isl (List.map Enc.enc a2), V.isl (List.map Enc.enc a3)] = some (Enc.enc r) := by
  refine ans_of (f := p119) rfl rfl rfl fun e hl he => ?_
  have h0_0 : e.at 0 = V.int .i64 a0 := he 0 _ rfl
  have h1_0 : e.at 1 = V.int .i64 a1 := he 1 _ rfl
  have h2_0 : e.at 2 = V.isl (List.map Enc.enc a2) := he 2 _ rfl
  have h3_0 : e.at 3 = V.isl (List.map Enc.enc a3) := he 3 _ rfl
  have hl_0 : e.length = 49 := hl
  clear he hl
  show W A b119 e ⟨[], 0⟩ _
  unfold F119 at hF
  obtain ⟨l1, gl1, hF⟩ := bS hF
  obtain ⟨w2a, w2b, w2c, w2d, w2e⟩ := mkL_w gl1
  replace w2e : (List.replicate (Int.toNat a1) [V.int .i64 0]).flatten = List.map Enc.enc l1 := w2e
  obtain ⟨zo0_1, gt26, hF⟩ := bS hF
  simp only [↓reduceIte, Nat.reduceAdd, Nat.reduceMul, Nat.reduceSub, Nat.reduceLT, Nat.reduceLeDiff, Nat.reduceEqDiff, Nat.reducePow, Int.reducePow, Int.reduceLE, Int.reduceLT, Int.reduceEq, Int.reduceToNat, reduceCtorEq, RR, RB, RZ, RE, opEv, fillV, mapO, mapS, b119, hl_0, h0_0, h1_0, h2_0, h3_0, w2a, w2b, w2c, w2e]
  refine W.mono (l119_1 a0 a2 a3   gt26 (Exists.intro _ ( Exists.intro _ ( And.intro rfl ?_)))) ?_
  · simp only [↓reduceIte, Nat.reduceAdd, Nat.reduceMul, Nat.reduceSub, Nat.reduceLT, Nat.reduceLeDiff, Nat.reduceEqDiff, Nat.reducePow, Int.reducePow, Int.reduceLE, Int.reduceLT, Int.reduceEq, Int.reduceToNat, reduceCtorEq, RR, RB, RZ, RE, hl_0, h0_0, h1_0, h2_0, h3_0, w2a, w2b, w2c, w2e, w2d]
  rintro _ e _ ⟨rfl, u4, k5, rfl, hl_6, h9_6⟩
  have hE := Option.some.inj hF; subst hE
  simp only [↓reduceIte, Nat.reduceAdd, Nat.reduceMul, Nat.reduceSub, Nat.reduceLT, Nat.reduceLeDiff, Nat.reduceEqDiff, Nat.reducePow, Int.reducePow, Int.reduceLE, Int.reduceLT, Int.reduceEq, Int.reduceToNat, reduceCtorEq, RR, RB, RZ, RE, opEv, fillV, mapO, mapS, hl_6, h9_6]
  exact fin_ret (by simp only [↓reduceIte, Nat.reduceAdd, Nat.reduceMul, Nat.reduceSub, Nat.reduceLT, Nat.reduceLeDiff, Nat.reduceEqDiff, Nat.reducePow, Int.reducePow, Int.reduceLE, Int.reduceLT, Int.reduceEq, Int.reduceToNat, reduceCtorEq, RR, RB, RZ, RE, fn_out, p119, Rs.ev, mapO, mapS, take_len_self, hl_6, h9_6, frzs (α := Int) zo0_1, takes (α := Int) zo0_1])
/-! (loop.example/g01273/impl.Complex).differential -/
def F91 (a0 : GComplex) (a1 : Int) (a2 : List Int) : Option (List Int) :=
  if a1 ≤ 0 then
    some ([] : List Int)
  else
    (F86 a0).bind fun x2 =>
    if x2 < a1 then
      some ([] : List Int)
    else
      (chk (a1 - 1)).bind fun x5 =>
      (getI a0.Dims x5).bind fun x6 =>
      (getI a0.Maps x5).bind fun x8 =>
      (F119 a0.Prime x6 a2 x8).bind fun x10 =>
      some x10
theorem s91 (a0 : GComplex) (a1 : Int) (a2 : List Int)   {r : List Int} (hF : F91 a0 a1 a2 = some r) : ans A 91 [V.agg [V.int .i64 a0.Prime, V.isl (List.map Enc.enc a0.Dims), V.isl (List.map Enc.enc a0.Maps)], V.int .i64 a1, V.isl (List.map Enc.enc a2)] = some (Enc.enc r) := by
  refine ans_of (f := p91) rfl rfl rfl fun e hl he => ?_
  have h0_0 : e.at 0 = V.agg [V.int .i64 a0.Prime, V.isl (List.map Enc.enc a0.Dims), V.isl (List.map Enc.enc a0.Maps)] := he 0 _ rfl
  have h1_0 : e.at 1 = V.int .i64 a1 := he 1 _ rfl
  have h2_0 : e.at 2 = V.isl (List.map Enc.enc a2) := he 2 _ rfl
  have hl_0 : e.length = 31 := hl
  clear he hl
  show W A b91 e ⟨[], 0⟩ _
  unfold F91 at hF
  by_cases c1 : a1 ≤ 0
  · rw [if_pos c1] at hF
    have hE := Option.some.inj hF; subst hE
    simp only [↓reduceIte, Nat.reduceAdd, Nat.reduceMul, Nat.reduceSub, Nat.reduceLT, Nat.reduceLeDiff, Nat.reduceEqDiff, Nat.reducePow, Int.reducePow, Int.reduceLE, Int.reduceLT, Int.reduceEq, Int.reduceToNat, reduceCtorEq, RR, RB, RZ, RE, opEv, fillV, mapO, mapS, b91, hl_0, h0_0, h1_0, h2_0, eq_true c1]
    exact fin_ret (by simp only [↓reduceIte, Nat.reduceAdd, Nat.reduceMul, Nat.reduceSub, Nat.reduceLT, Nat.reduceLeDiff, Nat.reduceEqDiff, Nat.reducePow, Int.reducePow, Int.reduceLE, Int.reduceLT, Int.reduceEq, Int.reduceToNat, reduceCtorEq, RR, RB, RZ, RE, fn_out, p91, Rs.ev, mapO, mapS, take_len_self, hl_0, h0_0, h1_0, h2_0, eq_true c1])
  · rw [if_neg c1] at hF
    obtain ⟨x2, gx2, hF⟩ := bS hF
    have w3 : ans A 86 [V.agg [V.int .i64 a0.Prime, V.isl (List.map Enc.enc a0.Dims), V.isl (List.map Enc.enc a0.Maps)]] = some (V.int .i64 x2) := s86 a0  gx2
    by_cases c4 : x2 < a1
    · rw [if_pos c4] at hF
      have hE := Option.some.inj hF; subst hE
      simp only [↓reduceIte, Nat.reduceAdd, Nat.reduceMul, Nat.reduceSub, Nat.reduceLT, Nat.reduceLeDiff, Nat.reduceEqDiff, Nat.reducePow, Int.reducePow, Int.reduceLE, Int.reduceLT, Int.reduceEq, Int.reduceToNat, reduceCtorEq, RR, RB, RZ, RE, opEv, fillV, mapO, mapS, b91, hl_0, h0_0, h1_0, h2_0, eq_false c1, w3, eq_true c4]
      exact fin_ret (by simp only [↓reduceIte, Nat.reduceAdd, Nat.reduceMul, Nat.reduceSub, Nat.reduceLT, Nat.reduceLeDiff, Nat.reduceEqDiff, Nat.reducePow, Int.reducePow, Int.reduceLE, Int.reduceLT, Int.reduceEq, Int.reduceToNat, reduceCtorEq, RR, RB, RZ, RE, fn_out, p91, Rs.ev, mapO, mapS, take_len_self, hl_0, h0_0, h1_0, h2_0, eq_false c1, w3, eq_true c4])
    · rw [if_neg c4] at hF
      obtain ⟨x5, gx5, hF⟩ := bS hF
      have wx5 := chk_w gx5
      obtain ⟨x6, gx6, hF⟩ := bS hF
      obtain ⟨w7a, w7b⟩ := getI_w gx6
      obtain ⟨x8, gx8, hF⟩ := bS hF
      obtain ⟨w9a, w9b⟩ := getI_w gx8
      obtain ⟨x10, gx10, hF⟩ := bS hF
      have w11 : ans A 119 [V.int .i64 a0.Prime, V.int .i64 x6, V.isl (List.map Enc.enc a2), V.isl (List.map Enc.enc x8)] = some (V.isl (List.map Enc.enc x10)) := s119 a0.Prime x6 a2 x8  gx10
      have hE := Option.some.inj hF; subst hE
      simp only [↓reduceIte, Nat.reduceAdd, Nat.reduceMul, Nat.reduceSub, Nat.reduceLT, Nat.reduceLeDiff, Nat.reduceEqDiff, Nat.reducePow, Int.reducePow, Int.reduceLE, Int.reduceLT, Int.reduceEq, Int.reduceToNat, reduceCtorEq, RR, RB, RZ, RE, opEv, fillV, mapO, mapS, b91, hl_0, h0_0, h1_0, h2_0, eq_false c1, w3, eq_false c4, wx5, w7a, w7b, w9a, w9b, w11]
      exact fin_ret (by simp only [↓reduceIte, Nat.reduceAdd, Nat.reduceMul, Nat.reduceSub, Nat.reduceLT, Nat.reduceLeDiff, Nat.reduceEqDiff, Nat.reducePow, Int.reducePow, Int.reduceLE, Int.reduceLT, Int.reduceEq, Int.reduceToNat, reduceCtorEq, RR, RB, RZ, RE, fn_out, p91, Rs.ev, mapO, mapS, take_len_self, hl_0, h0_0, h1_0, h2_0, eq_false c1, w3, eq_false c4, wx5, w7a, w7b, w9a, w9b, w11])
/-! loop.example/g01273/impl.isZero$1 -/
def F118 (a0 : Int) : Option Bool :=
  some (!(decide (a0 = 0)))
theorem s118 (a0 : Int)   {r : Bool} (hF : F118 a0 = some r) : ans A 118 [V.int .i64 a0] = some (Enc.enc r) := by
  refine ans_of (f := p118) rfl rfl rfl fun e hl he => ?_
  have h0_0 : e.at 0 = V.int .i64 a0 := he 0 _ rfl
  have hl_0 : e.length = 5 := hl
  clear he hl
  show W A b118 e ⟨[], 0⟩ _
  unfold F118 at hF
  have hE := Option.some.inj hF; subst hE
  simp only [↓reduceIte, Nat.reduceAdd, Nat.reduceMul, Nat.reduceSub, Nat.reduceLT, Nat.reduceLeDiff, Nat.reduceEqDiff, Nat.reducePow, Int.reducePow, Int.reduceLE, Int.reduceLT, Int.reduceEq, Int.reduceToNat, reduceCtorEq, RR, RB, RZ, RE, opEv, fillV, mapO, mapS, b118, hl_0, h0_0]
  exact fin_ret (by simp only [↓reduceIte, Nat.reduceAdd, Nat.reduceMul, Nat.reduceSub, Nat.reduceLT, Nat.reduceLeDiff, Nat.reduceEqDiff, Nat.reducePow, Int.reducePow, Int.reduceLE, Int.reduceLT, Int.reduceEq, Int.reduceToNat, reduceCtorEq, RR, RB, RZ, RE, fn_out, p118, Rs.ev, mapO, mapS, take_len_self, hl_0, h0_0])
/-! loop.example/g01273/impl.isZero -/
def F92 (a0 : List Int) : Option Bool :=
  (F82 a0 (fun x => F118 x)).bind fun x1 =>
  some (!x1)
theorem s92 (a0 : List Int)   {r : Bool} (hF : F92 a0 = some r) : ans A 92 [V.isl (List.map Enc.enc a0)] = some (Enc.enc r) := by
  refine ans_of (f := p92) rfl rfl rfl fun e hl he => ?_
  have h0_0 : e.at 0 = V.isl (List.map Enc.enc a0) := he 0 _ rfl
  have hl_0 : e.length = 6 := hl
  clear he hl
  show W A b92 e ⟨[], 0⟩ _
  unfold F92 at hF
  obtain ⟨x1, gx1, hF⟩ := bS hF
  have w2 : ans A 82 [V.isl (List.map Enc.enc a0), V.fn 118 [] []] = some (V.bool x1) := s82 a0 (fun x => F118 x) (Clo1.of (by intro h f; simp only [RZ, mapO]) (by intro h f; simp only [RZ, mapO]) (by intro f; simp only [RZ, RB]) (by intro f; simp only [RZ, RB]) (fun x _ hr => s118 x hr)) gx1
  have hE := Option.some.inj hF; subst hE
  simp only [↓reduceIte, Nat.reduceAdd, Nat.reduceMul, Nat.reduceSub, Nat.reduceLT, Nat.reduceLeDiff, Nat.reduceEqDiff, Nat.reducePow, Int.reducePow, Int.reduceLE, Int.reduceLT, Int.reduceEq, Int.reduceToNat, reduceCtorEq, RR, RB, RZ, RE, opEv, fillV, mapO, mapS, b92, hl_0, h0_0, w2]
  exact fin_ret (by simp only [↓reduceIte, Nat.reduceAdd, Nat.reduceMul, Nat.reduceSub, Nat.reduceLT, Nat.reduceLeDiff, Nat.reduceEqDiff, Nat.reducePow, Int.reducePow, Int.reduceLE, Int.reduceLT, Int.reduceEq, Int.reduceToNat, reduceCtorEq, RR, RB, RZ, RE, fn_out, p92, Rs.ev, mapO, mapS, take_len_self, hl_0, h0_0, w2])

end
end Rv
