/- What the abstract code answers: typed functions, part 2. -/
import Derived.Test.YthdaojcekpelgaaFrs0
namespace Rv
set_option linter.unusedVariables false
set_option linter.unusedSimpArgs false
set_option maxRecDepth 100000
noncomputable section

/-! loop.example/g01273/impl.isPrime -/
def F67 (a0 : Int) : Option Bool :=
  if a0 = 2 then
    some true
  else
    if a0 = 3 then
      some true
    else
      if a0 = 5 then
        some true
      else
        some (decide (a0 = 7))
theorem s67 (a0 : Int)   {r : Bool} (hF : F67 a0 = some r) : ans A 67 [V.int .i64 a0] = some (Enc.enc r) := by
  refine ans_of (f := p67) rfl rfl rfl fun e hl he => ?_
  have h0_0 : e.at 0 = V.int .i64 a0 := he 0 _ rfl
  have hl_0 : e.length = 17 := hl
  clear he hl
  show W A b67 e ⟨[], 0⟩ _
  unfold F67 at hF
  by_cases c1 : a0 = 2
  · rw [if_pos c1] at hF
    have hE := Option.some.inj hF; subst hE
    simp only [↓reduceIte, Nat.reduceAdd, Nat.reduceMul, Nat.reduceSub, Nat.reduceLT, Nat.reduceLeDiff, Nat.reduceEqDiff, Nat.reducePow, Int.reducePow, Int.reduceLE, Int.reduceLT, Int.reduceEq, Int.reduceToNat, reduceCtorEq, RR, RB, RZ, RE, opEv, fillV, mapO, mapS, b67, hl_0, h0_0, eq_true c1]
    exact fin_ret (by simp only [↓reduceIte, Nat.reduceAdd, Nat.reduceMul, Nat.reduceSub, Nat.reduceLT, Nat.reduceLeDiff, Nat.reduceEqDiff, Nat.reducePow, Int.reducePow, Int.reduceLE, Int.reduceLT, Int.reduceEq, Int.reduceToNat, reduceCtorEq, RR, RB, RZ, RE, fn_out, p67, Rs.ev, mapO, mapS, take_len_self, hl_0, h0_0, eq_true c1])
  · rw [if_neg c1] at hF
    by_cases c2 : a0 = 3
    · rw [if_pos c2] at hF
      have hE := Option.some.inj hF; subst hE
      simp only [↓reduceIte, Nat.reduceAdd, Nat.reduceMul, Nat.reduceSub, Nat.reduceLT, Nat.reduceLeDiff, Nat.reduceEqDiff, Nat.reducePow, Int.reducePow, Int.reduceLE, Int.reduceLT, Int.reduceEq, Int.reduceToNat, reduceCtorEq, RR, RB, RZ, RE, opEv, fillV, mapO, mapS, b67, hl_0, h0_0, eq_false c1, eq_true c2]
      exact fin_ret (by simp only [↓reduceIte, Nat.reduceAdd, Nat.reduceMul, Nat.reduceSub, Nat.reduceLT, Nat.reduceLeDiff, Nat.reduceEqDiff, Nat.reducePow, Int.reducePow, Int.reduceLE, Int.reduceLT, Int.reduceEq, Int.reduceToNat, reduceCtorEq, RR, RB, RZ, RE, fn_out, p67, Rs.ev, mapO, mapS, take_len_self, hl_0, h0_0, eq_false c1, eq_true c2])
    · rw [if_neg c2] at hF
      by_cases c3 : a0 = 5
      · rw [if_pos c3] at hF
        have hE := Option.some.inj hF; subst hE
        simp only [↓reduceIte, Nat.reduceAdd, Nat.reduceMul, Nat.reduceSub, Nat.reduceLT, Nat.reduceLeDiff, Nat.reduceEqDiff, Nat.reducePow, Int.reducePow, Int.reduceLE, Int.reduceLT, Int.reduceEq, Int.reduceToNat, reduceCtorEq, RR, RB, RZ, RE, opEv, fillV, mapO, mapS, b67, hl_0, h0_0, eq_false c1, eq_false c2, eq_true c3]
        exact fin_ret (by simp only [↓reduceIte, Nat.reduceAdd, Nat.reduceMul, Nat.reduceSub, Nat.reduceLT, Nat.reduceLeDiff, Nat.reduceEqDiff, Nat.reducePow, Int.reducePow, Int.reduceLE, Int.reduceLT, Int.reduceEq, Int.reduceToNat, reduceCtorEq, RR, RB, RZ, RE, fn_out, p67, Rs.ev, mapO, mapS, take_len_self, hl_0, h0_0, eq_false c1, eq_false c2, eq_true c3])
      · rw [if_neg c3] at hF
        have hE := Option.some.inj hF; subst hE
        simp only [↓reduceIte, Nat.reduceAdd, Nat.reduceMul, Nat.reduceSub, Nat.reduceLT, Nat.reduceLeDiff, Nat.reduceEqDiff, Nat.reducePow, Int.reducePow, Int.reduceLE, Int.reduceLT, Int.reduceEq, Int.reduceToNat, reduceCtorEq, RR, RB, RZ, RE, opEv, fillV, mapO, mapS, b67, hl_0, h0_0, eq_false c1, eq_false c2, eq_false c3]
        exact fin_ret (by simp only [↓reduceIte, Nat.reduceAdd, Nat.reduceMul, Nat.reduceSub, Nat.reduceLT, Nat.reduceLeDiff, Nat.reduceEqDiff, Nat.reducePow, Int.reducePow, Int.reduceLE, Int.reduceLT, Int.reduceEq, Int.reduceToNat, reduceCtorEq, RR, RB, RZ, RE, fn_out, p67, Rs.ev, mapO, mapS, take_len_self, hl_0, h0_0, eq_false c1, eq_false c2, eq_false c3])
/-! slices.IndexFunc(()int64,int64) -/
def F115_1_B (a0 : List Int) (f1 : Int → Option Bool) (v8_1 : Int) (s : Unit) : Option ((Unit) ⊕ ((Unit) ⊕ Int)) :=
  (getI a0 v8_1).bind fun x4 =>
(f1 x4).bind fun x6 =>
if x6 = true then
  some (.inr (.inr v8_1))
else
  some (.inl ())
def F115_1_D (a0 : List Int) (f1 : Int → Option Bool) (v8_1 : Int) (s : Unit) : Option ((Unit) ⊕ Int) :=
  some (.inl ())
def F115 (a0 : List Int) (f1 : Int → Option Bool) : Option Int :=
  (forR 0 (a0.length : Int) (F115_1_B a0 f1) (F115_1_D a0 f1) ()).bind fun t8 => match t8 with
    | .inl _ =>
      some (-1)
    | .inr r9 => some r9
def I115_1 (a0 : List Int) (f1 : Int → Option Bool) (vf1 : V) (v8_1 : Int) (s : Unit) (e : Env) (h : Heap) : Prop :=
  ∃ k2 : Nat, h = ⟨[], k2⟩ ∧ e.length = 19 ∧ e.at 0 = V.isl (List.map Enc.enc a0) ∧ e.at 1 = vf1 ∧ e.at 7 = V.int .i64 (a0.length : Int) ∧ e.at 8 = V.int .i64 v8_1
def P115_1 (a0 : List Int) (f1 : Int → Option Bool) (vf1 : V) (t : (Unit) ⊕ Int) (x : Ex) (e : Env) (h : Heap) : Prop :=
  match t with
  | .inl _ => x = .normal ∧ ∃ k2 : Nat, h = ⟨[], k2⟩ ∧ e.length = 19
  | .inr r => x = .ret ∧ Fin p115 (Enc.enc r) .ret e h
theorem l115_1 (a0 : List Int) (f1 : Int → Option Bool) (vf1 : V) (hf1 : Clo1 A vf1 f1) {lo : Int} {s : Unit} {t : (Unit) ⊕ Int} (hF : forR lo (a0.length : Int) (F115_1_B a0 f1) (F115_1_D a0 f1) s = some t) {e : Env} {h : Heap} (hI : I115_1 a0 f1 vf1 lo s e h) : W A c115_1 e h (P115_1 a0 f1 vf1 t) := by
  obtain ⟨g_f1, fs_f1, cs_f1, hv_f1, hc_f1⟩ := id hf1
  show W A (.block 0 (.loop false b115_1)) e h _
  rw [W_block]
  refine W_forR hF 0 (by obtain ⟨_, rfl, _⟩ := hI; rfl) (I115_1 a0 f1 vf1) hI ?_ ?_
  · rintro v8_1 _ e h ⟨k2, rfl, hl_1, h0_1, h1_1, h7_1, h8_1⟩ hlt hw o ho
    unfold F115_1_B at ho
    obtain ⟨x4, gx4, ho⟩ := bS ho
    obtain ⟨w5a, w5b⟩ := getI_w gx4
    obtain ⟨x6, gx6, ho⟩ := bS ho
    have w7a : ∀ h, mapO (frz h 16) (fs_f1 ++ [V.int .i64 x4] ++ cs_f1) = some (fs_f1 ++ [V.int .i64 x4] ++ cs_f1) := fun h => hc_f1.zf x4 h
    have w7b : List.all (fs_f1 ++ [V.int .i64 x4] ++ cs_f1) (refless 16) = true := hc_f1.zr x4
    have w7c : ans A g_f1 (fs_f1 ++ [V.int .i64 x4] ++ cs_f1) = some (V.bool x6) := hc_f1.ka x4 _ gx6
    cases x6 with
    | true =>
      rw [if_pos rfl] at ho
      have hE := Option.some.inj ho; subst hE
      simp only [↓reduceIte, Nat.reduceAdd, Nat.reduceMul, Nat.reduceSub, Nat.reduceLT, Nat.reduceLeDiff, Nat.reduceEqDiff, Nat.reducePow, Int.reducePow, Int.reduceLE, Int.reduceLT, Int.reduceEq, Int.reduceToNat, reduceCtorEq, RR, RB, RZ, RE, opEv, fillV, mapO, mapS, b115_1, hl_1, h0_1, h1_1, h7_1, h8_1, eq_true hlt, hw, w5a, w5b, hv_f1, w7a, w7b, w7c]
      intro ht; subst ht
      simp only [↓reduceIte, Nat.reduceAdd, Nat.reduceMul, Nat.reduceSub, Nat.reduceLT, Nat.reduceLeDiff, Nat.reduceEqDiff, Nat.reducePow, Int.reducePow, Int.reduceLE, Int.reduceLT, Int.reduceEq, Int.reduceToNat, reduceCtorEq, RR, RB]
      exact And.intro rfl (fin_ret (by simp only [↓reduceIte, Nat.reduceAdd, Nat.reduceMul, Nat.reduceSub, Nat.reduceLT, Nat.reduceLeDiff, Nat.reduceEqDiff, Nat.reducePow, Int.reducePow, Int.reduceLE, Int.reduceLT, Int.reduceEq, Int.reduceToNat, reduceCtorEq, RR, RB, RZ, RE, fn_out, p115, Rs.ev, mapO, mapS, take_len_self, hl_1, h0_1, h1_1, h7_1, h8_1, eq_true hlt, hw, w5a, w5b, hv_f1, w7a, w7b, w7c]))
    | false =>
      rw [if_neg Bool.false_ne_true] at ho
      have hE := Option.some.inj ho; subst hE
      simp only [↓reduceIte, Nat.reduceAdd, Nat.reduceMul, Nat.reduceSub, Nat.reduceLT, Nat.reduceLeDiff, Nat.reduceEqDiff, Nat.reducePow, Int.reducePow, Int.reduceLE, Int.reduceLT, Int.reduceEq, Int.reduceToNat, reduceCtorEq, RR, RB, RZ, RE, opEv, fillV, mapO, mapS, b115_1, hl_1, h0_1, h1_1, h7_1, h8_1, eq_true hlt, hw, w5a, w5b, hv_f1, w7a, w7b, w7c]
      refine And.intro rfl (Exists.intro _ ( And.intro rfl ?_))
      simp only [↓reduceIte, Nat.reduceAdd, Nat.reduceMul, Nat.reduceSub, Nat.reduceLT, Nat.reduceLeDiff, Nat.reduceEqDiff, Nat.reducePow, Int.reducePow, Int.reduceLE, Int.reduceLT, Int.reduceEq, Int.reduceToNat, reduceCtorEq, RR, RB, RZ, RE, hl_1, h0_1, h1_1, h7_1, h8_1, eq_true hlt, hw, w5a, w5b, hv_f1, w7a, w7b, w7c]
  · rintro v8_1 _ e h ⟨k2, rfl, hl_1, h0_1, h1_1, h7_1, h8_1⟩ hge t1 ho
    unfold F115_1_D at ho
    have hE := Option.some.inj ho; subst hE
    simp only [↓reduceIte, Nat.reduceAdd, Nat.reduceMul, Nat.reduceSub, Nat.reduceLT, Nat.reduceLeDiff, Nat.reduceEqDiff, Nat.reducePow, Int.reducePow, Int.reduceLE, Int.reduceLT, Int.reduceEq, Int.reduceToNat, reduceCtorEq, RR, RB, RZ, RE, opEv, fillV, mapO, mapS, b115_1, hl_1, h0_1, h1_1, h7_1, h8_1, eq_false hge]
    intro ht; subst ht
    refine And.intro rfl (Exists.intro _ ( And.intro rfl ?_))
    simp only [↓reduceIte, Nat.reduceAdd, Nat.reduceMul, Nat.reduceSub, Nat.reduceLT, Nat.reduceLeDiff, Nat.reduceEqDiff, Nat.reducePow, Int.reducePow, Int.reduceLE, Int.reduceLT, Int.reduceEq, Int.reduceToNat, reduceCtorEq, RR, RB, RZ, RE, hl_1, h0_1, h1_1, h7_1, h8_1, eq_false hge]
theorem s115 (a0 : List Int) (f1 : Int → Option Bool) {vf1 : V} (hf1 : Clo1 A vf1 f1) {r : Int} (hF : F115 a0 f1 = some r) : ans A 115 [V.isl (List.map Enc.enc a0), vf1] = some (Enc.enc r) := by
  refine ans_of (f := p115) rfl rfl rfl fun e hl he => ?_
  have h0_0 : e.at 0 = V.isl (List.map Enc.enc a0) := he 0 _ rfl
  have h1_0 : e.at 1 = vf1 := he 1 _ rfl
  obtain ⟨g_f1, fs_f1, cs_f1, hv_f1, hc_f1⟩ := id hf1
  have hl_0 : e.length = 19 := hl
  clear he hl
  show W A b115 e ⟨[], 0⟩ _
  unfold F115 at hF
  obtain ⟨t8, gt8, hF⟩ := bS hF
  rcases t8 with _ | r9
  · dsimp only at hF
    simp only [↓reduceIte, Nat.reduceAdd, Nat.reduceMul, Nat.reduceSub, Nat.reduceLT, Nat.reduceLeDiff, Nat.reduceEqDiff, Nat.reducePow, Int.reducePow, Int.reduceLE, Int.reduceLT, Int.reduceEq, Int.reduceToNat, reduceCtorEq, RR, RB, RZ, RE, opEv, fillV, mapO, mapS, b115, hl_0, h0_0, h1_0]
    refine W.mono (l115_1 a0 f1 vf1 hf1 gt8 (Exists.intro _ ( And.intro rfl ?_))) ?_
    · simp only [↓reduceIte, Nat.reduceAdd, Nat.reduceMul, Nat.reduceSub, Nat.reduceLT, Nat.reduceLeDiff, Nat.reduceEqDiff, Nat.reducePow, Int.reducePow, Int.reduceLE, Int.reduceLT, Int.reduceEq, Int.reduceToNat, reduceCtorEq, RR, RB, RZ, RE, hl_0, h0_0, h1_0]
    rintro _ e _ ⟨rfl, k2, rfl, hl_3⟩
    have hE := Option.some.inj hF; subst hE
    simp only [↓reduceIte, Nat.reduceAdd, Nat.reduceMul, Nat.reduceSub, Nat.reduceLT, Nat.reduceLeDiff, Nat.reduceEqDiff, Nat.reducePow, Int.reducePow, Int.reduceLE, Int.reduceLT, Int.reduceEq, Int.reduceToNat, reduceCtorEq, RR, RB, RZ, RE, opEv, fillV, mapO, mapS, hl_3]
    exact fin_ret (by simp only [↓reduceIte, Nat.reduceAdd, Nat.reduceMul, Nat.reduceSub, Nat.reduceLT, Nat.reduceLeDiff, Nat.reduceEqDiff, Nat.reducePow, Int.reducePow, Int.reduceLE, Int.reduceLT, Int.reduceEq, Int.reduceToNat, reduceCtorEq, RR, RB, RZ, RE, fn_out, p115, Rs.ev, mapO, mapS, take_len_self, hl_3])
  · dsimp only at hF
    have hE := Option.some.inj hF; subst hE
    simp only [↓reduceIte, Nat.reduceAdd, Nat.reduceMul, Nat.reduceSub, Nat.reduceLT, Nat.reduceLeDiff, Nat.reduceEqDiff, Nat.reducePow, Int.reducePow, Int.reduceLE, Int.reduceLT, Int.reduceEq, Int.reduceToNat, reduceCtorEq, RR, RB, RZ, RE, opEv, fillV, mapO, mapS, b115, hl_0, h0_0, h1_0]
    refine W.mono (l115_1 a0 f1 vf1 hf1 gt8 (Exists.intro _ ( And.intro rfl ?_))) ?_
    · simp only [↓reduceIte, Nat.reduceAdd, Nat.reduceMul, Nat.reduceSub, Nat.reduceLT, Nat.reduceLeDiff, Nat.reduceEqDiff, Nat.reducePow, Int.reducePow, Int.reduceLE, Int.reduceLT, Int.reduceEq, Int.reduceToNat, reduceCtorEq, RR, RB, RZ, RE, hl_0, h0_0, h1_0]
    rintro _ e h ⟨rfl, hq⟩
    simp only [↓reduceIte, Nat.reduceAdd, Nat.reduceMul, Nat.reduceSub, Nat.reduceLT, Nat.reduceLeDiff, Nat.reduceEqDiff, Nat.reducePow, Int.reducePow, Int.reduceLE, Int.reduceLT, Int.reduceEq, Int.reduceToNat, reduceCtorEq, RR, RB]
    exact hq
/-! slices.ContainsFunc(()int64,int64) -/
def F82 (a0 : List Int) (f1 : Int → Option Bool) : Option Bool :=
  (F115 a0 f1).bind fun x1 =>
  some (decide (0 ≤ x1))
theorem s82 (a0 : List Int) (f1 : Int → Option Bool) {vf1 : V} (hf1 : Clo1 A vf1 f1) {r : Bool} (hF : F82 a0 f1 = some r) : ans A 82 [V.isl (List.map Enc.enc a0), vf1] = some (Enc.enc r) := by
  refine ans_of (f := p82) rfl rfl rfl fun e hl he => ?_
  have h0_0 : e.at 0 = V.isl (List.map Enc.enc a0) := he 0 _ rfl
  have h1_0 : e.at 1 = vf1 := he 1 _ rfl
  obtain ⟨g_f1, fs_f1, cs_f1, hv_f1, hc_f1⟩ := id hf1
  have hl_0 : e.length = 9 := hl
  clear he hl
  show W A b82 e ⟨[], 0⟩ _
  unfold F82 at hF
  obtain ⟨x1, gx1, hF⟩ := bS hF
  have w2 : ans A 115 [V.isl (List.map Enc.enc a0), vf1] = some (V.int .i64 x1) := s115 a0 f1 hf1 gx1
  have hE := Option.some.inj hF; subst hE
  simp only [↓reduceIte, Nat.reduceAdd, Nat.reduceMul, Nat.reduceSub, Nat.reduceLT, Nat.reduceLeDiff, Nat.reduceEqDiff, Nat.reducePow, Int.reducePow, Int.reduceLE, Int.reduceLT, Int.reduceEq, Int.reduceToNat, reduceCtorEq, RR, RB, RZ, RE, opEv, fillV, mapO, mapS, b82, hl_0, h0_0, h1_0, hf1.fz, hf1.rl, w2]
  exact fin_ret (by simp only [↓reduceIte, Nat.reduceAdd, Nat.reduceMul, Nat.reduceSub, Nat.reduceLT, Nat.reduceLeDiff, Nat.reduceEqDiff, Nat.reducePow, Int.reducePow, Int.reduceLE, Int.reduceLT, Int.reduceEq, Int.reduceToNat, reduceCtorEq, RR, RB, RZ, RE, fn_out, p82, Rs.ev, mapO, mapS, take_len_self, hl_0, h0_0, h1_0, hf1.fz, hf1.rl, w2])
/-! loop.example/g01273/impl.size(int64) -/
def F73 (a0 : List Int) : Option Int :=
  some (a0.length : Int)
theorem s73 (a0 : List Int)   {r : Int} (hF : F73 a0 = some r) : ans A 73 [V.isl (List.map Enc.enc a0)] = some (Enc.enc r) := by
  refine ans_of (f := p73) rfl rfl rfl fun e hl he => ?_
  have h0_0 : e.at 0 = V.isl (List.map Enc.enc a0) := he 0 _ rfl
  have hl_0 : e.length = 5 := hl
  clear he hl
  show W A b73 e ⟨[], 0⟩ _
  unfold F73 at hF
  have hE := Option.some.inj hF; subst hE
  simp only [↓reduceIte, Nat.reduceAdd, Nat.reduceMul, Nat.reduceSub, Nat.reduceLT, Nat.reduceLeDiff, Nat.reduceEqDiff, Nat.reducePow, Int.reducePow, Int.reduceLE, Int.reduceLT, Int.reduceEq, Int.reduceToNat, reduceCtorEq, RR, RB, RZ, RE, opEv, fillV, mapO, mapS, b73, hl_0, h0_0]
  exact fin_ret (by simp only [↓reduceIte, Nat.reduceAdd, Nat.reduceMul, Nat.reduceSub, Nat.reduceLT, Nat.reduceLeDiff, Nat.reduceEqDiff, Nat.reducePow, Int.reducePow, Int.reduceLE, Int.reduceLT, Int.reduceEq, Int.reduceToNat, reduceCtorEq, RR, RB, RZ, RE, fn_out, p73, Rs.ev, mapO, mapS, take_len_self, hl_0, h0_0])
/-! (loop.example/g01273/impl.Complex).top -/
def F86 (a0 : GComplex) : Option Int :=
  (chk ((a0.Dims.length : Int) - 1)).bind fun x3 =>
  some x3
theorem s86 (a0 : GComplex)   {r : Int} (hF : F86 a0 = some r) : ans A 86 [V.agg [V.int .i64 a0.Prime, V.isl (List.map Enc.enc a0.Dims), V.isl (List.map Enc.enc a0.Maps)]] = some (Enc.enc r) := by
  refine ans_of (f := p86) rfl rfl rfl fun e hl he => ?_
  have h0_0 : e.at 0 = V.agg [V.int .i64 a0.Prime, V.isl (List.map Enc.enc a0.Dims), V.isl (List.map Enc.enc a0.Maps)] := he 0 _ rfl
  have hl_0 : e.length = 7 := hl
  clear he hl
  show W A b86 e ⟨[], 0⟩ _
  unfold F86 at hF
  have w2 : ans A 73 [V.isl (List.map Enc.enc a0.Dims)] = some (V.int .i64 (a0.Dims.length : Int)) := s73 a0.Dims  rfl
  obtain ⟨x3, gx3, hF⟩ := bS hF
  have wx3 := chk_w gx3
  have hE := Option.some.inj hF; subst hE
  simp only [↓reduceIte, Nat.reduceAdd, Nat.reduceMul, Nat.reduceSub, Nat.reduceLT, Nat.reduceLeDiff, Nat.reduceEqDiff, Nat.reducePow, Int.reducePow, Int.reduceLE, Int.reduceLT, Int.reduceEq, Int.reduceToNat, reduceCtorEq, RR, RB, RZ, RE, opEv, fillV, mapO, mapS, b86, hl_0, h0_0, w2, wx3]
  exact fin_ret (by simp only [↓reduceIte, Nat.reduceAdd, Nat.reduceMul, Nat.reduceSub, Nat.reduceLT, Nat.reduceLeDiff, Nat.reduceEqDiff, Nat.reducePow, Int.reducePow, Int.reduceLE, Int.reduceLT, Int.reduceEq, Int.reduceToNat, reduceCtorEq, RR, RB, RZ, RE, fn_out, p86, Rs.ev, mapO, mapS, take_len_self, hl_0, h0_0, w2, wx3])
/-! loop.example/g01273/impl.size(()()int64) -/
def F87 (a0 : List (List (List Int))) : Option Int :=
  some (a0.length : Int)
theorem s87 (a0 : List (List (List Int)))   {r : Int} (hF : F87 a0 = some r) : ans A 87 [V.isl (List.map Enc.enc a0)] = some (Enc.enc r) := by
  refine ans_of (f := p87) rfl rfl rfl fun e hl he => ?_
  have h0_0 : e.at 0 = V.isl (List.map Enc.enc a0) := he 0 _ rfl
  have hl_0 : e.length = 5 := hl
  clear he hl
  show W A b87 e ⟨[], 0⟩ _
  unfold F87 at hF
  have hE := Option.some.inj hF; subst hE
  simp only [↓reduceIte, Nat.reduceAdd, Nat.reduceMul, Nat.reduceSub, Nat.reduceLT, Nat.reduceLeDiff, Nat.reduceEqDiff, Nat.reducePow, Int.reducePow, Int.reduceLE, Int.reduceLT, Int.reduceEq, Int.reduceToNat, reduceCtorEq, RR, RB, RZ, RE, opEv, fillV, mapO, mapS, b87, hl_0, h0_0]
  exact fin_ret (by simp only [↓reduceIte, Nat.reduceAdd, Nat.reduceMul, Nat.reduceSub, Nat.reduceLT, Nat.reduceLeDiff, Nat.reduceEqDiff, Nat.reducePow, Int.reducePow, Int.reduceLE, Int.reduceLT, Int.reduceEq, Int.reduceToNat, reduceCtorEq, RR, RB, RZ, RE, fn_out, p87, Rs.ev, mapO, mapS, take_len_self, hl_0, h0_0])
/-! loop.example/g01273/impl.IsComplex$1 -/
def F88 (a0 : Int) : Option Bool :=
  (F56 a0 0 8).bind fun x1 =>
  some (!x1)
theorem s88 (a0 : Int)   {r : Bool} (hF : F88 a0 = some r) : ans A 88 [V.int .i64 a0] = some (Enc.enc r) := by
  refine ans_of (f := p88) rfl rfl rfl fun e hl he => ?_
  have h0_0 : e.at 0 = V.int .i64 a0 := he 0 _ rfl
  have hl_0 : e.length = 6 := hl
  clear he hl
  show W A b88 e ⟨[], 0⟩ _
  unfold F88 at hF
  obtain ⟨x1, gx1, hF⟩ := bS hF
  have w2 : ans A 56 [V.int .i64 a0, V.int .i64 0, V.int .i64 8] = some (V.bool x1) := s56 a0 0 8  gx1
  have hE := Option.some.inj hF; subst hE
  simp only [↓reduceIte, Nat.reduceAdd, Nat.reduceMul, Nat.reduceSub, Nat.reduceLT, Nat.reduceLeDiff, Nat.reduceEqDiff, Nat.reducePow, Int.reducePow, Int.reduceLE, Int.reduceLT, Int.reduceEq, Int.reduceToNat, reduceCtorEq, RR, RB, RZ, RE, opEv, fillV, mapO, mapS, b88, hl_0, h0_0, w2]
  exact fin_ret (by simp only [↓reduceIte, Nat.reduceAdd, Nat.reduceMul, Nat.reduceSub, Nat.reduceLT, Nat.reduceLeDiff, Nat.reduceEqDiff, Nat.reducePow, Int.reducePow, Int.reduceLE, Int.reduceLT, Int.reduceEq, Int.reduceToNat, reduceCtorEq, RR, RB, RZ, RE, fn_out, p88, Rs.ev, mapO, mapS, take_len_self, hl_0, h0_0, w2])
/-! loop.example/g01273/impl.size(()int64) -/
def F89 (a0 : List (List Int)) : Option Int :=
  some (a0.length : Int)
theorem s89 (a0 : List (List Int))   {r : Int} (hF : F89 a0 = some r) : ans A 89 [V.isl (List.map Enc.enc a0)] = some (Enc.enc r) := by
  refine ans_of (f := p89) rfl rfl rfl fun e hl he => ?_
  have h0_0 : e.at 0 = V.isl (List.map Enc.enc a0) := he 0 _ rfl
  have hl_0 : e.length = 5 := hl
  clear he hl
  show W A b89 e ⟨[], 0⟩ _
  unfold F89 at hF
  have hE := Option.some.inj hF; subst hE
  simp only [↓reduceIte, Nat.reduceAdd, Nat.reduceMul, Nat.reduceSub, Nat.reduceLT, Nat.reduceLeDiff, Nat.reduceEqDiff, Nat.reducePow, Int.reducePow, Int.reduceLE, Int.reduceLT, Int.reduceEq, Int.reduceToNat, reduceCtorEq, RR, RB, RZ, RE, opEv, fillV, mapO, mapS, b89, hl_0, h0_0]
  exact fin_ret (by simp only [↓reduceIte, Nat.reduceAdd, Nat.reduceMul, Nat.reduceSub, Nat.reduceLT, Nat.reduceLeDiff, Nat.reduceEqDiff, Nat.reducePow, Int.reducePow, Int.reduceLE, Int.reduceLT, Int.reduceEq, Int.reduceToNat, reduceCtorEq, RR, RB, RZ, RE, fn_out, p89, Rs.ev, mapO, mapS, take_len_self, hl_0, h0_0])
/-! loop.example/g01273/impl.isVector$1 -/
def F130 (a0 : Int) (d0 : Int) : Option Bool :=
  (chk (d0 - 1)).bind fun x1 =>
  (F56 a0 0 x1).bind fun x2 =>
  some (!x2)
theorem s130 (a0 : Int) (d0 : Int)   {r : Bool} (hF : F130 a0 d0 = some r) : ans A 130 [V.int .i64 a0, V.iptr [V.int .i64 d0]] = some (Enc.enc r) := by
  refine ans_of (f := p130) rfl rfl rfl fun e hl he => ?_
  have h0_0 : e.at 0 = V.int .i64 a0 := he 0 _ rfl
  have h1_0 : e.at 1 = V.iptr [V.int .i64 d0] := he 1 _ rfl
  have hl_0 : e.length = 9 := hl
  clear he hl
  show W A b130 e ⟨[], 0⟩ _
  unfold F130 at hF
  obtain ⟨x1, gx1, hF⟩ := bS hF
  have wx1 := chk_w gx1
  obtain ⟨x2, gx2, hF⟩ := bS hF
  have w3 : ans A 56 [V.int .i64 a0, V.int .i64 0, V.int .i64 x1] = some (V.bool x2) := s56 a0 0 x1  gx2
  have hE := Option.some.inj hF; subst hE
  simp only [↓reduceIte, Nat.reduceAdd, Nat.reduceMul, Nat.reduceSub, Nat.reduceLT, Nat.reduceLeDiff, Nat.reduceEqDiff, Nat.reducePow, Int.reducePow, Int.reduceLE, Int.reduceLT, Int.reduceEq, Int.reduceToNat, reduceCtorEq, RR, RB, RZ, RE, opEv, fillV, mapO, mapS, b130, hl_0, h0_0, h1_0, wx1, w3]
  exact fin_ret (by simp only [↓reduceIte, Nat.reduceAdd, Nat.reduceMul, Nat.reduceSub, Nat.reduceLT, Nat.reduceLeDiff, Nat.reduceEqDiff, Nat.reducePow, Int.reducePow, Int.reduceLE, Int.reduceLT, Int.reduceEq, Int.reduceToNat, reduceCtorEq, RR, RB, RZ, RE, fn_out, p130, Rs.ev, mapO, mapS, take_len_self, hl_0, h0_0, h1_0, wx1, w3])
/-! loop.example/g01273/impl.isVector -/
def F129 (a0 : Int) (a1 : Int) (a2 : List Int) : Option Bool :=
  if (a2.length : Int) = a1 then
    (F82 a2 (fun x => F130 x a0)).bind fun x4 =>
    some (!x4)
  else
    some false
theorem s129 (a0 : Int) (a1 : Int) (a2 : List Int)   {r : Bool} (hF : F129 a0 a1 a2 = some r) : ans A 129 [V.int .i64 a0, V.int .i64 a1, V.isl (List.map Enc.enc a2)] = some (Enc.enc r) := by
  refine ans_of (f := p129) rfl rfl rfl fun e hl he => ?_
  have h0_0 : e.at 0 = V.int .i64 a0 := he 0 _ rfl
  have h1_0 : e.at 1 = V.int .i64 a1 := he 1 _ rfl
  have h2_0 : e.at 2 = V.isl (List.map Enc.enc a2) := he 2 _ rfl
  have hl_0 : e.length = 17 := hl
  clear he hl
  show W A b129 e ⟨[], 0⟩ _
  unfold F129 at hF
  have w2 : ans A 73 [V.isl (List.map Enc.enc a2)] = some (V.int .i64 (a2.length : Int)) := s73 a2  rfl
  by_cases c3 : (a2.length : Int) = a1
  · rw [if_pos c3] at hF
    obtain ⟨x4, gx4, hF⟩ := bS hF
    have w5 : ans A 82 [V.isl (List.map Enc.enc a2), V.fn 130 [] [V.iptr [V.int .i64 a0]]] = some (V.bool x4) := s82 a2 (fun x => F130 x a0) (Clo1.of (by intro h f; simp only [RZ, mapO]) (by intro h f; simp only [RZ, mapO]) (by intro f; simp only [RZ, RB]) (by intro f; simp only [RZ, RB]) (fun x _ hr => s130 x a0 hr)) gx4
    have hE := Option.some.inj hF; subst hE
    simp only [↓reduceIte, Nat.reduceAdd, Nat.reduceMul, Nat.reduceSub, Nat.reduceLT, Nat.reduceLeDiff, Nat.reduceEqDiff, Nat.reducePow, Int.reducePow, Int.reduceLE, Int.reduceLT, Int.reduceEq, Int.reduceToNat, reduceCtorEq, RR, RB, RZ, RE, opEv, fillV, mapO, mapS, b129, hl_0, h0_0, h1_0, h2_0, w2, eq_true c3, w5]
    exact fin_ret (by simp only [↓reduceIte, Nat.reduceAdd, Nat.reduceMul, Nat.reduceSub, Nat.reduceLT, Nat.reduceLeDiff, Nat.reduceEqDiff, Nat.reducePow, Int.reducePow, Int.reduceLE, Int.reduceLT, Int.reduceEq, Int.reduceToNat, reduceCtorEq, RR, RB, RZ, RE, fn_out, p129, Rs.ev, mapO, mapS, take_len_self, hl_0, h0_0, h1_0, h2_0, w2, eq_true c3, w5])
  · rw [if_neg c3] at hF
    have hE := Option.some.inj hF; subst hE
    simp only [↓reduceIte, Nat.reduceAdd, Nat.reduceMul, Nat.reduceSub, Nat.reduceLT, Nat.reduceLeDiff, Nat.reduceEqDiff, Nat.reducePow, Int.reducePow, Int.reduceLE, Int.reduceLT, Int.reduceEq, Int.reduceToNat, reduceCtorEq, RR, RB, RZ, RE, opEv, fillV, mapO, mapS, b129, hl_0, h0_0, h1_0, h2_0, w2, eq_false c3]
    exact fin_ret (by simp only [↓reduceIte, Nat.reduceAdd, Nat.reduceMul, Nat.reduceSub, Nat.reduceLT, Nat.reduceLeDiff, Nat.reduceEqDiff, Nat.reducePow, Int.reducePow, Int.reduceLE, Int.reduceLT, Int.reduceEq, Int.reduceToNat, reduceCtorEq, RR, RB, RZ, RE, fn_out, p129, Rs.ev, mapO, mapS, take_len_self, hl_0, h0_0, h1_0, h2_0, w2, eq_false c3])
/-! loop.example/g01273/impl.areRows$1 -/
def F116 (a0 : List Int) (d0 : Int) (d1 : Int) : Option Bool :=
  (F129 d0 d1 a0).bind fun x1 =>
  some (!x1)
theorem s116 (a0 : List Int) (d0 : Int) (d1 : Int)   {r : Bool} (hF : F116 a0 d0 d1 = some r) : ans A 116 [V.isl (List.map Enc.enc a0), V.iptr [V.int .i64 d0], V.iptr [V.int .i64 d1]] = some (Enc.enc r) := by
  refine ans_of (f := p116) rfl rfl rfl fun e hl he => ?_
  have h0_0 : e.at 0 = V.isl (List.map Enc.enc a0) := he 0 _ rfl
  have h1_0 : e.at 1 = V.iptr [V.int .i64 d0] := he 1 _ rfl
  have h2_0 : e.at 2 = V.iptr [V.int .i64 d1] := he 2 _ rfl
  have hl_0 : e.length = 10 := hl
  clear he hl
  show W A b116 e ⟨[], 0⟩ _
  unfold F116 at hF
  obtain ⟨x1, gx1, hF⟩ := bS hF
  have w2 : ans A 129 [V.int .i64 d0, V.int .i64 d1, V.isl (List.map Enc.enc a0)] = some (V.bool x1) := s129 d0 d1 a0  gx1
  have hE := Option.some.inj hF; subst hE
  simp only [↓reduceIte, Nat.reduceAdd, Nat.reduceMul, Nat.reduceSub, Nat.reduceLT, Nat.reduceLeDiff, Nat.reduceEqDiff, Nat.reducePow, Int.reducePow, Int.reduceLE, Int.reduceLT, Int.reduceEq, Int.reduceToNat, reduceCtorEq, RR, RB, RZ, RE, opEv, fillV, mapO, mapS, b116, hl_0, h0_0, h1_0, h2_0, w2]
  exact fin_ret (by simp only [↓reduceIte, Nat.reduceAdd, Nat.reduceMul, Nat.reduceSub, Nat.reduceLT, Nat.reduceLeDiff, Nat.reduceEqDiff, Nat.reducePow, Int.reducePow, Int.reduceLE, Int.reduceLT, Int.reduceEq, Int.reduceToNat, reduceCtorEq, RR, RB, RZ, RE, fn_out, p116, Rs.ev, mapO, mapS, take_len_self, hl_0, h0_0, h1_0, h2_0, w2])
/-! slices.IndexFunc(()()int64,()int64) -/
def F128_1_B (a0 : List (List Int)) (f1 : (List Int) → Option Bool) (v8_1 : Int) (s : Unit) : Option ((Unit) ⊕ ((Unit) ⊕ Int)) :=
  (getI a0 v8_1).bind fun x4 =>
(f1 x4).bind fun x6 =>
if x6 = true then
  some (.inr (.inr v8_1))
else
  some (.inl ())
def F128_1_D (a0 : List (List Int)) (f1 : (List Int) → Option Bool) (v8_1 : Int) (s : Unit) : Option ((Unit) ⊕ Int) :=
  some (.inl ())
def F128 (a0 : List (List Int)) (f1 : (List Int) → Option Bool) : Option Int :=
  (forR 0 (a0.length : Int) (F128_1_B a0 f1) (F128_1_D a0 f1) ()).bind fun t8 => match t8 with
    | .inl _ =>
      some (-1)
    | .inr r9 => some r9
def I128_1 (a0 : List (List Int)) (f1 : (List Int) → Option Bool) (vf1 : V) (v8_1 : Int) (s : Unit) (e : Env) (h : Heap) : Prop :=
  ∃ k2 : Nat, h = ⟨[], k2⟩ ∧ e.length = 19 ∧ e.at 0 = V.isl (List.map Enc.enc a0) ∧ e.at 1 = vf1 ∧ e.at 7 = V.int .i64 (a0.length : Int) ∧ e.at 8 = V.int .i64 v8_1
def P128_1 (a0 : List (List Int)) (f1 : (List Int) → Option Bool) (vf1 : V) (t : (Unit) ⊕ Int) (x : Ex) (e : Env) (h : Heap) : Prop :=
  match t with
  | .inl _ => x = .normal ∧ ∃ k2 : Nat, h = ⟨[], k2⟩ ∧ e.length = 19
  | .inr r => x = .ret ∧ Fin p128 (Enc.enc r) .ret e h
theorem l128_1 (a0 : List (List Int)) (f1 : (List Int) → Option Bool) (vf1 : V) (hf1 : Clo1 A vf1 f1) {lo : Int} {s : Unit} {t : (Unit) ⊕ Int} (hF : forR lo (a0.length : Int) (F128_1_B a0 f1) (F128_1_D a0 f1) s = some t) {e : Env} {h : Heap} (hI : I128_1 a0 f1 vf1 lo s e h) : W A c128_1 e h (P128_1 a0 f1 vf1 t) := by
  obtain ⟨g_f1, fs_f1, cs_f1, hv_f1, hc_f1⟩ := id hf1
  show W A (.block 0 (.loop false b128_1)) e h _
  rw [W_block]
  refine W_forR hF 0 (by obtain ⟨_, rfl, _⟩ := hI; rfl) (I128_1 a0 f1 vf1) hI ?_ ?_
  · rintro v8_1 _ e h ⟨k2, rfl, hl_1, h0_1, h1_1, h7_1, h8_1⟩ hlt hw o ho
    unfold F128_1_B at ho
    obtain ⟨x4, gx4, ho⟩ := bS ho
    obtain ⟨w5a, w5b⟩ := getI_w gx4
    obtain ⟨x6, gx6, ho⟩ := bS ho
    have w7a : ∀ h, mapO (frz h 16) (fs_f1 ++ [V.isl (List.map Enc.enc x4)] ++ cs_f1) = some (fs_f1 ++ [V.isl (List.map Enc.enc x4)] ++ cs_f1) := fun h => hc_f1.zf x4 h
    have w7b : List.all (fs_f1 ++ [V.isl (List.map Enc.enc x4)] ++ cs_f1) (refless 16) = true := hc_f1.zr x4
    have w7c : ans A g_f1 (fs_f1 ++ [V.isl (List.map Enc.enc x4)] ++ cs_f1) = some (V.bool x6) := hc_f1.ka x4 _ gx6
    cases x6 with
    | true =>
      rw [if_pos rfl] at ho
      have hE := Option.some.inj ho; subst hE
      simp only [↓reduceIte, Nat.reduceAdd, Nat.reduceMul, Nat.reduceSub, Nat.reduceLT, Nat.reduceLeDiff, Nat.reduceEqDiff, Nat.reducePow, Int.reducePow, Int.reduceLE, Int.reduceLT, Int.reduceEq, Int.reduceToNat, reduceCtorEq, RR, RB, RZ, RE, opEv, fillV, mapO, mapS, b128_1, hl_1, h0_1, h1_1, h7_1, h8_1, eq_true hlt, hw, w5a, w5b, hv_f1, w7a, w7b, w7c]
      intro ht; subst ht
      simp only [↓reduceIte, Nat.reduceAdd, Nat.reduceMul, Nat.reduceSub, Nat.reduceLT, Nat.reduceLeDiff, Nat.reduceEqDiff, Nat.reducePow, Int.reducePow, Int.reduceLE, Int.reduceLT, Int.reduceEq, Int.reduceToNat, reduceCtorEq, RR, RB]
      exact And.intro rfl (fin_ret (by simp only [↓reduceIte, Nat.reduceAdd, Nat.reduceMul, Nat.reduceSub, Nat.reduceLT, Nat.reduceLeDiff, Nat.reduceEqDiff, Nat.reducePow, Int.reducePow, Int.reduceLE, Int.reduceLT, Int.reduceEq, Int.reduceToNat, reduceCtorEq, RR, RB, RZ, RE, fn_out, p128, Rs.ev, mapO, mapS, take_len_self, hl_1, h0_1, h1_1, h7_1, h8_1, eq_true hlt, hw, w5a, w5b, hv_f1, w7a, w7b, w7c]))
    | false =>
      rw [if_neg Bool.false_ne_true] at ho
      have hE := Option.some.inj ho; subst hE
      simp only [↓reduceIte, Nat.reduceAdd, Nat.reduceMul, Nat.reduceSub, Nat.reduceLT, Nat.reduceLeDiff, Nat.reduceEqDiff, Nat.reducePow, Int.reducePow, Int.reduceLE, Int.reduceLT, Int.reduceEq, Int.reduceToNat, reduceCtorEq, RR, RB, RZ, RE, opEv, fillV, mapO, mapS, b128_1, hl_1, h0_1, h1_1, h7_1, h8_1, eq_true hlt, hw, w5a, w5b, hv_f1, w7a, w7b, w7c]
      refine And.intro rfl (Exists.intro _ ( And.intro rfl ?_))
      simp only [↓reduceIte, Nat.reduceAdd, Nat.reduceMul, Nat.reduceSub, Nat.reduceLT, Nat.reduceLeDiff, Nat.reduceEqDiff, Nat.reducePow, Int.reducePow, Int.reduceLE, Int.reduceLT, Int.reduceEq, Int.reduceToNat, reduceCtorEq, RR, RB, RZ, RE, hl_1, h0_1, h1_1, h7_1, h8_1, eq_true hlt, hw, w5a, w5b, hv_f1, w7a, w7b, w7c]
  · rintro v8_1 _ e h ⟨k2, rfl, hl_1, h0_1, h1_1, h7_1, h8_1⟩ hge t1 ho
    unfold F128_1_D at ho
    have hE := Option.some.inj ho; subst hE
    simp only [↓reduceIte, Nat.reduceAdd, Nat.reduceMul, Nat.reduceSub, Nat.reduceLT, Nat.reduceLeDiff, Nat.reduceEqDiff, Nat.reducePow, Int.reducePow, Int.reduceLE, Int.reduceLT, Int.reduceEq, Int.reduceToNat, reduceCtorEq, RR, RB, RZ, RE, opEv, fillV, mapO, mapS, b128_1, hl_1, h0_1, h1_1, h7_1, h8_1, eq_false hge]
    intro ht; subst ht
    refine And.intro rfl (Exists.intro _ ( And.intro rfl ?_))
    simp only [↓reduceIte, Nat.reduceAdd, Nat.reduceMul, Nat.reduceSub, Nat.reduceLT, Nat.reduceLeDiff, Nat.reduceEqDiff, Nat.reducePow, Int.reducePow, Int.reduceLE, Int.reduceLT, Int.reduceEq, Int.reduceToNat, reduceCtorEq, RR, RB, RZ, RE, hl_1, h0_1, h1_1, h7_1, h8_1, eq_false hge]
theorem s128 (a0 : List (List Int)) (f1 : (List Int) → Option Bool) {vf1 : V} (hf1 : Clo1 A vf1 f1) {r : Int} (hF : F128 a0 f1 = some r) : ans A 128 [V.isl (List.map Enc.enc a0), vf1] = some (Enc.enc r) := by
  refine ans_of (f := p128) rfl rfl rfl fun e hl he => ?_
  have h0_0 : e.at 0 = V.isl (List.map Enc.enc a0) := he 0 _ rfl
  have h1_0 : e.at 1 = vf1 := he 1 _ rfl
  obtain ⟨g_f1, fs_f1, cs_f1, hv_f1, hc_f1⟩ := id hf1
  have hl_0 : e.length = 19 := hl
  clear he hl
  show W A b128 e ⟨[], 0⟩ _
  unfold F128 at hF
  obtain ⟨t8, gt8, hF⟩ := bS hF
  rcases t8 with _ | r9
  · dsimp only at hF
    simp only [↓reduceIte, Nat.reduceAdd, Nat.reduceMul, Nat.reduceSub, Nat.reduceLT, Nat.reduceLeDiff, Nat.reduceEqDiff, Nat.reducePow, Int.reducePow, Int.reduceLE, Int.reduceLT, Int.reduceEq, Int.reduceToNat, reduceCtorEq, RR, RB, RZ, RE, opEv, fillV, mapO, mapS, b128, hl_0, h0_0, h1_0]
    refine W.mono (l128_1 a0 f1 vf1 hf1 gt8 (Exists.intro _ ( And.intro rfl ?_))) ?_
    · simp only [↓reduceIte, Nat.reduceAdd, Nat.reduceMul, Nat.reduceSub, Nat.reduceLT, Nat.reduceLeDiff, Nat.reduceEqDiff, Nat.reducePow, Int.reducePow, Int.reduceLE, Int.reduceLT, Int.reduceEq, Int.reduceToNat, reduceCtorEq, RR, RB, RZ, RE, hl_0, h0_0, h1_0]
    rintro _ e _ ⟨rfl, k2, rfl, hl_3⟩
    have hE := Option.some.inj hF; subst hE
    simp only [↓reduceIte, Nat.reduceAdd, Nat.reduceMul, Nat.reduceSub, Nat.reduceLT, Nat.reduceLeDiff, Nat.reduceEqDiff, Nat.reducePow, Int.reducePow, Int.reduceLE, Int.reduceLT, Int.reduceEq, Int.reduceToNat, reduceCtorEq, RR, RB, RZ, RE, opEv, fillV, mapO, mapS, hl_3]
    exact fin_ret (by simp only [↓reduceIte, Nat.reduceAdd, Nat.reduceMul, Nat.reduceSub, Nat.reduceLT, Nat.reduceLeDiff, Nat.reduceEqDiff, Nat.reducePow, Int.reducePow, Int.reduceLE, Int.reduceLT, Int.reduceEq, Int.reduceToNat, reduceCtorEq, RR, RB, RZ, RE, fn_out, p128, Rs.ev, mapO, mapS, take_len_self, hl_3])
  · dsimp only at hF
    have hE := Option.some.inj hF; subst hE
    simp only [↓reduceIte, Nat.reduceAdd, Nat.reduceMul, Nat.reduceSub, Nat.reduceLT, Nat.reduceLeDiff, Nat.reduceEqDiff, Nat.reducePow, Int.reducePow, Int.reduceLE, Int.reduceLT, Int.reduceEq, Int.reduceToNat, reduceCtorEq, RR, RB, RZ, RE, opEv, fillV, mapO, mapS, b128, hl_0, h0_0, h1_0]
    refine W.mono (l128_1 a0 f1 vf1 hf1 gt8 (Exists.intro _ ( And.intro rfl ?_))) ?_
    · simp only [↓reduceIte, Nat.reduceAdd, Nat.reduceMul, Nat.reduceSub, Nat.reduceLT, Nat.reduceLeDiff, Nat.reduceEqDiff, Nat.reducePow, Int.reducePow, Int.reduceLE, Int.reduceLT, Int.reduceEq, Int.reduceToNat, reduceCtorEq, RR, RB, RZ, RE, hl_0, h0_0, h1_0]
    rintro _ e h ⟨rfl, hq⟩
    simp only [↓reduceIte, Nat.reduceAdd, Nat.reduceMul, Nat.reduceSub, Nat.reduceLT, Nat.reduceLeDiff, Nat.reduceEqDiff, Nat.reducePow, Int.reducePow, Int.reduceLE, Int.reduceLT, Int.reduceEq, Int.reduceToNat, reduceCtorEq, RR, RB]
    exact hq
/-! slices.ContainsFunc(()()int64,()int64) -/
def F117 (a0 : List (List Int)) (f1 : (List Int) → Option Bool) : Option Bool :=
  (F128 a0 f1).bind fun x1 =>
  some (decide (0 ≤ x1))
theorem s117 (a0 : List (List Int)) (f1 : (List Int) → Option Bool) {vf1 : V} (hf1 : Clo1 A vf1 f1) {r : Bool} (hF : F117 a0 f1 = some r) : ans A 117 [V.isl (List.map Enc.enc a0), vf1] = some (Enc.enc r) := by
  refine ans_of (f := p117) rfl rfl rfl fun e hl he => ?_
  have h0_0 : e.at 0 = V.isl (List.map Enc.enc a0) := he 0 _ rfl
  have h1_0 : e.at 1 = vf1 := he 1 _ rfl
  obtain ⟨g_f1, fs_f1, cs_f1, hv_f1, hc_f1⟩ := id hf1
  have hl_0 : e.length = 9 := hl
  clear he hl
  show W A b117 e ⟨[], 0⟩ _
  unfold F117 at hF
  obtain ⟨x1, gx1, hF⟩ := bS hF
  have w2 : ans A 128 [V.isl (List.map Enc.enc a0), vf1] = some (V.int .i64 x1) := s128 a0 f1 hf1 gx1
  have hE := Option.some.inj hF; subst hE
  simp only [↓reduceIte, Nat.reduceAdd, Nat.reduceMul, Nat.reduceSub, Nat.reduceLT, Nat.reduceLeDiff, Nat.reduceEqDiff, Nat.reducePow, Int.reducePow, Int.reduceLE, Int.reduceLT, Int.reduceEq, Int.reduceToNat, reduceCtorEq, RR, RB, RZ, RE, opEv, fillV, mapO, mapS, b117, hl_0, h0_0, h1_0, hf1.fz, hf1.rl, w2]
  exact fin_ret (by simp only [↓reduceIte, Nat.reduceAdd, Nat.reduceMul, Nat.reduceSub, Nat.reduceLT, Nat.reduceLeDiff, Nat.reduceEqDiff, Nat.reducePow, Int.reducePow, Int.reduceLE, Int.reduceLT, Int.reduceEq, Int.reduceToNat, reduceCtorEq, RR, RB, RZ, RE, fn_out, p117, Rs.ev, mapO, mapS, take_len_self, hl_0, h0_0, h1_0, hf1.fz, hf1.rl, w2])
/-! loop.example/g01273/impl.areRows -/
def F90 (a0 : Int) (a1 : Int) (a2 : List (List Int)) : Option Bool :=
  (F117 a2 (fun x => F116 x a0 a1)).bind fun x1 =>
  some (!x1)
theorem s90 (a0 : Int) (a1 : Int) (a2 : List (List Int))   {r : Bool} (hF : F90 a0 a1 a2 = some r) : ans A 90 [V.int .i64 a0, V.int .i64 a1, V.isl (List.map Enc.enc a2)] = some (Enc.enc r) := by
  refine ans_of (f := p90) rfl rfl rfl fun e hl he => ?_
  have h0_0 : e.at 0 = V.int .i64 a0 := he 0 _ rfl
  have h1_0 : e.at 1 = V.int .i64 a1 := he 1 _ rfl
  have h2_0 : e.at 2 = V.isl (List.map Enc.enc a2) := he 2 _ rfl
  have hl_0 : e.length = 11 := hl
  clear he hl
  show W A b90 e ⟨[], 0⟩ _
  unfold F90 at hF
  obtain ⟨x1, gx1, hF⟩ := bS hF
  have w2 : ans A 117 [V.isl (List.map Enc.enc a2), V.fn 116 [] [V.iptr [V.int .i64 a0], V.iptr [V.int .i64 a1]]] = some (V.bool x1) := s117 a2 (fun x => F116 x a0 a1) (Clo1.of (by intro h f; simp only [RZ, mapO]) (by intro h f; simp only [RZ, mapO]) (by intro f; simp only [RZ, RB]) (by intro f; simp only [RZ, RB]) (fun x _ hr => s116 x a0 a1 hr)) gx1
  have hE := Option.some.inj hF; subst hE
  simp only [↓reduceIte, Nat.reduceAdd, Nat.reduceMul, Nat.reduceSub, Nat.reduceLT, Nat.reduceLeDiff, Nat.reduceEqDiff, Nat.reducePow, Int.reducePow, Int.reduceLE, Int.reduceLT, Int.reduceEq, Int.reduceToNat, reduceCtorEq, RR, RB, RZ, RE, opEv, fillV, mapO, mapS, b90, hl_0, h0_0, h1_0, h2_0, w2]
  exact fin_ret (by simp only [↓reduceIte, Nat.reduceAdd, Nat.reduceMul, Nat.reduceSub, Nat.reduceLT, Nat.reduceLeDiff, Nat.reduceEqDiff, Nat.reducePow, Int.reducePow, Int.reduceLE, Int.reduceLT, Int.reduceEq, Int.reduceToNat, reduceCtorEq, RR, RB, RZ, RE, fn_out, p90, Rs.ev, mapO, mapS, take_len_self, hl_0, h0_0, h1_0, h2_0, w2])
/-! loop.example/g01273/impl.combine -/
def F119_2_B (a0 : Int) (a2 : List Int) (a3 : List (List Int)) (v18_1 : Int) (x7 : Int) (x9 : List Int) (v28_2 : Int) (o0_2 : (List Int)) : Option (((List Int)) ⊕ ((List Int))) :=
  (getI x9 v28_2).bind fun x15 =>
(getI o0_2 v28_2).bind fun x17 =>
(chk (x7 * x15)).bind fun x19 =>
(chk (x17 + x19)).bind fun x20 =>
(remI x20 a0).bind fun x21 =>
(setI o0_2 v28_2 x21).bind fun l23 =>
some (.inl l23)
def F119_2_D (a0 : Int) (a2 : List Int) (a3 : List (List Int)) (v18_1 : Int) (x7 : Int) (x9 : List Int) (v28_2 : Int) (o0_2 : (List Int)) : Option ((List Int)) :=
  some o0_2
def F119_1_B (a0 : Int) (a2 : List Int) (a3 : List (List Int)) (v18_1 : Int) (o0_1 : (List Int)) : Option (((List Int)) ⊕ ((List Int))) :=
  (getI a2 v18_1).bind fun x7 =>
(getI a3 v18_1).bind fun x9 =>
(forR 0 (x9.length : Int) (F119_2_B a0 a2 a3 v18_1 x7 x9) (F119_2_D a0 a2 a3 v18_1 x7 x9) o0_1).bind fun zo0_2 =>
some (.inl zo0_2)
def F119_1_D (a0 : Int) (a2 : List Int) (a3 : List (List Int)) (v18_1 : Int) (o0_1 : (List Int)) : Option ((List Int)) :=
  some o0_1
def F119 (a0 : Int) (a1 : Int) (a2 : List Int) (a3 : List (List Int)) : Option (List Int) :=
  (mkL 8 a1 0).bind fun l1 =>
  (forR 0 (a2.length : Int) (F119_1_B a0 a2 a3) (F119_1_D a0 a2 a3) l1).bind fun zo0_1 =>
  some zo0_1
def I119_2 (a0 : Int) (a2 : List Int) (a3 : List (List Int)) (v18_1 : Int) (x7 : Int) (x9 : List Int)  (v28_2 : Int) (o0_2 : (List Int)) (e : Env) (h : Heap) : Prop :=
  ∃ u12 k13 : Nat, h = ⟨[(u12, some (List.map Enc.enc o0_2))], k13⟩ ∧ e.length = 49 ∧ e.at 0 = V.int .i64 a0 ∧ e.at 3 = V.isl (List.map Enc.enc a3) ∧ e.at 9 = V.sl 0 u12 0 o0_2.length 1 ∧ e.at 11 = V.int .i64 x7 ∧ e.at 16 = V.isl (List.map Enc.enc a2) ∧ e.at 17 = V.int .i64 (a2.length : Int) ∧ e.at 18 = V.int .i64 v18_1 ∧ e.at 26 = V.isl (List.map Enc.enc x9) ∧ e.at 27 = V.int .i64 (x9.length : Int) ∧ e.at 28 = V.int .i64 v28_2
def P119_2 (a0 : Int) (a2 : List Int) (a3 : List (List Int)) (v18_1 : Int) (x7 : Int) (x9 : List Int)  (zo0_2 : (List Int)) (x : Ex) (e : Env) (h : Heap) : Prop :=
  x = .normal ∧ ∃ u12 k13 : Nat, h = ⟨[(u12, some (List.map Enc.enc zo0_2))], k13⟩ ∧ e.length = 49 ∧ e.at 0 = V.int .i64 a0 ∧ e.at 3 = V.isl (List.map Enc.enc a3) ∧ e.at 9 = V.sl 0 u12 0 zo0_2.length 1 ∧ e.at 16 = V.isl (List.map Enc.enc a2) ∧ e.at 17 = V.int .i64 (a2.length : Int) ∧ e.at 18 = V.int .i64 v18_1
theorem l119_2 (a0 : Int) (a2 : List Int) (a3 : List (List Int)) (v18_1 : Int) (x7 : Int) (x9 : List Int)   {lo : Int} {s : (List Int)} {t : (List Int)} (hF : forR lo (x9.length : Int) (F119_2_B a0 a2 a3 v18_1 x7 x9) (F119_2_D a0 a2 a3 v18_1 x7 x9) s = some t) {e : Env} {h : Heap} (hI : I119_2 a0 a2 a3 v18_1 x7 x9  lo s e h) : W A c119_2 e h (P119_2 a0 a2 a3 v18_1 x7 x9  t) := by
  show W A (.block 2 (.loop false b119_2)) e h _
  rw [W_block]
  refine W_forR hF 1 (by obtain ⟨_, _, rfl, _⟩ := hI; rfl) (I119_2 a0 a2 a3 v18_1 x7 x9 ) hI ?_ ?_
  · rintro v28_2 o0_2 e h ⟨u12, k13, rfl, hl_11, h0_11, h3_11, h9_11, h11_11, h16_11, h17_11, h18_11, h26_11, h27_11, h28_11⟩ hlt hw o ho
    unfold F119_2_B at ho
    obtain ⟨x15, gx15, ho⟩ := bS ho
    obtain ⟨w16a, w16b⟩ := getI_w gx15
    obtain ⟨x17, gx17, ho⟩ := bS ho
    obtain ⟨w18a, w18b⟩ := getI_w gx17
    have w18c := getI_lt gx17
    have w18d : List.drop (Int.toNat v28_2) (List.map Enc.enc o0_2) = (V.int .i64 x17) :: List.drop ((Int.toNat v28_2) + 1) (List.map Enc.enc o0_2) := drop_enc w18b
    obtain ⟨x19, gx19, ho⟩ := bS ho
    have wx19 := chk_w gx19
    obtain ⟨x20, gx20, ho⟩ := bS ho
    have wx20 := chk_w gx20
    obtain ⟨x21, gx21, ho⟩ := bS ho
    obtain ⟨w22a, w22b⟩ := rem_w gx21
    obtain ⟨l23, gl23, ho⟩ := bS ho
    obtain ⟨w24a, w24b, w24c, w24d, w24e⟩ := setI_w gl23
    replace w24e : List.take (Int.toNat v28_2) (List.map Enc.enc o0_2) ++ [V.int .i64 x21] ++ List.drop (Int.toNat v28_2 + 1) (List.map Enc.enc o0_2) = List.map Enc.enc l23 := w24e
    have hE := Option.some.inj ho; subst hE
    simp only [↓reduceIte, Nat.reduceAdd, Nat.reduceMul, Nat.reduceSub, Nat.reduceLT, Nat.reduceLeDiff, Nat.reduceEqDiff, Nat.reducePow, Int.reducePow, Int.reduceLE, Int.reduceLT, Int.reduceEq, Int.reduceToNat, reduceCtorEq, RR, RB, RZ, RE, opEv, fillV, mapO, mapS, b119_2, hl_11, h0_11, h3_11, h9_11, h11_11, h16_11, h17_11, h18_11, h26_11, h27_11, h28_11, eq_true hlt, hw, w16a, w16b, w18a, w18b, w18c, w18d, wx19, wx20, eq_false w22a, w22b, w24a, w24b, w24c, w24e]
    refine And.intro rfl (Exists.intro _ ( Exists.intro _ ( And.intro rfl ?_)))
    simp only [↓reduceIte, Nat.reduceAdd, Nat.reduceMul, Nat.reduceSub, Nat.reduceLT, Nat.reduceLeDiff, Nat.reduceEqDiff, Nat.reducePow, Int.reducePow, Int.reduceLE, Int.reduceLT, Int.reduceEq, Int.reduceToNat, reduceCtorEq, RR, RB, RZ, RE, hl_11, h0_11, h3_11, h9_11, h11_11, h16_11, h17_11, h18_11, h26_11, h27_11, h28_11, eq_true hlt, hw, w16a, w16b, w18a, w18b, w18c, w18d, wx19, wx20, eq_false w22a, w22b, w24a, w24b, w24c, w24e, w24d]
  · rintro v28_2 o0_2 e h ⟨u12, k13, rfl, hl_11, h0_11, h3_11, h9_11, h11_11, h16_11, h17_11, h18_11, h26_11, h27_11, h28_11⟩ hge t1 ho
    unfold F119_2_D at ho
    have hE := Option.some.inj ho; subst hE
    simp only [↓reduceIte, Nat.reduceAdd, Nat.reduceMul, Nat.reduceSub, Nat.reduceLT, Nat.reduceLeDiff, Nat.reduceEqDiff, Nat.reducePow, Int.reducePow, Int.reduceLE, Int.reduceLT, Int.reduceEq, Int.reduceToNat, reduceCtorEq, RR, RB, RZ, RE, opEv, fillV, mapO, mapS, b119_2, hl_11, h0_11, h3_11, h9_11, h11_11, h16_11, h17_11, h18_11, h26_11, h27_11, h28_11, eq_false hge]
    intro ht; subst ht
    refine And.intro rfl (Exists.intro _ ( Exists.intro _ ( And.intro rfl ?_)))
    simp only [↓reduceIte, Nat.reduceAdd, Nat.reduceMul, Nat.reduceSub, Nat.reduceLT, Nat.reduceLeDiff, Nat.reduceEqDiff, Nat.reducePow, Int.reducePow, Int.reduceLE, Int.reduceLT, Int.reduceEq, Int.reduceToNat, reduceCtorEq, RR, RB, RZ, RE, hl_11, h0_11, h3_11, h9_11, h11_11, h16_11, h17_11, h18_11, h26_11, h27_11, h28_11, eq_false hge]
def I119_1 (a0 : Int) (a2 : List Int) (a3 : List (List Int))  (v18_1 : Int) (o0_1 : (List Int)) (e : Env) (h : Heap) : Prop :=
  ∃ u4 k5 : Nat, h = ⟨[(u4, some (List.map Enc.enc o0_1))], k5⟩ ∧ e.length = 49 ∧ e.at 0 = V.int .i64 a0 ∧ e.at 3 = V.isl (List.map Enc.enc a3) ∧ e.at 9 = V.sl 0 u4 0 o0_1.length 1 ∧ e.at 16 = V.isl (List.map Enc.enc a2) ∧ e.at 17 = V.int .i64 (a2.length : Int) ∧ e.at 18 = V.int .i64 v18_1
def P119_1 (a0 : Int) (a2 : List Int) (a3 : List (List Int))  (zo0_1 : (List Int)) (x : Ex) (e : Env) (h : Heap) : Prop :=
  x = .normal ∧ ∃ u4 k5 : Nat, h = ⟨[(u4, some (List.map Enc.enc zo0_1))], k5⟩ ∧ e.length = 49 ∧ e.at 9 = V.sl 0 u4 0 zo0_1.length 1
theorem l119_1 (a0 : Int) (a2 : List Int) (a3 : List (List Int))   {lo : Int} {s : (List Int)} {t : (List Int)} (hF : forR lo (a2.length : Int) (F119_1_B a0 a2 a3) (F119_1_D a0 a2 a3) s = some t) {e : Env} {h : Heap} (hI : I119_1 a0 a2 a3  lo s e h) : W A c119_1 e h (P119_1 a0 a2 a3  t) := by
  show W A (.block 0 (.loop false b119_1)) e h _
  rw [W_block]
  refine W_forR hF 1 (by obtain ⟨_, _, rfl, _⟩ := hI; rfl) (I119_1 a0 a2 a3 ) hI ?_ ?_
  · rintro v18_1 o0_1 e h ⟨u4, k5, rfl, hl_3, h0_3, h3_3, h9_3, h16_3, h17_3, h18_3⟩ hlt hw o ho
    unfold F119_1_B at ho
    obtain ⟨x7, gx7, ho⟩ := bS ho
    obtain ⟨w8a, w8b⟩ := getI_w gx7
    obtain ⟨x9, gx9, ho⟩ := bS ho
    obtain ⟨w10a, w10b⟩ := getI_w gx9
    obtain ⟨zo0_2, gt25, ho⟩ := bS ho
    simp only [↓reduceIte, Nat.reduceAdd, Nat.reduceMul, Nat.reduceSub, Nat.reduceLT, Nat.reduceLeDiff, Nat.reduceEqDiff, Nat.reducePow, Int.reducePow, Int.reduceLE, Int.reduceLT, Int.reduceEq, Int.reduceToNat, reduceCtorEq, RR, RB, RZ, RE, opEv, fillV, mapO, mapS, b119_1, hl_3, h0_3, h3_3, h9_3, h16_3, h17_3, h18_3, eq_true hlt, hw, w8a, w8b, w10a, w10b]
    refine W.mono (l119_2 a0 a2 a3 v18_1 x7 x9   gt25 (Exists.intro _ ( Exists.intro _ ( And.intro rfl ?_)))) ?_
    · simp only [↓reduceIte, Nat.reduceAdd, Nat.reduceMul, Nat.reduceSub, Nat.reduceLT, Nat.reduceLeDiff, Nat.reduceEqDiff, Nat.reducePow, Int.reducePow, Int.reduceLE, Int.reduceLT, Int.reduceEq, Int.reduceToNat, reduceCtorEq, RR, RB, RZ, RE, hl_3, h0_3, h3_3, h9_3, h16_3, h17_3, h18_3, eq_true hlt, hw, w8a, w8b, w10a, w10b]
    rintro _ e _ ⟨rfl, u12, k13, rfl, hl_14, h0_14, h3_14, h9_14, h16_14, h17_14, h18_14⟩
    have hE := Option.some.inj ho; subst hE
    simp only [↓reduceIte, Nat.reduceAdd, Nat.reduceMul, Nat.reduceSub, Nat.reduceLT, Nat.reduceLeDiff, Nat.reduceEqDiff, Nat.reducePow, Int.reducePow, Int.reduceLE, Int.reduceLT, Int.reduceEq, Int.reduceToNat, reduceCtorEq, RR, RB, RZ, RE, opEv, fillV, mapO, mapS, hl_14, h0_14, h3_14, h9_14, h16_14, h17_14, h18_14, eq_true hlt, hw]
    refine And.intro rfl (Exists.intro _ ( Exists.intro _ ( And.intro rfl ?_)))
    simp only [↓reduceIte, Nat.reduceAdd, Nat.reduceMul, Nat.reduceSub, Nat.reduceLT, Nat.reduceLeDiff, Nat.reduceEqDiff, Nat.reducePow, Int.reducePow, Int.reduceLE, Int.reduceLT, Int.reduceEq, Int.reduceToNat, reduceCtorEq, RR, RB, RZ, RE, hl_14, h0_14, h3_14, h9_14, h16_14, h17_14, h18_14, eq_true hlt, hw]
  · rintro v18_1 o0_1 e h ⟨u4, k5, rfl, hl_3, h0_3, h3_3, h9_3, h16_3, h17_3, h18_3⟩ hge t1 ho
    unfold F119_1_D at ho
    have hE := Option.some.inj ho; subst hE
    simp only [↓reduceIte, Nat.reduceAdd, Nat.reduceMul, Nat.reduceSub, Nat.reduceLT, Nat.reduceLeDiff, Nat.reduceEqDiff, Nat.reducePow, Int.reducePow, Int.reduceLE, Int.reduceLT, Int.reduceEq, Int.reduceToNat, reduceCtorEq, RR, RB, RZ, RE, opEv, fillV, mapO, mapS, b119_1, hl_3, h0_3, h3_3, h9_3, h16_3, h17_3, h18_3, eq_false hge]
    intro ht; subst ht
    refine And.intro rfl (Exists.intro _ ( Exists.intro _ ( And.intro rfl ?_)))
    simp only [↓reduceIte, Nat.reduceAdd, Nat.reduceMul, Nat.reduceSub, Nat.reduceLT, Nat.reduceLeDiff, Nat.reduceEqDiff, Nat.reducePow, Int.reducePow, Int.reduceLE, Int.reduceLT, Int.reduceEq, Int.reduceToNat, reduceCtorEq, RR, RB, RZ, RE, hl_3, h0_3, h3_3, h9_3, h16_3, h17_3, h18_3, eq_false hge]
theorem s119 (a0 : Int) (a1 : Int) (a2 : List Int) (a3 : List (List Int))   {r : List Int} (hF : F119 a0 a1 a2 a3 = some r) : ans A 119 [V.int .i64 a0, V.int .i64 a1, V.isl (List.map Enc.enc a2), V.isl (List.map Enc.enc a3)] = some (Enc.enc r) := by
  refine ans_of (f := p119) rfl rfl rfl fun e hl he => ?_
  have h0_0 : e.at 0 = V.int .i64 a0 := he 0 _ rfl
  have h1_0 : e.at 1 = V.int .i64 a1 := he 1 _ rfl
  have h2_0 : e.at 2 = V.isl (List.map Enc.enc a2) := he 2 _ rfl
  have h3_0 : e.at 3 = V.isl (List.map Enc.enc a3) := he 3 _ rfl
  have hl_0 : e.length = 49 := hl
  clear he hl
  show W A b119 e ⟨[], 0⟩ _
  unfold F119 at hF
  obtain ⟨l1, gl1, hF⟩ := bS hF
  obtain ⟨w2a, w2b, w2c, w2d, w2e⟩ := mkL_w gl1
  replace w2e : (List.replicate (Int.toNat a1) [V.int .i64 0]).flatten = List.map Enc.enc l1 := w2e
  obtain ⟨zo0_1, gt26, hF⟩ := bS hF
  simp only [↓reduceIte, Nat.reduceAdd, Nat.reduceMul, Nat.reduceSub, Nat.reduceLT, Nat.reduceLeDiff, Nat.reduceEqDiff, Nat.reducePow, Int.reducePow, Int.reduceLE, Int.reduceLT, Int.reduceEq, Int.reduceToNat, reduceCtorEq, RR, RB, RZ, RE, opEv, fillV, mapO, mapS, b119, hl_0, h0_0, h1_0, h2_0, h3_0, w2a, w2b, w2c, w2e]
  refine W.mono (l119_1 a0 a2 a3   gt26 (Exists.intro _ ( Exists.intro _ ( And.intro rfl ?_)))) ?_
  · simp only [↓reduceIte, Nat.reduceAdd, Nat.reduceMul, Nat.reduceSub, Nat.reduceLT, Nat.reduceLeDiff, Nat.reduceEqDiff, Nat.reducePow, Int.reducePow, Int.reduceLE, Int.reduceLT, Int.reduceEq, Int.reduceToNat, reduceCtorEq, RR, RB, RZ, RE, hl_0, h0_0, h1_0, h2_0, h3_0, w2a, w2b, w2c, w2e, w2d]
  rintro _ e _ ⟨rfl, u4, k5, rfl, hl_6, h9_6⟩
  have hE := Option.some.inj hF; subst hE
  simp only [↓reduceIte, Nat.reduceAdd, Nat.reduceMul, Nat.reduceSub, Nat.reduceLT, Nat.reduceLeDiff, Nat.reduceEqDiff, Nat.reducePow, Int.reducePow, Int.reduceLE, Int.reduceLT, Int.reduceEq, Int.reduceToNat, reduceCtorEq, RR, RB, RZ, RE, opEv, fillV, mapO, mapS, hl_6, h9_6]
  exact fin_ret (by simp only [↓reduceIte, Nat.reduceAdd, Nat.reduceMul, Nat.reduceSub, Nat.reduceLT, Nat.reduceLeDiff, Nat.reduceEqDiff, Nat.reducePow, Int.reducePow, Int.reduceLE, Int.reduceLT, Int.reduceEq, Int.reduceToNat, reduceCtorEq, RR, RB, RZ, RE, fn_out, p119, Rs.ev, mapO, mapS, take_len_self, hl_6, h9_6, frzs (α := Int) zo0_1, takes (α := Int) zo0_1])
/-! (loop.example/g01273/impl.Complex).differential -/
def F91 (a0 : GComplex) (a1 : Int) (a2 : List Int) : Option (List Int) :=
  if a1 ≤ 0 then
    some ([] : List Int)
  else
    (F86 a0).bind fun x2 =>
    if x2 < a1 then
      some ([] : List Int)
    else
      (chk (a1 - 1)).bind fun x5 =>
      (getI a0.Dims x5).bind fun x6 =>
      (getI a0.Maps x5).bind fun x8 =>
      (F119 a0.Prime x6 a2 x8).bind fun x10 =>
      some x10
theorem s91 (a0 : GComplex) (a1 : Int) (a2 : List Int)   {r : List Int} (hF : F91 a0 a1 a2 = some r) : ans A 91 [V.agg [V.int .i64 a0.Prime, V.isl (List.map Enc.enc a0.Dims), V.isl (List.map Enc.enc a0.Maps)], V.int .i64 a1, V.isl (List.map Enc.enc a2)] = some (Enc.enc r) := by
  refine ans_of (f := p91) rfl rfl rfl fun e hl he => ?_
  have h0_0 : e.at 0 = V.agg [V.int .i64 a0.Prime, V.isl (List.map Enc.enc a0.Dims), V.isl (List.map Enc.enc a0.Maps)] := he 0 _ rfl
  have h1_0 : e.at 1 = V.int .i64 a1 := he 1 _ rfl
  have h2_0 : e.at 2 = V.isl (List.map Enc.enc a2) := he 2 _ rfl
  have hl_0 : e.length = 31 := hl
  clear he hl
  show W A b91 e ⟨[], 0⟩ _
  unfold F91 at hF
  by_cases c1 : a1 ≤ 0
  · rw [if_pos c1] at hF
    have hE := Option.some.inj hF; subst hE
    simp only [↓reduceIte, Nat.reduceAdd, Nat.reduceMul, Nat.reduceSub, Nat.reduceLT, Nat.reduceLeDiff, Nat.reduceEqDiff, Nat.reducePow, Int.reducePow, Int.reduceLE, Int.reduceLT, Int.reduceEq, Int.reduceToNat, reduceCtorEq, RR, RB, RZ, RE, opEv, fillV, mapO, mapS, b91, hl_0, h0_0, h1_0, h2_0, eq_true c1]
    exact fin_ret (by simp only [↓reduceIte, Nat.reduceAdd, Nat.reduceMul, Nat.reduceSub, Nat.reduceLT, Nat.reduceLeDiff, Nat.reduceEqDiff, Nat.reducePow, Int.reducePow, Int.reduceLE, Int.reduceLT, Int.reduceEq, Int.reduceToNat, reduceCtorEq, RR, RB, RZ, RE, fn_out, p91, Rs.ev, mapO, mapS, take_len_self, hl_0, h0_0, h1_0, h2_0, eq_true c1])
  · rw [if_neg c1] at hF
    obtain ⟨x2, gx2, hF⟩ := bS hF
    have w3 : ans A 86 [V.agg [V.int .i64 a0.Prime, V.isl (List.map Enc.enc a0.Dims), V.isl (List.map Enc.enc a0.Maps)]] = some (V.int .i64 x2) := s86 a0  gx2
    by_cases c4 : x2 < a1
    · rw [if_pos c4] at hF
      have hE := Option.some.inj hF; subst hE
      simp only [↓reduceIte, Nat.reduceAdd, Nat.reduceMul, Nat.reduceSub, Nat.reduceLT, Nat.reduceLeDiff, Nat.reduceEqDiff, Nat.reducePow, Int.reducePow, Int.reduceLE, Int.reduceLT, Int.reduceEq, Int.reduceToNat, reduceCtorEq, RR, RB, RZ, RE, opEv, fillV, mapO, mapS, b91, hl_0, h0_0, h1_0, h2_0, eq_false c1, w3, eq_true c4]
      exact fin_ret (by simp only [↓reduceIte, Nat.reduceAdd, Nat.reduceMul, Nat.reduceSub, Nat.reduceLT, Nat.reduceLeDiff, Nat.reduceEqDiff, Nat.reducePow, Int.reducePow, Int.reduceLE, Int.reduceLT, Int.reduceEq, Int.reduceToNat, reduceCtorEq, RR, RB, RZ, RE, fn_out, p91, Rs.ev, mapO, mapS, take_len_self, hl_0, h0_0, h1_0, h2_0, eq_false c1, w3, eq_true c4])
    · rw [if_neg c4] at hF
      obtain ⟨x5, gx5, hF⟩ := bS hF
      have wx5 := chk_w gx5
      obtain ⟨x6, gx6, hF⟩ := bS hF
      obtain ⟨w7a, w7b⟩ := getI_w gx6
      obtain ⟨x8, gx8, hF⟩ := bS hF
      obtain ⟨w9a, w9b⟩ := getI_w gx8
      obtain ⟨x10, gx10, hF⟩ := bS hF
      have w11 : ans A 119 [V.int .i64 a0.Prime, V.int .i64 x6, V.isl (List.map Enc.enc a2), V.isl (List.map Enc.enc x8)] = some (V.isl (List.map Enc.enc x10)) := s119 a0.Prime x6 a2 x8  gx10
      have hE := Option.some.inj hF; subst hE
      simp only [↓reduceIte, Nat.reduceAdd, Nat.reduceMul, Nat.reduceSub, Nat.reduceLT, Nat.reduceLeDiff, Nat.reduceEqDiff, Nat.reducePow, Int.reducePow, Int.reduceLE, Int.reduceLT, Int.reduceEq, Int.reduceToNat, reduceCtorEq, RR, RB, RZ, RE, opEv, fillV, mapO, mapS, b91, hl_0, h0_0, h1_0, h2_0, eq_false c1, w3, eq_false c4, wx5, w7a, w7b, w9a, w9b, w11]
      exact fin_ret (by simp only [↓reduceIte, Nat.reduceAdd, Nat.reduceMul, Nat.reduceSub, Nat.reduceLT, Nat.reduceLeDiff, Nat.reduceEqDiff, Nat.reducePow, Int.reducePow, Int.reduceLE, Int.reduceLT, Int.reduceEq, Int.reduceToNat, reduceCtorEq, RR, RB, RZ, RE, fn_out, p91, Rs.ev, mapO, mapS, take_len_self, hl_0, h0_0, h1_0, h2_0, eq_false c1, w3, eq_false c4, wx5, w7a, w7b, w9a, w9b, w11])
/-! loop.example/g01273/impl.isZero$1 -/
def F118 (a0 : Int) : Option Bool :=
  some (!(decide (a0 = 0)))
theorem s118 (a0 : Int)   {r : Bool} (hF : F118 a0 = some r) : ans A 118 [V.int .i64 a0] = some (Enc.enc r) := by
  refine ans_of (f := p118) rfl rfl rfl fun e hl he => ?_
  have h0_0 : e.at 0 = V.int .i64 a0 := he 0 _ rfl
  have hl_0 : e.length = 5 := hl
  clear he hl
  show W A b118 e ⟨[], 0⟩ _
  unfold F118 at hF
  have hE := Option.some.inj hF; subst hE
  simp only [↓reduceIte, Nat.reduceAdd, Nat.reduceMul, Nat.reduceSub, Nat.reduceLT, Nat.reduceLeDiff, Nat.reduceEqDiff, Nat.reducePow, Int.reducePow, Int.reduceLE, Int.reduceLT, Int.reduceEq, Int.reduceToNat, reduceCtorEq, RR, RB, RZ, RE, opEv, fillV, mapO, mapS, b118, hl_0, h0_0]
  exact fin_ret (by simp only [↓reduceIte, Nat.reduceAdd, Nat.reduceMul, Nat.reduceSub, Nat.reduceLT, Nat.reduceLeDiff, Nat.reduceEqDiff, Nat.reducePow, Int.reducePow, Int.reduceLE, Int.reduceLT, Int.reduceEq, Int.reduceToNat, reduceCtorEq, RR, RB, RZ, RE, fn_out, p118, Rs.ev, mapO, mapS, take_len_self, hl_0, h0_0])
/-! loop.example/g01273/impl.isZero -/
def F92 (a0 : List Int) : Option Bool :=
  (F82 a0 (fun x => F118 x)).bind fun x1 =>
  some (!x1)
theorem s92 (a0 : List Int)   {r : Bool} (hF : F92 a0 = some r) : ans A 92 [V.isl (List.map Enc.enc a0)] = some (Enc.enc r) := by
  refine ans_of (f := p92) rfl rfl rfl fun e hl he => ?_
  have h0_0 : e.at 0 = V.isl (List.map Enc.enc a0) := he 0 _ rfl
  have hl_0 : e.length = 6 := hl
  clear he hl
  show W A b92 e ⟨[], 0⟩ _
  unfold F92 at hF
  obtain ⟨x1, gx1, hF⟩ := bS hF
  have w2 : ans A 82 [V.isl (List.map Enc.enc a0), V.fn 118 [] []] = some (V.bool x1) := s82 a0 (fun x => F118 x) (Clo1.of (by intro h f; simp only [RZ, mapO]) (by intro h f; simp only [RZ, mapO]) (by intro f; simp only [RZ, RB]) (by intro f; simp only [RZ, RB]) (fun x _ hr => s118 x hr)) gx1
  have hE := Option.some.inj hF; subst hE
  simp only [↓reduceIte, Nat.reduceAdd, Nat.reduceMul, Nat.reduceSub, Nat.reduceLT, Nat.reduceLeDiff, Nat.reduceEqDiff, Nat.reducePow, Int.reducePow, Int.reduceLE, Int.reduceLT, Int.reduceEq, Int.reduceToNat, reduceCtorEq, RR, RB, RZ, RE, opEv, fillV, mapO, mapS, b92, hl_0, h0_0, w2]
  exact fin_ret (by simp only [↓reduceIte, Nat.reduceAdd, Nat.reduceMul, Nat.reduceSub, Nat.reduceLT, Nat.reduceLeDiff, Nat.reduceEqDiff, Nat.reducePow, Int.reducePow, Int.reduceLE, Int.reduceLT, Int.reduceEq, Int.reduceToNat, reduceCtorEq, RR, RB, RZ, RE, fn_out, p92, Rs.ev, mapO, mapS, take_len_self, hl_0, h0_0, w2])
/-! loop.example/g01273/impl.IsComplex -/
def F42_1_B (a0 : GComplex) (v34_1 : Int) (s : Unit) : Option ((Unit) ⊕ ((Unit) ⊕ Bool)) :=
  (getI a0.Maps v34_1).bind fun x15 =>
(getI a0.Dims (v34_1 + 1)).bind fun x19 =>
if (x15.length : Int) = x19 then
  (getI a0.Dims v34_1).bind fun x22 =>
  (F90 a0.Prime x22 x15).bind fun x24 =>
  if x24 = true then
    some (.inl ())
  else
    some (.inr (.inr false))
else
  some (.inr (.inr false))
def F42_1_D (a0 : GComplex) (v34_1 : Int) (s : Unit) : Option ((Unit) ⊕ Bool) :=
  some (.inl ())
def F42_3_B (a0 : GComplex) (v5_2 : Int) (x34 : List (List Int)) (v74_3 : Int) (s : Unit) : Option ((Unit) ⊕ ((Unit) ⊕ Bool)) :=
  (getI x34 v74_3).bind fun x39 =>
(chk (v5_2 - 1)).bind fun x41 =>
(F91 a0 x41 x39).bind fun x42 =>
(F92 x42).bind fun x44 =>
if x44 = true then
  some (.inl ())
else
  some (.inr (.inr false))
def F42_3_D (a0 : GComplex) (v5_2 : Int) (x34 : List (List Int)) (v74_3 : Int) (s : Unit) : Option ((Unit) ⊕ Bool) :=
  some (.inl ())
def F42_2_S (a0 : GComplex) (v5_2 : Int) : Option ((Int) ⊕ ((Unit) ⊕ Bool)) :=
  (F86 a0).bind fun x30 =>
if v5_2 ≤ x30 then
  (chk (v5_2 - 1)).bind fun x33 =>
  (getI a0.Maps x33).bind fun x34 =>
  (forR 0 (x34.length : Int) (F42_3_B a0 v5_2 x34) (F42_3_D a0 v5_2 x34) ()).bind fun t46 => match t46 with
    | .inl _ =>
      (chk (v5_2 + 1)).bind fun x47 =>
      some (.inl x47)
    | .inr r48 => some (.inr (.inr r48))
else
  some (.inr (.inl ()))
def F42 (a0 : GComplex) : Option Bool :=
  (F67 a0.Prime).bind fun x1 =>
  if x1 = true then
    (F86 a0).bind fun x3 =>
    (F56 x3 0 5).bind fun x5 =>
    if x5 = true then
      if (a0.Maps.length : Int) = x3 then
        (F82 a0.Dims (fun x => F88 x)).bind fun x10 =>
        if x10 = true then
          some false
        else
          (forR 0 (a0.Maps.length : Int) (F42_1_B a0) (F42_1_D a0) ()).bind fun t26 => match t26 with
            | .inl _ =>
              (loopW (F42_2_S a0) 2).bind fun t49 => match t49 with
                | .inl _ =>
                  some true
                | .inr r50 => some r50
            | .inr r51 => some r51
      else
        some false
    else
      some false
  else
    some false
def I42_1 (a0 : GComplex)  (v34_1 : Int) (s : Unit) (e : Env) (h : Heap) : Prop :=
  ∃ k13 : Nat, h = ⟨[(0, none)], k13⟩ ∧ e.length = 86 ∧ e.at 1 = V.iptr [V.int .i64 a0.Prime, V.isl (List.map Enc.enc a0.Dims), V.isl (List.map Enc.enc a0.Maps)] ∧ e.at 32 = V.isl (List.map Enc.enc a0.Maps) ∧ e.at 33 = V.int .i64 (a0.Maps.length : Int) ∧ e.at 34 = V.int .i64 v34_1
def P42_1 (a0 : GComplex)  (t : (Unit) ⊕ Bool) (x : Ex) (e : Env) (h : Heap) : Prop :=
  match t with
  | .inl _ => x = .normal ∧ ∃ k13 : Nat, h = ⟨[(0, none)], k13⟩ ∧ e.length = 86 ∧ e.at 1 = V.iptr [V.int .i64 a0.Prime, V.isl (List.map Enc.enc a0.Dims), V.isl (List.map Enc.enc a0.Maps)]
  | .inr r => x = .ret ∧ Fin p42 (Enc.enc r) .ret e h
theorem l42_1 (a0 : GComplex)   {lo : Int} {s : Unit} {t : (Unit) ⊕ Bool} (hF : forR lo (a0.Maps.length : Int) (F42_1_B a0) (F42_1_D a0) s = some t) {e : Env} {h : Heap} (hI : I42_1 a0  lo s e h) : W A c42_1 e h (P42_1 a0  t) := by
  show W A (.block 0 (.loop false b42_1)) e h _
  rw [W_block]
  refine W_forR hF 1 (by obtain ⟨_, rfl, _⟩ := hI; rfl) (I42_1 a0 ) hI ?_ ?_
  · rintro v34_1 _ e h ⟨k13, rfl, hl_12, h1_12, h32_12, h33_12, h34_12⟩ hlt hw o ho
    unfold F42_1_B at ho
    obtain ⟨x15, gx15, ho⟩ := bS ho
    obtain ⟨w16a, w16b⟩ := getI_w gx15
    have w18 : ans A 89 [V.isl (List.map Enc.enc x15)] = some (V.int .i64 (x15.length : Int)) := s89 x15  rfl
    obtain ⟨x19, gx19, ho⟩ := bS ho
    obtain ⟨w20a, w20b⟩ := getI_w gx19
    by_cases c21 : (x15.length : Int) = x19
    · rw [if_pos c21] at ho
      obtain ⟨x22, gx22, ho⟩ := bS ho
      obtain ⟨w23a, w23b⟩ := getI_w gx22
      obtain ⟨x24, gx24, ho⟩ := bS ho
      have w25 : ans A 90 [V.int .i64 a0.Prime, V.int .i64 x22, V.isl (List.map Enc.enc x15)] = some (V.bool x24) := s90 a0.Prime x22 x15  gx24
      cases x24 with
      | true =>
        rw [if_pos rfl] at ho
        have hE := Option.some.inj ho; subst hE
        simp only [↓reduceIte, Nat.reduceAdd, Nat.reduceMul, Nat.reduceSub, Nat.reduceLT, Nat.reduceLeDiff, Nat.reduceEqDiff, Nat.reducePow, Int.reducePow, Int.reduceLE, Int.reduceLT, Int.reduceEq, Int.reduceToNat, reduceCtorEq, RR, RB, RZ, RE, opEv, fillV, mapO, mapS, b42_1, hl_12, h1_12, h32_12, h33_12, h34_12, eq_true hlt, hw, w16a, w16b, w18, w20a, w20b, eq_true c21, w23a, w23b, w25]
        refine And.intro rfl (Exists.intro _ ( And.intro rfl ?_))
        simp only [↓reduceIte, Nat.reduceAdd, Nat.reduceMul, Nat.reduceSub, Nat.reduceLT, Nat.reduceLeDiff, Nat.reduceEqDiff, Nat.reducePow, Int.reducePow, Int.reduceLE, Int.reduceLT, Int.reduceEq, Int.reduceToNat, reduceCtorEq, RR, RB, RZ, RE, hl_12, h1_12, h32_12, h33_12, h34_12, eq_true hlt, hw, w16a, w16b, w18, w20a, w20b, eq_true c21, w23a, w23b, w25]
      | false =>
        rw [if_neg Bool.false_ne_true] at ho
        have hE := Option.some.inj ho; subst hE
        simp only [↓reduceIte, Nat.reduceAdd, Nat.reduceMul, Nat.reduceSub, Nat.reduceLT, Nat.reduceLeDiff, Nat.reduceEqDiff, Nat.reducePow, Int.reducePow, Int.reduceLE, Int.reduceLT, Int.reduceEq, Int.reduceToNat, reduceCtorEq, RR, RB, RZ, RE, opEv, fillV, mapO, mapS, b42_1, hl_12, h1_12, h32_12, h33_12, h34_12, eq_true hlt, hw, w16a, w16b, w18, w20a, w20b, eq_true c21, w23a, w23b, w25]
        intro ht; subst ht
        simp only [↓reduceIte, Nat.reduceAdd, Nat.reduceMul, Nat.reduceSub, Nat.reduceLT, Nat.reduceLeDiff, Nat.reduceEqDiff, Nat.reducePow, Int.reducePow, Int.reduceLE, Int.reduceLT, Int.reduceEq, Int.reduceToNat, reduceCtorEq, RR, RB]
        exact And.intro rfl (fin_ret (by simp only [↓reduceIte, Nat.reduceAdd, Nat.reduceMul, Nat.reduceSub, Nat.reduceLT, Nat.reduceLeDiff, Nat.reduceEqDiff, Nat.reducePow, Int.reducePow, Int.reduceLE, Int.reduceLT, Int.reduceEq, Int.reduceToNat, reduceCtorEq, RR, RB, RZ, RE, fn_out, p42, Rs.ev, mapO, mapS, take_len_self, hl_12, h1_12, h32_12, h33_12, h34_12, eq_true hlt, hw, w16a, w16b, w18, w20a, w20b, eq_true c21, w23a, w23b, w25]))
    · rw [if_neg c21] at ho
      have hE := Option.some.inj ho; subst hE
      simp only [↓reduceIte, Nat.reduceAdd, Nat.reduceMul, Nat.reduceSub, Nat.reduceLT, Nat.reduceLeDiff, Nat.reduceEqDiff, Nat.reducePow, Int.reducePow, Int.reduceLE, Int.reduceLT, Int.reduceEq, Int.reduceToNat, reduceCtorEq, RR, RB, RZ, RE, opEv, fillV, mapO, mapS, b42_1, hl_12, h1_12, h32_12, h33_12, h34_12, eq_true hlt, hw, w16a, w16b, w18, w20a, w20b, eq_false c21]
      intro ht; subst ht
      simp only [↓reduceIte, Nat.reduceAdd, Nat.reduceMul, Nat.reduceSub, Nat.reduceLT, Nat.reduceLeDiff, Nat.reduceEqDiff, Nat.reducePow, Int.reducePow, Int.reduceLE, Int.reduceLT, Int.reduceEq, Int.reduceToNat, reduceCtorEq, RR, RB]
      exact And.intro rfl (fin_ret (by simp only [↓reduceIte, Nat.reduceAdd, Nat.reduceMul, Nat.reduceSub, Nat.reduceLT, Nat.reduceLeDiff, Nat.reduceEqDiff, Nat.reducePow, Int.reducePow, Int.reduceLE, Int.reduceLT, Int.reduceEq, Int.reduceToNat, reduceCtorEq, RR, RB, RZ, RE, fn_out, p42, Rs.ev, mapO, mapS, take_len_self, hl_12, h1_12, h32_12, h33_12, h34_12, eq_true hlt, hw, w16a, w16b, w18, w20a, w20b, eq_false c21]))
  · rintro v34_1 _ e h ⟨k13, rfl, hl_12, h1_12, h32_12, h33_12, h34_12⟩ hge t1 ho
    unfold F42_1_D at ho
    have hE := Option.some.inj ho; subst hE
    simp only [↓reduceIte, Nat.reduceAdd, Nat.reduceMul, Nat.reduceSub, Nat.reduceLT, Nat.reduceLeDiff, Nat.reduceEqDiff, Nat.reducePow, Int.reducePow, Int.reduceLE, Int.reduceLT, Int.reduceEq, Int.reduceToNat, reduceCtorEq, RR, RB, RZ, RE, opEv, fillV, mapO, mapS, b42_1, hl_12, h1_12, h32_12, h33_12, h34_12, eq_false hge]
    intro ht; subst ht
    refine And.intro rfl (Exists.intro _ ( And.intro rfl ?_))
    simp only [↓reduceIte, Nat.reduceAdd, Nat.reduceMul, Nat.reduceSub, Nat.reduceLT, Nat.reduceLeDiff, Nat.reduceEqDiff, Nat.reducePow, Int.reducePow, Int.reduceLE, Int.reduceLT, Int.reduceEq, Int.reduceToNat, reduceCtorEq, RR, RB, RZ, RE, hl_12, h1_12, h32_12, h33_12, h34_12, eq_false hge]
def I42_3 (a0 : GComplex) (v5_2 : Int) (x34 : List (List Int))  (v74_3 : Int) (s : Unit) (e : Env) (h : Heap) : Prop :=
  ∃ k37 : Nat, h = ⟨[(0, none)], k37⟩ ∧ e.length = 86 ∧ e.at 1 = V.iptr [V.int .i64 a0.Prime, V.isl (List.map Enc.enc a0.Dims), V.isl (List.map Enc.enc a0.Maps)] ∧ e.at 5 = V.int .i64 v5_2 ∧ e.at 72 = V.isl (List.map Enc.enc x34) ∧ e.at 73 = V.int .i64 (x34.length : Int) ∧ e.at 74 = V.int .i64 v74_3
def P42_3 (a0 : GComplex) (v5_2 : Int) (x34 : List (List Int))  (t : (Unit) ⊕ Bool) (x : Ex) (e : Env) (h : Heap) : Prop :=
  match t with
  | .inl _ => x = .normal ∧ ∃ k37 : Nat, h = ⟨[(0, none)], k37⟩ ∧ e.length = 86 ∧ e.at 1 = V.iptr [V.int .i64 a0.Prime, V.isl (List.map Enc.enc a0.Dims), V.isl (List.map Enc.enc a0.Maps)] ∧ e.at 5 = V.int .i64 v5_2
  | .inr r => x = .ret ∧ Fin p42 (Enc.enc r) .ret e h
theorem l42_3 (a0 : GComplex) (v5_2 : Int) (x34 : List (List Int))   {lo : Int} {s : Unit} {t : (Unit) ⊕ Bool} (hF : forR lo (x34.length : Int) (F42_3_B a0 v5_2 x34) (F42_3_D a0 v5_2 x34) s = some t) {e : Env} {h : Heap} (hI : I42_3 a0 v5_2 x34  lo s e h) : W A c42_3 e h (P42_3 a0 v5_2 x34  t) := by
  show W A (.block 4 (.loop false b42_3)) e h _
  rw [W_block]
  refine W_forR hF 1 (by obtain ⟨_, rfl, _⟩ := hI; rfl) (I42_3 a0 v5_2 x34 ) hI ?_ ?_
  · rintro v74_3 _ e h ⟨k37, rfl, hl_36, h1_36, h5_36, h72_36, h73_36, h74_36⟩ hlt hw o ho
    unfold F42_3_B at ho
    obtain ⟨x39, gx39, ho⟩ := bS ho
    obtain ⟨w40a, w40b⟩ := getI_w gx39
    obtain ⟨x41, gx41, ho⟩ := bS ho
    have wx41 := chk_w gx41
    obtain ⟨x42, gx42, ho⟩ := bS ho
    have w43 : ans A 91 [V.agg [V.int .i64 a0.Prime, V.isl (List.map Enc.enc a0.Dims), V.isl (List.map Enc.enc a0.Maps)], V.int .i64 x41, V.isl (List.map Enc.enc x39)] = some (V.isl (List.map Enc.enc x42)) := s91 a0 x41 x39  gx42
    obtain ⟨x44, gx44, ho⟩ := bS ho
    have w45 : ans A 92 [V.isl (List.map Enc.enc x42)] = some (V.bool x44) := s92 x42  gx44
    cases x44 with
    | true =>
      rw [if_pos rfl] at ho
      have hE := Option.some.inj ho; subst hE
      simp only [↓reduceIte, Nat.reduceAdd, Nat.reduceMul, Nat.reduceSub, Nat.reduceLT, Nat.reduceLeDiff, Nat.reduceEqDiff, Nat.reducePow, Int.reducePow, Int.reduceLE, Int.reduceLT, Int.reduceEq, Int.reduceToNat, reduceCtorEq, RR, RB, RZ, RE, opEv, fillV, mapO, mapS, b42_3, hl_36, h1_36, h5_36, h72_36, h73_36, h74_36, eq_true hlt, hw, w40a, w40b, wx41, w43, w45]
      refine And.intro rfl (Exists.intro _ ( And.intro rfl ?_))
      simp only [↓reduceIte, Nat.reduceAdd, Nat.reduceMul, Nat.reduceSub, Nat.reduceLT, Nat.reduceLeDiff, Nat.reduceEqDiff, Nat.reducePow, Int.reducePow, Int.reduceLE, Int.reduceLT, Int.reduceEq, Int.reduceToNat, reduceCtorEq, RR, RB, RZ, RE, hl_36, h1_36, h5_36, h72_36, h73_36, h74_36, eq_true hlt, hw, w40a, w40b, wx41, w43, w45]
    | false =>
      rw [if_neg Bool.false_ne_true] at ho
      have hE := Option.some.inj ho; subst hE
      simp only [↓reduceIte, Nat.reduceAdd, Nat.reduceMul, Nat.reduceSub, Nat.reduceLT, Nat.reduceLeDiff, Nat.reduceEqDiff, Nat.reducePow, Int.reducePow, Int.reduceLE, Int.reduceLT, Int.reduceEq, Int.reduceToNat, reduceCtorEq, RR, RB, RZ, RE, opEv, fillV, mapO, mapS, b42_3, hl_36, h1_36, h5_36, h72_36, h73_36, h74_36, eq_true hlt, hw, w40a, w40b, wx41, w43, w45]
      intro ht; subst ht
      simp only [↓reduceIte, Nat.reduceAdd, Nat.reduceMul, Nat.reduceSub, Nat.reduceLT, Nat.reduceLeDiff, Nat.reduceEqDiff, Nat.reducePow, Int.reducePow, Int.reduceLE, Int.reduceLT, Int.reduceEq, Int.reduceToNat, reduceCtorEq, RR, RB]
      exact And.intro rfl (fin_ret (by simp only [↓reduceIte, Nat.reduceAdd, Nat.reduceMul, Nat.reduceSub, Nat.reduceLT, Nat.reduceLeDiff, Nat.reduceEqDiff, Nat.reducePow, Int.reducePow, Int.reduceLE, Int.reduceLT, Int.reduceEq, Int.reduceToNat, reduceCtorEq, RR, RB, RZ, RE, fn_out, p42, Rs.ev, mapO, mapS, take_len_self, hl_36, h1_36, h5_36, h72_36, h73_36, h74_36, eq_true hlt, hw, w40a, w40b, wx41, w43, w45]))
  · rintro v74_3 _ e h ⟨k37, rfl, hl_36, h1_36, h5_36, h72_36, h73_36, h74_36⟩ hge t1 ho
    unfold F42_3_D at ho
    have hE := Option.some.inj ho; subst hE
    simp only [↓reduceIte, Nat.reduceAdd, Nat.reduceMul, Nat.reduceSub, Nat.reduceLT, Nat.reduceLeDiff, Nat.reduceEqDiff, Nat.reducePow, Int.reducePow, Int.reduceLE, Int.reduceLT, Int.reduceEq, Int.reduceToNat, reduceCtorEq, RR, RB, RZ, RE, opEv, fillV, mapO, mapS, b42_3, hl_36, h1_36, h5_36, h72_36, h73_36, h74_36, eq_false hge]
    intro ht; subst ht
    refine And.intro rfl (Exists.intro _ ( And.intro rfl ?_))
    simp only [↓reduceIte, Nat.reduceAdd, Nat.reduceMul, Nat.reduceSub, Nat.reduceLT, Nat.reduceLeDiff, Nat.reduceEqDiff, Nat.reducePow, Int.reducePow, Int.reduceLE, Int.reduceLT, Int.reduceEq, Int.reduceToNat, reduceCtorEq, RR, RB, RZ, RE, hl_36, h1_36, h5_36, h72_36, h73_36, h74_36, eq_false hge]
def I42_2 (a0 : GComplex)  (v5_2 : Int) (e : Env) (h : Heap) : Prop :=
  ∃ k28 : Nat, h = ⟨[(0, none)], k28⟩ ∧ e.length = 86 ∧ e.at 1 = V.iptr [V.int .i64 a0.Prime, V.isl (List.map Enc.enc a0.Dims), V.isl (List.map Enc.enc a0.Maps)] ∧ e.at 5 = V.int .i64 v5_2
def P42_2 (a0 : GComplex)  (t : (Unit) ⊕ Bool) (x : Ex) (e : Env) (h : Heap) : Prop :=
  match t with
  | .inl _ => x = .normal ∧ ∃ k28 : Nat, h = ⟨[(0, none)], k28⟩ ∧ e.length = 86
  | .inr r => x = .ret ∧ Fin p42 (Enc.enc r) .ret e h
theorem l42_2 (a0 : GComplex)   {s : Int} {t : (Unit) ⊕ Bool} (hF : loopW (F42_2_S a0) s = some t) {e : Env} {h : Heap} (hI : I42_2 a0  s e h) : W A c42_2 e h (P42_2 a0  t) := by
  show W A (.block 2 (.loop false b42_2)) e h _
  rw [W_block]
  refine W_loop hF 1 (by obtain ⟨_, rfl, _⟩ := hI; rfl) (I42_2 a0 ) hI ?_
  · rintro v5_2 e h ⟨k28, rfl, hl_27, h1_27, h5_27⟩ o ho
    unfold F42_2_S at ho
    obtain ⟨x30, gx30, ho⟩ := bS ho
    have w31 : ans A 86 [V.agg [V.int .i64 a0.Prime, V.isl (List.map Enc.enc a0.Dims), V.isl (List.map Enc.enc a0.Maps)]] = some (V.int .i64 x30) := s86 a0  gx30
    by_cases c32 : v5_2 ≤ x30
    · rw [if_pos c32] at ho
      obtain ⟨x33, gx33, ho⟩ := bS ho
      have wx33 := chk_w gx33
      obtain ⟨x34, gx34, ho⟩ := bS ho
      obtain ⟨w35a, w35b⟩ := getI_w gx34
      obtain ⟨t46, gt46, ho⟩ := bS ho
      rcases t46 with _ | r48
      · dsimp only at ho
        simp only [↓reduceIte, Nat.reduceAdd, Nat.reduceMul, Nat.reduceSub, Nat.reduceLT, Nat.reduceLeDiff, Nat.reduceEqDiff, Nat.reducePow, Int.reducePow, Int.reduceLE, Int.reduceLT, Int.reduceEq, Int.reduceToNat, reduceCtorEq, RR, RB, RZ, RE, opEv, fillV, mapO, mapS, b42_2, hl_27, h1_27, h5_27, w31, eq_true c32, wx33, w35a, w35b]
        refine W.mono (l42_3 a0 v5_2 x34   gt46 (Exists.intro _ ( And.intro rfl ?_))) ?_
        · simp only [↓reduceIte, Nat.reduceAdd, Nat.reduceMul, Nat.reduceSub, Nat.reduceLT, Nat.reduceLeDiff, Nat.reduceEqDiff, Nat.reducePow, Int.reducePow, Int.reduceLE, Int.reduceLT, Int.reduceEq, Int.reduceToNat, reduceCtorEq, RR, RB, RZ, RE, hl_27, h1_27, h5_27, w31, eq_true c32, wx33, w35a, w35b]
        rintro _ e _ ⟨rfl, k37, rfl, hl_38, h1_38, h5_38⟩
        obtain ⟨x47, gx47, ho⟩ := bS ho
        have wx47 := chk_w gx47
        have hE := Option.some.inj ho; subst hE
        simp only [↓reduceIte, Nat.reduceAdd, Nat.reduceMul, Nat.reduceSub, Nat.reduceLT, Nat.reduceLeDiff, Nat.reduceEqDiff, Nat.reducePow, Int.reducePow, Int.reduceLE, Int.reduceLT, Int.reduceEq, Int.reduceToNat, reduceCtorEq, RR, RB, RZ, RE, opEv, fillV, mapO, mapS, hl_38, h1_38, h5_38, eq_true c32, wx47]
        refine And.intro rfl (Exists.intro _ ( And.intro rfl ?_))
        simp only [↓reduceIte, Nat.reduceAdd, Nat.reduceMul, Nat.reduceSub, Nat.reduceLT, Nat.reduceLeDiff, Nat.reduceEqDiff, Nat.reducePow, Int.reducePow, Int.reduceLE, Int.reduceLT, Int.reduceEq, Int.reduceToNat, reduceCtorEq, RR, RB, RZ, RE, hl_38, h1_38, h5_38, eq_true c32, wx47]
      · dsimp only at ho
        have hE := Option.some.inj ho; subst hE
        simp only [↓reduceIte, Nat.reduceAdd, Nat.reduceMul, Nat.reduceSub, Nat.reduceLT, Nat.reduceLeDiff, Nat.reduceEqDiff, Nat.reducePow, Int.reducePow, Int.reduceLE, Int.reduceLT, Int.reduceEq, Int.reduceToNat, reduceCtorEq, RR, RB, RZ, RE, opEv, fillV, mapO, mapS, b42_2, hl_27, h1_27, h5_27, w31, eq_true c32, wx33, w35a, w35b]
        refine W.mono (l42_3 a0 v5_2 x34   gt46 (Exists.intro _ ( And.intro rfl ?_))) ?_
        · simp only [↓reduceIte, Nat.reduceAdd, Nat.reduceMul, Nat.reduceSub, Nat.reduceLT, Nat.reduceLeDiff, Nat.reduceEqDiff, Nat.reducePow, Int.reducePow, Int.reduceLE, Int.reduceLT, Int.reduceEq, Int.reduceToNat, reduceCtorEq, RR, RB, RZ, RE, hl_27, h1_27, h5_27, w31, eq_true c32, wx33, w35a, w35b]
        rintro _ e h ⟨rfl, hq⟩
        simp only [↓reduceIte, Nat.reduceAdd, Nat.reduceMul, Nat.reduceSub, Nat.reduceLT, Nat.reduceLeDiff, Nat.reduceEqDiff, Nat.reducePow, Int.reducePow, Int.reduceLE, Int.reduceLT, Int.reduceEq, Int.reduceToNat, reduceCtorEq, RR, RB]
        intro ht; subst ht
        simp only [↓reduceIte, Nat.reduceAdd, Nat.reduceMul, Nat.reduceSub, Nat.reduceLT, Nat.reduceLeDiff, Nat.reduceEqDiff, Nat.reducePow, Int.reducePow, Int.reduceLE, Int.reduceLT, Int.reduceEq, Int.reduceToNat, reduceCtorEq, RR, RB]
        exact And.intro rfl hq
    · rw [if_neg c32] at ho
      have hE := Option.some.inj ho; subst hE
      simp only [↓reduceIte, Nat.reduceAdd, Nat.reduceMul, Nat.reduceSub, Nat.reduceLT, Nat.reduceLeDiff, Nat.reduceEqDiff, Nat.reducePow, Int.reducePow, Int.reduceLE, Int.reduceLT, Int.reduceEq, Int.reduceToNat, reduceCtorEq, RR, RB, RZ, RE, opEv, fillV, mapO, mapS, b42_2, hl_27, h1_27, h5_27, w31, eq_false c32]
      intro ht; subst ht
      simp only [↓reduceIte, Nat.reduceAdd, Nat.reduceMul, Nat.reduceSub, Nat.reduceLT, Nat.reduceLeDiff, Nat.reduceEqDiff, Nat.reducePow, Int.reducePow, Int.reduceLE, Int.reduceLT, Int.reduceEq, Int.reduceToNat, reduceCtorEq, RR, RB]
      refine And.intro rfl (Exists.intro _ ( And.intro rfl ?_))
      simp only [↓reduceIte, Nat.reduceAdd, Nat.reduceMul, Nat.reduceSub, Nat.reduceLT, Nat.reduceLeDiff, Nat.reduceEqDiff, Nat.reducePow, Int.reducePow, Int.reduceLE, Int.reduceLT, Int.reduceEq, Int.reduceToNat, reduceCtorEq, RR, RB, RZ, RE, hl_27, h1_27, h5_27, w31, eq_false c32]
theorem s42 (a0 : GComplex)   {r : Bool} (hF : F42 a0 = some r) : ans A 42 [V.agg [V.int .i64 a0.Prime, V.isl (List.map Enc.enc a0.Dims), V.isl (List.map Enc.enc a0.Maps)]] = some (Enc.enc r) := by
  refine ans_of (f := p42) rfl rfl rfl fun e hl he => ?_
  have h0_0 : e.at 0 = V.agg [V.int .i64 a0.Prime, V.isl (List.map Enc.enc a0.Dims), V.isl (List.map Enc.enc a0.Maps)] := he 0 _ rfl
  have hl_0 : e.length = 86 := hl
  clear he hl
  show W A b42 e ⟨[], 0⟩ _
  unfold F42 at hF
  obtain ⟨x1, gx1, hF⟩ := bS hF
  have w2 : ans A 67 [V.int .i64 a0.Prime] = some (V.bool x1) := s67 a0.Prime  gx1
  cases x1 with
  | true =>
    rw [if_pos rfl] at hF
    obtain ⟨x3, gx3, hF⟩ := bS hF
    have w4 : ans A 86 [V.agg [V.int .i64 a0.Prime, V.isl (List.map Enc.enc a0.Dims), V.isl (List.map Enc.enc a0.Maps)]] = some (V.int .i64 x3) := s86 a0  gx3
    obtain ⟨x5, gx5, hF⟩ := bS hF
    have w6 : ans A 56 [V.int .i64 x3, V.int .i64 0, V.int .i64 5] = some (V.bool x5) := s56 x3 0 5  gx5
    cases x5 with
    | true =>
      rw [if_pos rfl] at hF
      have w8 : ans A 87 [V.isl (List.map Enc.enc a0.Maps)] = some (V.int .i64 (a0.Maps.length : Int)) := s87 a0.Maps  rfl
      by_cases c9 : (a0.Maps.length : Int) = x3
      · rw [if_pos c9] at hF
        obtain ⟨x10, gx10, hF⟩ := bS hF
        have w11 : ans A 82 [V.isl (List.map Enc.enc a0.Dims), V.fn 88 [] []] = some (V.bool x10) := s82 a0.Dims (fun x => F88 x) (Clo1.of (by intro h f; simp only [RZ, mapO]) (by intro h f; simp only [RZ, mapO]) (by intro f; simp only [RZ, RB]) (by intro f; simp only [RZ, RB]) (fun x _ hr => s88 x hr)) gx10
        cases x10 with
        | true =>
          rw [if_pos rfl] at hF
          have hE := Option.some.inj hF; subst hE
          simp only [↓reduceIte, Nat.reduceAdd, Nat.reduceMul, Nat.reduceSub, Nat.reduceLT, Nat.reduceLeDiff, Nat.reduceEqDiff, Nat.reducePow, Int.reducePow, Int.reduceLE, Int.reduceLT, Int.reduceEq, Int.reduceToNat, reduceCtorEq, RR, RB, RZ, RE, opEv, fillV, mapO, mapS, b42, hl_0, h0_0, w2, w4, w6, w8, eq_true c9, w11]
          exact fin_ret (by simp only [↓reduceIte, Nat.reduceAdd, Nat.reduceMul, Nat.reduceSub, Nat.reduceLT, Nat.reduceLeDiff, Nat.reduceEqDiff, Nat.reducePow, Int.reducePow, Int.reduceLE, Int.reduceLT, Int.reduceEq, Int.reduceToNat, reduceCtorEq, RR, RB, RZ, RE, fn_out, p42, Rs.ev, mapO, mapS, take_len_self, hl_0, h0_0, w2, w4, w6, w8, eq_true c9, w11])
        | false =>
          rw [if_neg Bool.false_ne_true] at hF
          obtain ⟨t26, gt26, hF⟩ := bS hF
          rcases t26 with _ | r51
          · dsimp only at hF
            simp only [↓reduceIte, Nat.reduceAdd, Nat.reduceMul, Nat.reduceSub, Nat.reduceLT, Nat.reduceLeDiff, Nat.reduceEqDiff, Nat.reducePow, Int.reducePow, Int.reduceLE, Int.reduceLT, Int.reduceEq, Int.reduceToNat, reduceCtorEq, RR, RB, RZ, RE, opEv, fillV, mapO, mapS, b42, hl_0, h0_0, w2, w4, w6, w8, eq_true c9, w11]
            refine W.mono (l42_1 a0   gt26 (Exists.intro _ ( And.intro rfl ?_))) ?_
            · simp only [↓reduceIte, Nat.reduceAdd, Nat.reduceMul, Nat.reduceSub, Nat.reduceLT, Nat.reduceLeDiff, Nat.reduceEqDiff, Nat.reducePow, Int.reducePow, Int.reduceLE, Int.reduceLT, Int.reduceEq, Int.reduceToNat, reduceCtorEq, RR, RB, RZ, RE, hl_0, h0_0, w2, w4, w6, w8, eq_true c9, w11]
            rintro _ e _ ⟨rfl, k13, rfl, hl_14, h1_14⟩
            obtain ⟨t49, gt49, hF⟩ := bS hF
            rcases t49 with _ | r50
            · dsimp only at hF
              simp only [↓reduceIte, Nat.reduceAdd, Nat.reduceMul, Nat.reduceSub, Nat.reduceLT, Nat.reduceLeDiff, Nat.reduceEqDiff, Nat.reducePow, Int.reducePow, Int.reduceLE, Int.reduceLT, Int.reduceEq, Int.reduceToNat, reduceCtorEq, RR, RB, RZ, RE, opEv, fillV, mapO, mapS, hl_14, h1_14, eq_true c9]
              refine W.mono (l42_2 a0   gt49 (Exists.intro _ ( And.intro rfl ?_))) ?_
              · simp only [↓reduceIte, Nat.reduceAdd, Nat.reduceMul, Nat.reduceSub, Nat.reduceLT, Nat.reduceLeDiff, Nat.reduceEqDiff, Nat.reducePow, Int.reducePow, Int.reduceLE, Int.reduceLT, Int.reduceEq, Int.reduceToNat, reduceCtorEq, RR, RB, RZ, RE, hl_14, h1_14, eq_true c9]
              rintro _ e _ ⟨rfl, k28, rfl, hl_29⟩
              have hE := Option.some.inj hF; subst hE
              simp only [↓reduceIte, Nat.reduceAdd, Nat.reduceMul, Nat.reduceSub, Nat.reduceLT, Nat.reduceLeDiff, Nat.reduceEqDiff, Nat.reducePow, Int.reducePow, Int.reduceLE, Int.reduceLT, Int.reduceEq, Int.reduceToNat, reduceCtorEq, RR, RB, RZ, RE, opEv, fillV, mapO, mapS, hl_29, eq_true c9]
              exact fin_ret (by simp only [↓reduceIte, Nat.reduceAdd, Nat.reduceMul, Nat.reduceSub, Nat.reduceLT, Nat.reduceLeDiff, Nat.reduceEqDiff, Nat.reducePow, Int.reducePow, Int.reduceLE, Int.reduceLT, Int.reduceEq, Int.reduceToNat, reduceCtorEq, RR, RB, RZ, RE, fn_out, p42, Rs.ev, mapO, mapS, take_len_self, hl_29, eq_true c9])
            · dsimp only at hF
              have hE := Option.some.inj hF; subst hE
              simp only [↓reduceIte, Nat.reduceAdd, Nat.reduceMul, Nat.reduceSub, Nat.reduceLT, Nat.reduceLeDiff, Nat.reduceEqDiff, Nat.reducePow, Int.reducePow, Int.reduceLE, Int.reduceLT, Int.reduceEq, Int.reduceToNat, reduceCtorEq, RR, RB, RZ, RE, opEv, fillV, mapO, mapS, hl_14, h1_14, eq_true c9]
              refine W.mono (l42_2 a0   gt49 (Exists.intro _ ( And.intro rfl ?_))) ?_
              · simp only [↓reduceIte, Nat.reduceAdd, Nat.reduceMul, Nat.reduceSub, Nat.reduceLT, Nat.reduceLeDiff, Nat.reduceEqDiff, Nat.reducePow, Int.reducePow, Int.reduceLE, Int.reduceLT, Int.reduceEq, Int.reduceToNat, reduceCtorEq, RR, RB, RZ, RE, hl_14, h1_14, eq_true c9]
              rintro _ e h ⟨rfl, hq⟩
              simp only [↓reduceIte, Nat.reduceAdd, Nat.reduceMul, Nat.reduceSub, Nat.reduceLT, Nat.reduceLeDiff, Nat.reduceEqDiff, Nat.reducePow, Int.reducePow, Int.reduceLE, Int.reduceLT, Int.reduceEq, Int.reduceToNat, reduceCtorEq, RR, RB]
              exact hq
          · dsimp only at hF
            have hE := Option.some.inj hF; subst hE
            simp only [↓reduceIte, Nat.reduceAdd, Nat.reduceMul, Nat.reduceSub, Nat.reduceLT, Nat.reduceLeDiff, Nat.reduceEqDiff, Nat.reducePow, Int.reducePow, Int.reduceLE, Int.reduceLT, Int.reduceEq, Int.reduceToNat, reduceCtorEq, RR, RB, RZ, RE, opEv, fillV, mapO, mapS, b42, hl_0, h0_0, w2, w4, w6, w8, eq_true c9, w11]
            refine W.mono (l42_1 a0   gt26 (Exists.intro _ ( And.intro rfl ?_))) ?_
            · simp only [↓reduceIte, Nat.reduceAdd, Nat.reduceMul, Nat.reduceSub, Nat.reduceLT, Nat.reduceLeDiff, Nat.reduceEqDiff, Nat.reducePow, Int.reducePow, Int.reduceLE, Int.reduceLT, Int.reduceEq, Int.reduceToNat, reduceCtorEq, RR, RB, RZ, RE, hl_0, h0_0, w2, w4, w6, w8, eq_true c9, w11]
            rintro _ e h ⟨rfl, hq⟩
            simp only [↓reduceIte, Nat.reduceAdd, Nat.reduceMul, Nat.reduceSub, Nat.reduceLT, Nat.reduceLeDiff, Nat.reduceEqDiff, Nat.reducePow, Int.reducePow, Int.reduceLE, Int.reduceLT, Int.reduceEq, Int.reduceToNat, reduceCtorEq, RR, RB]
            exact hq
      · rw [if_neg c9] at hF
        have hE := Option.some.inj hF; subst hE
        simp only [↓reduceIte, Nat.reduceAdd, Nat.reduceMul, Nat.reduceSub, Nat.reduceLT, Nat.reduceLeDiff, Nat.reduceEqDiff, Nat.reducePow, Int.reducePow, Int.reduceLE, Int.reduceLT, Int.reduceEq, Int.reduceToNat, reduceCtorEq, RR, RB, RZ, RE, opEv, fillV, mapO, mapS, b42, hl_0, h0_0, w2, w4, w6, w8, eq_false c9]
        exact fin_ret (by simp only [↓reduceIte, Nat.reduceAdd, Nat.reduceMul, Nat.reduceSub, Nat.reduceLT, Nat.reduceLeDiff, Nat.reduceEqDiff, Nat.reducePow, Int.reducePow, Int.reduceLE, Int.reduceLT, Int.reduceEq, Int.reduceToNat, reduceCtorEq, RR, RB, RZ, RE, fn_out, p42, Rs.ev, mapO, mapS, take_len_self, hl_0, h0_0, w2, w4, w6, w8, eq_false c9])
    | false =>
      rw [if_neg Bool.false_ne_true] at hF
      have hE := Option.some.inj hF; subst hE
      simp only [↓reduceIte, Nat.reduceAdd, Nat.reduceMul, Nat.reduceSub, Nat.reduceLT, Nat.reduceLeDiff, Nat.reduceEqDiff, Nat.reducePow, Int.reducePow, Int.reduceLE, Int.reduceLT, Int.reduceEq, Int.reduceToNat, reduceCtorEq, RR, RB, RZ, RE, opEv, fillV, mapO, mapS, b42, hl_0, h0_0, w2, w4, w6]
      exact fin_ret (by simp only [↓reduceIte, Nat.reduceAdd, Nat.reduceMul, Nat.reduceSub, Nat.reduceLT, Nat.reduceLeDiff, Nat.reduceEqDiff, Nat.reducePow, Int.reducePow, Int.reduceLE, Int.reduceLT, Int.reduceEq, Int.reduceToNat, reduceCtorEq, RR, RB, RZ, RE, fn_out, p42, Rs.ev, mapO, mapS, take_len_self, hl_0, h0_0, w2, w4, w6])
  | false =>
    rw [if_neg Bool.false_ne_true] at hF
    have hE := Option.some.inj hF; subst hE
    simp only [↓reduceIte, Nat.reduceAdd, Nat.reduceMul, Nat.reduceSub, Nat.reduceLT, Nat.reduceLeDiff, Nat.reduceEqDiff, Nat.reducePow, Int.reducePow, Int.reduceLE, Int.reduceLT, Int.reduceEq, Int.reduceToNat, reduceCtorEq, RR, RB, RZ, RE, opEv, fillV, mapO, mapS, b42, hl_0, h0_0, w2]
    exact fin_ret (by simp only [↓reduceIte, Nat.reduceAdd, Nat.reduceMul, Nat.reduceSub, Nat.reduceLT, Nat.reduceLeDiff, Nat.reduceEqDiff, Nat.reducePow, Int.reducePow, Int.reduceLE, Int.reduceLT, Int.reduceEq, Int.reduceToNat, reduceCtorEq, RR, RB, RZ, RE, fn_out, p42, Rs.ev, mapO, mapS, take_len_self, hl_0, h0_0, w2])
/-! loop.example/g01273/impl.degreeCode -/
def F62 (a0 : GComplex) (a1 : Int) : Option Int :=
  (F42 a0).bind fun x1 =>
  if x1 = true then
    (F86 a0).bind fun x3 =>
    (F56 a1 0 x3).bind fun x5 =>
    if x5 = true then
      some 0
    else
      some 2
  else
    some 1
theorem s62 (a0 : GComplex) (a1 : Int)   {r : Int} (hF : F62 a0 a1 = some r) : ans A 62 [V.agg [V.int .i64 a0.Prime, V.isl (List.map Enc.enc a0.Dims), V.isl (List.map Enc.enc a0.Maps)], V.int .i64 a1] = some (Enc.enc r) := by
  refine ans_of (f := p62) rfl rfl rfl fun e hl he => ?_
  have h0_0 : e.at 0 = V.agg [V.int .i64 a0.Prime, V.isl (List.map Enc.enc a0.Dims), V.isl (List.map Enc.enc a0.Maps)] := he 0 _ rfl
  have h1_0 : e.at 1 = V.int .i64 a1 := he 1 _ rfl
  have hl_0 : e.length = 15 := hl
  clear he hl
  show W A b62 e ⟨[], 0⟩ _
  unfold F62 at hF
  obtain ⟨x1, gx1, hF⟩ := bS hF
  have w2 : ans A 42 [V.agg [V.int .i64 a0.Prime, V.isl (List.map Enc.enc a0.Dims), V.isl (List.map Enc.enc a0.Maps)]] = some (V.bool x1) := s42 a0  gx1
  cases x1 with
  | true =>
    rw [if_pos rfl] at hF
    obtain ⟨x3, gx3, hF⟩ := bS hF
    have w4 : ans A 86 [V.agg [V.int .i64 a0.Prime, V.isl (List.map Enc.enc a0.Dims), V.isl (List.map Enc.enc a0.Maps)]] = some (V.int .i64 x3) := s86 a0  gx3
    obtain ⟨x5, gx5, hF⟩ := bS hF
    have w6 : ans A 56 [V.int .i64 a1, V.int .i64 0, V.int .i64 x3] = some (V.bool x5) := s56 a1 0 x3  gx5
    cases x5 with
    | true =>
      rw [if_pos rfl] at hF
      have hE := Option.some.inj hF; subst hE
      simp only [↓reduceIte, Nat.reduceAdd, Nat.reduceMul, Nat.reduceSub, Nat.reduceLT, Nat.reduceLeDiff, Nat.reduceEqDiff, Nat.reducePow, Int.reducePow, Int.reduceLE, Int.reduceLT, Int.reduceEq, Int.reduceToNat, reduceCtorEq, RR, RB, RZ, RE, opEv, fillV, mapO, mapS, b62, hl_0, h0_0, h1_0, w2, w4, w6]
      exact fin_ret (by simp only [↓reduceIte, Nat.reduceAdd, Nat.reduceMul, Nat.reduceSub, Nat.reduceLT, Nat.reduceLeDiff, Nat.reduceEqDiff, Nat.reducePow, Int.reducePow, Int.reduceLE, Int.reduceLT, Int.reduceEq, Int.reduceToNat, reduceCtorEq, RR, RB, RZ, RE, fn_out, p62, Rs.ev, mapO, mapS, take_len_self, hl_0, h0_0, h1_0, w2, w4, w6])
    | false =>
      rw [if_neg Bool.false_ne_true] at hF
      have hE := Option.some.inj hF; subst hE
      simp only [↓reduceIte, Nat.reduceAdd, Nat.reduceMul, Nat.reduceSub, Nat.reduceLT, Nat.reduceLeDiff, Nat.reduceEqDiff, Nat.reducePow, Int.reducePow, Int.reduceLE, Int.reduceLT, Int.reduceEq, Int.reduceToNat, reduceCtorEq, RR, RB, RZ, RE, opEv, fillV, mapO, mapS, b62, hl_0, h0_0, h1_0, w2, w4, w6]
      exact fin_ret (by simp only [↓reduceIte, Nat.reduceAdd, Nat.reduceMul, Nat.reduceSub, Nat.reduceLT, Nat.reduceLeDiff, Nat.reduceEqDiff, Nat.reducePow, Int.reducePow, Int.reduceLE, Int.reduceLT, Int.reduceEq, Int.reduceToNat, reduceCtorEq, RR, RB, RZ, RE, fn_out, p62, Rs.ev, mapO, mapS, take_len_self, hl_0, h0_0, h1_0, w2, w4, w6])
  | false =>
    rw [if_neg Bool.false_ne_true] at hF
    have hE := Option.some.inj hF; subst hE
    simp only [↓reduceIte, Nat.reduceAdd, Nat.reduceMul, Nat.reduceSub, Nat.reduceLT, Nat.reduceLeDiff, Nat.reduceEqDiff, Nat.reducePow, Int.reducePow, Int.reduceLE, Int.reduceLT, Int.reduceEq, Int.reduceToNat, reduceCtorEq, RR, RB, RZ, RE, opEv, fillV, mapO, mapS, b62, hl_0, h0_0, h1_0, w2]
    exact fin_ret (by simp only [↓reduceIte, Nat.reduceAdd, Nat.reduceMul, Nat.reduceSub, Nat.reduceLT, Nat.reduceLeDiff, Nat.reduceEqDiff, Nat.reducePow, Int.reducePow, Int.reduceLE, Int.reduceLT, Int.reduceEq, Int.reduceToNat, reduceCtorEq, RR, RB, RZ, RE, fn_out, p62, Rs.ev, mapO, mapS, take_len_self, hl_0, h0_0, h1_0, w2])
/-! (loop.example/g01273/impl.Complex).dim -/
def F102 (a0 : GComplex) (a1 : Int) : Option Int :=
  (F86 a0).bind fun x1 =>
  (F56 a1 0 x1).bind fun x3 =>
  if x3 = true then
    (getI a0.Dims a1).bind fun x5 =>
    some x5
  else
    some 0
theorem s102 (a0 : GComplex) (a1 : Int)   {r : Int} (hF : F102 a0 a1 = some r) : ans A 102 [V.agg [V.int .i64 a0.Prime, V.isl (List.map Enc.enc a0.Dims), V.isl (List.map Enc.enc a0.Maps)], V.int .i64 a1] = some (Enc.enc r) := by
  refine ans_of (f := p102) rfl rfl rfl fun e hl he => ?_
  have h0_0 : e.at 0 = V.agg [V.int .i64 a0.Prime, V.isl (List.map Enc.enc a0.Dims), V.isl (List.map Enc.enc a0.Maps)] := he 0 _ rfl
  have h1_0 : e.at 1 = V.int .i64 a1 := he 1 _ rfl
  have hl_0 : e.length = 15 := hl
  clear he hl
  show W A b102 e ⟨[], 0⟩ _
  unfold F102 at hF
  obtain ⟨x1, gx1, hF⟩ := bS hF
  have w2 : ans A 86 [V.agg [V.int .i64 a0.Prime, V.isl (List.map Enc.enc a0.Dims), V.isl (List.map Enc.enc a0.Maps)]] = some (V.int .i64 x1) := s86 a0  gx1
  obtain ⟨x3, gx3, hF⟩ := bS hF
  have w4 : ans A 56 [V.int .i64 a1, V.int .i64 0, V.int .i64 x1] = some (V.bool x3) := s56 a1 0 x1  gx3
  cases x3 with
  | true =>
    rw [if_pos rfl] at hF
    obtain ⟨x5, gx5, hF⟩ := bS hF
    obtain ⟨w6a, w6b⟩ := getI_w gx5
    have hE := Option.some.inj hF; subst hE
    simp only [↓reduceIte, Nat.reduceAdd, Nat.reduceMul, Nat.reduceSub, Nat.reduceLT, Nat.reduceLeDiff, Nat.reduceEqDiff, Nat.reducePow, Int.reducePow, Int.reduceLE, Int.reduceLT, Int.reduceEq, Int.reduceToNat, reduceCtorEq, RR, RB, RZ, RE, opEv, fillV, mapO, mapS, b102, hl_0, h0_0, h1_0, w2, w4, w6a, w6b]
    exact fin_ret (by simp only [↓reduceIte, Nat.reduceAdd, Nat.reduceMul, Nat.reduceSub, Nat.reduceLT, Nat.reduceLeDiff, Nat.reduceEqDiff, Nat.reducePow, Int.reducePow, Int.reduceLE, Int.reduceLT, Int.reduceEq, Int.reduceToNat, reduceCtorEq, RR, RB, RZ, RE, fn_out, p102, Rs.ev, mapO, mapS, take_len_self, hl_0, h0_0, h1_0, w2, w4, w6a, w6b])
  | false =>
    rw [if_neg Bool.false_ne_true] at hF
    have hE := Option.some.inj hF; subst hE
    simp only [↓reduceIte, Nat.reduceAdd, Nat.reduceMul, Nat.reduceSub, Nat.reduceLT, Nat.reduceLeDiff, Nat.reduceEqDiff, Nat.reducePow, Int.reducePow, Int.reduceLE, Int.reduceLT, Int.reduceEq, Int.reduceToNat, reduceCtorEq, RR, RB, RZ, RE, opEv, fillV, mapO, mapS, b102, hl_0, h0_0, h1_0, w2, w4]
    exact fin_ret (by simp only [↓reduceIte, Nat.reduceAdd, Nat.reduceMul, Nat.reduceSub, Nat.reduceLT, Nat.reduceLeDiff, Nat.reduceEqDiff, Nat.reducePow, Int.reducePow, Int.reduceLE, Int.reduceLT, Int.reduceEq, Int.reduceToNat, reduceCtorEq, RR, RB, RZ, RE, fn_out, p102, Rs.ev, mapO, mapS, take_len_self, hl_0, h0_0, h1_0, w2, w4])
/-! loop.example/g01273/impl.unit -/
def F132 (a0 : Int) (a1 : Int) : Option (List Int) :=
  (mkL 8 a0 0).bind fun l1 =>
  (getI l1 a1).bind fun x3 =>
  (setI l1 a1 1).bind fun l5 =>
  some l5
theorem s132 (a0 : Int) (a1 : Int)   {r : List Int} (hF : F132 a0 a1 = some r) : ans A 132 [V.int .i64 a0, V.int .i64 a1] = some (Enc.enc r) := by
  refine ans_of (f := p132) rfl rfl rfl fun e hl he => ?_
  have h0_0 : e.at 0 = V.int .i64 a0 := he 0 _ rfl
  have h1_0 : e.at 1 = V.int .i64 a1 := he 1 _ rfl
  have hl_0 : e.length = 12 := hl
  clear he hl
  show W A b132 e ⟨[], 0⟩ _
  unfold F132 at hF
  obtain ⟨l1, gl1, hF⟩ := bS hF
  obtain ⟨w2a, w2b, w2c, w2d, w2e⟩ := mkL_w gl1
  replace w2e : (List.replicate (Int.toNat a0) [V.int .i64 0]).flatten = List.map Enc.enc l1 := w2e
  obtain ⟨x3, gx3, hF⟩ := bS hF
  obtain ⟨w4a, w4b⟩ := getI_w gx3
  have w4c := getI_lt gx3
  replace w4c : a1 < (((Int.toNat a0) : Nat) : Int) := by first | exact w4c | (simp only [w2d] at w4c ⊢; exact w4c)
  have w4d : List.drop (Int.toNat a1) (List.map Enc.enc l1) = (V.int .i64 x3) :: List.drop ((Int.toNat a1) + 1) (List.map Enc.enc l1) := drop_enc w4b
  obtain ⟨l5, gl5, hF⟩ := bS hF
  obtain ⟨w6a, w6b, w6c, w6d, w6e⟩ := setI_w gl5
  replace w6e : List.take (Int.toNat a1) (List.map Enc.enc l1) ++ [V.int .i64 1] ++ List.drop (Int.toNat a1 + 1) (List.map Enc.enc l1) = List.map Enc.enc l5 := w6e
  have hE := Option.some.inj hF; subst hE
  simp only [↓reduceIte, Nat.reduceAdd, Nat.reduceMul, Nat.reduceSub, Nat.reduceLT, Nat.reduceLeDiff, Nat.reduceEqDiff, Nat.reducePow, Int.reducePow, Int.reduceLE, Int.reduceLT, Int.reduceEq, Int.reduceToNat, reduceCtorEq, RR, RB, RZ, RE, opEv, fillV, mapO, mapS, b132, hl_0, h0_0, h1_0, w2a, w2b, w2c, w2e, w4a, w4b, w4c, w4d, w6a, w6b, w6c, w6e]
  exact fin_ret (by simp only [↓reduceIte, Nat.reduceAdd, Nat.reduceMul, Nat.reduceSub, Nat.reduceLT, Nat.reduceLeDiff, Nat.reduceEqDiff, Nat.reducePow, Int.reducePow, Int.reduceLE, Int.reduceLT, Int.reduceEq, Int.reduceToNat, reduceCtorEq, RR, RB, RZ, RE, fn_out, p132, Rs.ev, mapO, mapS, take_len_self, hl_0, h0_0, h1_0, w2a, w2b, w2c, w2e, w4a, w4b, w4c, w4d, w6a, w6b, w6c, w6e, frzs (α := Int) l5, takes (α := Int) l5, take_len (α := Int) (l := l5) (n := (Int.toNat a0)) (by first | rfl | simp only [w2d, w6d]), w2d, w6d])
/-! loop.example/g01273/impl.units -/
def F124_1_B (a0 : Int) (v7_1 : Int) (o0_1 : (List (List Int))) : Option (((List (List Int))) ⊕ ((List (List Int)))) :=
  (F132 a0 v7_1).bind fun x5 =>
(app 24 o0_1 [x5]).bind fun l8 =>
some (.inl l8)
def F124_1_D (a0 : Int) (v7_1 : Int) (o0_1 : (List (List Int))) : Option ((List (List Int))) :=
  some o0_1
def F124 (a0 : Int) : Option (List (List Int)) :=
  (forR 0 a0 (F124_1_B a0) (F124_1_D a0) ([] : (List (List Int)))).bind fun zo0_1 =>
  some zo0_1
def I124_1 (a0 : Int)  (v7_1 : Int) (o0_1 : (List (List Int))) (e : Env) (h : Heap) : Prop :=
  ∃ u2 k3 : Nat, h = ⟨[(u2, some (List.map Enc.enc o0_1))], k3⟩ ∧ e.length = 18 ∧ e.at 0 = V.int .i64 a0 ∧ e.at 3 = V.sl 0 u2 0 o0_1.length 1 ∧ e.at 6 = V.int .i64 a0 ∧ e.at 7 = V.int .i64 v7_1
def P124_1 (a0 : Int)  (zo0_1 : (List (List Int))) (x : Ex) (e : Env) (h : Heap) : Prop :=
  x = .normal ∧ ∃ u2 k3 : Nat, h = ⟨[(u2, some (List.map Enc.enc zo0_1))], k3⟩ ∧ e.length = 18 ∧ e.at 3 = V.sl 0 u2 0 zo0_1.length 1
theorem l124_1 (a0 : Int)   {lo : Int} {s : (List (List Int))} {t : (List (List Int))} (hF : forR lo a0 (F124_1_B a0) (F124_1_D a0) s = some t) {e : Env} {h : Heap} (hI : I124_1 a0  lo s e h) : W A c124_1 e h (P124_1 a0  t) := by
  show W A (.block 0 (.loop false b124_1)) e h _
  rw [W_block]
  refine W_forR hF 1 (by obtain ⟨_, _, rfl, _⟩ := hI; rfl) (I124_1 a0 ) hI ?_ ?_
  · rintro v7_1 o0_1 e h ⟨u2, k3, rfl, hl_1, h0_1, h3_1, h6_1, h7_1⟩ hlt hw o ho
    unfold F124_1_B at ho
    obtain ⟨x5, gx5, ho⟩ := bS ho
    have w6 : ans A 132 [V.int .i64 a0, V.int .i64 v7_1] = some (V.isl (List.map Enc.enc x5)) := s132 a0 v7_1  gx5
    obtain ⟨l8, gl8, ho⟩ := bS ho
    have w7 := fun ents key uid clk he => appendV_w (α := List Int) (n := o0_1.length) (m := 1) (ds := [V.isl (List.map Enc.enc x5)]) gl8 (by first | rfl | simp only [List.length_nil]) (by first | rfl | simp only [List.length_nil]) rfl ents key uid clk he
    have w7l := app_len gl8
    have hE := Option.some.inj ho; subst hE
    simp only [↓reduceIte, Nat.reduceAdd, Nat.reduceMul, Nat.reduceSub, Nat.reduceLT, Nat.reduceLeDiff, Nat.reduceEqDiff, Nat.reducePow, Int.reducePow, Int.reduceLE, Int.reduceLT, Int.reduceEq, Int.reduceToNat, reduceCtorEq, RR, RB, RZ, RE, opEv, fillV, mapO, mapS, b124_1, hl_1, h0_1, h3_1, h6_1, h7_1, eq_true hlt, hw, w6, w7]
    refine And.intro rfl (Exists.intro _ ( Exists.intro _ ( And.intro rfl ?_)))
    simp only [↓reduceIte, Nat.reduceAdd, Nat.reduceMul, Nat.reduceSub, Nat.reduceLT, Nat.reduceLeDiff, Nat.reduceEqDiff, Nat.reducePow, Int.reducePow, Int.reduceLE, Int.reduceLT, Int.reduceEq, Int.reduceToNat, reduceCtorEq, RR, RB, RZ, RE, hl_1, h0_1, h3_1, h6_1, h7_1, eq_true hlt, hw, w6, w7]
  · rintro v7_1 o0_1 e h ⟨u2, k3, rfl, hl_1, h0_1, h3_1, h6_1, h7_1⟩ hge t1 ho
    unfold F124_1_D at ho
    have hE := Option.some.inj ho; subst hE
    simp only [↓reduceIte, Nat.reduceAdd, Nat.reduceMul, Nat.reduceSub, Nat.reduceLT, Nat.reduceLeDiff, Nat.reduceEqDiff, Nat.reducePow, Int.reducePow, Int.reduceLE, Int.reduceLT, Int.reduceEq, Int.reduceToNat, reduceCtorEq, RR, RB, RZ, RE, opEv, fillV, mapO, mapS, b124_1, hl_1, h0_1, h3_1, h6_1, h7_1, eq_false hge]
    intro ht; subst ht
    refine And.intro rfl (Exists.intro _ ( Exists.intro _ ( And.intro rfl ?_)))
    simp only [↓reduceIte, Nat.reduceAdd, Nat.reduceMul, Nat.reduceSub, Nat.reduceLT, Nat.reduceLeDiff, Nat.reduceEqDiff, Nat.reducePow, Int.reducePow, Int.reduceLE, Int.reduceLT, Int.reduceEq, Int.reduceToNat, reduceCtorEq, RR, RB, RZ, RE, hl_1, h0_1, h3_1, h6_1, h7_1, eq_false hge]
theorem s124 (a0 : Int)   {r : List (List Int)} (hF : F124 a0 = some r) : ans A 124 [V.int .i64 a0] = some (Enc.enc r) := by
  refine ans_of (f := p124) rfl rfl rfl fun e hl he => ?_
  have h0_0 : e.at 0 = V.int .i64 a0 := he 0 _ rfl
  have hl_0 : e.length = 18 := hl
  clear he hl
  show W A b124 e ⟨[], 0⟩ _
  unfold F124 at hF
  obtain ⟨zo0_1, gt9, hF⟩ := bS hF
  simp only [↓reduceIte, Nat.reduceAdd, Nat.reduceMul, Nat.reduceSub, Nat.reduceLT, Nat.reduceLeDiff, Nat.reduceEqDiff, Nat.reducePow, Int.reducePow, Int.reduceLE, Int.reduceLT, Int.reduceEq, Int.reduceToNat, reduceCtorEq, RR, RB, RZ, RE, opEv, fillV, mapO, mapS, b124, hl_0, h0_0]
  refine W.mono (l124_1 a0   gt9 (Exists.intro _ ( Exists.intro _ ( And.intro rfl ?_)))) ?_
  · simp only [↓reduceIte, Nat.reduceAdd, Nat.reduceMul, Nat.reduceSub, Nat.reduceLT, Nat.reduceLeDiff, Nat.reduceEqDiff, Nat.reducePow, Int.reducePow, Int.reduceLE, Int.reduceLT, Int.reduceEq, Int.reduceToNat, reduceCtorEq, RR, RB, RZ, RE, hl_0, h0_0]
  rintro _ e _ ⟨rfl, u2, k3, rfl, hl_4, h3_4⟩
  have hE := Option.some.inj hF; subst hE
  simp only [↓reduceIte, Nat.reduceAdd, Nat.reduceMul, Nat.reduceSub, Nat.reduceLT, Nat.reduceLeDiff, Nat.reduceEqDiff, Nat.reducePow, Int.reducePow, Int.reduceLE, Int.reduceLT, Int.reduceEq, Int.reduceToNat, reduceCtorEq, RR, RB, RZ, RE, opEv, fillV, mapO, mapS, hl_4, h3_4]
  exact fin_ret (by simp only [↓reduceIte, Nat.reduceAdd, Nat.reduceMul, Nat.reduceSub, Nat.reduceLT, Nat.reduceLeDiff, Nat.reduceEqDiff, Nat.reducePow, Int.reducePow, Int.reduceLE, Int.reduceLT, Int.reduceEq, Int.reduceToNat, reduceCtorEq, RR, RB, RZ, RE, fn_out, p124, Rs.ev, mapO, mapS, take_len_self, hl_4, h3_4, frzs (α := List Int) zo0_1, takes (α := List Int) zo0_1])
/-! slices.Clone(()int64,int64) -/
def F96 (a0 : List Int) : Option (List Int) := app 8 [] a0
theorem s96 (a0 : List Int) {r : List Int} (hF : F96 a0 = some r) : ans A 96 [V.isl (List.map Enc.enc a0)] = some (Enc.enc r) := clone_ans rfl hF
theorem t96 (a0 : List Int) {r : List Int} (hF : F96 a0 = some r) : tans A 96 [1] [V.isl (List.map Enc.enc a0)] = some (Enc.enc r) := clone_tans rfl hF
/-! loop.example/g01273/impl.reduce$1 -/
def F137 (a0 : List Int) (d0 : Int) : Option Bool :=
  (getI a0 d0).bind fun x1 =>
  some (!(decide (x1 = 0)))
theorem s137 (a0 : List Int) (d0 : Int)   {r : Bool} (hF : F137 a0 d0 = some r) : ans A 137 [V.isl (List.map Enc.enc a0), V.iptr [V.int .i64 d0]] = some (Enc.enc r) := by
  refine ans_of (f := p137) rfl rfl rfl fun e hl he => ?_
  have h0_0 : e.at 0 = V.isl (List.map Enc.enc a0) := he 0 _ rfl
  have h1_0 : e.at 1 = V.iptr [V.int .i64 d0] := he 1 _ rfl
  have hl_0 : e.length = 9 := hl
  clear he hl
  show W A b137 e ⟨[], 0⟩ _
  unfold F137 at hF
  obtain ⟨x1, gx1, hF⟩ := bS hF
  obtain ⟨w2a, w2b⟩ := getI_w gx1
  have hE := Option.some.inj hF; subst hE
  simp only [↓reduceIte, Nat.reduceAdd, Nat.reduceMul, Nat.reduceSub, Nat.reduceLT, Nat.reduceLeDiff, Nat.reduceEqDiff, Nat.reducePow, Int.reducePow, Int.reduceLE, Int.reduceLT, Int.reduceEq, Int.reduceToNat, reduceCtorEq, RR, RB, RZ, RE, opEv, fillV, mapO, mapS, b137, hl_0, h0_0, h1_0, w2a, w2b]
  exact fin_ret (by simp only [↓reduceIte, Nat.reduceAdd, Nat.reduceMul, Nat.reduceSub, Nat.reduceLT, Nat.reduceLeDiff, Nat.reduceEqDiff, Nat.reducePow, Int.reducePow, Int.reduceLE, Int.reduceLT, Int.reduceEq, Int.reduceToNat, reduceCtorEq, RR, RB, RZ, RE, fn_out, p137, Rs.ev, mapO, mapS, take_len_self, hl_0, h0_0, h1_0, w2a, w2b])
/-! loop.example/g01273/impl.inverse -/
def F138_1_S (a0 : Int) (a1 : Int) (v5_1 : Int) : Option ((Int) ⊕ (Int)) :=
  (chk (v5_1 * a1)).bind fun x4 =>
(remI x4 a0).bind fun x5 =>
if x5 = 1 then
  some (.inr v5_1)
else
  (chk (v5_1 + 1)).bind fun x8 =>
  some (.inl x8)
def F138 (a0 : Int) (a1 : Int) : Option Int :=
  (loopW (F138_1_S a0 a1) 1).bind fun zv5_1 =>
  some zv5_1
def I138_1 (a0 : Int) (a1 : Int)  (v5_1 : Int) (e : Env) (h : Heap) : Prop :=
  ∃ k2 : Nat, h = ⟨[], k2⟩ ∧ e.length = 15 ∧ e.at 0 = V.int .i64 a0 ∧ e.at 1 = V.int .i64 a1 ∧ e.at 5 = V.int .i64 v5_1
def P138_1 (a0 : Int) (a1 : Int)  (zv5_1 : Int) (x : Ex) (e : Env) (h : Heap) : Prop :=
  x = .normal ∧ ∃ k2 : Nat, h = ⟨[], k2⟩ ∧ e.length = 15 ∧ e.at 5 = V.int .i64 zv5_1
theorem l138_1 (a0 : Int) (a1 : Int)   {s : Int} {t : Int} (hF : loopW (F138_1_S a0 a1) s = some t) {e : Env} {h : Heap} (hI : I138_1 a0 a1  s e h) : W A c138_1 e h (P138_1 a0 a1  t) := by
  show W A (.block 0 (.loop false b138_1)) e h _
  rw [W_block]
  refine W_loop hF 0 (by obtain ⟨_, rfl, _⟩ := hI; rfl) (I138_1 a0 a1 ) hI ?_
  · rintro v5_1 e h ⟨k2, rfl, hl_1, h0_1, h1_1, h5_1⟩ o ho
    unfold F138_1_S at ho
    obtain ⟨x4, gx4, ho⟩ := bS ho
    have wx4 := chk_w gx4
    obtain ⟨x5, gx5, ho⟩ := bS ho
    obtain ⟨w6a, w6b⟩ := rem_w gx5
    by_cases c7 : x5 = 1
    · rw [if_pos c7] at ho
      have hE := Option.some.inj ho; subst hE
      simp only [↓reduceIte, Nat.reduceAdd, Nat.reduceMul, Nat.reduceSub, Nat.reduceLT, Nat.reduceLeDiff, Nat.reduceEqDiff, Nat.reducePow, Int.reducePow, Int.reduceLE, Int.reduceLT, Int.reduceEq, Int.reduceToNat, reduceCtorEq, RR, RB, RZ, RE, opEv, fillV, mapO, mapS, b138_1, hl_1, h0_1, h1_1, h5_1, wx4, eq_false w6a, w6b, eq_true c7]
      intro ht; subst ht
      simp only [↓reduceIte, Nat.reduceAdd, Nat.reduceMul, Nat.reduceSub, Nat.reduceLT, Nat.reduceLeDiff, Nat.reduceEqDiff, Nat.reducePow, Int.reducePow, Int.reduceLE, Int.reduceLT, Int.reduceEq, Int.reduceToNat, reduceCtorEq, RR, RB]
      refine And.intro rfl (Exists.intro _ ( And.intro rfl ?_))
      simp only [↓reduceIte, Nat.reduceAdd, Nat.reduceMul, Nat.reduceSub, Nat.reduceLT, Nat.reduceLeDiff, Nat.reduceEqDiff, Nat.reducePow, Int.reducePow, Int.reduceLE, Int.reduceLT, Int.reduceEq, Int.reduceToNat, reduceCtorEq, RR, RB, RZ, RE, hl_1, h0_1, h1_1, h5_1, wx4, eq_false w6a, w6b, eq_true c7]
    · rw [if_neg c7] at ho
      obtain ⟨x8, gx8, ho⟩ := bS ho
      have wx8 := chk_w gx8
      have hE := Option.some.inj ho; subst hE
      simp only [↓reduceIte, Nat.reduceAdd, Nat.reduceMul, Nat.reduceSub, Nat.reduceLT, Nat.reduceLeDiff, Nat.reduceEqDiff, Nat.reducePow, Int.reducePow, Int.reduceLE, Int.reduceLT, Int.reduceEq, Int.reduceToNat, reduceCtorEq, RR, RB, RZ, RE, opEv, fillV, mapO, mapS, b138_1, hl_1, h0_1, h1_1, h5_1, wx4, eq_false w6a, w6b, eq_false c7, wx8]
      refine And.intro rfl (Exists.intro _ ( And.intro rfl ?_))
      simp only [↓reduceIte, Nat.reduceAdd, Nat.reduceMul, Nat.reduceSub, Nat.reduceLT, Nat.reduceLeDiff, Nat.reduceEqDiff, Nat.reducePow, Int.reducePow, Int.reduceLE, Int.reduceLT, Int.reduceEq, Int.reduceToNat, reduceCtorEq, RR, RB, RZ, RE, hl_1, h0_1, h1_1, h5_1, wx4, eq_false w6a, w6b, eq_false c7, wx8]
theorem s138 (a0 : Int) (a1 : Int)   {r : Int} (hF : F138 a0 a1 = some r) : ans A 138 [V.int .i64 a0, V.int .i64 a1] = some (Enc.enc r) := by
  refine ans_of (f := p138) rfl rfl rfl fun e hl he => ?_
  have h0_0 : e.at 0 = V.int .i64 a0 := he 0 _ rfl
  have h1_0 : e.at 1 = V.int .i64 a1 := he 1 _ rfl
  have hl_0 : e.length = 15 := hl
  clear he hl
  show W A b138 e ⟨[], 0⟩ _
  unfold F138 at hF
  obtain ⟨zv5_1, gt9, hF⟩ := bS hF
  simp only [↓reduceIte, Nat.reduceAdd, Nat.reduceMul, Nat.reduceSub, Nat.reduceLT, Nat.reduceLeDiff, Nat.reduceEqDiff, Nat.reducePow, Int.reducePow, Int.reduceLE, Int.reduceLT, Int.reduceEq, Int.reduceToNat, reduceCtorEq, RR, RB, RZ, RE, opEv, fillV, mapO, mapS, b138, hl_0, h0_0, h1_0]
  refine W.mono (l138_1 a0 a1   gt9 (Exists.intro _ ( And.intro rfl ?_))) ?_
  · simp only [↓reduceIte, Nat.reduceAdd, Nat.reduceMul, Nat.reduceSub, Nat.reduceLT, Nat.reduceLeDiff, Nat.reduceEqDiff, Nat.reducePow, Int.reducePow, Int.reduceLE, Int.reduceLT, Int.reduceEq, Int.reduceToNat, reduceCtorEq, RR, RB, RZ, RE, hl_0, h0_0, h1_0]
  rintro _ e _ ⟨rfl, k2, rfl, hl_3, h5_3⟩
  have hE := Option.some.inj hF; subst hE
  simp only [↓reduceIte, Nat.reduceAdd, Nat.reduceMul, Nat.reduceSub, Nat.reduceLT, Nat.reduceLeDiff, Nat.reduceEqDiff, Nat.reducePow, Int.reducePow, Int.reduceLE, Int.reduceLT, Int.reduceEq, Int.reduceToNat, reduceCtorEq, RR, RB, RZ, RE, opEv, fillV, mapO, mapS, hl_3, h5_3]
  exact fin_ret (by simp only [↓reduceIte, Nat.reduceAdd, Nat.reduceMul, Nat.reduceSub, Nat.reduceLT, Nat.reduceLeDiff, Nat.reduceEqDiff, Nat.reducePow, Int.reducePow, Int.reduceLE, Int.reduceLT, Int.reduceEq, Int.reduceToNat, reduceCtorEq, RR, RB, RZ, RE, fn_out, p138, Rs.ev, mapO, mapS, take_len_self, hl_3, h5_3])
/-! loop.example/g01273/impl.clear -/
def F139_1_B (other : List Int) (p by_ : Int) (i : Int) (row : List Int) : Option (List Int ⊕ List Int) :=
  (getI other i).bind fun y => (getI row i).bind fun r => (chk (p - by_)).bind fun q => (chk (q * y)).bind fun m => (chk (r + m)).bind fun s => (remI s p).bind fun z => (setI row i z).bind fun row' => some (.inl row')
def F139_1_D (i : Int) (row : List Int) : Option (List Int) := some row
def F139 (row other : List Int) (p by_ : Int) : Option (List Int) := forR 0 (other.length : Int) (F139_1_B other p by_) F139_1_D row
theorem d139 {row other row' : List Int} {p by_ : Int} (hF : F139 row other p by_ = some row') (E : List (Nat × Option (List V))) (c : Nat) {key uid key2 uid2 : Nat} (g1 : E[key]? = some (uid, some (List.map Enc.enc row))) (g2 : E[key2]? = some (uid2, some (List.map Enc.enc other))) (hne : key2 ≠ key) :
    res A 139 [V.sl key uid 0 row.length 1, V.sl key2 uid2 0 other.length 1, V.int .i64 p, V.int .i64 by_] ⟨E, c⟩ = some (V.undef, ⟨E.set key (uid, some (List.map Enc.enc row')), c⟩) ∧ row'.length = row.length := by
  have hk : key < E.length := (List.getElem?_eq_some_iff.1 g1).1
  suffices ∃ h', res A 139 [V.sl key uid 0 row.length 1, V.sl key2 uid2 0 other.length 1, V.int .i64 p, V.int .i64 by_] ⟨E, c⟩ = some (V.undef, h') ∧ h' = ⟨E.set key (uid, some (List.map Enc.enc row')), c⟩ ∧ row'.length = row.length by
    obtain ⟨h', q1, rfl, q2⟩ := this
    exact ⟨q1, q2⟩
  refine res_ex (f := p139) rfl rfl rfl fun e hl he => ?_
  have h0_0 : e.at 0 = V.sl key uid 0 row.length 1 := he 0 _ rfl
  have h1_0 : e.at 1 = V.sl key2 uid2 0 other.length 1 := he 1 _ rfl
  have h2_0 : e.at 2 = V.int .i64 p := he 2 _ rfl
  have h3_0 : e.at 3 = V.int .i64 by_ := he 3 _ rfl
  have hl_0 : e.length = 33 := hl
  clear he hl
  show W A b139 e ⟨E, c⟩ _
  unfold F139 at hF
  simp only [↓reduceIte, Nat.reduceAdd, Nat.reduceMul, Nat.reduceSub, Nat.reduceLT, Nat.reduceLeDiff, Nat.reduceEqDiff, Nat.reducePow, Int.reducePow, Int.reduceLE, Int.reduceLT, Int.reduceEq, Int.reduceToNat, reduceCtorEq, RR, RB, RZ, opEv, fillV, mapO, mapS, b139, hl_0, h0_0, h1_0, h2_0, h3_0]
  show W A (.block 0 (.loop true b139_1)) _ _ _
  rw [W_block]
  refine W_forR hF _ rfl (fun i s e h => s.length = row.length ∧ h = ⟨E.set key (uid, some (List.map Enc.enc s)), c⟩ ∧ e.length = 33 ∧ e.at 0 = V.sl key uid 0 row.length 1 ∧ e.at 2 = V.int .i64 p ∧ e.at 3 = V.int .i64 by_ ∧ e.at 10 = V.sl key2 uid2 0 other.length 1 ∧ e.at 11 = V.int .i64 (other.length : Int) ∧ e.at 12 = V.int .i64 i) ?_ ?_ ?_
  · refine ⟨rfl, ?_, ?_⟩
    · rw [set_self g1]
    · simp only [↓reduceIte, Nat.reduceAdd, Nat.reduceMul, Nat.reduceSub, Nat.reduceLT, Nat.reduceLeDiff, Nat.reduceEqDiff, Nat.reducePow, Int.reducePow, Int.reduceLE, Int.reduceLT, Int.reduceEq, Int.reduceToNat, reduceCtorEq, RR, RB, RZ, hl_0, h0_0, h1_0, h2_0, h3_0]
  · clear hl_0 h0_0 h1_0 h2_0 h3_0
    rintro i s e h ⟨hs, rfl, hl_1, h0_1, h2_1, h3_1, h10_1, h11_1, h12_1⟩ hlt hw s' ho
    unfold F139_1_B at ho
    obtain ⟨y, gy, ho⟩ := bS ho
    obtain ⟨ya, yb⟩ := getI_w gy
    have yc := getI_lt gy
    obtain ⟨r, gr, ho⟩ := bS ho
    obtain ⟨ra, rb⟩ := getI_w gr
    have rc := getI_lt gr
    obtain ⟨q, gq, ho⟩ := bS ho
    have wq := chk_w gq
    obtain ⟨m, gm, ho⟩ := bS ho
    have wm := chk_w gm
    obtain ⟨t, gt, ho⟩ := bS ho
    have wt := chk_w gt
    obtain ⟨z, gz, ho⟩ := bS ho
    obtain ⟨wz0, wz⟩ := rem_w gz
    obtain ⟨row2, gs, ho⟩ := bS ho
    obtain ⟨s1, s2, s3, s4, s5⟩ := setI_w gs
    have hE := Option.some.inj ho; subst hE
    have oy : ofCells none (List.drop (Int.toNat i) (List.map Enc.enc other)) = some (V.int .i64 y) := ofCells_drop (by rw [List.getElem?_map, yb]; rfl)
    have orr : ofCells none (List.drop (Int.toNat i) (List.map Enc.enc s)) = some (V.int .i64 r) := ofCells_drop (by rw [List.getElem?_map, rb]; rfl)
    have n1 : ∀ x, (E.set key x)[key]? = some x := fun x => set_app_key hk
    have n2 : ∀ x, (E.set key x)[key2]? = some (uid2, some (List.map Enc.enc other)) := fun x => (set_ne hne).trans g2
    have s5' : List.take (Int.toNat i) (List.map Enc.enc s) ++ [V.int .i64 z] ++ List.drop (Int.toNat i + 1) (List.map Enc.enc s) = List.map Enc.enc row2 := s5
    have rc' : i < (row.length : Int) := by omega
    simp only [↓reduceIte, Nat.reduceAdd, Nat.reduceMul, Nat.reduceSub, Nat.reduceLT, Nat.reduceLeDiff, Nat.reduceEqDiff, Nat.reducePow, Int.reducePow, Int.reduceLE, Int.reduceLT, Int.reduceEq, Int.reduceToNat, reduceCtorEq, RR, RB, RZ, opEv, fillV, mapO, mapS, b139_1, hl_1, h0_1, h2_1, h3_1, h10_1, h11_1, h12_1, eq_true hlt, hw, ya, eq_true yc, oy, ra, eq_true rc', orr, n1, n2, wq, wm, wt, wz0, wz, s3, s5', List.set_set]
    refine And.intro rfl ⟨by omega, rfl, ?_⟩
    simp only [↓reduceIte, Nat.reduceAdd, Nat.reduceMul, Nat.reduceSub, Nat.reduceLT, Nat.reduceLeDiff, Nat.reduceEqDiff, Nat.reducePow, Int.reducePow, Int.reduceLE, Int.reduceLT, Int.reduceEq, Int.reduceToNat, reduceCtorEq, RR, RB, RZ, hl_1, h0_1, h2_1, h3_1, h10_1, h11_1, h12_1, hw]
  · clear hl_0 h0_0 h1_0 h2_0 h3_0
    rintro i s e h ⟨hs, rfl, hl_1, h0_1, h2_1, h3_1, h10_1, h11_1, h12_1⟩ hge t1 ho
    unfold F139_1_D at ho
    have hE := Option.some.inj ho; subst hE
    simp only [↓reduceIte, Nat.reduceAdd, Nat.reduceMul, Nat.reduceSub, Nat.reduceLT, Nat.reduceLeDiff, Nat.reduceEqDiff, Nat.reducePow, Int.reducePow, Int.reduceLE, Int.reduceLT, Int.reduceEq, Int.reduceToNat, reduceCtorEq, RR, RB, RZ, opEv, fillV, mapO, mapS, b139_1, hl_1, h0_1, h2_1, h3_1, h10_1, h11_1, h12_1, eq_false hge]
    intro ht; subst ht
    refine And.intro (fun _ => trivial) ⟨?_, rfl, hs⟩
    simp only [↓reduceIte, Nat.reduceAdd, Nat.reduceMul, Nat.reduceSub, Nat.reduceLT, Nat.reduceLeDiff, Nat.reduceEqDiff, Nat.reducePow, Int.reducePow, Int.reduceLE, Int.reduceLT, Int.reduceEq, Int.reduceToNat, reduceCtorEq, RR, RB, RZ, fn_out, p139, mapO]
    rfl
/-! loop.example/g01273/impl.reduce -/
def F133_1_B (rows : List (List Int)) (i : Int) (s : List (List Int)) : Option (List (List Int) ⊕ List (List Int)) := (getI rows i).bind fun r => (F96 r).bind fun d => (app 24 s [d]).bind fun l => some (.inl l)
def F133_1_D (i : Int) (s : List (List Int)) : Option (List (List Int)) := some s
def F133_3_B (p b : Int) (k : Int) (row : List Int) : Option (List Int ⊕ List Int) := (getI row k).bind fun x => (chk (x * b)).bind fun m => (remI m p).bind fun z => (setI row k z).bind fun r => some (.inl r)
def F133_3_D (k : Int) (row : List Int) : Option (List Int) := some row
def F133_4_B (p c done : Int) (i : Int) (l : List (List Int)) : Option (List (List Int) ⊕ List (List Int)) :=
  if i = done then some (.inl l) else (getI l i).bind fun r => (getI l done).bind fun o => (getI r c).bind fun x => (F139 r o p x).bind fun r' => (setI l i r').bind fun l' => some (.inl l')
def F133_4_D (i : Int) (l : List (List Int)) : Option (List (List Int)) := some l
def F133_2_B (p : Int) (c : Int) (s : List (List Int) × Int) : Option ((List (List Int) × Int) ⊕ (List (List Int) × Int)) :=
  if 0 ≤ s.2 ∧ s.2 ≤ s.1.length then
    (F128 (s.1.drop s.2.toNat) (fun r => F137 r c)).bind fun at_ =>
    if at_ < 0 then some (.inl s) else
    (chk (s.2 + at_)).bind fun j => (getI s.1 j).bind fun a => (getI s.1 s.2).bind fun b => (setI s.1 s.2 a).bind fun l1 => (setI l1 j b).bind fun l2 =>
    (getI l2 s.2).bind fun row => (getI row c).bind fun x => (F138 p x).bind fun by_ =>
    (forR 0 (row.length : Int) (F133_3_B p by_) F133_3_D row).bind fun row' => (setI l2 s.2 row').bind fun l3 =>
    (forR 0 (l3.length : Int) (F133_4_B p c s.2) F133_4_D l3).bind fun l4 => (chk (s.2 + 1)).bind fun d => if d = (l4.length : Int) then some (.inr (l4, d)) else some (.inl (l4, d))
  else none
def F133_2_D (c : Int) (s : List (List Int) × Int) : Option (List (List Int) × Int) := some s
def F133 (p : Int) (rows : List (List Int)) : Option (List (List Int)) :=
  (forR 0 (rows.length : Int) (F133_1_B rows) F133_1_D []).bind fun l => if (l.length : Int) = 0 then some l else (getI l 0).bind fun r0 =>
  (forR 0 (r0.length : Int) (F133_2_B p) F133_2_D (l, 0)).bind fun t => if 0 ≤ t.2 ∧ t.2 ≤ t.1.length then some (t.1.take t.2.toNat) else none
theorem d133 (p : Int) (rows : List (List Int)) {r : List (List Int)} (hF : F133 p rows = some r) : ∃ v h', res A 133 [V.int .i64 p, V.isl (List.map Enc.enc rows)] Heap.empty = some (v, h') ∧
    ∃ u vs l, v = V.sl 0 u 0 r.length 1 ∧ h'.ents[0]? = some (u, some vs) ∧ MatAt h'.ents vs l (fun k => 1 ≤ k) ∧ r = l.take r.length := by
  refine res_dp (f := p133) rfl rfl rfl fun e hl he => ?_
  have h0_0 : e.at 0 = V.int .i64 p := he 0 _ rfl
  have h1_0 : e.at 1 = V.isl (List.map Enc.enc rows) := he 1 _ rfl
  have hl_0 : e.length = 134 := hl
  clear he hl
  show W A b133 e ⟨[], 0⟩ _
  unfold F133 at hF
  obtain ⟨l0, gl0, hF⟩ := bS hF
  simp only [↓reduceIte, Nat.reduceAdd, Nat.reduceMul, Nat.reduceSub, Nat.reduceLT, Nat.reduceLeDiff, Nat.reduceEqDiff, Nat.reducePow, Int.reducePow, Int.reduceLE, Int.reduceLT, Int.reduceEq, Int.reduceToNat, reduceCtorEq, RR, RB, RZ, opEv, fillV, mapO, mapS, b133, hl_0, h0_0, h1_0]
  show W A (.block 0 (.loop true b133_1)) _ _ _
  rw [W_block]
  refine W_forR gl0 _ rfl (fun i s e h => ∃ u vs, h.ents[0]? = some (u, some vs) ∧ MatAt h.ents vs s (fun k => 1 ≤ k) ∧ e.length = 134 ∧ e.at 0 = V.int .i64 p ∧ e.at 5 = V.sl 0 u 0 s.length 1 ∧ e.at 15 = V.isl (List.map Enc.enc rows) ∧ e.at 16 = V.int .i64 (rows.length : Int) ∧ e.at 17 = V.int .i64 i) ?_ ?_ ?_
  · refine ⟨0, [], rfl, .nil, ?_⟩
    simp only [↓reduceIte, Nat.reduceAdd, Nat.reduceMul, Nat.reduceSub, Nat.reduceLT, Nat.reduceLeDiff, Nat.reduceEqDiff, Nat.reducePow, Int.reducePow, Int.reduceLE, Int.reduceLT, Int.reduceEq, Int.reduceToNat, reduceCtorEq, RR, RB, RZ, hl_0, h0_0, h1_0]
  · clear hl_0 h0_0 h1_0
    rintro i s e ⟨E, c⟩ ⟨u, vs, g1, g2, hl_1, h0_1, h5_1, h15_1, h16_1, h17_1⟩ hlt hw s' ho
    unfold F133_1_B at ho
    simp only at g1 g2
    obtain ⟨x, gx, ho⟩ := bS ho
    obtain ⟨xa, xb⟩ := getI_w gx
    obtain ⟨d, gd, ho⟩ := bS ho
    have wd := t96 x gd
    obtain ⟨l, gl, ho⟩ := bS ho
    obtain ⟨q1, q2, rfl⟩ := app_w gl
    have hE := Option.some.inj ho; subst hE
    have hE0 : 0 < E.length := (List.getElem?_eq_some_iff.1 g1).1
    have w9 : ∀ x y c', appendV 1 24 (.sl 0 u 0 s.length 1) 1 [V.sl E.length c 0 d.length 1] ⟨E ++ [x] ++ [y], c'⟩ = _ := fun x y c' => appendV_deep (E := E ++ [x] ++ [y]) (vs := vs) (by rw [List.append_assoc, List.getElem?_append_left hE0]; exact g1) g2.len (by simpa using q1) (by simpa using q2)
    simp only [↓reduceIte, Nat.reduceAdd, Nat.reduceMul, Nat.reduceSub, Nat.reduceLT, Nat.reduceLeDiff, Nat.reduceEqDiff, Nat.reducePow, Int.reducePow, Int.reduceLE, Int.reduceLT, Int.reduceEq, Int.reduceToNat, reduceCtorEq, RR, RB, RZ, opEv, fillV, mapO, mapS, b133_1, hl_1, h0_1, h5_1, h15_1, h16_1, h17_1, eq_true hlt, hw, xa, xb, wd, callM_tans, thaw_one, le1, get_last, ge2a, ge2b, w9]
    refine And.intro rfl ⟨_, _, set_app_key (by simp), ?_, ?_⟩
    · refine (MatAt.snoc (k := E.length) (u := c) (r := d) (E := ((E ++ [(c, some (List.map Enc.enc d))] ++ [(c + 1, some [V.sl E.length c 0 d.length 1])]).set 0 (c + 1 + 1, some (vs ++ [V.sl E.length c 0 d.length 1])))) (g2.frame fun k hk hb => ?_) ?_ (by omega) fun i k' u' n hv e => ?_)
      · rw [set_ne (by omega), List.append_assoc, List.getElem?_append_left hk]
      · rw [set_ne (by omega)]; exact ge2a ..
      · subst e
        obtain ⟨r, hr⟩ : ∃ r, s[i]? = some r := ⟨s[i]'(by have := (List.getElem?_eq_some_iff.1 hv).1; have := g2.len; omega), by simp⟩
        obtain ⟨k2, u2, e2, g, _⟩ := g2.row i _ r hv hr
        cases e2
        have := (List.getElem?_eq_some_iff.1 g).1
        omega
    · simp only [↓reduceIte, Nat.reduceAdd, Nat.reduceMul, Nat.reduceSub, Nat.reduceLT, Nat.reduceLeDiff, Nat.reduceEqDiff, Nat.reducePow, Int.reducePow, Int.reduceLE, Int.reduceLT, Int.reduceEq, Int.reduceToNat, reduceCtorEq, RR, RB, RZ, hl_1, h0_1, h5_1, h15_1, h16_1, h17_1, hw, List.length_append]
  · clear hl_0 h0_0 h1_0
    rintro i s e ⟨E, c⟩ ⟨u, vs, g1, g2, hl_1, h0_1, h5_1, h15_1, h16_1, h17_1⟩ hge t1 ho
    unfold F133_1_D at ho
    have hE := Option.some.inj ho; subst hE
    simp only at g1 g2
    simp only [↓reduceIte, Nat.reduceAdd, Nat.reduceMul, Nat.reduceSub, Nat.reduceLT, Nat.reduceLeDiff, Nat.reduceEqDiff, Nat.reducePow, Int.reducePow, Int.reduceLE, Int.reduceLT, Int.reduceEq, Int.reduceToNat, reduceCtorEq, RR, RB, RZ, opEv, fillV, mapO, mapS, b133_1, hl_1, h0_1, h5_1, h15_1, h16_1, h17_1, eq_false hge]
    intro ht; subst ht
    by_cases hz : (s.length : Int) = 0
    · rw [if_pos hz] at hF ⊢
      have hE := Option.some.inj hF; subst hE
      refine And.intro (fun _ => trivial) ⟨_, ?_, u, vs, s, rfl, g1, g2, by rw [List.take_length]⟩
      simp only [↓reduceIte, Nat.reduceAdd, Nat.reduceMul, Nat.reduceSub, Nat.reduceLT, Nat.reduceLeDiff, Nat.reduceEqDiff, Nat.reducePow, Int.reducePow, Int.reduceLE, Int.reduceLT, Int.reduceEq, Int.reduceToNat, reduceCtorEq, RR, RB, RZ, fn_out, p133, Rs.ev, mapO, mapS, hl_1, h5_1]
    · rw [if_neg hz] at hF ⊢
      obtain ⟨r0, gr0, hF⟩ := bS hF
      obtain ⟨ra, rb⟩ := getI_w gr0
      have rc := getI_lt gr0
      obtain ⟨t, gt, hF⟩ := bS hF
      obtain ⟨k0, u0, v1, v2, v3⟩ := g2.get rb
      have o1 := ofCells_drop v1
      simp only [Int.toNat_zero, List.drop_zero] at o1
      simp only [↓reduceIte, Nat.reduceAdd, Nat.reduceMul, Nat.reduceSub, Nat.reduceLT, Nat.reduceLeDiff, Nat.reduceEqDiff, Nat.reducePow, Int.reducePow, Int.reduceLE, Int.reduceLT, Int.reduceEq, Int.reduceToNat, reduceCtorEq, RR, RB, RZ, opEv, fillV, mapO, mapS, hl_1, h0_1, h5_1, h15_1, h16_1, h17_1, eq_true rc, g1, o1, Int.toNat_zero, Int.le_refl]
      show W A (.block 2 (.loop true b133_2)) _ _ _
      rw [W_block]
      refine W_forR gt _ rfl (fun i s e h => ∃ u vs, h.ents[0]? = some (u, some vs) ∧ MatAt h.ents vs s.1 (fun k => 1 ≤ k) ∧ e.length = 134 ∧ e.at 0 = V.int .i64 p ∧ e.at 5 = V.sl 0 u 0 s.1.length 1 ∧ e.at 8 = V.int .i64 s.2 ∧ e.at 34 = V.int .i64 (r0.length : Int) ∧ e.at 35 = V.int .i64 i) ?_ ?_ ?_
      · refine ⟨u, vs, g1, g2, ?_⟩
        simp only [↓reduceIte, Nat.reduceAdd, Nat.reduceMul, Nat.reduceSub, Nat.reduceLT, Nat.reduceLeDiff, Nat.reduceEqDiff, Nat.reducePow, Int.reducePow, Int.reduceLE, Int.reduceLT, Int.reduceEq, Int.reduceToNat, reduceCtorEq, RR, RB, RZ, hl_1, h0_1, h5_1, h15_1, h16_1, h17_1]
      · clear hl_1 h0_1 h5_1 h15_1 h16_1 h17_1 g1 g2 k0 u0 v1 v2 v3 o1
        rintro cc ⟨l, done⟩ e ⟨E, c⟩ ⟨u, vs, g1, g2, hl_1, h0_1, h5_1, h8_1, h34_1, h35_1⟩ hlt hw s' ho
        unfold F133_2_B at ho
        simp only at g1 g2 h5_1 h8_1 ho
        have hE0 : 0 < E.length := (List.getElem?_eq_some_iff.1 g1).1
        split at ho
        case isFalse => cases ho
        rename_i hdn
        obtain ⟨hd0, hd1⟩ := hdn
        have hdn : done.toNat ≤ l.length := by omega
        obtain ⟨at_, gat, ho⟩ := bS ho
        have wat : ans A 128 [V.isl (List.map Enc.enc (l.drop done.toNat)), V.fn 137 [] [V.iptr [V.int .i64 cc]]] = some (V.int .i64 at_) := s128 (l.drop done.toNat) (fun r => F137 r cc)
          (Clo1.of (by intro h f; simp only [RZ, mapO]) (by intro h f; simp only [RZ, mapO]) (by intro f; simp only [RZ, RB]) (by intro f; simp only [RZ, RB]) (fun x _ hr => s137 x cc hr)) gat
        have g1' : ∀ x, (E ++ [x])[0]? = some (u, some vs) := fun x => (List.getElem?_append_left hE0).trans g1
        have g2' : ∀ x, MatAt (E ++ [x]) vs l (fun k => 1 ≤ k ∧ k < E.length) := fun x => (g2.mono (fun k hk h => And.intro h hk)).frame fun k hk _ => List.getElem?_append_left hk
        have wfz : ∀ x c, frz ⟨E ++ [x], c⟩ 16 (V.sl 0 u done.toNat (l.length - done.toNat) 1) = some (V.isl (List.map Enc.enc (l.drop done.toNat))) := fun x c => by
          have := (g2' x).fz c (g1' x) (off := done.toNat) (n := l.length - done.toNat) (by omega)
          rwa [List.take_of_length_le (by simp)] at this
        have wsl := slice_lo (key := 0) (uid := u) (n := l.length) hd0 (by omega)
        by_cases hat : at_ < 0
        · rw [if_pos hat] at ho
          have hE := Option.some.inj ho; subst hE
          simp only [↓reduceIte, Nat.reduceAdd, Nat.reduceMul, Nat.reduceSub, Nat.reduceLT, Nat.reduceLeDiff, Nat.reduceEqDiff, Nat.reducePow, Int.reducePow, Int.reduceLE, Int.reduceLT, Int.reduceEq, Int.reduceToNat, reduceCtorEq, RR, RB, RZ, opEv, fillV, mapO, mapS, b133_2, hl_1, h0_1, h5_1, h8_1, h34_1, h35_1, eq_true hlt, hw, Option.map_some, Option.map_none, wsl, wfz, wat, get_last, set_last, eq_true hat]
          refine And.intro rfl ⟨u, vs, g1' _, (g2' _).mono fun k _ h => h.1, ?_⟩
          simp only [↓reduceIte, Nat.reduceAdd, Nat.reduceMul, Nat.reduceSub, Nat.reduceLT, Nat.reduceLeDiff, Nat.reduceEqDiff, Nat.reducePow, Int.reducePow, Int.reduceLE, Int.reduceLT, Int.reduceEq, Int.reduceToNat, reduceCtorEq, RR, RB, RZ, hl_1, h0_1, h5_1, h8_1, h34_1, h35_1, hw]
        · rw [if_neg hat] at ho
          obtain ⟨j, gj, ho⟩ := bS ho
          have wj := chk_w gj
          obtain ⟨a, ga, ho⟩ := bS ho
          obtain ⟨aa, ab⟩ := getI_w ga
          have ac := getI_lt ga
          obtain ⟨b, gb, ho⟩ := bS ho
          obtain ⟨ba, bb⟩ := getI_w gb
          have bc := getI_lt gb
          obtain ⟨l1, gl1, ho⟩ := bS ho
          have e1 := setI_eq gl1
          obtain ⟨l2, gl2, ho⟩ := bS ho
          have e2 := setI_eq gl2
          subst e1; subst e2
          obtain ⟨row, grow, ho⟩ := bS ho
          obtain ⟨rowa, rowb⟩ := getI_w grow
          obtain ⟨x, gx, ho⟩ := bS ho
          obtain ⟨xa, xb⟩ := getI_w gx
          have xc := getI_lt gx
          obtain ⟨by_, gby, ho⟩ := bS ho
          have wby : ans A 138 [V.int .i64 p, V.int .i64 x] = some (V.int .i64 by_) := s138 p x gby
          obtain ⟨row', gr', ho⟩ := bS ho
          obtain ⟨l3, gl3, ho⟩ := bS ho
          have e3 := setI_eq gl3
          subst e3
          obtain ⟨l4, gl4, ho⟩ := bS ho
          obtain ⟨d1, gd1, ho⟩ := bS ho
          have wd1 := chk_w gd1
          obtain ⟨ka, ua, va1, va2, va3⟩ := (g2' (c, some [V.int .i64 cc])).get ab
          obtain ⟨kb, ub, vb1, vb2, vb3⟩ := (g2' (c, some [V.int .i64 cc])).get bb
          have hml := g2.len
          have hsw := (g2' (c, some [V.int .i64 cc])).swap vb1 va1 bb ab
          generalize hvs2 : (vs.set done.toNat (V.sl ka ua 0 a.length 1)).set j.toNat (V.sl kb ub 0 b.length 1) = vs2 at hsw
          have hl2 : ((l.set done.toNat a).set j.toNat b).length = l.length := by simp
          generalize hll2 : (l.set done.toNat a).set j.toNat b = l2 at *
          have oa := ofCells_drop va1
          have ob := ofCells_drop vb1
          have td1 : List.take done.toNat vs ++ [V.sl ka ua 0 a.length 1] ++ List.drop (done.toNat + 1) vs = vs.set done.toNat (V.sl ka ua 0 a.length 1) := tsd (by omega)
          have td2 : List.take j.toNat (vs.set done.toNat (V.sl ka ua 0 a.length 1)) ++ [V.sl kb ub 0 b.length 1] ++ List.drop (j.toNat + 1) (vs.set done.toNat (V.sl ka ua 0 a.length 1)) = vs2 := (tsd (by simp; omega)).trans hvs2
          have hd1' : done.toNat + 1 ≤ vs.length := by omega
          have hj1' : j.toNat + 1 ≤ vs.length := by omega
          have n1 : ∀ y z, ((E ++ [y]).set 0 z)[0]? = some z := fun y z => set_app_key (by simp)
          have n2 : ∀ y z, ((E ++ [y]).set 0 z)[E.length]? = some y := fun y z => (set_ne (by omega)).trans (get_last _ _)
          have hsw2 : ∀ z, MatAt ((E ++ [(c, some [V.int .i64 cc])]).set 0 z) vs2 l2 (fun k => 1 ≤ k ∧ k < E.length) := fun z => hsw.frame fun k hk h => set_ne (by omega)
          obtain ⟨kr, ur, vr1, vr2, vr3⟩ := (hsw2 (u, some vs2)).get rowb
          have orr := ofCells_drop vr1
          have ox : ofCells none (List.drop cc.toNat (List.map Enc.enc row)) = some (V.int .i64 x) := ofCells_drop (by rw [List.getElem?_map, xb]; rfl)
          have hvl : vs2.length = l.length := by rw [hsw.len, hl2]
          simp only [↓reduceIte, Nat.reduceAdd, Nat.reduceMul, Nat.reduceSub, Nat.reduceLT, Nat.reduceLeDiff, Nat.reduceEqDiff, Nat.reducePow, Int.reducePow, Int.reduceLE, Int.reduceLT, Int.reduceEq, Int.reduceToNat, reduceCtorEq, RR, RB, RZ, opEv, fillV, mapO, mapS, b133_2, hl_1, h0_1, h5_1, h8_1, h34_1, h35_1, eq_true hlt, hw, Option.map_some, Option.map_none, wsl, wfz, wat, get_last, set_last, eq_false hat, wj, aa, eq_true ac, ba, eq_true bc, g1', oa, ob, List.length_set, eq_true hd1', eq_true hj1', td1, td2, List.set_set, n1, n2, orr, xa, eq_true xc, vr2, ox, wby]
          have hd1v : d1 = done + 1 := by
            unfold chk at gd1; split at gd1
            · cases gd1; rfl
            · cases gd1
          have kr0 : 1 ≤ kr := vr3.1
          have krE : kr < E.length := vr3.2
          have m0 : ∀ z, (((E ++ [(c, some [V.int .i64 cc])]).set 0 (u, some vs2)).set kr z)[0]? = some (u, some vs2) := fun z => (set_ne (by omega)).trans (n1 _ _)
          have mk : ∀ z, (((E ++ [(c, some [V.int .i64 cc])]).set 0 (u, some vs2)).set kr z)[kr]? = some z := fun z => set_app_key (by simp; omega)
          have mN : ∀ z, (((E ++ [(c, some [V.int .i64 cc])]).set 0 (u, some vs2)).set kr z)[E.length]? = some (c, some [V.int .i64 cc]) := fun z => (set_ne (by omega)).trans (n2 _ _)
          have hdl : done < (l.length : Int) := by omega
          show W A (.block 4 (.loop true b133_3)) _ _ _
          rw [W_block]
          refine W_forR gr' _ rfl (fun k s e h => s.length = row.length ∧ h = ⟨((E ++ [(c, some [V.int .i64 cc])]).set 0 (u, some vs2)).set kr (ur, some (List.map Enc.enc s)), c + 1⟩ ∧ e.length = 134 ∧ e.at 0 = V.int .i64 p ∧ e.at 5 = V.sl 0 u 0 l.length 1 ∧ e.at 8 = V.int .i64 done ∧ e.at 9 = V.ptr E.length c 0 ∧ e.at 11 = V.int .i64 by_ ∧ e.at 34 = V.int .i64 (r0.length : Int) ∧ e.at 35 = V.int .i64 cc ∧ e.at 76 = V.int .i64 (row.length : Int) ∧ e.at 77 = V.int .i64 k) ?_ ?_ ?_
          · refine ⟨rfl, by rw [set_self vr2], ?_⟩
            simp only [↓reduceIte, Nat.reduceAdd, Nat.reduceMul, Nat.reduceSub, Nat.reduceLT, Nat.reduceLeDiff, Nat.reduceEqDiff, Nat.reducePow, Int.reducePow, Int.reduceLE, Int.reduceLT, Int.reduceEq, Int.reduceToNat, reduceCtorEq, RR, RB, RZ, hl_1, h0_1, h5_1, h8_1, h34_1, h35_1]
          · clear hl_1 h0_1 h5_1 h8_1 h34_1 h35_1
            rintro k q e h ⟨hq, rfl, hl_1, h0_1, h5_1, h8_1, h9_1, h11_1, h34_1, h35_1, h76_1, h77_1⟩ hlt3 hw3 s3 ho3
            unfold F133_3_B at ho3
            obtain ⟨x3, gx3, ho3⟩ := bS ho3
            obtain ⟨x3a, x3b⟩ := getI_w gx3
            obtain ⟨m3, gm3, ho3⟩ := bS ho3
            have wm3 := chk_w gm3
            obtain ⟨z3, gz3, ho3⟩ := bS ho3
            obtain ⟨wz30, wz3⟩ := rem_w gz3
            obtain ⟨q2, gq2, ho3⟩ := bS ho3
            obtain ⟨s31, s32, s33, s34, s35⟩ := setI_w gq2
            have hE := Option.some.inj ho3; subst hE
            have o3 : ofCells none (List.drop k.toNat (List.map Enc.enc q)) = some (V.int .i64 x3) := ofCells_drop (by rw [List.getElem?_map, x3b]; rfl)
            have hk3 : k < (row.length : Int) := hlt3
            have s35' : List.take k.toNat (List.map Enc.enc q) ++ [V.int .i64 z3] ++ List.drop (k.toNat + 1) (List.map Enc.enc q) = List.map Enc.enc q2 := s35
            simp only [↓reduceIte, Nat.reduceAdd, Nat.reduceMul, Nat.reduceSub, Nat.reduceLT, Nat.reduceLeDiff, Nat.reduceEqDiff, Nat.reducePow, Int.reducePow, Int.reduceLE, Int.reduceLT, Int.reduceEq, Int.reduceToNat, reduceCtorEq, RR, RB, RZ, opEv, fillV, mapO, mapS, b133_3, hl_1, h0_1, h5_1, h8_1, h9_1, h11_1, h34_1, h35_1, h76_1, h77_1, hw3, eq_true hlt3, hd0, eq_true hdl, m0, mk, orr, x3a, o3, wm3, wz30, wz3, s33, s35', List.set_set]
            refine And.intro rfl ⟨by omega, rfl, ?_⟩
            simp only [↓reduceIte, Nat.reduceAdd, Nat.reduceMul, Nat.reduceSub, Nat.reduceLT, Nat.reduceLeDiff, Nat.reduceEqDiff, Nat.reducePow, Int.reducePow, Int.reduceLE, Int.reduceLT, Int.reduceEq, Int.reduceToNat, reduceCtorEq, RR, RB, RZ, hl_1, h0_1, h5_1, h8_1, h9_1, h11_1, h34_1, h35_1, h76_1, h77_1, hw3]
          · clear hl_1 h0_1 h5_1 h8_1 h34_1 h35_1
            rintro k q e h ⟨hq, rfl, hl_1, h0_1, h5_1, h8_1, h9_1, h11_1, h34_1, h35_1, h76_1, h77_1⟩ hge3 t3 ho3
            unfold F133_3_D at ho3
            have hE := Option.some.inj ho3; subst hE
            simp only [↓reduceIte, Nat.reduceAdd, Nat.reduceMul, Nat.reduceSub, Nat.reduceLT, Nat.reduceLeDiff, Nat.reduceEqDiff, Nat.reducePow, Int.reducePow, Int.reduceLE, Int.reduceLT, Int.reduceEq, Int.reduceToNat, reduceCtorEq, RR, RB, RZ, opEv, fillV, mapO, mapS, b133_3, hl_1, h0_1, h5_1, h8_1, h9_1, h11_1, h34_1, h35_1, h76_1, h77_1, eq_false hge3]
            intro ht; subst ht
            have hmw := MatAt.write (hsw2 (u, some vs2)) rowb vr1 hq
            have hl3 : ((l2.set done.toNat q).length : Int) = (l.length : Int) := by rw [List.length_set, hl2]
            rw [hl3] at gl4
            show W A (.block 6 (.loop true b133_4)) _ _ _
            rw [W_block]
            refine W_forR gl4 _ rfl (fun i s e h => s.length = l.length ∧ h.ents[0]? = some (u, some vs2) ∧ MatAt h.ents vs2 s (fun k => 1 ≤ k ∧ k < E.length) ∧ h.ents[E.length]? = some (c, some [V.int .i64 cc]) ∧ e.length = 134 ∧ e.at 0 = V.int .i64 p ∧ e.at 5 = V.sl 0 u 0 l.length 1 ∧ e.at 8 = V.int .i64 done ∧ e.at 9 = V.ptr E.length c 0 ∧ e.at 34 = V.int .i64 (r0.length : Int) ∧ e.at 35 = V.int .i64 cc ∧ e.at 99 = V.int .i64 (l.length : Int) ∧ e.at 100 = V.int .i64 i) ?_ ?_ ?_
            · refine ⟨by omega, m0 _, hmw, mN _, ?_⟩
              simp only [↓reduceIte, Nat.reduceAdd, Nat.reduceMul, Nat.reduceSub, Nat.reduceLT, Nat.reduceLeDiff, Nat.reduceEqDiff, Nat.reducePow, Int.reducePow, Int.reduceLE, Int.reduceLT, Int.reduceEq, Int.reduceToNat, reduceCtorEq, RR, RB, RZ, hl_1, h0_1, h5_1, h8_1, h9_1, h11_1, h34_1, h35_1, h76_1, h77_1]
            · clear hl_1 h0_1 h5_1 h8_1 h9_1 h11_1 h34_1 h35_1 h76_1 h77_1
              rintro i q4 e ⟨E4, c4⟩ ⟨hq4, f1, f2, f3, hl_1, h0_1, h5_1, h8_1, h9_1, h34_1, h35_1, h99_1, h100_1⟩ hlt4 hw4 s4 ho4
              unfold F133_4_B at ho4
              simp only at f1 f2 f3
              by_cases hi : i = done
              · rw [if_pos hi] at ho4
                have hE := Option.some.inj ho4; subst hE
                simp only [↓reduceIte, Nat.reduceAdd, Nat.reduceMul, Nat.reduceSub, Nat.reduceLT, Nat.reduceLeDiff, Nat.reduceEqDiff, Nat.reducePow, Int.reducePow, Int.reduceLE, Int.reduceLT, Int.reduceEq, Int.reduceToNat, reduceCtorEq, RR, RB, RZ, opEv, fillV, mapO, mapS, b133_4, hl_1, h0_1, h5_1, h8_1, h9_1, h34_1, h35_1, h99_1, h100_1, hw4, eq_true hlt4, eq_true hi]
                refine And.intro rfl ⟨hq4, f1, f2, f3, ?_⟩
                simp only [↓reduceIte, Nat.reduceAdd, Nat.reduceMul, Nat.reduceSub, Nat.reduceLT, Nat.reduceLeDiff, Nat.reduceEqDiff, Nat.reducePow, Int.reducePow, Int.reduceLE, Int.reduceLT, Int.reduceEq, Int.reduceToNat, reduceCtorEq, RR, RB, RZ, hl_1, h0_1, h5_1, h8_1, h9_1, h34_1, h35_1, h99_1, h100_1, hw4]
              · rw [if_neg hi] at ho4
                obtain ⟨ri, gri, ho4⟩ := bS ho4
                obtain ⟨ria, rib⟩ := getI_w gri
                obtain ⟨oi, goi, ho4⟩ := bS ho4
                obtain ⟨oia, oib⟩ := getI_w goi
                obtain ⟨xi, gxi, ho4⟩ := bS ho4
                obtain ⟨xia, xib⟩ := getI_w gxi
                have xic := getI_lt gxi
                obtain ⟨r', gr'', ho4⟩ := bS ho4
                obtain ⟨l', gl', ho4⟩ := bS ho4
                have e4 := setI_eq gl'
                subst e4
                have hE := Option.some.inj ho4; subst hE
                obtain ⟨ki, ui, vi1, vi2, vi3⟩ := f2.get rib
                obtain ⟨ko, uo, vo1, vo2, vo3⟩ := f2.get oib
                have hko : ko ≠ ki := fun q => hi (by have := f2.inj _ _ _ _ _ _ _ _ vo1 vi1 q; omega)
                have oi1 := ofCells_drop vi1
                have oo1 := ofCells_drop vo1
                have ox1 : ofCells none (List.drop cc.toNat (List.map Enc.enc ri)) = some (V.int .i64 xi) := ofCells_drop (by rw [List.getElem?_map, xib]; rfl)
                obtain ⟨wc, wcl⟩ := d139 gr'' E4 c4 vi2 vo2 hko
                have hi4 : i < (l.length : Int) := hlt4
                simp only [↓reduceIte, Nat.reduceAdd, Nat.reduceMul, Nat.reduceSub, Nat.reduceLT, Nat.reduceLeDiff, Nat.reduceEqDiff, Nat.reducePow, Int.reducePow, Int.reduceLE, Int.reduceLT, Int.reduceEq, Int.reduceToNat, reduceCtorEq, RR, RB, RZ, opEv, fillV, mapO, mapS, b133_4, hl_1, h0_1, h5_1, h8_1, h9_1, h34_1, h35_1, h99_1, h100_1, hw4, eq_true hlt4, eq_false hi, hd0, eq_true hdl, ria, f1, f3, oi1, oo1, vi2, xia, eq_true xic, ox1, callM_plain_eq, wc]
                refine And.intro rfl ⟨by rw [List.length_set]; exact hq4, (set_ne (by omega)).trans f1, f2.write rib vi1 wcl, (set_ne (by omega)).trans f3, ?_⟩
                simp only [↓reduceIte, Nat.reduceAdd, Nat.reduceMul, Nat.reduceSub, Nat.reduceLT, Nat.reduceLeDiff, Nat.reduceEqDiff, Nat.reducePow, Int.reducePow, Int.reduceLE, Int.reduceLT, Int.reduceEq, Int.reduceToNat, reduceCtorEq, RR, RB, RZ, hl_1, h0_1, h5_1, h8_1, h9_1, h34_1, h35_1, h99_1, h100_1, hw4]
            · clear hl_1 h0_1 h5_1 h8_1 h9_1 h11_1 h34_1 h35_1 h76_1 h77_1
              rintro i q4 e ⟨E4, c4⟩ ⟨hq4, f1, f2, f3, hl_1, h0_1, h5_1, h8_1, h9_1, h34_1, h35_1, h99_1, h100_1⟩ hge4 t4 ho4
              unfold F133_4_D at ho4
              have hE := Option.some.inj ho4; subst hE
              simp only at f1 f2 f3
              have wd1' : Go.IntKind.wrap .i64 (done + 1) = d1 := wd1
              by_cases hb : d1 = (q4.length : Int)
              · have hb' : d1 = (l.length : Int) := by omega
                have wsh := slice_hi (key := 0) (uid := u) (n := l.length) (d := d1) (by omega) (by omega)
                simp only [↓reduceIte, Nat.reduceAdd, Nat.reduceMul, Nat.reduceSub, Nat.reduceLT, Nat.reduceLeDiff, Nat.reduceEqDiff, Nat.reducePow, Int.reducePow, Int.reduceLE, Int.reduceLT, Int.reduceEq, Int.reduceToNat, reduceCtorEq, RR, RB, RZ, opEv, fillV, mapO, mapS, b133_4, hl_1, h0_1, h5_1, h8_1, h9_1, h34_1, h35_1, h99_1, h100_1, eq_false hge4, wd1', eq_true hb', Option.map_some, Option.map_none, wsh]
                intro ht; subst ht
                rw [if_pos hb] at ho
                have hE := Option.some.inj ho; subst hE
                intro ht; subst ht
                simp only [↓reduceIte, Nat.reduceAdd, Nat.reduceMul, Nat.reduceSub, Nat.reduceLT, Nat.reduceLeDiff, Nat.reduceEqDiff, Nat.reducePow, Int.reducePow, Int.reduceLE, Int.reduceLT, Int.reduceEq, Int.reduceToNat, reduceCtorEq, RR, RB, RZ, opEv, fillV, mapO, mapS, hl_1, h0_1, h5_1, h8_1, h9_1, h34_1, h35_1, h99_1, h100_1, Option.map_some, Option.map_none, wsh]
                simp only at hF
                rw [if_pos ⟨by omega, by omega⟩] at hF
                have hE := Option.some.inj hF; subst hE
                have hrl : (q4.take d1.toNat).length = d1.toNat := by simp; omega
                refine And.intro (fun _ => trivial) ⟨_, ?_, u, vs2, q4, rfl, f1, f2.mono fun k _ h => h.1, by rw [hrl]⟩
                simp only [↓reduceIte, Nat.reduceAdd, Nat.reduceMul, Nat.reduceSub, Nat.reduceLT, Nat.reduceLeDiff, Nat.reduceEqDiff, Nat.reducePow, Int.reducePow, Int.reduceLE, Int.reduceLT, Int.reduceEq, Int.reduceToNat, reduceCtorEq, RR, RB, RZ, fn_out, p133, Rs.ev, mapO, mapS, hl_1, hrl]
              · have hb' : ¬ d1 = (l.length : Int) := by omega
                simp only [↓reduceIte, Nat.reduceAdd, Nat.reduceMul, Nat.reduceSub, Nat.reduceLT, Nat.reduceLeDiff, Nat.reduceEqDiff, Nat.reducePow, Int.reducePow, Int.reduceLE, Int.reduceLT, Int.reduceEq, Int.reduceToNat, reduceCtorEq, RR, RB, RZ, opEv, fillV, mapO, mapS, b133_4, hl_1, h0_1, h5_1, h8_1, h9_1, h34_1, h35_1, h99_1, h100_1, eq_false hge4, wd1', eq_false hb', hw]
                intro ht; subst ht
                rw [if_neg hb] at ho
                have hE := Option.some.inj ho; subst hE
                refine And.intro rfl ⟨u, vs2, f1, f2.mono fun k _ h => h.1, ?_⟩
                simp only [↓reduceIte, Nat.reduceAdd, Nat.reduceMul, Nat.reduceSub, Nat.reduceLT, Nat.reduceLeDiff, Nat.reduceEqDiff, Nat.reducePow, Int.reducePow, Int.reduceLE, Int.reduceLT, Int.reduceEq, Int.reduceToNat, reduceCtorEq, RR, RB, RZ, hl_1, h0_1, h5_1, h8_1, h9_1, h34_1, h35_1, h99_1, h100_1, hq4]
      · clear hl_1 h0_1 h5_1 h15_1 h16_1 h17_1 g1 g2 k0 u0 v1 v2 v3 o1
        rintro cc ⟨l, done⟩ e ⟨E, c⟩ ⟨u, vs, g1, g2, hl_1, h0_1, h5_1, h8_1, h34_1, h35_1⟩ hge t1 ho
        unfold F133_2_D at ho
        have hE := Option.some.inj ho; subst hE
        simp only at g1 g2 h5_1 h8_1
        simp only [↓reduceIte, Nat.reduceAdd, Nat.reduceMul, Nat.reduceSub, Nat.reduceLT, Nat.reduceLeDiff, Nat.reduceEqDiff, Nat.reducePow, Int.reducePow, Int.reduceLE, Int.reduceLT, Int.reduceEq, Int.reduceToNat, reduceCtorEq, RR, RB, RZ, opEv, fillV, mapO, mapS, b133_2, hl_1, h0_1, h5_1, h8_1, h34_1, h35_1, eq_false hge, Option.map_some, Option.map_none]
        intro ht; subst ht
        simp only at hF
        split at hF
        case isFalse => cases hF
        rename_i hdn
        have wsh := slice_hi (key := 0) (uid := u) (n := l.length) (d := done) hdn.1 (by omega)
        have hE := Option.some.inj hF; subst hE
        have hrl : (l.take done.toNat).length = done.toNat := by simp; omega
        simp only [↓reduceIte, Nat.reduceAdd, Nat.reduceMul, Nat.reduceSub, Nat.reduceLT, Nat.reduceLeDiff, Nat.reduceEqDiff, Nat.reducePow, Int.reducePow, Int.reduceLE, Int.reduceLT, Int.reduceEq, Int.reduceToNat, reduceCtorEq, RR, RB, RZ, opEv, fillV, mapO, mapS, hl_1, wsh]
        refine And.intro (fun _ => trivial) ⟨_, ?_, u, vs, l, rfl, g1, g2, by rw [hrl]⟩
        simp only [↓reduceIte, Nat.reduceAdd, Nat.reduceMul, Nat.reduceSub, Nat.reduceLT, Nat.reduceLeDiff, Nat.reduceEqDiff, Nat.reducePow, Int.reducePow, Int.reduceLE, Int.reduceLT, Int.reduceEq, Int.reduceToNat, reduceCtorEq, RR, RB, RZ, fn_out, p133, Rs.ev, mapO, mapS, hl_1, hrl]
theorem s133 (p : Int) (rows : List (List Int)) {r : List (List Int)} (hF : F133 p rows = some r) : ans A 133 [V.int .i64 p, V.isl (List.map Enc.enc rows)] = some (Enc.enc r) := by
  obtain ⟨_, h', h1, u, vs, l, rfl, h2, h3, h4⟩ := d133 p rows hF
  have hl : r.length ≤ l.length := by have := congrArg List.length h4; simp at this; omega
  have := h3.fz h'.clk (key := 0) (uid := u) (off := 0) (n := r.length) h2 (by omega)
  rw [List.drop_zero, ← h4] at this
  unfold ans
  rw [h1]
  exact this
/-! loop.example/g01273/impl.kernel -/
def F125_1_B (a0 : Int) (a1 : List (List Int)) (x2 : List Int) (v25_1 : Int) (o0_1 : (List (List Int))) : Option (((List (List Int))) ⊕ ((List (List Int)))) :=
  (getI a1 v25_1).bind fun x8 =>
(F96 x8).bind fun x10 =>
(appZ 8 x10 (a1.length : Int) 0).bind fun l13 =>
(chk ((x2.length : Int) + v25_1)).bind fun x14 =>
(getI l13 x14).bind fun x15 =>
(setI l13 x14 1).bind fun l17 =>
(app 24 o0_1 [l17]).bind fun l20 =>
some (.inl l20)
def F125_1_D (a0 : Int) (a1 : List (List Int)) (x2 : List Int) (v25_1 : Int) (o0_1 : (List (List Int))) : Option ((List (List Int))) :=
  some o0_1
def F125_2_B (a0 : Int) (x2 : List Int) (x22 : List (List Int)) (v49_2 : Int) (o1_2 : (List (List Int))) : Option (((List (List Int))) ⊕ ((List (List Int)))) :=
  (getI x22 v49_2).bind fun x28 =>
(slI x28 0 (x2.length : Int)).bind fun l30 =>
(F92 l30).bind fun x32 =>
if x32 = true then
  (slI x28 (x2.length : Int) (x28.length : Int)).bind fun l34 =>
  (app 24 o1_2 [l34]).bind fun l37 =>
  some (.inl l37)
else
  some (.inl o1_2)
def F125_2_D (a0 : Int) (x2 : List Int) (x22 : List (List Int)) (v49_2 : Int) (o1_2 : (List (List Int))) : Option ((List (List Int))) :=
  some o1_2
def F125 (a0 : Int) (a1 : List (List Int)) : Option (List (List Int)) :=
  if (a1.length : Int) = 0 then
    some ([] : List (List Int))
  else
    (getI a1 0).bind fun x2 =>
    (forR 0 (a1.length : Int) (F125_1_B a0 a1 x2) (F125_1_D a0 a1 x2) ([] : (List (List Int)))).bind fun zo0_1 =>
    (F133 a0 zo0_1).bind fun x22 =>
    (forR 0 (x22.length : Int) (F125_2_B a0 x2 x22) (F125_2_D a0 x2 x22) ([] : (List (List Int)))).bind fun zo1_2 =>
    (F133 a0 zo1_2).bind fun x39 =>
    some x39
def I125_1 (a0 : Int) (a1 : List (List Int)) (x2 : List Int)  (v25_1 : Int) (o0_1 : (List (List Int))) (e : Env) (h : Heap) : Prop :=
  ∃ u5 k6 : Nat, h = ⟨[(u5, some (List.map Enc.enc o0_1))], k6⟩ ∧ e.length = 67 ∧ e.at 0 = V.int .i64 a0 ∧ e.at 5 = V.int .i64 (a1.length : Int) ∧ e.at 6 = V.int .i64 (x2.length : Int) ∧ e.at 7 = V.sl 0 u5 0 o0_1.length 1 ∧ e.at 23 = V.isl (List.map Enc.enc a1) ∧ e.at 24 = V.int .i64 (a1.length : Int) ∧ e.at 25 = V.int .i64 v25_1
def P125_1 (a0 : Int) (a1 : List (List Int)) (x2 : List Int)  (zo0_1 : (List (List Int))) (x : Ex) (e : Env) (h : Heap) : Prop :=
  x = .normal ∧ ∃ u5 k6 : Nat, h = ⟨[(u5, some (List.map Enc.enc zo0_1))], k6⟩ ∧ e.length = 67 ∧ e.at 0 = V.int .i64 a0 ∧ e.at 6 = V.int .i64 (x2.length : Int) ∧ e.at 7 = V.sl 0 u5 0 zo0_1.length 1
theorem l125_1 (a0 : Int) (a1 : List (List Int)) (x2 : List Int)   {lo : Int} {s : (List (List Int))} {t : (List (List Int))} (hF : forR lo (a1.length : Int) (F125_1_B a0 a1 x2) (F125_1_D a0 a1 x2) s = some t) {e : Env} {h : Heap} (hI : I125_1 a0 a1 x2  lo s e h) : W A c125_1 e h (P125_1 a0 a1 x2  t) := by
  show W A (.block 0 (.loop false b125_1)) e h _
  rw [W_block]
  refine W_forR hF 1 (by obtain ⟨_, _, rfl, _⟩ := hI; rfl) (I125_1 a0 a1 x2 ) hI ?_ ?_
  · rintro v25_1 o0_1 e h ⟨u5, k6, rfl, hl_4, h0_4, h5_4, h6_4, h7_4, h23_4, h24_4, h25_4⟩ hlt hw o ho
    unfold F125_1_B at ho
    obtain ⟨x8, gx8, ho⟩ := bS ho
    obtain ⟨w9a, w9b⟩ := getI_w gx8
    obtain ⟨x10, gx10, ho⟩ := bS ho
    have w11 : tans A 96 [1] [V.isl (List.map Enc.enc x8)] = some (V.isl (List.map Enc.enc x10)) := t96 x8  gx10
    have w11t := thaw_one (α := Int) x10
    obtain ⟨l13, gl13, ho⟩ := bS ho
    obtain ⟨w12a, w12b, w12c, w12d, w12e, w12f⟩ := appZ_w gl13
    replace w12f : List.map Enc.enc (List.replicate (Int.toNat (a1.length : Int)) (0 : Int)) = (List.replicate (Int.toNat (a1.length : Int)) [V.int .i64 0]).flatten := w12f
    have w12 := fun ents key uid clk he => appendV_w (α := Int) (n := x10.length) (m := (Int.toNat (a1.length : Int))) (ds := (List.replicate (Int.toNat (a1.length : Int)) [V.int .i64 0]).flatten) w12d (by first | rfl | simp only [List.length_nil]) w12e w12f ents key uid clk he
    have w12l := app_len w12d
    obtain ⟨x14, gx14, ho⟩ := bS ho
    have wx14 := chk_w gx14
    obtain ⟨x15, gx15, ho⟩ := bS ho
    obtain ⟨w16a, w16b⟩ := getI_w gx15
    have w16c := getI_lt gx15
    have w16d : List.drop (Int.toNat x14) (List.map Enc.enc l13) = (V.int .i64 x15) :: List.drop ((Int.toNat x14) + 1) (List.map Enc.enc l13) := drop_enc w16b
    obtain ⟨l17, gl17, ho⟩ := bS ho
    obtain ⟨w18a, w18b, w18c, w18d, w18e⟩ := setI_w gl17
    replace w18e : List.take (Int.toNat x14) (List.map Enc.enc l13) ++ [V.int .i64 1] ++ List.drop (Int.toNat x14 + 1) (List.map Enc.enc l13) = List.map Enc.enc l17 := w18e
    obtain ⟨l20, gl20, ho⟩ := bS ho
    have w19 := fun ents key uid clk he => appendV_w (α := List Int) (n := o0_1.length) (m := 1) (ds := [V.isl (List.map Enc.enc l17)]) gl20 (by first | rfl | simp only [w18d]) (by first | rfl | simp only [w18d]) rfl ents key uid clk he
    have w19l := app_len gl20
    have hE := Option.some.inj ho; subst hE
    simp only [↓reduceIte, Nat.reduceAdd, Nat.reduceMul, Nat.reduceSub, Nat.reduceLT, Nat.reduceLeDiff, Nat.reduceEqDiff, Nat.reducePow, Int.reducePow, Int.reduceLE, Int.reduceLT, Int.reduceEq, Int.reduceToNat, reduceCtorEq, RR, RB, RZ, RE, opEv, fillV, mapO, mapS, b125_1, hl_4, h0_4, h5_4, h6_4, h7_4, h23_4, h24_4, h25_4, eq_true hlt, hw, w9a, w9b, w11, w11t, w12a, w12b, w12c, w12, wx14, w16a, w16b, w16c, w16d, w18a, w18b, w18c, w18e, takes (α := Int) l17, take_len (α := Int) (l := l17) (n := l13.length) (by first | rfl | simp only [w18d]), le_of_len (α := Int) (l := l17) (n := l13.length) (by first | rfl | simp only [w18d]), w19]
    refine And.intro rfl (Exists.intro _ ( Exists.intro _ ( And.intro rfl ?_)))
    simp only [↓reduceIte, Nat.reduceAdd, Nat.reduceMul, Nat.reduceSub, Nat.reduceLT, Nat.reduceLeDiff, Nat.reduceEqDiff, Nat.reducePow, Int.reducePow, Int.reduceLE, Int.reduceLT, Int.reduceEq, Int.reduceToNat, reduceCtorEq, RR, RB, RZ, RE, hl_4, h0_4, h5_4, h6_4, h7_4, h23_4, h24_4, h25_4, eq_true hlt, hw, w9a, w9b, w11, w11t, w12a, w12b, w12c, w12, wx14, w16a, w16b, w16c, w16d, w18a, w18b, w18c, w18e, takes (α := Int) l17, take_len (α := Int) (l := l17) (n := l13.length) (by first | rfl | simp only [w18d]), le_of_len (α := Int) (l := l17) (n := l13.length) (by first | rfl | simp only [w18d]), w19, w18d]
  · rintro v25_1 o0_1 e h ⟨u5, k6, rfl, hl_4, h0_4, h5_4, h6_4, h7_4, h23_4, h24_4, h25_4⟩ hge t1 ho
    unfold F125_1_D at ho
    have hE := Option.some.inj ho; subst hE
    simp only [↓reduceIte, Nat.reduceAdd, Nat.reduceMul, Nat.reduceSub, Nat.reduceLT, Nat.reduceLeDiff, Nat.reduceEqDiff, Nat.reducePow, Int.reducePow, Int.reduceLE, Int.reduceLT, Int.reduceEq, Int.reduceToNat, reduceCtorEq, RR, RB, RZ, RE, opEv, fillV, mapO, mapS, b125_1, hl_4, h0_4, h5_4, h6_4, h7_4, h23_4, h24_4, h25_4, eq_false hge]
    intro ht; subst ht
    refine And.intro rfl (Exists.intro _ ( Exists.intro _ ( And.intro rfl ?_)))
    simp only [↓reduceIte, Nat.reduceAdd, Nat.reduceMul, Nat.reduceSub, Nat.reduceLT, Nat.reduceLeDiff, Nat.reduceEqDiff, Nat.reducePow, Int.reducePow, Int.reduceLE, Int.reduceLT, Int.reduceEq, Int.reduceToNat, reduceCtorEq, RR, RB, RZ, RE, hl_4, h0_4, h5_4, h6_4, h7_4, h23_4, h24_4, h25_4, eq_false hge]
def I125_2 (a0 : Int) (x2 : List Int) (x22 : List (List Int))  (v49_2 : Int) (o1_2 : (List (List Int))) (e : Env) (h : Heap) : Prop :=
  ∃ u25 k26 : Nat, h = ⟨[(0, none), (u25, some (List.map Enc.enc o1_2))], k26⟩ ∧ e.length = 67 ∧ e.at 0 = V.int .i64 a0 ∧ e.at 6 = V.int .i64 (x2.length : Int) ∧ e.at 11 = V.sl 1 u25 0 o1_2.length 1 ∧ e.at 47 = V.isl (List.map Enc.enc x22) ∧ e.at 48 = V.int .i64 (x22.length : Int) ∧ e.at 49 = V.int .i64 v49_2
def P125_2 (a0 : Int) (x2 : List Int) (x22 : List (List Int))  (zo1_2 : (List (List Int))) (x : Ex) (e : Env) (h : Heap) : Prop :=
  x = .normal ∧ ∃ u25 k26 : Nat, h = ⟨[(0, none), (u25, some (List.map Enc.enc zo1_2))], k26⟩ ∧ e.length = 67 ∧ e.at 0 = V.int .i64 a0 ∧ e.at 11 = V.sl 1 u25 0 zo1_2.length 1
theorem l125_2 (a0 : Int) (x2 : List Int) (x22 : List (List Int))   {lo : Int} {s : (List (List Int))} {t : (List (List Int))} (hF : forR lo (x22.length : Int) (F125_2_B a0 x2 x22) (F125_2_D a0 x2 x22) s = some t) {e : Env} {h : Heap} (hI : I125_2 a0 x2 x22  lo s e h) : W A c125_2 e h (P125_2 a0 x2 x22  t) := by
  show W A (.block 2 (.loop false b125_2)) e h _
  rw [W_block]
  refine W_forR hF 2 (by obtain ⟨_, _, rfl, _⟩ := hI; rfl) (I125_2 a0 x2 x22 ) hI ?_ ?_
  · rintro v49_2 o1_2 e h ⟨u25, k26, rfl, hl_24, h0_24, h6_24, h11_24, h47_24, h48_24, h49_24⟩ hlt hw o ho
    unfold F125_2_B at ho
    obtain ⟨x28, gx28, ho⟩ := bS ho
    obtain ⟨w29a, w29b⟩ := getI_w gx28
    obtain ⟨l30, gl30, ho⟩ := bS ho
    have w31 : sliceV 1 (V.isl (List.map Enc.enc x28)) none (some (V.int .i64 (x2.length : Int))) = some (V.isl (List.map Enc.enc l30)) := sliceV_w (α := Int) One.one gl30 (.inl ⟨rfl, rfl⟩) (.inr rfl)
    obtain ⟨x32, gx32, ho⟩ := bS ho
    have w33 : ans A 92 [V.isl (List.map Enc.enc l30)] = some (V.bool x32) := s92 l30  gx32
    cases x32 with
    | true =>
      rw [if_pos rfl] at ho
      obtain ⟨l34, gl34, ho⟩ := bS ho
      have w35 : sliceV 1 (V.isl (List.map Enc.enc x28)) (some (V.int .i64 (x2.length : Int))) none = some (V.isl (List.map Enc.enc l34)) := sliceV_w (α := Int) One.one gl34 (.inr rfl) (.inl ⟨rfl, rfl⟩)
      obtain ⟨l37, gl37, ho⟩ := bS ho
      have w36 := fun ents key uid clk he => appendV_w (α := List Int) (n := o1_2.length) (m := 1) (ds := [V.isl (List.map Enc.enc l34)]) gl37 (by first | rfl | simp only [List.length_nil]) (by first | rfl | simp only [List.length_nil]) rfl ents key uid clk he
      have w36l := app_len gl37
      have hE := Option.some.inj ho; subst hE
      simp only [↓reduceIte, Nat.reduceAdd, Nat.reduceMul, Nat.reduceSub, Nat.reduceLT, Nat.reduceLeDiff, Nat.reduceEqDiff, Nat.reducePow, Int.reducePow, Int.reduceLE, Int.reduceLT, Int.reduceEq, Int.reduceToNat, reduceCtorEq, RR, RB, RZ, RE, opEv, fillV, mapO, mapS, b125_2, hl_24, h0_24, h6_24, h11_24, h47_24, h48_24, h49_24, eq_true hlt, hw, w29a, w29b, w31, w33, w35, w36]
      refine And.intro rfl (Exists.intro _ ( Exists.intro _ ( And.intro rfl ?_)))
      simp only [↓reduceIte, Nat.reduceAdd, Nat.reduceMul, Nat.reduceSub, Nat.reduceLT, Nat.reduceLeDiff, Nat.reduceEqDiff, Nat.reducePow, Int.reducePow, Int.reduceLE, Int.reduceLT, Int.reduceEq, Int.reduceToNat, reduceCtorEq, RR, RB, RZ, RE, hl_24, h0_24, h6_24, h11_24, h47_24, h48_24, h49_24, eq_true hlt, hw, w29a, w29b, w31, w33, w35, w36]
    | false =>
      rw [if_neg Bool.false_ne_true] at ho
      have hE := Option.some.inj ho; subst hE
      simp only [↓reduceIte, Nat.reduceAdd, Nat.reduceMul, Nat.reduceSub, Nat.reduceLT, Nat.reduceLeDiff, Nat.reduceEqDiff, Nat.reducePow, Int.reducePow, Int.reduceLE, Int.reduceLT, Int.reduceEq, Int.reduceToNat, reduceCtorEq, RR, RB, RZ, RE, opEv, fillV, mapO, mapS, b125_2, hl_24, h0_24, h6_24, h11_24, h47_24, h48_24, h49_24, eq_true hlt, hw, w29a, w29b, w31, w33]
      refine And.intro rfl (Exists.intro _ ( Exists.intro _ ( And.intro rfl ?_)))
      simp only [↓reduceIte, Nat.reduceAdd, Nat.reduceMul, Nat.reduceSub, Nat.reduceLT, Nat.reduceLeDiff, Nat.reduceEqDiff, Nat.reducePow, Int.reducePow, Int.reduceLE, Int.reduceLT, Int.reduceEq, Int.reduceToNat, reduceCtorEq, RR, RB, RZ, RE, hl_24, h0_24, h6_24, h11_24, h47_24, h48_24, h49_24, eq_true hlt, hw, w29a, w29b, w31, w33]
  · rintro v49_2 o1_2 e h ⟨u25, k26, rfl, hl_24, h0_24, h6_24, h11_24, h47_24, h48_24, h49_24⟩ hge t1 ho
    unfold F125_2_D at ho
    have hE := Option.some.inj ho; subst hE
    simp only [↓reduceIte, Nat.reduceAdd, Nat.reduceMul, Nat.reduceSub, Nat.reduceLT, Nat.reduceLeDiff, Nat.reduceEqDiff, Nat.reducePow, Int.reducePow, Int.reduceLE, Int.reduceLT, Int.reduceEq, Int.reduceToNat, reduceCtorEq, RR, RB, RZ, RE, opEv, fillV, mapO, mapS, b125_2, hl_24, h0_24, h6_24, h11_24, h47_24, h48_24, h49_24, eq_false hge]
    intro ht; subst ht
    refine And.intro rfl (Exists.intro _ ( Exists.intro _ ( And.intro rfl ?_)))
    simp only [↓reduceIte, Nat.reduceAdd, Nat.reduceMul, Nat.reduceSub, Nat.reduceLT, Nat.reduceLeDiff, Nat.reduceEqDiff, Nat.reducePow, Int.reducePow, Int.reduceLE, Int.reduceLT, Int.reduceEq, Int.reduceToNat, reduceCtorEq, RR, RB, RZ, RE, hl_24, h0_24, h6_24, h11_24, h47_24, h48_24, h49_24, eq_false hge]
theorem s125 (a0 : Int) (a1 : List (List Int))   {r : List (List Int)} (hF : F125 a0 a1 = some r) : ans A 125 [V.int .i64 a0, V.isl (List.map Enc.enc a1)] = some (Enc.enc r) := by
  refine ans_of (f := p125) rfl rfl rfl fun e hl he => ?_
  have h0_0 : e.at 0 = V.int .i64 a0 := he 0 _ rfl
  have h1_0 : e.at 1 = V.isl (List.map Enc.enc a1) := he 1 _ rfl
  have hl_0 : e.length = 67 := hl
  clear he hl
  show W A b125 e ⟨[], 0⟩ _
  unfold F125 at hF
  by_cases c1 : (a1.length : Int) = 0
  · rw [if_pos c1] at hF
    have hE := Option.some.inj hF; subst hE
    simp only [↓reduceIte, Nat.reduceAdd, Nat.reduceMul, Nat.reduceSub, Nat.reduceLT, Nat.reduceLeDiff, Nat.reduceEqDiff, Nat.reducePow, Int.reducePow, Int.reduceLE, Int.reduceLT, Int.reduceEq, Int.reduceToNat, reduceCtorEq, RR, RB, RZ, RE, opEv, fillV, mapO, mapS, b125, hl_0, h0_0, h1_0, eq_true c1]
    exact fin_ret (by simp only [↓reduceIte, Nat.reduceAdd, Nat.reduceMul, Nat.reduceSub, Nat.reduceLT, Nat.reduceLeDiff, Nat.reduceEqDiff, Nat.reducePow, Int.reducePow, Int.reduceLE, Int.reduceLT, Int.reduceEq, Int.reduceToNat, reduceCtorEq, RR, RB, RZ, RE, fn_out, p125, Rs.ev, mapO, mapS, take_len_self, hl_0, h0_0, h1_0, eq_true c1])
  · rw [if_neg c1] at hF
    obtain ⟨x2, gx2, hF⟩ := bS hF
    obtain ⟨w3a, w3b⟩ := getI_w gx2
    replace w3b : a1[0]? = some x2 := w3b
    obtain ⟨zo0_1, gt21, hF⟩ := bS hF
    simp only [↓reduceIte, Nat.reduceAdd, Nat.reduceMul, Nat.reduceSub, Nat.reduceLT, Nat.reduceLeDiff, Nat.reduceEqDiff, Nat.reducePow, Int.reducePow, Int.reduceLE, Int.reduceLT, Int.reduceEq, Int.reduceToNat, reduceCtorEq, RR, RB, RZ, RE, opEv, fillV, mapO, mapS, b125, hl_0, h0_0, h1_0, eq_false c1, w3a, w3b]
    refine W.mono (l125_1 a0 a1 x2   gt21 (Exists.intro _ ( Exists.intro _ ( And.intro rfl ?_)))) ?_
    · simp only [↓reduceIte, Nat.reduceAdd, Nat.reduceMul, Nat.reduceSub, Nat.reduceLT, Nat.reduceLeDiff, Nat.reduceEqDiff, Nat.reducePow, Int.reducePow, Int.reduceLE, Int.reduceLT, Int.reduceEq, Int.reduceToNat, reduceCtorEq, RR, RB, RZ, RE, hl_0, h0_0, h1_0, eq_false c1, w3a, w3b]
    rintro _ e _ ⟨rfl, u5, k6, rfl, hl_7, h0_7, h6_7, h7_7⟩
    obtain ⟨x22, gx22, hF⟩ := bS hF
    have w23 : ans A 133 [V.int .i64 a0, V.isl (List.map Enc.enc zo0_1)] = some (V.isl (List.map Enc.enc x22)) := s133 a0 zo0_1  gx22
    obtain ⟨zo1_2, gt38, hF⟩ := bS hF
    simp only [↓reduceIte, Nat.reduceAdd, Nat.reduceMul, Nat.reduceSub, Nat.reduceLT, Nat.reduceLeDiff, Nat.reduceEqDiff, Nat.reducePow, Int.reducePow, Int.reduceLE, Int.reduceLT, Int.reduceEq, Int.reduceToNat, reduceCtorEq, RR, RB, RZ, RE, opEv, fillV, mapO, mapS, hl_7, h0_7, h6_7, h7_7, eq_false c1, takes (α := List Int) zo0_1, w23]
    refine W.mono (l125_2 a0 x2 x22   gt38 (Exists.intro _ ( Exists.intro _ ( And.intro rfl ?_)))) ?_
    · simp only [↓reduceIte, Nat.reduceAdd, Nat.reduceMul, Nat.reduceSub, Nat.reduceLT, Nat.reduceLeDiff, Nat.reduceEqDiff, Nat.reducePow, Int.reducePow, Int.reduceLE, Int.reduceLT, Int.reduceEq, Int.reduceToNat, reduceCtorEq, RR, RB, RZ, RE, hl_7, h0_7, h6_7, h7_7, eq_false c1, takes (α := List Int) zo0_1, w23]
    rintro _ e _ ⟨rfl, u25, k26, rfl, hl_27, h0_27, h11_27⟩
    obtain ⟨x39, gx39, hF⟩ := bS hF
    have w40 : ans A 133 [V.int .i64 a0, V.isl (List.map Enc.enc zo1_2)] = some (V.isl (List.map Enc.enc x39)) := s133 a0 zo1_2  gx39
    have hE := Option.some.inj hF; subst hE
    simp only [↓reduceIte, Nat.reduceAdd, Nat.reduceMul, Nat.reduceSub, Nat.reduceLT, Nat.reduceLeDiff, Nat.reduceEqDiff, Nat.reducePow, Int.reducePow, Int.reduceLE, Int.reduceLT, Int.reduceEq, Int.reduceToNat, reduceCtorEq, RR, RB, RZ, RE, opEv, fillV, mapO, mapS, hl_27, h0_27, h11_27, eq_false c1, takes (α := List Int) zo1_2, w40]
    exact fin_ret (by simp only [↓reduceIte, Nat.reduceAdd, Nat.reduceMul, Nat.reduceSub, Nat.reduceLT, Nat.reduceLeDiff, Nat.reduceEqDiff, Nat.reducePow, Int.reducePow, Int.reduceLE, Int.reduceLT, Int.reduceEq, Int.reduceToNat, reduceCtorEq, RR, RB, RZ, RE, fn_out, p125, Rs.ev, mapO, mapS, take_len_self, hl_27, h0_27, h11_27, eq_false c1, takes (α := List Int) zo1_2, w40])
/-! (loop.example/g01273/impl.Complex).cycles -/
def F100 (a0 : GComplex) (a1 : Int) : Option (List (List Int)) :=
  if a1 ≤ 0 then
    (F102 a0 a1).bind fun x2 =>
    (F124 x2).bind fun x4 =>
    some x4
  else
    (F86 a0).bind fun x6 =>
    if x6 < a1 then
      (F102 a0 a1).bind fun x9 =>
      (F124 x9).bind fun x11 =>
      some x11
    else
      (chk (a1 - 1)).bind fun x13 =>
      (getI a0.Maps x13).bind fun x14 =>
      (F125 a0.Prime x14).bind fun x16 =>
      some x16
theorem s100 (a0 : GComplex) (a1 : Int)   {r : List (List Int)} (hF : F100 a0 a1 = some r) : ans A 100 [V.agg [V.int .i64 a0.Prime, V.isl (List.map Enc.enc a0.Dims), V.isl (List.map Enc.enc a0.Maps)], V.int .i64 a1] = some (Enc.enc r) := by
  refine ans_of (f := p100) rfl rfl rfl fun e hl he => ?_
  have h0_0 : e.at 0 = V.agg [V.int .i64 a0.Prime, V.isl (List.map Enc.enc a0.Dims), V.isl (List.map Enc.enc a0.Maps)] := he 0 _ rfl
  have h1_0 : e.at 1 = V.int .i64 a1 := he 1 _ rfl
  have hl_0 : e.length = 26 := hl
  clear he hl
  show W A b100 e ⟨[], 0⟩ _
  unfold F100 at hF
  by_cases c1 : a1 ≤ 0
  · rw [if_pos c1] at hF
    obtain ⟨x2, gx2, hF⟩ := bS hF
    have w3 : ans A 102 [V.agg [V.int .i64 a0.Prime, V.isl (List.map Enc.enc a0.Dims), V.isl (List.map Enc.enc a0.Maps)], V.int .i64 a1] = some (V.int .i64 x2) := s102 a0 a1  gx2
    obtain ⟨x4, gx4, hF⟩ := bS hF
    have w5 : ans A 124 [V.int .i64 x2] = some (V.isl (List.map Enc.enc x4)) := s124 x2  gx4
    have hE := Option.some.inj hF; subst hE
    simp only [↓reduceIte, Nat.reduceAdd, Nat.reduceMul, Nat.reduceSub, Nat.reduceLT, Nat.reduceLeDiff, Nat.reduceEqDiff, Nat.reducePow, Int.reducePow, Int.reduceLE, Int.reduceLT, Int.reduceEq, Int.reduceToNat, reduceCtorEq, RR, RB, RZ, RE, opEv, fillV, mapO, mapS, b100, hl_0, h0_0, h1_0, eq_true c1, w3, w5]
    exact fin_ret (by simp only [↓reduceIte, Nat.reduceAdd, Nat.reduceMul, Nat.reduceSub, Nat.reduceLT, Nat.reduceLeDiff, Nat.reduceEqDiff, Nat.reducePow, Int.reducePow, Int.reduceLE, Int.reduceLT, Int.reduceEq, Int.reduceToNat, reduceCtorEq, RR, RB, RZ, RE, fn_out, p100, Rs.ev, mapO, mapS, take_len_self, hl_0, h0_0, h1_0, eq_true c1, w3, w5])
  · rw [if_neg c1] at hF
    obtain ⟨x6, gx6, hF⟩ := bS hF
    have w7 : ans A 86 [V.agg [V.int .i64 a0.Prime, V.isl (List.map Enc.enc a0.Dims), V.isl (List.map Enc.enc a0.Maps)]] = some (V.int .i64 x6) := s86 a0  gx6
    by_cases c8 : x6 < a1
    · rw [if_pos c8] at hF
      obtain ⟨x9, gx9, hF⟩ := bS hF
      have w10 : ans A 102 [V.agg [V.int .i64 a0.Prime, V.isl (List.map Enc.enc a0.Dims), V.isl (List.map Enc.enc a0.Maps)], V.int .i64 a1] = some (V.int .i64 x9) := s102 a0 a1  gx9
      obtain ⟨x11, gx11, hF⟩ := bS hF
      have w12 : ans A 124 [V.int .i64 x9] = some (V.isl (List.map Enc.enc x11)) := s124 x9  gx11
      have hE := Option.some.inj hF; subst hE
      simp only [↓reduceIte, Nat.reduceAdd, Nat.reduceMul, Nat.reduceSub, Nat.reduceLT, Nat.reduceLeDiff, Nat.reduceEqDiff, Nat.reducePow, Int.reducePow, Int.reduceLE, Int.reduceLT, Int.reduceEq, Int.reduceToNat, reduceCtorEq, RR, RB, RZ, RE, opEv, fillV, mapO, mapS, b100, hl_0, h0_0, h1_0, eq_false c1, w7, eq_true c8, w10, w12]
      exact fin_ret (by simp only [↓reduceIte, Nat.reduceAdd, Nat.reduceMul, Nat.reduceSub, Nat.reduceLT, Nat.reduceLeDiff, Nat.reduceEqDiff, Nat.reducePow, Int.reducePow, Int.reduceLE, Int.reduceLT, Int.reduceEq, Int.reduceToNat, reduceCtorEq, RR, RB, RZ, RE, fn_out, p100, Rs.ev, mapO, mapS, take_len_self, hl_0, h0_0, h1_0, eq_false c1, w7, eq_true c8, w10, w12])
    · rw [if_neg c8] at hF
      obtain ⟨x13, gx13, hF⟩ := bS hF
      have wx13 := chk_w gx13
      obtain ⟨x14, gx14, hF⟩ := bS hF
      obtain ⟨w15a, w15b⟩ := getI_w gx14
      obtain ⟨x16, gx16, hF⟩ := bS hF
      have w17 : ans A 125 [V.int .i64 a0.Prime, V.isl (List.map Enc.enc x14)] = some (V.isl (List.map Enc.enc x16)) := s125 a0.Prime x14  gx16
      have hE := Option.some.inj hF; subst hE
      simp only [↓reduceIte, Nat.reduceAdd, Nat.reduceMul, Nat.reduceSub, Nat.reduceLT, Nat.reduceLeDiff, Nat.reduceEqDiff, Nat.reducePow, Int.reducePow, Int.reduceLE, Int.reduceLT, Int.reduceEq, Int.reduceToNat, reduceCtorEq, RR, RB, RZ, RE, opEv, fillV, mapO, mapS, b100, hl_0, h0_0, h1_0, eq_false c1, w7, eq_false c8, wx13, w15a, w15b, w17]
      exact fin_ret (by simp only [↓reduceIte, Nat.reduceAdd, Nat.reduceMul, Nat.reduceSub, Nat.reduceLT, Nat.reduceLeDiff, Nat.reduceEqDiff, Nat.reducePow, Int.reducePow, Int.reduceLE, Int.reduceLT, Int.reduceEq, Int.reduceToNat, reduceCtorEq, RR, RB, RZ, RE, fn_out, p100, Rs.ev, mapO, mapS, take_len_self, hl_0, h0_0, h1_0, eq_false c1, w7, eq_false c8, wx13, w15a, w15b, w17])
/-! loop.example/g01273/impl.leads$1 -/
def F123 (a0 : Int) : Option Bool :=
  some (!(decide (a0 = 0)))
theorem s123 (a0 : Int)   {r : Bool} (hF : F123 a0 = some r) : ans A 123 [V.int .i64 a0] = some (Enc.enc r) := by
  refine ans_of (f := p123) rfl rfl rfl fun e hl he => ?_
  have h0_0 : e.at 0 = V.int .i64 a0 := he 0 _ rfl
  have hl_0 : e.length = 5 := hl
  clear he hl
  show W A b123 e ⟨[], 0⟩ _
  unfold F123 at hF
  have hE := Option.some.inj hF; subst hE
  simp only [↓reduceIte, Nat.reduceAdd, Nat.reduceMul, Nat.reduceSub, Nat.reduceLT, Nat.reduceLeDiff, Nat.reduceEqDiff, Nat.reducePow, Int.reducePow, Int.reduceLE, Int.reduceLT, Int.reduceEq, Int.reduceToNat, reduceCtorEq, RR, RB, RZ, RE, opEv, fillV, mapO, mapS, b123, hl_0, h0_0]
  exact fin_ret (by simp only [↓reduceIte, Nat.reduceAdd, Nat.reduceMul, Nat.reduceSub, Nat.reduceLT, Nat.reduceLeDiff, Nat.reduceEqDiff, Nat.reducePow, Int.reducePow, Int.reduceLE, Int.reduceLT, Int.reduceEq, Int.reduceToNat, reduceCtorEq, RR, RB, RZ, RE, fn_out, p123, Rs.ev, mapO, mapS, take_len_self, hl_0, h0_0])
/-! loop.example/g01273/impl.leads -/
def F101_1_B (a0 : List (List Int)) (v9_1 : Int) (o0_1 : (List Int)) : Option (((List Int)) ⊕ ((List Int))) :=
  (getI a0 v9_1).bind fun x5 =>
(F115 x5 (fun x => F123 x)).bind fun x7 =>
(app 8 o0_1 [x7]).bind fun l10 =>
some (.inl l10)
def F101_1_D (a0 : List (List Int)) (v9_1 : Int) (o0_1 : (List Int)) : Option ((List Int)) :=
  some o0_1
def F101 (a0 : List (List Int)) : Option (List Int) :=
  (forR 0 (a0.length : Int) (F101_1_B a0) (F101_1_D a0) ([] : (List Int))).bind fun zo0_1 =>
  some zo0_1
def I101_1 (a0 : List (List Int))  (v9_1 : Int) (o0_1 : (List Int)) (e : Env) (h : Heap) : Prop :=
  ∃ u2 k3 : Nat, h = ⟨[(u2, some (List.map Enc.enc o0_1))], k3⟩ ∧ e.length = 20 ∧ e.at 3 = V.sl 0 u2 0 o0_1.length 1 ∧ e.at 7 = V.isl (List.map Enc.enc a0) ∧ e.at 8 = V.int .i64 (a0.length : Int) ∧ e.at 9 = V.int .i64 v9_1
def P101_1 (a0 : List (List Int))  (zo0_1 : (List Int)) (x : Ex) (e : Env) (h : Heap) : Prop :=
  x = .normal ∧ ∃ u2 k3 : Nat, h = ⟨[(u2, some (List.map Enc.enc zo0_1))], k3⟩ ∧ e.length = 20 ∧ e.at 3 = V.sl 0 u2 0 zo0_1.length 1
theorem l101_1 (a0 : List (List Int))   {lo : Int} {s : (List Int)} {t : (List Int)} (hF : forR lo (a0.length : Int) (F101_1_B a0) (F101_1_D a0) s = some t) {e : Env} {h : Heap} (hI : I101_1 a0  lo s e h) : W A c101_1 e h (P101_1 a0  t) := by
  show W A (.block 0 (.loop false b101_1)) e h _
  rw [W_block]
  refine W_forR hF 1 (by obtain ⟨_, _, rfl, _⟩ := hI; rfl) (I101_1 a0 ) hI ?_ ?_
  · rintro v9_1 o0_1 e h ⟨u2, k3, rfl, hl_1, h3_1, h7_1, h8_1, h9_1⟩ hlt hw o ho
    unfold F101_1_B at ho
    obtain ⟨x5, gx5, ho⟩ := bS ho
    obtain ⟨w6a, w6b⟩ := getI_w gx5
    obtain ⟨x7, gx7, ho⟩ := bS ho
    have w8 : ans A 115 [V.isl (List.map Enc.enc x5), V.fn 123 [] []] = some (V.int .i64 x7) := s115 x5 (fun x => F123 x) (Clo1.of (by intro h f; simp only [RZ, mapO]) (by intro h f; simp only [RZ, mapO]) (by intro f; simp only [RZ, RB]) (by intro f; simp only [RZ, RB]) (fun x _ hr => s123 x hr)) gx7
    obtain ⟨l10, gl10, ho⟩ := bS ho
    have w9 := fun ents key uid clk he => appendV_w (α := Int) (n := o0_1.length) (m := 1) (ds := [V.int .i64 x7]) gl10 (by first | rfl | simp only [List.length_nil]) (by first | rfl | simp only [List.length_nil]) rfl ents key uid clk he
    have w9l := app_len gl10
    have hE := Option.some.inj ho; subst hE
    simp only [↓reduceIte, Nat.reduceAdd, Nat.reduceMul, Nat.reduceSub, Nat.reduceLT, Nat.reduceLeDiff, Nat.reduceEqDiff, Nat.reducePow, Int.reducePow, Int.reduceLE, Int.reduceLT, Int.reduceEq, Int.reduceToNat, reduceCtorEq, RR, RB, RZ, RE, opEv, fillV, mapO, mapS, b101_1, hl_1, h3_1, h7_1, h8_1, h9_1, eq_true hlt, hw, w6a, w6b, w8, w9]
    refine And.intro rfl (Exists.intro _ ( Exists.intro _ ( And.intro rfl ?_)))
    simp only [↓reduceIte, Nat.reduceAdd, Nat.reduceMul, Nat.reduceSub, Nat.reduceLT, Nat.reduceLeDiff, Nat.reduceEqDiff, Nat.reducePow, Int.reducePow, Int.reduceLE, Int.reduceLT, Int.reduceEq, Int.reduceToNat, reduceCtorEq, RR, RB, RZ, RE, hl_1, h3_1, h7_1, h8_1, h9_1, eq_true hlt, hw, w6a, w6b, w8, w9]
  · rintro v9_1 o0_1 e h ⟨u2, k3, rfl, hl_1, h3_1, h7_1, h8_1, h9_1⟩ hge t1 ho
    unfold F101_1_D at ho
    have hE := Option.some.inj ho; subst hE
    simp only [↓reduceIte, Nat.reduceAdd, Nat.reduceMul, Nat.reduceSub, Nat.reduceLT, Nat.reduceLeDiff, Nat.reduceEqDiff, Nat.reducePow, Int.reducePow, Int.reduceLE, Int.reduceLT, Int.reduceEq, Int.reduceToNat, reduceCtorEq, RR, RB, RZ, RE, opEv, fillV, mapO, mapS, b101_1, hl_1, h3_1, h7_1, h8_1, h9_1, eq_false hge]
    intro ht; subst ht
    refine And.intro rfl (Exists.intro _ ( Exists.intro _ ( And.intro rfl ?_)))
    simp only [↓reduceIte, Nat.reduceAdd, Nat.reduceMul, Nat.reduceSub, Nat.reduceLT, Nat.reduceLeDiff, Nat.reduceEqDiff, Nat.reducePow, Int.reducePow, Int.reduceLE, Int.reduceLT, Int.reduceEq, Int.reduceToNat, reduceCtorEq, RR, RB, RZ, RE, hl_1, h3_1, h7_1, h8_1, h9_1, eq_false hge]
theorem s101 (a0 : List (List Int))   {r : List Int} (hF : F101 a0 = some r) : ans A 101 [V.isl (List.map Enc.enc a0)] = some (Enc.enc r) := by
  refine ans_of (f := p101) rfl rfl rfl fun e hl he => ?_
  have h0_0 : e.at 0 = V.isl (List.map Enc.enc a0) := he 0 _ rfl
  have hl_0 : e.length = 20 := hl
  clear he hl
  show W A b101 e ⟨[], 0⟩ _
  unfold F101 at hF
  obtain ⟨zo0_1, gt11, hF⟩ := bS hF
  simp only [↓reduceIte, Nat.reduceAdd, Nat.reduceMul, Nat.reduceSub, Nat.reduceLT, Nat.reduceLeDiff, Nat.reduceEqDiff, Nat.reducePow, Int.reducePow, Int.reduceLE, Int.reduceLT, Int.reduceEq, Int.reduceToNat, reduceCtorEq, RR, RB, RZ, RE, opEv, fillV, mapO, mapS, b101, hl_0, h0_0]
  refine W.mono (l101_1 a0   gt11 (Exists.intro _ ( Exists.intro _ ( And.intro rfl ?_)))) ?_
  · simp only [↓reduceIte, Nat.reduceAdd, Nat.reduceMul, Nat.reduceSub, Nat.reduceLT, Nat.reduceLeDiff, Nat.reduceEqDiff, Nat.reducePow, Int.reducePow, Int.reduceLE, Int.reduceLT, Int.reduceEq, Int.reduceToNat, reduceCtorEq, RR, RB, RZ, RE, hl_0, h0_0]
  rintro _ e _ ⟨rfl, u2, k3, rfl, hl_4, h3_4⟩
  have hE := Option.some.inj hF; subst hE
  simp only [↓reduceIte, Nat.reduceAdd, Nat.reduceMul, Nat.reduceSub, Nat.reduceLT, Nat.reduceLeDiff, Nat.reduceEqDiff, Nat.reducePow, Int.reducePow, Int.reduceLE, Int.reduceLT, Int.reduceEq, Int.reduceToNat, reduceCtorEq, RR, RB, RZ, RE, opEv, fillV, mapO, mapS, hl_4, h3_4]
  exact fin_ret (by simp only [↓reduceIte, Nat.reduceAdd, Nat.reduceMul, Nat.reduceSub, Nat.reduceLT, Nat.reduceLeDiff, Nat.reduceEqDiff, Nat.reducePow, Int.reducePow, Int.reduceLE, Int.reduceLT, Int.reduceEq, Int.reduceToNat, reduceCtorEq, RR, RB, RZ, RE, fn_out, p101, Rs.ev, mapO, mapS, take_len_self, hl_4, h3_4, frzs (α := Int) zo0_1, takes (α := Int) zo0_1])
/-! slices.Index(()int,int) -/
def F126_1_B (a0 : List Int) (a1 : Int) (v8_1 : Int) (s : Unit) : Option ((Unit) ⊕ ((Unit) ⊕ Int)) :=
  (getI a0 v8_1).bind fun x4 =>
if a1 = x4 then
  some (.inr (.inr v8_1))
else
  some (.inl ())
def F126_1_D (a0 : List Int) (a1 : Int) (v8_1 : Int) (s : Unit) : Option ((Unit) ⊕ Int) :=
  some (.inl ())
def F126 (a0 : List Int) (a1 : Int) : Option Int :=
  (forR 0 (a0.length : Int) (F126_1_B a0 a1) (F126_1_D a0 a1) ()).bind fun t7 => match t7 with
    | .inl _ =>
      some (-1)
    | .inr r8 => some r8
def I126_1 (a0 : List Int) (a1 : Int)  (v8_1 : Int) (s : Unit) (e : Env) (h : Heap) : Prop :=
  ∃ k2 : Nat, h = ⟨[], k2⟩ ∧ e.length = 19 ∧ e.at 0 = V.isl (List.map Enc.enc a0) ∧ e.at 1 = V.int .i64 a1 ∧ e.at 7 = V.int .i64 (a0.length : Int) ∧ e.at 8 = V.int .i64 v8_1
def P126_1 (a0 : List Int) (a1 : Int)  (t : (Unit) ⊕ Int) (x : Ex) (e : Env) (h : Heap) : Prop :=
  match t with
  | .inl _ => x = .normal ∧ ∃ k2 : Nat, h = ⟨[], k2⟩ ∧ e.length = 19
  | .inr r => x = .ret ∧ Fin p126 (Enc.enc r) .ret e h
theorem l126_1 (a0 : List Int) (a1 : Int)   {lo : Int} {s : Unit} {t : (Unit) ⊕ Int} (hF : forR lo (a0.length : Int) (F126_1_B a0 a1) (F126_1_D a0 a1) s = some t) {e : Env} {h : Heap} (hI : I126_1 a0 a1  lo s e h) : W A c126_1 e h (P126_1 a0 a1  t) := by
  show W A (.block 0 (.loop false b126_1)) e h _
  rw [W_block]
  refine W_forR hF 0 (by obtain ⟨_, rfl, _⟩ := hI; rfl) (I126_1 a0 a1 ) hI ?_ ?_
  · rintro v8_1 _ e h ⟨k2, rfl, hl_1, h0_1, h1_1, h7_1, h8_1⟩ hlt hw o ho
    unfold F126_1_B at ho
    obtain ⟨x4, gx4, ho⟩ := bS ho
    obtain ⟨w5a, w5b⟩ := getI_w gx4
    by_cases c6 : a1 = x4
    · rw [if_pos c6] at ho
      have hE := Option.some.inj ho; subst hE
      simp only [↓reduceIte, Nat.reduceAdd, Nat.reduceMul, Nat.reduceSub, Nat.reduceLT, Nat.reduceLeDiff, Nat.reduceEqDiff, Nat.reducePow, Int.reducePow, Int.reduceLE, Int.reduceLT, Int.reduceEq, Int.reduceToNat, reduceCtorEq, RR, RB, RZ, RE, opEv, fillV, mapO, mapS, b126_1, hl_1, h0_1, h1_1, h7_1, h8_1, eq_true hlt, hw, w5a, w5b, eq_true c6]
      intro ht; subst ht
      simp only [↓reduceIte, Nat.reduceAdd, Nat.reduceMul, Nat.reduceSub, Nat.reduceLT, Nat.reduceLeDiff, Nat.reduceEqDiff, Nat.reducePow, Int.reducePow, Int.reduceLE, Int.reduceLT, Int.reduceEq, Int.reduceToNat, reduceCtorEq, RR, RB]
      exact And.intro rfl (fin_ret (by simp only [↓reduceIte, Nat.reduceAdd, Nat.reduceMul, Nat.reduceSub, Nat.reduceLT, Nat.reduceLeDiff, Nat.reduceEqDiff, Nat.reducePow, Int.reducePow, Int.reduceLE, Int.reduceLT, Int.reduceEq, Int.reduceToNat, reduceCtorEq, RR, RB, RZ, RE, fn_out, p126, Rs.ev, mapO, mapS, take_len_self, hl_1, h0_1, h1_1, h7_1, h8_1, eq_true hlt, hw, w5a, w5b, eq_true c6]))
    · rw [if_neg c6] at ho
      have hE := Option.some.inj ho; subst hE
      simp only [↓reduceIte, Nat.reduceAdd, Nat.reduceMul, Nat.reduceSub, Nat.reduceLT, Nat.reduceLeDiff, Nat.reduceEqDiff, Nat.reducePow, Int.reducePow, Int.reduceLE, Int.reduceLT, Int.reduceEq, Int.reduceToNat, reduceCtorEq, RR, RB, RZ, RE, opEv, fillV, mapO, mapS, b126_1, hl_1, h0_1, h1_1, h7_1, h8_1, eq_true hlt, hw, w5a, w5b, eq_false c6]
      refine And.intro rfl (Exists.intro _ ( And.intro rfl ?_))
      simp only [↓reduceIte, Nat.reduceAdd, Nat.reduceMul, Nat.reduceSub, Nat.reduceLT, Nat.reduceLeDiff, Nat.reduceEqDiff, Nat.reducePow, Int.reducePow, Int.reduceLE, Int.reduceLT, Int.reduceEq, Int.reduceToNat, reduceCtorEq, RR, RB, RZ, RE, hl_1, h0_1, h1_1, h7_1, h8_1, eq_true hlt, hw, w5a, w5b, eq_false c6]
  · rintro v8_1 _ e h ⟨k2, rfl, hl_1, h0_1, h1_1, h7_1, h8_1⟩ hge t1 ho
    unfold F126_1_D at ho
    have hE := Option.some.inj ho; subst hE
    simp only [↓reduceIte, Nat.reduceAdd, Nat.reduceMul, Nat.reduceSub, Nat.reduceLT, Nat.reduceLeDiff, Nat.reduceEqDiff, Nat.reducePow, Int.reducePow, Int.reduceLE, Int.reduceLT, Int.reduceEq, Int.reduceToNat, reduceCtorEq, RR, RB, RZ, RE, opEv, fillV, mapO, mapS, b126_1, hl_1, h0_1, h1_1, h7_1, h8_1, eq_false hge]
    intro ht; subst ht
    refine And.intro rfl (Exists.intro _ ( And.intro rfl ?_))
    simp only [↓reduceIte, Nat.reduceAdd, Nat.reduceMul, Nat.reduceSub, Nat.reduceLT, Nat.reduceLeDiff, Nat.reduceEqDiff, Nat.reducePow, Int.reducePow, Int.reduceLE, Int.reduceLT, Int.reduceEq, Int.reduceToNat, reduceCtorEq, RR, RB, RZ, RE, hl_1, h0_1, h1_1, h7_1, h8_1, eq_false hge]
theorem s126 (a0 : List Int) (a1 : Int)   {r : Int} (hF : F126 a0 a1 = some r) : ans A 126 [V.isl (List.map Enc.enc a0), V.int .i64 a1] = some (Enc.enc r) := by
  refine ans_of (f := p126) rfl rfl rfl fun e hl he => ?_
  have h0_0 : e.at 0 = V.isl (List.map Enc.enc a0) := he 0 _ rfl
  have h1_0 : e.at 1 = V.int .i64 a1 := he 1 _ rfl
  have hl_0 : e.length = 19 := hl
  clear he hl
  show W A b126 e ⟨[], 0⟩ _
  unfold F126 at hF
  obtain ⟨t7, gt7, hF⟩ := bS hF
  rcases t7 with _ | r8
  · dsimp only at hF
    simp only [↓reduceIte, Nat.reduceAdd, Nat.reduceMul, Nat.reduceSub, Nat.reduceLT, Nat.reduceLeDiff, Nat.reduceEqDiff, Nat.reducePow, Int.reducePow, Int.reduceLE, Int.reduceLT, Int.reduceEq, Int.reduceToNat, reduceCtorEq, RR, RB, RZ, RE, opEv, fillV, mapO, mapS, b126, hl_0, h0_0, h1_0]
    refine W.mono (l126_1 a0 a1   gt7 (Exists.intro _ ( And.intro rfl ?_))) ?_
    · simp only [↓reduceIte, Nat.reduceAdd, Nat.reduceMul, Nat.reduceSub, Nat.reduceLT, Nat.reduceLeDiff, Nat.reduceEqDiff, Nat.reducePow, Int.reducePow, Int.reduceLE, Int.reduceLT, Int.reduceEq, Int.reduceToNat, reduceCtorEq, RR, RB, RZ, RE, hl_0, h0_0, h1_0]
    rintro _ e _ ⟨rfl, k2, rfl, hl_3⟩
    have hE := Option.some.inj hF; subst hE
    simp only [↓reduceIte, Nat.reduceAdd, Nat.reduceMul, Nat.reduceSub, Nat.reduceLT, Nat.reduceLeDiff, Nat.reduceEqDiff, Nat.reducePow, Int.reducePow, Int.reduceLE, Int.reduceLT, Int.reduceEq, Int.reduceToNat, reduceCtorEq, RR, RB, RZ, RE, opEv, fillV, mapO, mapS, hl_3]
    exact fin_ret (by simp only [↓reduceIte, Nat.reduceAdd, Nat.reduceMul, Nat.reduceSub, Nat.reduceLT, Nat.reduceLeDiff, Nat.reduceEqDiff, Nat.reducePow, Int.reducePow, Int.reduceLE, Int.reduceLT, Int.reduceEq, Int.reduceToNat, reduceCtorEq, RR, RB, RZ, RE, fn_out, p126, Rs.ev, mapO, mapS, take_len_self, hl_3])
  · dsimp only at hF
    have hE := Option.some.inj hF; subst hE
    simp only [↓reduceIte, Nat.reduceAdd, Nat.reduceMul, Nat.reduceSub, Nat.reduceLT, Nat.reduceLeDiff, Nat.reduceEqDiff, Nat.reducePow, Int.reducePow, Int.reduceLE, Int.reduceLT, Int.reduceEq, Int.reduceToNat, reduceCtorEq, RR, RB, RZ, RE, opEv, fillV, mapO, mapS, b126, hl_0, h0_0, h1_0]
    refine W.mono (l126_1 a0 a1   gt7 (Exists.intro _ ( And.intro rfl ?_))) ?_
    · simp only [↓reduceIte, Nat.reduceAdd, Nat.reduceMul, Nat.reduceSub, Nat.reduceLT, Nat.reduceLeDiff, Nat.reduceEqDiff, Nat.reducePow, Int.reducePow, Int.reduceLE, Int.reduceLT, Int.reduceEq, Int.reduceToNat, reduceCtorEq, RR, RB, RZ, RE, hl_0, h0_0, h1_0]
    rintro _ e h ⟨rfl, hq⟩
    simp only [↓reduceIte, Nat.reduceAdd, Nat.reduceMul, Nat.reduceSub, Nat.reduceLT, Nat.reduceLeDiff, Nat.reduceEqDiff, Nat.reducePow, Int.reducePow, Int.reduceLE, Int.reduceLT, Int.reduceEq, Int.reduceToNat, reduceCtorEq, RR, RB]
    exact hq
/-! slices.Contains(()int,int) -/
def F103 (a0 : List Int) (a1 : Int) : Option Bool :=
  (F126 a0 a1).bind fun x1 =>
  some (decide (0 ≤ x1))
theorem s103 (a0 : List Int) (a1 : Int)   {r : Bool} (hF : F103 a0 a1 = some r) : ans A 103 [V.isl (List.map Enc.enc a0), V.int .i64 a1] = some (Enc.enc r) := by
  refine ans_of (f := p103) rfl rfl rfl fun e hl he => ?_
  have h0_0 : e.at 0 = V.isl (List.map Enc.enc a0) := he 0 _ rfl
  have h1_0 : e.at 1 = V.int .i64 a1 := he 1 _ rfl
  have hl_0 : e.length = 9 := hl
  clear he hl
  show W A b103 e ⟨[], 0⟩ _
  unfold F103 at hF
  obtain ⟨x1, gx1, hF⟩ := bS hF
  have w2 : ans A 126 [V.isl (List.map Enc.enc a0), V.int .i64 a1] = some (V.int .i64 x1) := s126 a0 a1  gx1
  have hE := Option.some.inj hF; subst hE
  simp only [↓reduceIte, Nat.reduceAdd, Nat.reduceMul, Nat.reduceSub, Nat.reduceLT, Nat.reduceLeDiff, Nat.reduceEqDiff, Nat.reducePow, Int.reducePow, Int.reduceLE, Int.reduceLT, Int.reduceEq, Int.reduceToNat, reduceCtorEq, RR, RB, RZ, RE, opEv, fillV, mapO, mapS, b103, hl_0, h0_0, h1_0, w2]
  exact fin_ret (by simp only [↓reduceIte, Nat.reduceAdd, Nat.reduceMul, Nat.reduceSub, Nat.reduceLT, Nat.reduceLeDiff, Nat.reduceEqDiff, Nat.reducePow, Int.reducePow, Int.reduceLE, Int.reduceLT, Int.reduceEq, Int.reduceToNat, reduceCtorEq, RR, RB, RZ, RE, fn_out, p103, Rs.ev, mapO, mapS, take_len_self, hl_0, h0_0, h1_0, w2])
/-! (loop.example/g01273/impl.Complex).free -/
def F63_1_B (x3 : List Int) (x5 : Int) (v16_1 : Int) (o1_1 : (List Int)) : Option (((List Int)) ⊕ ((List Int))) :=
  (F103 x3 v16_1).bind fun x11 =>
if x11 = true then
  some (.inl o1_1)
else
  (app 8 o1_1 [v16_1]).bind fun l14 =>
  some (.inl l14)
def F63_1_D (x3 : List Int) (x5 : Int) (v16_1 : Int) (o1_1 : (List Int)) : Option ((List Int)) :=
  some o1_1
def F63 (a0 : GComplex) (a1 : Int) : Option (List Int) :=
  (F100 a0 a1).bind fun x1 =>
  (F101 x1).bind fun x3 =>
  (F102 a0 a1).bind fun x5 =>
  (forR 0 x5 (F63_1_B x3 x5) (F63_1_D x3 x5) ([] : (List Int))).bind fun zo1_1 =>
  some zo1_1
def I63_1 (x3 : List Int) (x5 : Int)  (v16_1 : Int) (o1_1 : (List Int)) (e : Env) (h : Heap) : Prop :=
  ∃ u8 k9 : Nat, h = ⟨[(0, none), (u8, some (List.map Enc.enc o1_1))], k9⟩ ∧ e.length = 29 ∧ e.at 5 = V.sl 1 u8 0 o1_1.length 1 ∧ e.at 6 = V.isl (List.map Enc.enc x3) ∧ e.at 15 = V.int .i64 x5 ∧ e.at 16 = V.int .i64 v16_1
def P63_1 (x3 : List Int) (x5 : Int)  (zo1_1 : (List Int)) (x : Ex) (e : Env) (h : Heap) : Prop :=
  x = .normal ∧ ∃ u8 k9 : Nat, h = ⟨[(0, none), (u8, some (List.map Enc.enc zo1_1))], k9⟩ ∧ e.length = 29 ∧ e.at 5 = V.sl 1 u8 0 zo1_1.length 1
theorem l63_1 (x3 : List Int) (x5 : Int)   {lo : Int} {s : (List Int)} {t : (List Int)} (hF : forR lo x5 (F63_1_B x3 x5) (F63_1_D x3 x5) s = some t) {e : Env} {h : Heap} (hI : I63_1 x3 x5  lo s e h) : W A c63_1 e h (P63_1 x3 x5  t) := by
  show W A (.block 0 (.loop false b63_1)) e h _
  rw [W_block]
  refine W_forR hF 2 (by obtain ⟨_, _, rfl, _⟩ := hI; rfl) (I63_1 x3 x5 ) hI ?_ ?_
  · rintro v16_1 o1_1 e h ⟨u8, k9, rfl, hl_7, h5_7, h6_7, h15_7, h16_7⟩ hlt hw o ho
    unfold F63_1_B at ho
    obtain ⟨x11, gx11, ho⟩ := bS ho
    have w12 : ans A 103 [V.isl (List.map Enc.enc x3), V.int .i64 v16_1] = some (V.bool x11) := s103 x3 v16_1  gx11
    cases x11 with
    | true =>
      rw [if_pos rfl] at ho
      have hE := Option.some.inj ho; subst hE
      simp only [↓reduceIte, Nat.reduceAdd, Nat.reduceMul, Nat.reduceSub, Nat.reduceLT, Nat.reduceLeDiff, Nat.reduceEqDiff, Nat.reducePow, Int.reducePow, Int.reduceLE, Int.reduceLT, Int.reduceEq, Int.reduceToNat, reduceCtorEq, RR, RB, RZ, RE, opEv, fillV, mapO, mapS, b63_1, hl_7, h5_7, h6_7, h15_7, h16_7, eq_true hlt, hw, w12]
      refine And.intro rfl (Exists.intro _ ( Exists.intro _ ( And.intro rfl ?_)))
      simp only [↓reduceIte, Nat.reduceAdd, Nat.reduceMul, Nat.reduceSub, Nat.reduceLT, Nat.reduceLeDiff, Nat.reduceEqDiff, Nat.reducePow, Int.reducePow, Int.reduceLE, Int.reduceLT, Int.reduceEq, Int.reduceToNat, reduceCtorEq, RR, RB, RZ, RE, hl_7, h5_7, h6_7, h15_7, h16_7, eq_true hlt, hw, w12]
    | false =>
      rw [if_neg Bool.false_ne_true] at ho
      obtain ⟨l14, gl14, ho⟩ := bS ho
      have w13 := fun ents key uid clk he => appendV_w (α := Int) (n := o1_1.length) (m := 1) (ds := [V.int .i64 v16_1]) gl14 (by first | rfl | simp only [List.length_nil]) (by first | rfl | simp only [List.length_nil]) rfl ents key uid clk he
      have w13l := app_len gl14
      have hE := Option.some.inj ho; subst hE
      simp only [↓reduceIte, Nat.reduceAdd, Nat.reduceMul, Nat.reduceSub, Nat.reduceLT, Nat.reduceLeDiff, Nat.reduceEqDiff, Nat.reducePow, Int.reducePow, Int.reduceLE, Int.reduceLT, Int.reduceEq, Int.reduceToNat, reduceCtorEq, RR, RB, RZ, RE, opEv, fillV, mapO, mapS, b63_1, hl_7, h5_7, h6_7, h15_7, h16_7, eq_true hlt, hw, w12, w13]
      refine And.intro rfl (Exists.intro _ ( Exists.intro _ ( And.intro rfl ?_)))
      simp only [↓reduceIte, Nat.reduceAdd, Nat.reduceMul, Nat.reduceSub, Nat.reduceLT, Nat.reduceLeDiff, Nat.reduceEqDiff, Nat.reducePow, Int.reducePow, Int.reduceLE, Int.reduceLT, Int.reduceEq, Int.reduceToNat, reduceCtorEq, RR, RB, RZ, RE, hl_7, h5_7, h6_7, h15_7, h16_7, eq_true hlt, hw, w12, w13]
  · rintro v16_1 o1_1 e h ⟨u8, k9, rfl, hl_7, h5_7, h6_7, h15_7, h16_7⟩ hge t1 ho
    unfold F63_1_D at ho
    have hE := Option.some.inj ho; subst hE
    simp only [↓reduceIte, Nat.reduceAdd, Nat.reduceMul, Nat.reduceSub, Nat.reduceLT, Nat.reduceLeDiff, Nat.reduceEqDiff, Nat.reducePow, Int.reducePow, Int.reduceLE, Int.reduceLT, Int.reduceEq, Int.reduceToNat, reduceCtorEq, RR, RB, RZ, RE, opEv, fillV, mapO, mapS, b63_1, hl_7, h5_7, h6_7, h15_7, h16_7, eq_false hge]
    intro ht; subst ht
    refine And.intro rfl (Exists.intro _ ( Exists.intro _ ( And.intro rfl ?_)))
    simp only [↓reduceIte, Nat.reduceAdd, Nat.reduceMul, Nat.reduceSub, Nat.reduceLT, Nat.reduceLeDiff, Nat.reduceEqDiff, Nat.reducePow, Int.reducePow, Int.reduceLE, Int.reduceLT, Int.reduceEq, Int.reduceToNat, reduceCtorEq, RR, RB, RZ, RE, hl_7, h5_7, h6_7, h15_7, h16_7, eq_false hge]
theorem s63 (a0 : GComplex) (a1 : Int)   {r : List Int} (hF : F63 a0 a1 = some r) : ans A 63 [V.agg [V.int .i64 a0.Prime, V.isl (List.map Enc.enc a0.Dims), V.isl (List.map Enc.enc a0.Maps)], V.int .i64 a1] = some (Enc.enc r) := by
  refine ans_of (f := p63) rfl rfl rfl fun e hl he => ?_
  have h0_0 : e.at 0 = V.agg [V.int .i64 a0.Prime, V.isl (List.map Enc.enc a0.Dims), V.isl (List.map Enc.enc a0.Maps)] := he 0 _ rfl
  have h1_0 : e.at 1 = V.int .i64 a1 := he 1 _ rfl
  have hl_0 : e.length = 29 := hl
  clear he hl
  show W A b63 e ⟨[], 0⟩ _
  unfold F63 at hF
  obtain ⟨x1, gx1, hF⟩ := bS hF
  have w2 : ans A 100 [V.agg [V.int .i64 a0.Prime, V.isl (List.map Enc.enc a0.Dims), V.isl (List.map Enc.enc a0.Maps)], V.int .i64 a1] = some (V.isl (List.map Enc.enc x1)) := s100 a0 a1  gx1
  obtain ⟨x3, gx3, hF⟩ := bS hF
  have w4 : ans A 101 [V.isl (List.map Enc.enc x1)] = some (V.isl (List.map Enc.enc x3)) := s101 x1  gx3
  obtain ⟨x5, gx5, hF⟩ := bS hF
  have w6 : ans A 102 [V.agg [V.int .i64 a0.Prime, V.isl (List.map Enc.enc a0.Dims), V.isl (List.map Enc.enc a0.Maps)], V.int .i64 a1] = some (V.int .i64 x5) := s102 a0 a1  gx5
  obtain ⟨zo1_1, gt15, hF⟩ := bS hF
  simp only [↓reduceIte, Nat.reduceAdd, Nat.reduceMul, Nat.reduceSub, Nat.reduceLT, Nat.reduceLeDiff, Nat.reduceEqDiff, Nat.reducePow, Int.reducePow, Int.reduceLE, Int.reduceLT, Int.reduceEq, Int.reduceToNat, reduceCtorEq, RR, RB, RZ, RE, opEv, fillV, mapO, mapS, b63, hl_0, h0_0, h1_0, w2, w4, w6]
  refine W.mono (l63_1 x3 x5   gt15 (Exists.intro _ ( Exists.intro _ ( And.intro rfl ?_)))) ?_
  · simp only [↓reduceIte, Nat.reduceAdd, Nat.reduceMul, Nat.reduceSub, Nat.reduceLT, Nat.reduceLeDiff, Nat.reduceEqDiff, Nat.reducePow, Int.reducePow, Int.reduceLE, Int.reduceLT, Int.reduceEq, Int.reduceToNat, reduceCtorEq, RR, RB, RZ, RE, hl_0, h0_0, h1_0, w2, w4, w6]
  rintro _ e _ ⟨rfl, u8, k9, rfl, hl_10, h5_10⟩
  have hE := Option.some.inj hF; subst hE
  simp only [↓reduceIte, Nat.reduceAdd, Nat.reduceMul, Nat.reduceSub, Nat.reduceLT, Nat.reduceLeDiff, Nat.reduceEqDiff, Nat.reducePow, Int.reducePow, Int.reduceLE, Int.reduceLT, Int.reduceEq, Int.reduceToNat, reduceCtorEq, RR, RB, RZ, RE, opEv, fillV, mapO, mapS, hl_10, h5_10]
  exact fin_ret (by simp only [↓reduceIte, Nat.reduceAdd, Nat.reduceMul, Nat.reduceSub, Nat.reduceLT, Nat.reduceLeDiff, Nat.reduceEqDiff, Nat.reducePow, Int.reducePow, Int.reduceLE, Int.reduceLT, Int.reduceEq, Int.reduceToNat, reduceCtorEq, RR, RB, RZ, RE, fn_out, p63, Rs.ev, mapO, mapS, take_len_self, hl_10, h5_10, frzs (α := Int) zo1_1, takes (α := Int) zo1_1])
theorem t63 (a0 : GComplex) (a1 : Int)   {r : List Int} (hF : F63 a0 a1 = some r) : tans A 63 [1] [V.agg [V.int .i64 a0.Prime, V.isl (List.map Enc.enc a0.Dims), V.isl (List.map Enc.enc a0.Maps)], V.int .i64 a1] = some (Enc.enc r) := by
  refine tans_of (f := p63) rfl rfl rfl fun e hl he => ?_
  have h0_0 : e.at 0 = V.agg [V.int .i64 a0.Prime, V.isl (List.map Enc.enc a0.Dims), V.isl (List.map Enc.enc a0.Maps)] := he 0 _ rfl
  have h1_0 : e.at 1 = V.int .i64 a1 := he 1 _ rfl
  have hl_0 : e.length = 29 := hl
  clear he hl
  show W A b63 e ⟨[], 0⟩ _
  unfold F63 at hF
  obtain ⟨x1, gx1, hF⟩ := bS hF
  have w2 : ans A 100 [V.agg [V.int .i64 a0.Prime, V.isl (List.map Enc.enc a0.Dims), V.isl (List.map Enc.enc a0.Maps)], V.int .i64 a1] = some (V.isl (List.map Enc.enc x1)) := s100 a0 a1  gx1
  obtain ⟨x3, gx3, hF⟩ := bS hF
  have w4 : ans A 101 [V.isl (List.map Enc.enc x1)] = some (V.isl (List.map Enc.enc x3)) := s101 x1  gx3
  obtain ⟨x5, gx5, hF⟩ := bS hF
  have w6 : ans A 102 [V.agg [V.int .i64 a0.Prime, V.isl (List.map Enc.enc a0.Dims), V.isl (List.map Enc.enc a0.Maps)], V.int .i64 a1] = some (V.int .i64 x5) := s102 a0 a1  gx5
  obtain ⟨zo1_1, gt15, hF⟩ := bS hF
  simp only [↓reduceIte, Nat.reduceAdd, Nat.reduceMul, Nat.reduceSub, Nat.reduceLT, Nat.reduceLeDiff, Nat.reduceEqDiff, Nat.reducePow, Int.reducePow, Int.reduceLE, Int.reduceLT, Int.reduceEq, Int.reduceToNat, reduceCtorEq, RR, RB, RZ, RE, opEv, fillV, mapO, mapS, b63, hl_0, h0_0, h1_0, w2, w4, w6]
  refine W.mono (l63_1 x3 x5   gt15 (Exists.intro _ ( Exists.intro _ ( And.intro rfl ?_)))) ?_
  · simp only [↓reduceIte, Nat.reduceAdd, Nat.reduceMul, Nat.reduceSub, Nat.reduceLT, Nat.reduceLeDiff, Nat.reduceEqDiff, Nat.reducePow, Int.reducePow, Int.reduceLE, Int.reduceLT, Int.reduceEq, Int.reduceToNat, reduceCtorEq, RR, RB, RZ, RE, hl_0, h0_0, h1_0, w2, w4, w6]
  rintro _ e _ ⟨rfl, u8, k9, rfl, hl_10, h5_10⟩
  have hE := Option.some.inj hF; subst hE
  simp only [↓reduceIte, Nat.reduceAdd, Nat.reduceMul, Nat.reduceSub, Nat.reduceLT, Nat.reduceLeDiff, Nat.reduceEqDiff, Nat.reducePow, Int.reducePow, Int.reduceLE, Int.reduceLT, Int.reduceEq, Int.reduceToNat, reduceCtorEq, RR, RB, RZ, RE, opEv, fillV, mapO, mapS, hl_10, h5_10]
  exact tfin_ret (by simp only [↓reduceIte, Nat.reduceAdd, Nat.reduceMul, Nat.reduceSub, Nat.reduceLT, Nat.reduceLeDiff, Nat.reduceEqDiff, Nat.reducePow, Int.reducePow, Int.reduceLE, Int.reduceLT, Int.reduceEq, Int.reduceToNat, reduceCtorEq, RR, RB, RZ, RE, fn_out, p63, Rs.ev, mapO, mapS, take_len_self, hl_10, h5_10, frzs (α := Int) zo1_1, takes (α := Int) zo1_1])
/-! loop.example/g01273/impl.FreePlaces -/
def F29 (a0 : GComplex) (a1 : Int) : Option (T2 (List Int) Int) :=
  (F62 a0 a1).bind fun x1 =>
  if x1 = 0 then
    (F63 a0 a1).bind fun x4 =>
    some ⟨x4, 0⟩
  else
    some ⟨([] : List Int), x1⟩
theorem d29 (a0 : GComplex) (a1 : Int) {r : T2 (List Int) Int} (hF : F29 a0 a1 = some r) : ∃ v h', res A 29 [V.agg [V.int .i64 a0.Prime, V.isl (List.map Enc.enc a0.Dims), V.isl (List.map Enc.enc a0.Maps)], V.int .i64 a1] Heap.empty = some (v, h') ∧ ∃ vs K, v = V.tup vs ∧ repF h' vs [⟨r.a⟩, ⟨r.b⟩] K := by
  refine res_dp (f := p29) rfl rfl rfl fun e hl he => ?_
  have h0_0 : e.at 0 = V.agg [V.int .i64 a0.Prime, V.isl (List.map Enc.enc a0.Dims), V.isl (List.map Enc.enc a0.Maps)] := he 0 _ rfl
  have h1_0 : e.at 1 = V.int .i64 a1 := he 1 _ rfl
  have hl_0 : e.length = 16 := hl
  clear he hl
  show W A b29 e ⟨[], 0⟩ _
  unfold F29 at hF
  obtain ⟨x1, gx1, hF⟩ := bS hF
  have w2 : ans A 62 [V.agg [V.int .i64 a0.Prime, V.isl (List.map Enc.enc a0.Dims), V.isl (List.map Enc.enc a0.Maps)], V.int .i64 a1] = some (V.int .i64 x1) := s62 a0 a1 gx1
  by_cases c3 : x1 = 0
  · rw [if_pos c3] at hF
    obtain ⟨x4, gx4, hF⟩ := bS hF
    have w5 : tans A 63 [1] [V.agg [V.int .i64 a0.Prime, V.isl (List.map Enc.enc a0.Dims), V.isl (List.map Enc.enc a0.Maps)], V.int .i64 a1] = some (V.isl (List.map Enc.enc x4)) := t63 a0 a1 gx4
    have hE := Option.some.inj hF; subst hE
    simp only [↓reduceIte, Nat.reduceAdd, Nat.reduceMul, Nat.reduceSub, Nat.reduceLT, Nat.reduceLeDiff, Nat.reduceEqDiff, Nat.reducePow, Int.reducePow, Int.reduceLE, Int.reduceLT, Int.reduceEq, Int.reduceToNat, reduceCtorEq, RR, RB, RZ, RE, opEv, fillV, mapO, mapS, b29, hl_0, h0_0, h1_0, w2, eq_true c3, w5, callM_tans, thaw_one]
    refine And.intro (fun _ => trivial) ⟨V.tup [V.sl 1 1 0 x4.length 1, V.int .i64 0], ?_, _, _, rfl, pair_rep (α := List Int) (K := fun k => k = 1) (int_row (l := x4) rfl fun k => Iff.rfl) _⟩
    simp only [↓reduceIte, Nat.reduceAdd, Nat.reduceMul, Nat.reduceSub, Nat.reduceLT, Nat.reduceLeDiff, Nat.reduceEqDiff, Nat.reducePow, Int.reducePow, Int.reduceLE, Int.reduceLT, Int.reduceEq, Int.reduceToNat, reduceCtorEq, RR, RB, RZ, RE, fn_out, p29, Rs.ev, mapO, mapS, hl_0]
  · rw [if_neg c3] at hF
    have hE := Option.some.inj hF; subst hE
    simp only [↓reduceIte, Nat.reduceAdd, Nat.reduceMul, Nat.reduceSub, Nat.reduceLT, Nat.reduceLeDiff, Nat.reduceEqDiff, Nat.reducePow, Int.reducePow, Int.reduceLE, Int.reduceLT, Int.reduceEq, Int.reduceToNat, reduceCtorEq, RR, RB, RZ, RE, opEv, fillV, mapO, mapS, b29, hl_0, h0_0, h1_0, w2, eq_false c3]
    refine And.intro (fun _ => trivial) ⟨V.tup [V.nils, V.int .i64 x1], ?_, _, _, rfl, pair_rep (α := List Int) (rep_nils _) _⟩
    simp only [↓reduceIte, Nat.reduceAdd, Nat.reduceMul, Nat.reduceSub, Nat.reduceLT, Nat.reduceLeDiff, Nat.reduceEqDiff, Nat.reducePow, Int.reducePow, Int.reduceLE, Int.reduceLT, Int.reduceEq, Int.reduceToNat, reduceCtorEq, RR, RB, RZ, RE, fn_out, p29, Rs.ev, mapO, mapS, hl_0]
theorem x29 (a0 : GComplex) (a1 : Int) {r : T2 (List Int) Int} (hF : F29 a0 a1 = some r) : tans A 29 [1] [V.agg [V.int .i64 a0.Prime, V.isl (List.map Enc.enc a0.Dims), V.isl (List.map Enc.enc a0.Maps)], V.int .i64 a1] = some (V.tup [Enc.enc r.a, V.int .i64 r.b]) := by
  obtain ⟨_, h', h1, vs, K, rfl, h2⟩ := d29 a0 a1 hF
  exact tans_tup (fits_pair rfl (by decide)) h1 h2
theorem s29 (a0 : GComplex) (a1 : Int) {r : T2 (List Int) Int} (hF : F29 a0 a1 = some r) : ans A 29 [V.agg [V.int .i64 a0.Prime, V.isl (List.map Enc.enc a0.Dims), V.isl (List.map Enc.enc a0.Maps)], V.int .i64 a1] = some (EncR.enc r) := by
  obtain ⟨_, h', h1, vs, K, rfl, h2⟩ := d29 a0 a1 hF
  exact ans_tup (ss := [1]) (fits_pair rfl (by decide)) h1 h2
/-! loop.example/g01273/laws.heldInt64S -/
def F32_1_B (a0 : List Int) (v5_1 : Int) (v1_1 : Int) : Option ((Int) ⊕ ((Int) ⊕ Int)) :=
  (getI a0 v5_1).bind fun x4 =>
if x4 = v1_1 then
  (chk (v1_1 + 1)).bind fun x7 =>
  some (.inl x7)
else
  some (.inr (.inr (-1)))
def F32_1_D (a0 : List Int) (v5_1 : Int) (v1_1 : Int) : Option ((Int) ⊕ Int) :=
  some (.inl v1_1)
def F32 (a0 : List Int) (a1 : Int) : Option Int :=
  (forR 0 (a0.length : Int) (F32_1_B a0) (F32_1_D a0) a1).bind fun t8 => match t8 with
    | .inl zv1_1 =>
      some zv1_1
    | .inr r9 => some r9
def I32_1 (a0 : List Int)  (v5_1 : Int) (v1_1 : Int) (e : Env) (h : Heap) : Prop :=
  ∃ k2 : Nat, h = ⟨[], k2⟩ ∧ e.length = 21 ∧ e.at 0 = V.isl (List.map Enc.enc a0) ∧ e.at 1 = V.int .i64 v1_1 ∧ e.at 5 = V.int .i64 v5_1
def P32_1 (a0 : List Int)  (t : (Int) ⊕ Int) (x : Ex) (e : Env) (h : Heap) : Prop :=
  match t with
  | .inl zv1_1 => x = .normal ∧ ∃ k2 : Nat, h = ⟨[], k2⟩ ∧ e.length = 21 ∧ e.at 1 = V.int .i64 zv1_1
  | .inr r => x = .ret ∧ Fin p32 (Enc.enc r) .ret e h
theorem l32_1 (a0 : List Int)   {lo : Int} {s : Int} {t : (Int) ⊕ Int} (hF : forR lo (a0.length : Int) (F32_1_B a0) (F32_1_D a0) s = some t) {e : Env} {h : Heap} (hI : I32_1 a0  lo s e h) : W A c32_1 e h (P32_1 a0  t) := by
  show W A (.block 0 (.loop false b32_1)) e h _
  rw [W_block]
  refine W_forR hF 0 (by obtain ⟨_, rfl, _⟩ := hI; rfl) (I32_1 a0 ) hI ?_ ?_
  · rintro v5_1 v1_1 e h ⟨k2, rfl, hl_1, h0_1, h1_1, h5_1⟩ hlt hw o ho
    unfold F32_1_B at ho
    obtain ⟨x4, gx4, ho⟩ := bS ho
    obtain ⟨w5a, w5b⟩ := getI_w gx4
    by_cases c6 : x4 = v1_1
    · rw [if_pos c6] at ho
      obtain ⟨x7, gx7, ho⟩ := bS ho
      have wx7 := chk_w gx7
      have hE := Option.some.inj ho; subst hE
      simp only [↓reduceIte, Nat.reduceAdd, Nat.reduceMul, Nat.reduceSub, Nat.reduceLT, Nat.reduceLeDiff, Nat.reduceEqDiff, Nat.reducePow, Int.reducePow, Int.reduceLE, Int.reduceLT, Int.reduceEq, Int.reduceToNat, reduceCtorEq, RR, RB, RZ, RE, opEv, fillV, mapO, mapS, b32_1, hl_1, h0_1, h1_1, h5_1, eq_true hlt, hw, w5a, w5b, eq_true c6, wx7]
      refine And.intro rfl (Exists.intro _ ( And.intro rfl ?_))
      simp only [↓reduceIte, Nat.reduceAdd, Nat.reduceMul, Nat.reduceSub, Nat.reduceLT, Nat.reduceLeDiff, Nat.reduceEqDiff, Nat.reducePow, Int.reducePow, Int.reduceLE, Int.reduceLT, Int.reduceEq, Int.reduceToNat, reduceCtorEq, RR, RB, RZ, RE, hl_1, h0_1, h1_1, h5_1, eq_true hlt, hw, w5a, w5b, eq_true c6, wx7]
    · rw [if_neg c6] at ho
      have hE := Option.some.inj ho; subst hE
      simp only [↓reduceIte, Nat.reduceAdd, Nat.reduceMul, Nat.reduceSub, Nat.reduceLT, Nat.reduceLeDiff, Nat.reduceEqDiff, Nat.reducePow, Int.reducePow, Int.reduceLE, Int.reduceLT, Int.reduceEq, Int.reduceToNat, reduceCtorEq, RR, RB, RZ, RE, opEv, fillV, mapO, mapS, b32_1, hl_1, h0_1, h1_1, h5_1, eq_true hlt, hw, w5a, w5b, eq_false c6]
      intro ht; subst ht
      simp only [↓reduceIte, Nat.reduceAdd, Nat.reduceMul, Nat.reduceSub, Nat.reduceLT, Nat.reduceLeDiff, Nat.reduceEqDiff, Nat.reducePow, Int.reducePow, Int.reduceLE, Int.reduceLT, Int.reduceEq, Int.reduceToNat, reduceCtorEq, RR, RB]
      exact And.intro rfl (fin_ret (by simp only [↓reduceIte, Nat.reduceAdd, Nat.reduceMul, Nat.reduceSub, Nat.reduceLT, Nat.reduceLeDiff, Nat.reduceEqDiff, Nat.reducePow, Int.reducePow, Int.reduceLE, Int.reduceLT, Int.reduceEq, Int.reduceToNat, reduceCtorEq, RR, RB, RZ, RE, fn_out, p32, Rs.ev, mapO, mapS, take_len_self, hl_1, h0_1, h1_1, h5_1, eq_true hlt, hw, w5a, w5b, eq_false c6]))
  · rintro v5_1 v1_1 e h ⟨k2, rfl, hl_1, h0_1, h1_1, h5_1⟩ hge t1 ho
    unfold F32_1_D at ho
    have hE := Option.some.inj ho; subst hE
    simp only [↓reduceIte, Nat.reduceAdd, Nat.reduceMul, Nat.reduceSub, Nat.reduceLT, Nat.reduceLeDiff, Nat.reduceEqDiff, Nat.reducePow, Int.reducePow, Int.reduceLE, Int.reduceLT, Int.reduceEq, Int.reduceToNat, reduceCtorEq, RR, RB, RZ, RE, opEv, fillV, mapO, mapS, b32_1, hl_1, h0_1, h1_1, h5_1, eq_false hge]
    intro ht; subst ht
    refine And.intro rfl (Exists.intro _ ( And.intro rfl ?_))
    simp only [↓reduceIte, Nat.reduceAdd, Nat.reduceMul, Nat.reduceSub, Nat.reduceLT, Nat.reduceLeDiff, Nat.reduceEqDiff, Nat.reducePow, Int.reducePow, Int.reduceLE, Int.reduceLT, Int.reduceEq, Int.reduceToNat, reduceCtorEq, RR, RB, RZ, RE, hl_1, h0_1, h1_1, h5_1, eq_false hge]
theorem s32 (a0 : List Int) (a1 : Int)   {r : Int} (hF : F32 a0 a1 = some r) : ans A 32 [V.isl (List.map Enc.enc a0), V.int .i64 a1] = some (Enc.enc r) := by
  refine ans_of (f := p32) rfl rfl rfl fun e hl he => ?_
  have h0_0 : e.at 0 = V.isl (List.map Enc.enc a0) := he 0 _ rfl
  have h1_0 : e.at 1 = V.int .i64 a1 := he 1 _ rfl
  have hl_0 : e.length = 21 := hl
  clear he hl
  show W A b32 e ⟨[], 0⟩ _
  unfold F32 at hF
  obtain ⟨t8, gt8, hF⟩ := bS hF
  rcases t8 with zv1_1 | r9
  · dsimp only at hF
    simp only [↓reduceIte, Nat.reduceAdd, Nat.reduceMul, Nat.reduceSub, Nat.reduceLT, Nat.reduceLeDiff, Nat.reduceEqDiff, Nat.reducePow, Int.reducePow, Int.reduceLE, Int.reduceLT, Int.reduceEq, Int.reduceToNat, reduceCtorEq, RR, RB, RZ, RE, opEv, fillV, mapO, mapS, b32, hl_0, h0_0, h1_0]
    refine W.mono (l32_1 a0   gt8 (Exists.intro _ ( And.intro rfl ?_))) ?_
    · simp only [↓reduceIte, Nat.reduceAdd, Nat.reduceMul, Nat.reduceSub, Nat.reduceLT, Nat.reduceLeDiff, Nat.reduceEqDiff, Nat.reducePow, Int.reducePow, Int.reduceLE, Int.reduceLT, Int.reduceEq, Int.reduceToNat, reduceCtorEq, RR, RB, RZ, RE, hl_0, h0_0, h1_0]
    rintro _ e _ ⟨rfl, k2, rfl, hl_3, h1_3⟩
    have hE := Option.some.inj hF; subst hE
    simp only [↓reduceIte, Nat.reduceAdd, Nat.reduceMul, Nat.reduceSub, Nat.reduceLT, Nat.reduceLeDiff, Nat.reduceEqDiff, Nat.reducePow, Int.reducePow, Int.reduceLE, Int.reduceLT, Int.reduceEq, Int.reduceToNat, reduceCtorEq, RR, RB, RZ, RE, opEv, fillV, mapO, mapS, hl_3, h1_3]
    exact fin_ret (by simp only [↓reduceIte, Nat.reduceAdd, Nat.reduceMul, Nat.reduceSub, Nat.reduceLT, Nat.reduceLeDiff, Nat.reduceEqDiff, Nat.reducePow, Int.reducePow, Int.reduceLE, Int.reduceLT, Int.reduceEq, Int.reduceToNat, reduceCtorEq, RR, RB, RZ, RE, fn_out, p32, Rs.ev, mapO, mapS, take_len_self, hl_3, h1_3])
  · dsimp only at hF
    have hE := Option.some.inj hF; subst hE
    simp only [↓reduceIte, Nat.reduceAdd, Nat.reduceMul, Nat.reduceSub, Nat.reduceLT, Nat.reduceLeDiff, Nat.reduceEqDiff, Nat.reducePow, Int.reducePow, Int.reduceLE, Int.reduceLT, Int.reduceEq, Int.reduceToNat, reduceCtorEq, RR, RB, RZ, RE, opEv, fillV, mapO, mapS, b32, hl_0, h0_0, h1_0]
    refine W.mono (l32_1 a0   gt8 (Exists.intro _ ( And.intro rfl ?_))) ?_
    · simp only [↓reduceIte, Nat.reduceAdd, Nat.reduceMul, Nat.reduceSub, Nat.reduceLT, Nat.reduceLeDiff, Nat.reduceEqDiff, Nat.reducePow, Int.reducePow, Int.reduceLE, Int.reduceLT, Int.reduceEq, Int.reduceToNat, reduceCtorEq, RR, RB, RZ, RE, hl_0, h0_0, h1_0]
    rintro _ e h ⟨rfl, hq⟩
    simp only [↓reduceIte, Nat.reduceAdd, Nat.reduceMul, Nat.reduceSub, Nat.reduceLT, Nat.reduceLeDiff, Nat.reduceEqDiff, Nat.reducePow, Int.reducePow, Int.reduceLE, Int.reduceLT, Int.reduceEq, Int.reduceToNat, reduceCtorEq, RR, RB]
    exact hq
/-! loop.example/g01273/laws.FnExactFreePlaces -/
def L114 (a0 : GComplex) (a1 : Int) : Prop :=
  (∃ l0, F10 a0 1048576 = some l0 ∧ l0 < 0) ∨
  (∃ (l0 : Int) (s0 : GComplex) (w : List Int) (cd : Int) (m0 : GComplex × Int) (mg : List Int × Int), F10 a0 1048576 = some l0 ∧ ¬ l0 < 0 ∧ F12 a0 = some s0 ∧ F28 s0 a1 = some ⟨w, cd⟩ ∧ F29 s0 a1 = some ⟨w, cd⟩ ∧ F30 w w = some true ∧ F16 s0 s0 = some true ∧ FM20 s0 1 = some m0 ∧ ¬ m0.2 < 0 ∧ FM31 w 1 = some mg ∧ F32 mg.1 1 = some mg.2 ∧ ¬ mg.2 < 0)
theorem s114 (a0 : GComplex) (a1 : Int) (hF : L114 a0 a1) : ans A 114 [V.agg [V.int .i64 a0.Prime, V.isl (List.map Enc.enc a0.Dims), V.isl (List.map Enc.enc a0.Maps)], V.int .i64 a1] = some (V.bool true) := by
  refine ans_of (f := p114) rfl rfl rfl fun e hl he => ?_
  have h0_0 : e.at 0 = V.agg [V.int .i64 a0.Prime, V.isl (List.map Enc.enc a0.Dims), V.isl (List.map Enc.enc a0.Maps)] := he 0 _ rfl
  have h1_0 : e.at 1 = V.int .i64 a1 := he 1 _ rfl
  have hl_0 : e.length = 101 := hl
  clear he hl
  show W A b114 e ⟨[], 0⟩ _
  rcases hF with ⟨l0, g0, c0⟩ | ⟨l0, s0, w, cd, m0, mg, g0, c0, t0, gs, gi, ge, q0, k0, ck, gm, gh, cg⟩
  · have z0 := s10 a0 _ g0
    simp only [↓reduceIte, Nat.reduceAdd, Nat.reduceMul, Nat.reduceSub, Nat.reduceLT, Nat.reduceLeDiff, Nat.reduceEqDiff, Nat.reducePow, Int.reducePow, Int.reduceLE, Int.reduceLT, Int.reduceEq, Int.reduceToNat, reduceCtorEq, RR, RB, RZ, RE, opEv, fillV, mapO, mapS, b114, hl_0, h0_0, h1_0, z0, eq_true c0]
    exact fin_ret (by simp only [↓reduceIte, Nat.reduceAdd, Nat.reduceMul, Nat.reduceSub, Nat.reduceLT, Nat.reduceLeDiff, Nat.reduceEqDiff, Nat.reducePow, Int.reducePow, Int.reduceLE, Int.reduceLT, Int.reduceEq, Int.reduceToNat, reduceCtorEq, RR, RB, RZ, RE, fn_out, p114, Rs.ev, mapO, mapS, take_len_self, hl_0, z0, eq_true c0])
  · have z0 := s10 a0 _ g0
    have u0 : ans A 12 [V.agg [V.int .i64 a0.Prime, V.isl (List.map Enc.enc a0.Dims), V.isl (List.map Enc.enc a0.Maps)]] = some (V.agg [V.int .i64 s0.Prime, V.isl (List.map Enc.enc s0.Dims), V.isl (List.map Enc.enc s0.Maps)]) := s12 a0 t0
    have x0 : tans A 12 [1, 1, 1] [V.agg [V.int .i64 a0.Prime, V.isl (List.map Enc.enc a0.Dims), V.isl (List.map Enc.enc a0.Maps)]] = some (V.agg [V.int .i64 s0.Prime, V.isl (List.map Enc.enc s0.Dims), V.isl (List.map Enc.enc s0.Maps)]) := x12 a0 t0
    have us : ans A 28 [V.agg [V.int .i64 s0.Prime, V.isl (List.map Enc.enc s0.Dims), V.isl (List.map Enc.enc s0.Maps)], V.int .i64 a1] = some (V.tup [V.isl (List.map Enc.enc w), V.int .i64 cd]) := s28 s0 a1 gs
    have ui : ans A 29 [V.agg [V.int .i64 s0.Prime, V.isl (List.map Enc.enc s0.Dims), V.isl (List.map Enc.enc s0.Maps)], V.int .i64 a1] = some (V.tup [V.isl (List.map Enc.enc w), V.int .i64 cd]) := s29 s0 a1 gi
    have xi : tans A 29 [1] [V.agg [V.int .i64 s0.Prime, V.isl (List.map Enc.enc s0.Dims), V.isl (List.map Enc.enc s0.Maps)], V.int .i64 a1] = some (V.tup [V.isl (List.map Enc.enc w), V.int .i64 cd]) := x29 s0 a1 gi
    have ue : ans A 30 [V.isl (List.map Enc.enc w), V.isl (List.map Enc.enc w)] = some (V.bool true) := s30 w w ge
    have y0 : ans A 16 [V.agg [V.int .i64 s0.Prime, V.isl (List.map Enc.enc s0.Dims), V.isl (List.map Enc.enc s0.Maps)], V.agg [V.int .i64 s0.Prime, V.isl (List.map Enc.enc s0.Dims), V.isl (List.map Enc.enc s0.Maps)]] = some (V.bool true) := s16 s0 s0 q0
    have bw : bare 16 [1] (V.tup [V.isl (List.map Enc.enc w), V.int .i64 cd]) = true := bare_tup (l := [⟨w⟩, ⟨cd⟩]) (fits_pair rfl (by decide))
    obtain ⟨v0, ⟨E_1, c_2⟩, K_3, t_5, r_4, b_6, le_7, o_8⟩ := thawD (α := GComplex) (by decide) s0 ⟨[(0, none)], 1⟩
    obtain ⟨d0_1, d0_2, rfl, -⟩ := sh_GComplex r_4
    simp only [le1, List.length_cons, List.length_nil, Nat.zero_add, Nat.reduceAdd] at b_6 le_7 o_8
    have t_5' : thaw 16 [1, 1, 1] (V.agg [V.int .i64 s0.Prime, V.isl (List.map Enc.enc s0.Dims), V.isl (List.map Enc.enc s0.Maps)]) ⟨[(0, none)], 1⟩ = some (V.agg [V.int .i64 s0.Prime, d0_1, d0_2], ⟨E_1, c_2⟩) := t_5
    have f_9 : (E_1 ++ [(c_2, some [V.int .i64 s0.Prime, d0_1, d0_2])])[E_1.length]? = some (c_2, some [V.int .i64 s0.Prime, d0_1, d0_2]) := get_last _ _
    have r_10 := Deep.frame (h' := ⟨E_1 ++ [(c_2, some [V.int .i64 s0.Prime, d0_1, d0_2])], c_2 + 1⟩) r_4 fun k q => (List.getElem?_append_left (Deep.bd r_4 q) : (E_1 ++ [(c_2, some [V.int .i64 s0.Prime, d0_1, d0_2])])[k]? = _)
    obtain ⟨z_11_e0, z_11_1, z_11_2⟩ := fz_GComplex r_10
    obtain ⟨vg, ⟨E_12, c_13⟩, K_14, t_16, r_15, b_17, le_18, o_19⟩ := thawP (α := List Int) (s := 1) (ss := []) (by decide) w cd ⟨E_1 ++ [(c_2, some [V.int .i64 s0.Prime, d0_1, d0_2])], c_2 + 1⟩
    obtain ⟨oneg, oneg_t⟩ := rep_one r_15
    simp only [le1, List.length_cons, List.length_nil, Nat.zero_add, Nat.reduceAdd] at b_17 le_18 o_19
    have t_16' : thaw 16 [1] (V.tup [V.isl (List.map Enc.enc w), V.int .i64 cd]) ⟨E_1 ++ [(c_2, some [V.int .i64 s0.Prime, d0_1, d0_2])], c_2 + 1⟩ = some (V.tup [vg, V.int .i64 cd], ⟨E_12, c_13⟩) := t_16
    have f_20 : E_12[E_1.length]? = some (c_2, some [V.int .i64 s0.Prime, d0_1, d0_2]) := (o_19 E_1.length (by have := (List.getElem?_eq_some_iff.1 f_9).1; (try simp only [le1] at this); omega)).trans f_9
    have r_21 := Deep.frame (h' := ⟨E_12, c_13⟩) r_10 fun k q => o_19 k (by have := Deep.bd r_10 q; (try simp only [le1] at this); omega)
    have z_22 := Deep.fz r_15 11
    have z_22' : frz ⟨E_12, c_13⟩ 16 vg = some (V.isl (List.map Enc.enc w)) := z_22
    obtain ⟨z_23_e0, z_23_1, z_23_2⟩ := fz_GComplex r_21
    obtain ⟨⟨E_24, c_25⟩, w_26, r_27, o_29, le_28⟩ := dm20 k0 _ r_21
    try simp only [le1] at o_29 le_28
    have f_30 : E_24[E_1.length]? = some (c_2, some [V.int .i64 s0.Prime, d0_1, d0_2]) := (o_29 E_1.length (by have := (List.getElem?_eq_some_iff.1 f_20).1; (try simp only [le1] at this); omega) (fun p => by have h1 := b_6 _ p; omega)).trans f_20
    have r_31 := Deep.frame (h' := ⟨E_24, c_25⟩) r_15 fun k q => o_29 k (by have := Deep.bd r_15 q; (try simp only [le1] at this); omega) (fun p => by have h1 := b_6 k p; have h2 := b_17 k q; omega)
    have z_32 := Deep.fz r_31 11
    have z_32' : frz ⟨E_24, c_25⟩ 16 vg = some (V.isl (List.map Enc.enc w)) := z_32
    obtain ⟨⟨E_33, c_34⟩, w_35, r_36, o_38, le_37⟩ := dm31 gm _ r_31
    try simp only [le1] at o_38 le_37
    have f_39 : E_33[E_1.length]? = some (c_2, some [V.int .i64 s0.Prime, d0_1, d0_2]) := (o_38 E_1.length (by have := (List.getElem?_eq_some_iff.1 f_30).1; (try simp only [le1] at this); omega) (fun p => by have h1 := b_17 _ p; omega)).trans f_30
    have r_40 := Deep.frame (h' := ⟨E_33, c_34⟩) r_27 fun k q => o_38 k (by have := Deep.bd r_27 q; (try simp only [le1] at this); omega) (fun p => by have h1 := b_17 k p; have h2 := b_6 k q; omega)
    have z_41 := Deep.fz r_36 11
    have z_41' : frz ⟨E_33, c_34⟩ 16 vg = some (V.isl (List.map Enc.enc mg.1)) := z_41
    have uh : ans A 32 [V.isl (List.map Enc.enc mg.1), V.int .i64 1] = some (V.int .i64 mg.2) := s32 mg.1 1 gh
    simp only [↓reduceIte, Nat.reduceAdd, Nat.reduceMul, Nat.reduceSub, Nat.reduceLT, Nat.reduceLeDiff, Nat.reduceEqDiff, Nat.reducePow, Int.reducePow, Int.reduceLE, Int.reduceLT, Int.reduceEq, Int.reduceToNat, reduceCtorEq, RR, RB, RZ, RE, opEv, fillV, mapO, mapS, b114, hl_0, h0_0, h1_0, callM_tans, callM_plain_eq, get_last, set_last, le1, z0, eq_false c0, u0, x0, us, ui, xi, ue, y0, bw, t_5', f_9, z_11_1, z_11_2, oneg, oneg_t, t_16', f_20, z_22', z_23_1, z_23_2, w_26, f_30, z_32', eq_false ck, w_35, f_39, z_41', uh, eq_false cg]
    exact fin_ret (by simp only [↓reduceIte, Nat.reduceAdd, Nat.reduceMul, Nat.reduceSub, Nat.reduceLT, Nat.reduceLeDiff, Nat.reduceEqDiff, Nat.reducePow, Int.reducePow, Int.reduceLE, Int.reduceLT, Int.reduceEq, Int.reduceToNat, reduceCtorEq, RR, RB, RZ, RE, fn_out, p114, Rs.ev, mapO, mapS, take_len_self, hl_0])

end
end Rv
