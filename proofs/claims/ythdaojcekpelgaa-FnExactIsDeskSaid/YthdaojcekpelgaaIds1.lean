/- What the abstract code answers: typed functions, part 2. -/
import Derived.Test.YthdaojcekpelgaaIds0
namespace Rv
set_option linter.unusedVariables false
set_option linter.unusedSimpArgs false
set_option maxRecDepth 100000
noncomputable section

/-! (loop.example/g01273/impl.Complex).differential -/
def F91 (a0 : GComplex) (a1 : Int) (a2 : List Int) : Option (List Int) :=
  if a1 ≤ 0 then
    some ([] : List Int)
  else
    (F86 a0).bind fun x2 =>
    if x2 < a1 then
      some ([] : List Int)
    else
      (chk (a1 - 1)).bind fun x5 =>
      (getI a0.Dims x5).bind fun x6 =>
      (getI a0.Maps x5).bind fun x8 =>
      (F119 a0.Prime x6 a2 x8).bind fun x10 =>
      some x10
theorem s91 (a0 : GComplex) (a1 : Int) (a2 : List Int)   {r : List Int} (hF : F91 a0 a1 a2 = some r) : ans A 91 [V.agg [V.int .i64 a0.Prime, V.isl (List.map Enc.enc a0.Dims), V.isl (List.map Enc.enc a0.Maps)], V.int .i64 a1, V.isl (List.map Enc.enc a2)] = some (Enc.enc r) := by
  refine ans_of (f := p91) rfl rfl rfl fun e hl he => ?_
  have h0_0 : e.at 0 = V.agg [V.int .i64 a0.Prime, V.isl (List.map Enc.enc a0.Dims), V.isl (List.map Enc.enc a0.Maps)] := he 0 _ rfl
  have h1_0 : e.at 1 = V.int .i64 a1 := he 1 _ rfl
  have h2_0 : e.at 2 = V.isl (List.map Enc.enc a2) := he 2 _ rfl
  have hl_0 : e.length = 31 := hl
  clear he hl
  show W A b91 e ⟨[], 0⟩ _
  unfold F91 at hF
  by_cases c1 : a1 ≤ 0
  · rw [if_pos c1] at hF
    have hE := Option.some.inj hF; subst hE
    simp only [↓reduceIte, Nat.reduceAdd, Nat.reduceMul, Nat.reduceSub, Nat.reduceLT, Nat.reduceLeDiff, Nat.reduceEqDiff, Nat.reducePow, Int.reducePow, Int.reduceLE, Int.reduceLT, Int.reduceEq, Int.reduceToNat, reduceCtorEq, RR, RB, RZ, RE, opEv, fillV, mapO, mapS, b91, hl_0, h0_0, h1_0, h2_0, eq_true c1]
    exact fin_ret (by simp only [↓reduceIte, Nat.reduceAdd, Nat.reduceMul, Nat.reduceSub, Nat.reduceLT, Nat.reduceLeDiff, Nat.reduceEqDiff, Nat.reducePow, Int.reducePow, Int.reduceLE, Int.reduceLT, Int.reduceEq, Int.reduceToNat, reduceCtorEq, RR, RB, RZ, RE, fn_out, p91, Rs.ev, mapO, mapS, take_len_self, hl_0, h0_0, h1_0, h2_0, eq_true c1])
  · rw [if_neg c1] at hF
    obtain ⟨x2, gx2, hF⟩ := bS hF
    have w3 : ans A 86 [V.agg [V.int .i64 a0.Prime, V.isl (List.map Enc.enc a0.Dims), V.isl (List.map Enc.enc a0.Maps)]] = some (V.int .i64 x2) := s86 a0  gx2
    by_cases c4 : x2 < a1
    · rw [if_pos c4] at hF
      have hE := Option.some.inj hF; subst hE
      simp only [↓reduceIte, Nat.reduceAdd, Nat.reduceMul, Nat.reduceSub, Nat.reduceLT, Nat.reduceLeDiff, Nat.reduceEqDiff, Nat.reducePow, Int.reducePow, Int.reduceLE, Int.reduceLT, Int.reduceEq, Int.reduceToNat, reduceCtorEq, RR, RB, RZ, RE, opEv, fillV, mapO, mapS, b91, hl_0, h0_0, h1_0, h2_0, eq_false c1, w3, eq_true c4]
      exact fin_ret (by simp only [↓reduceIte, Nat.reduceAdd, Nat.reduceMul, Nat.reduceSub, Nat.reduceLT, Nat.reduceLeDiff, Nat.reduceEqDiff, Nat.reducePow, Int.reducePow, Int.reduceLE, Int.reduceLT, Int.reduceEq, Int.reduceToNat, reduceCtorEq, RR, RB, RZ, RE, fn_out, p91, Rs.ev, mapO, mapS, take_len_self, hl_0, h0_0, h1_0, h2_0, eq_false c1, w3, eq_true c4])
    · rw [if_neg c4] at hF
      obtain ⟨x5, gx5, hF⟩ := bS hF
      have wx5 := chk_w gx5
      obtain ⟨x6, gx6, hF⟩ := bS hF
      obtain ⟨w7a, w7b⟩ := getI_w gx6
      obtain ⟨x8, gx8, hF⟩ := bS hF
      obtain ⟨w9a, w9b⟩ := getI_w gx8
      obtain ⟨x10, gx10, hF⟩ := bS hF
      have w11 : ans A 119 [V.int .i64 a0.Prime, V.int .i64 x6, V.isl (List.map Enc.enc a2), V.isl (List.map Enc.enc x8)] = some (V.isl (List.map Enc.enc x10)) := s119 a0.Prime x6 a2 x8  gx10
      have hE := Option.some.inj hF; subst hE
      simp only [↓reduceIte, Nat.reduceAdd, Nat.reduceMul, Nat.reduceSub, Nat.reduceLT, Nat.reduceLeDiff, Nat.reduceEqDiff, Nat.reducePow, Int.reducePow, Int.reduceLE, Int.reduceLT, Int.reduceEq, Int.reduceToNat, reduceCtorEq, RR, RB, RZ, RE, opEv, fillV, mapO, mapS, b91, hl_0, h0_0, h1_0, h2_0, eq_false c1, w3, eq_false c4, wx5, w7a, w7b, w9a, w9b, w11]
      exact fin_ret (by simp only [↓reduceIte, Nat.reduceAdd, Nat.reduceMul, Nat.reduceSub, Nat.reduceLT, Nat.reduceLeDiff, Nat.reduceEqDiff, Nat.reducePow, Int.reducePow, Int.reduceLE, Int.reduceLT, Int.reduceEq, Int.reduceToNat, reduceCtorEq, RR, RB, RZ, RE, fn_out, p91, Rs.ev, mapO, mapS, take_len_self, hl_0, h0_0, h1_0, h2_0, eq_false c1, w3, eq_false c4, wx5, w7a, w7b, w9a, w9b, w11])
/-! loop.example/g01273/impl.isZero$1 -/
def F118 (a0 : Int) : Option Bool :=
  some (!(decide (a0 = 0)))
theorem s118 (a0 : Int)   {r : Bool} (hF : F118 a0 = some r) : ans A 118 [V.int .i64 a0] = some (Enc.enc r) := by
  refine ans_of (f := p118) rfl rfl rfl fun e hl he => ?_
  have h0_0 : e.at 0 = V.int .i64 a0 := he 0 _ rfl
  have hl_0 : e.length = 5 := hl
  clear he hl
  show W A b118 e ⟨[], 0⟩ _
  unfold F118 at hF
  have hE := Option.some.inj hF; subst hE
  simp only [↓reduceIte, Nat.reduceAdd, Nat.reduceMul, Nat.reduceSub, Nat.reduceLT, Nat.reduceLeDiff, Nat.reduceEqDiff, Nat.reducePow, Int.reducePow, Int.reduceLE, Int.reduceLT, Int.reduceEq, Int.reduceToNat, reduceCtorEq, RR, RB, RZ, RE, opEv, fillV, mapO, mapS, b118, hl_0, h0_0]
  exact fin_ret (by simp only [↓reduceIte, Nat.reduceAdd, Nat.reduceMul, Nat.reduceSub, Nat.reduceLT, Nat.reduceLeDiff, Nat.reduceEqDiff, Nat.reducePow, Int.reducePow, Int.reduceLE, Int.reduceLT, Int.reduceEq, Int.reduceToNat, reduceCtorEq, RR, RB, RZ, RE, fn_out, p118, Rs.ev, mapO, mapS, take_len_self, hl_0, h0_0])
/-! loop.example/g01273/impl.isZero -/
def F92 (a0 : List Int) : Option Bool :=
  (F82 a0 (fun x => F118 x)).bind fun x1 =>
  some (!x1)
theorem s92 (a0 : List Int)   {r : Bool} (hF : F92 a0 = some r) : ans A 92 [V.isl (List.map Enc.enc a0)] = some (Enc.enc r) := by
  refine ans_of (f := p92) rfl rfl rfl fun e hl he => ?_
  have h0_0 : e.at 0 = V.isl (List.map Enc.enc a0) := he 0 _ rfl
  have hl_0 : e.length = 6 := hl
  clear he hl
  show W A b92 e ⟨[], 0⟩ _
  unfold F92 at hF
  obtain ⟨x1, gx1, hF⟩ := bS hF
  have w2 : ans A 82 [V.isl (List.map Enc.enc a0), V.fn 118 [] []] = some (V.bool x1) := s82 a0 (fun x => F118 x) (Clo1.of (by intro h f; simp only [RZ, mapO]) (by intro h f; simp only [RZ, mapO]) (by intro f; simp only [RZ, RB]) (by intro f; simp only [RZ, RB]) (fun x _ hr => s118 x hr)) gx1
  have hE := Option.some.inj hF; subst hE
  simp only [↓reduceIte, Nat.reduceAdd, Nat.reduceMul, Nat.reduceSub, Nat.reduceLT, Nat.reduceLeDiff, Nat.reduceEqDiff, Nat.reducePow, Int.reducePow, Int.reduceLE, Int.reduceLT, Int.reduceEq, Int.reduceToNat, reduceCtorEq, RR, RB, RZ, RE, opEv, fillV, mapO, mapS, b92, hl_0, h0_0, w2]
  exact fin_ret (by simp only [↓reduceIte, Nat.reduceAdd, Nat.reduceMul, Nat.reduceSub, Nat.reduceLT, Nat.reduceLeDiff, Nat.reduceEqDiff, Nat.reducePow, Int.reducePow, Int.reduceLE, Int.reduceLT, Int.reduceEq, Int.reduceToNat, reduceCtorEq, RR, RB, RZ, RE, fn_out, p92, Rs.ev, mapO, mapS, take_len_self, hl_0, h0_0, w2])
/-! loop.example/g01273/impl.IsComplex -/
def F42_1_B (a0 : GComplex) (v34_1 : Int) (s : Unit) : Option ((Unit) ⊕ ((Unit) ⊕ Bool)) :=
  (getI a0.Maps v34_1).bind fun x15 =>
(getI a0.Dims (v34_1 + 1)).bind fun x19 =>
if (x15.length : Int) = x19 then
  (getI a0.Dims v34_1).bind fun x22 =>
  (F90 a0.Prime x22 x15).bind fun x24 =>
  if x24 = true then
    some (.inl ())
  else
    some (.inr (.inr false))
else
  some (.inr (.inr false))
def F42_1_D (a0 : GComplex) (v34_1 : Int) (s : Unit) : Option ((Unit) ⊕ Bool) :=
  some (.inl ())
def F42_3_B (a0 : GComplex) (v5_2 : Int) (x34 : List (List Int)) (v74_3 : Int) (s : Unit) : Option ((Unit) ⊕ ((Unit) ⊕ Bool)) :=
  (getI x34 v74_3).bind fun x39 =>
(chk (v5_2 - 1)).bind fun x41 =>
(F91 a0 x41 x39).bind fun x42 =>
(F92 x42).bind fun x44 =>
if x44 = true then
  some (.inl ())
else
  some (.inr (.inr false))
def F42_3_D (a0 : GComplex) (v5_2 : Int) (x34 : List (List Int)) (v74_3 : Int) (s : Unit) : Option ((Unit) ⊕ Bool) :=
  some (.inl ())
def F42_2_S (a0 : GComplex) (v5_2 : Int) : Option ((Int) ⊕ ((Unit) ⊕ Bool)) :=
  (F86 a0).bind fun x30 =>
if v5_2 ≤ x30 then
  (chk (v5_2 - 1)).bind fun x33 =>
  (getI a0.Maps x33).bind fun x34 =>
  (forR 0 (x34.length : Int) (F42_3_B a0 v5_2 x34) (F42_3_D a0 v5_2 x34) ()).bind fun t46 => match t46 with
    | .inl _ =>
      (chk (v5_2 + 1)).bind fun x47 =>
      some (.inl x47)
    | .inr r48 => some (.inr (.inr r48))
else
  some (.inr (.inl ()))
def F42 (a0 : GComplex) : Option Bool :=
  (F67 a0.Prime).bind fun x1 =>
  if x1 = true then
    (F86 a0).bind fun x3 =>
    (F56 x3 0 5).bind fun x5 =>
    if x5 = true then
      if (a0.Maps.length : Int) = x3 then
        (F82 a0.Dims (fun x => F88 x)).bind fun x10 =>
        if x10 = true then
          some false
        else
          (forR 0 (a0.Maps.length : Int) (F42_1_B a0) (F42_1_D a0) ()).bind fun t26 => match t26 with
            | .inl _ =>
              (loopW (F42_2_S a0) 2).bind fun t49 => match t49 with
                | .inl _ =>
                  some true
                | .inr r50 => some r50
            | .inr r51 => some r51
      else
        some false
    else
      some false
  else
    some false
def I42_1 (a0 : GComplex)  (v34_1 : Int) (s : Unit) (e : Env) (h : Heap) : Prop :=
  ∃ k13 : Nat, h = ⟨[(0, none)], k13⟩ ∧ e.length = 86 ∧ e.at 1 = V.iptr [V.int .i64 a0.Prime, V.isl (List.map Enc.enc a0.Dims), V.isl (List.map Enc.enc a0.Maps)] ∧ e.at 32 = V.isl (List.map Enc.enc a0.Maps) ∧ e.at 33 = V.int .i64 (a0.Maps.length : Int) ∧ e.at 34 = V.int .i64 v34_1
def P42_1 (a0 : GComplex)  (t : (Unit) ⊕ Bool) (x : Ex) (e : Env) (h : Heap) : Prop :=
  match t with
  | .inl _ => x = .normal ∧ ∃ k13 : Nat, h = ⟨[(0, none)], k13⟩ ∧ e.length = 86 ∧ e.at 1 = V.iptr [V.int .i64 a0.Prime, V.isl (List.map Enc.enc a0.Dims), V.isl (List.map Enc.enc a0.Maps)]
  | .inr r => x = .ret ∧ Fin p42 (Enc.enc r) .ret e h
theorem l42_1 (a0 : GComplex)   {lo : Int} {s : Unit} {t : (Unit) ⊕ Bool} (hF : forR lo (a0.Maps.length : Int) (F42_1_B a0) (F42_1_D a0) s = some t) {e : Env} {h : Heap} (hI : I42_1 a0  lo s e h) : W A c42_1 e h (P42_1 a0  t) := by
  show W A (.block 0 (.loop false b42_1)) e h _
  rw [W_block]
  refine W_forR hF 1 (by obtain ⟨_, rfl, _⟩ := hI; rfl) (I42_1 a0 ) hI ?_ ?_
  · rintro v34_1 _ e h ⟨k13, rfl, hl_12, h1_12, h32_12, h33_12, h34_12⟩ hlt hw o ho
    unfold F42_1_B at ho
    obtain ⟨x15, gx15, ho⟩ := bS ho
    obtain ⟨w16a, w16b⟩ := getI_w gx15
    have w18 : ans A 89 [V.isl (List.map Enc.enc x15)] = some (V.int .i64 (x15.length : Int)) := s89 x15  rfl
    obtain ⟨x19, gx19, ho⟩ := bS ho
    obtain ⟨w20a, w20b⟩ := getI_w gx19
    by_cases c21 : (x15.length : Int) = x19
    · rw [if_pos c21] at ho
      obtain ⟨x22, gx22, ho⟩ := bS ho
      obtain ⟨w23a, w23b⟩ := getI_w gx22
      obtain ⟨x24, gx24, ho⟩ := bS ho
      have w25 : ans A 90 [V.int .i64 a0.Prime, V.int .i64 x22, V.isl (List.map Enc.enc x15)] = some (V.bool x24) := s90 a0.Prime x22 x15  gx24
      cases x24 with
      | true =>
        rw [if_pos rfl] at ho
        have hE := Option.some.inj ho; subst hE
        simp only [↓reduceIte, Nat.reduceAdd, Nat.reduceMul, Nat.reduceSub, Nat.reduceLT, Nat.reduceLeDiff, Nat.reduceEqDiff, Nat.reducePow, Int.reducePow, Int.reduceLE, Int.reduceLT, Int.reduceEq, Int.reduceToNat, reduceCtorEq, RR, RB, RZ, RE, opEv, fillV, mapO, mapS, b42_1, hl_12, h1_12, h32_12, h33_12, h34_12, eq_true hlt, hw, w16a, w16b, w18, w20a, w20b, eq_true c21, w23a, w23b, w25]
        refine And.intro rfl (Exists.intro _ ( And.intro rfl ?_))
        simp only [↓reduceIte, Nat.reduceAdd, Nat.reduceMul, Nat.reduceSub, Nat.reduceLT, Nat.reduceLeDiff, Nat.reduceEqDiff, Nat.reducePow, Int.reducePow, Int.reduceLE, Int.reduceLT, Int.reduceEq, Int.reduceToNat, reduceCtorEq, RR, RB, RZ, RE, hl_12, h1_12, h32_12, h33_12, h34_12, eq_true hlt, hw, w16a, w16b, w18, w20a, w20b, eq_true c21, w23a, w23b, w25]
      | false =>
        rw [if_neg Bool.false_ne_true] at ho
        have hE := Option.some.inj ho; subst hE
        simp only [↓reduceIte, Nat.reduceAdd, Nat.reduceMul, Nat.reduceSub, Nat.reduceLT, Nat.reduceLeDiff, Nat.reduceEqDiff, Nat.reducePow, Int.reducePow, Int.reduceLE, Int.reduceLT, Int.reduceEq, Int.reduceToNat, reduceCtorEq, RR, RB, RZ, RE, opEv, fillV, mapO, mapS, b42_1, hl_12, h1_12, h32_12, h33_12, h34_12, eq_true hlt, hw, w16a, w16b, w18, w20a, w20b, eq_true c21, w23a, w23b, w25]
        intro ht; subst ht
        simp only [↓reduceIte, Nat.reduceAdd, Nat.reduceMul, Nat.reduceSub, Nat.reduceLT, Nat.reduceLeDiff, Nat.reduceEqDiff, Nat.reducePow, Int.reducePow, Int.reduceLE, Int.reduceLT, Int.reduceEq, Int.reduceToNat, reduceCtorEq, RR, RB]
        exact And.intro rfl (fin_ret (by simp only [↓reduceIte, Nat.reduceAdd, Nat.reduceMul, Nat.reduceSub, Nat.reduceLT, Nat.reduceLeDiff, Nat.reduceEqDiff, Nat.reducePow, Int.reducePow, Int.reduceLE, Int.reduceLT, Int.reduceEq, Int.reduceToNat, reduceCtorEq, RR, RB, RZ, RE, fn_out, p42, Rs.ev, mapO, mapS, take_len_self, hl_12, h1_12, h32_12, h33_12, h34_12, eq_true hlt, hw, w16a, w16b, w18, w20a, w20b, eq_true c21, w23a, w23b, w25]))
    · rw [if_neg c21] at ho
      have hE := Option.some.inj ho; subst hE
      simp only [↓reduceIte, Nat.reduceAdd, Nat.reduceMul, Nat.reduceSub, Nat.reduceLT, Nat.reduceLeDiff, Nat.reduceEqDiff, Nat.reducePow, Int.reducePow, Int.reduceLE, Int.reduceLT, Int.reduceEq, Int.reduceToNat, reduceCtorEq, RR, RB, RZ, RE, opEv, fillV, mapO, mapS, b42_1, hl_12, h1_12, h32_12, h33_12, h34_12, eq_true hlt, hw, w16a, w16b, w18, w20a, w20b, eq_false c21]
      intro ht; subst ht
      simp only [↓reduceIte, Nat.reduceAdd, Nat.reduceMul, Nat.reduceSub, Nat.reduceLT, Nat.reduceLeDiff, Nat.reduceEqDiff, Nat.reducePow, Int.reducePow, Int.reduceLE, Int.reduceLT, Int.reduceEq, Int.reduceToNat, reduceCtorEq, RR, RB]
      exact And.intro rfl (fin_ret (by simp only [↓reduceIte, Nat.reduceAdd, Nat.reduceMul, Nat.reduceSub, Nat.reduceLT, Nat.reduceLeDiff, Nat.reduceEqDiff, Nat.reducePow, Int.reducePow, Int.reduceLE, Int.reduceLT, Int.reduceEq, Int.reduceToNat, reduceCtorEq, RR, RB, RZ, RE, fn_out, p42, Rs.ev, mapO, mapS, take_len_self, hl_12, h1_12, h32_12, h33_12, h34_12, eq_true hlt, hw, w16a, w16b, w18, w20a, w20b, eq_false c21]))
  · rintro v34_1 _ e h ⟨k13, rfl, hl_12, h1_12, h32_12, h33_12, h34_12⟩ hge t1 ho
    unfold F42_1_D at ho
    have hE := Option.some.inj ho; subst hE
    simp only [↓reduceIte, Nat.reduceAdd, Nat.reduceMul, Nat.reduceSub, Nat.reduceLT, Nat.reduceLeDiff, Nat.reduceEqDiff, Nat.reducePow, Int.reducePow, Int.reduceLE, Int.reduceLT, Int.reduceEq, Int.reduceToNat, reduceCtorEq, RR, RB, RZ, RE, opEv, fillV, mapO, mapS, b42_1, hl_12, h1_12, h32_12, h33_12, h34_12, eq_false hge]
    intro ht; subst ht
    refine And.intro rfl (Exists.intro _ ( And.intro rfl ?_))
    simp only [↓reduceIte, Nat.reduceAdd, Nat.reduceMul, Nat.reduceSub, Nat.reduceLT, Nat.reduceLeDiff, Nat.reduceEqDiff, Nat.reducePow, Int.reducePow, Int.reduceLE, Int.reduceLT, Int.reduceEq, Int.reduceToNat, reduceCtorEq, RR, RB, RZ, RE, hl_12, h1_12, h32_12, h33_12, h34_12, eq_false hge]
def I42_3 (a0 : GComplex) (v5_2 : Int) (x34 : List (List Int))  (v74_3 : Int) (s : Unit) (e : Env) (h : Heap) : Prop :=
  ∃ k37 : Nat, h = ⟨[(0, none)], k37⟩ ∧ e.length = 86 ∧ e.at 1 = V.iptr [V.int .i64 a0.Prime, V.isl (List.map Enc.enc a0.Dims), V.isl (List.map Enc.enc a0.Maps)] ∧ e.at 5 = V.int .i64 v5_2 ∧ e.at 72 = V.isl (List.map Enc.enc x34) ∧ e.at 73 = V.int .i64 (x34.length : Int) ∧ e.at 74 = V.int .i64 v74_3
def P42_3 (a0 : GComplex) (v5_2 : Int) (x34 : List (List Int))  (t : (Unit) ⊕ Bool) (x : Ex) (e : Env) (h : Heap) : Prop :=
  match t with
  | .inl _ => x = .normal ∧ ∃ k37 : Nat, h = ⟨[(0, none)], k37⟩ ∧ e.length = 86 ∧ e.at 1 = V.iptr [V.int .i64 a0.Prime, V.isl (List.map Enc.enc a0.Dims), V.isl (List.map Enc.enc a0.Maps)] ∧ e.at 5 = V.int .i64 v5_2
  | .inr r => x = .ret ∧ Fin p42 (Enc.enc r) .ret e h
theorem l42_3 (a0 : GComplex) (v5_2 : Int) (x34 : List (List Int))   {lo : Int} {s : Unit} {t : (Unit) ⊕ Bool} (hF : forR lo (x34.length : Int) (F42_3_B a0 v5_2 x34) (F42_3_D a0 v5_2 x34) s = some t) {e : Env} {h : Heap} (hI : I42_3 a0 v5_2 x34  lo s e h) : W A c42_3 e h (P42_3 a0 v5_2 x34  t) := by
  show W A (.block 4 (.loop false b42_3)) e h _
  rw [W_block]
  refine W_forR hF 1 (by obtain ⟨_, rfl, _⟩ := hI; rfl) (I42_3 a0 v5_2 x34 ) hI ?_ ?_
  · rintro v74_3 _ e h ⟨k37, rfl, hl_36, h1_36, h5_36, h72_36, h73_36, h74_36⟩ hlt hw o ho
    unfold F42_3_B at ho
    obtain ⟨x39, gx39, ho⟩ := bS ho
    obtain ⟨w40a, w40b⟩ := getI_w gx39
    obtain ⟨x41, gx41, ho⟩ := bS ho
    have wx41 := chk_w gx41
    obtain ⟨x42, gx42, ho⟩ := bS ho
    have w43 : ans A 91 [V.agg [V.int .i64 a0.Prime, V.isl (List.map Enc.enc a0.Dims), V.isl (List.map Enc.enc a0.Maps)], V.int .i64 x41, V.isl (List.map Enc.enc x39)] = some (V.isl (List.map Enc.enc x42)) := s91 a0 x41 x39  gx42
    obtain ⟨x44, gx44, ho⟩ := bS ho
    have w45 : ans A 92 [V.isl (List.map Enc.enc x42)] = some (V.bool x44) := s92 x42  gx44
    cases x44 with
    | true =>
      rw [if_pos rfl] at ho
      have hE := Option.some.inj ho; subst hE
      simp only [↓reduceIte, Nat.reduceAdd, Nat.reduceMul, Nat.reduceSub, Nat.reduceLT, Nat.reduceLeDiff, Nat.reduceEqDiff, Nat.reducePow, Int.reducePow, Int.reduceLE, Int.reduceLT, Int.reduceEq, Int.reduceToNat, reduceCtorEq, RR, RB, RZ, RE, opEv, fillV, mapO, mapS, b42_3, hl_36, h1_36, h5_36, h72_36, h73_36, h74_36, eq_true hlt, hw, w40a, w40b, wx41, w43, w45]
      refine And.intro rfl (Exists.intro _ ( And.intro rfl ?_))
      simp only [↓reduceIte, Nat.reduceAdd, Nat.reduceMul, Nat.reduceSub, Nat.reduceLT, Nat.reduceLeDiff, Nat.reduceEqDiff, Nat.reducePow, Int.reducePow, Int.reduceLE, Int.reduceLT, Int.reduceEq, Int.reduceToNat, reduceCtorEq, RR, RB, RZ, RE, hl_36, h1_36, h5_36, h72_36, h73_36, h74_36, eq_true hlt, hw, w40a, w40b, wx41, w43, w45]
    | false =>
      rw [if_neg Bool.false_ne_true] at ho
      have hE := Option.some.inj ho; subst hE
      simp only [↓reduceIte, Nat.reduceAdd, Nat.reduceMul, Nat.reduceSub, Nat.reduceLT, Nat.reduceLeDiff, Nat.reduceEqDiff, Nat.reducePow, Int.reducePow, Int.reduceLE, Int.reduceLT, Int.reduceEq, Int.reduceToNat, reduceCtorEq, RR, RB, RZ, RE, opEv, fillV, mapO, mapS, b42_3, hl_36, h1_36, h5_36, h72_36, h73_36, h74_36, eq_true hlt, hw, w40a, w40b, wx41, w43, w45]
      intro ht; subst ht
      simp only [↓reduceIte, Nat.reduceAdd, Nat.reduceMul, Nat.reduceSub, Nat.reduceLT, Nat.reduceLeDiff, Nat.reduceEqDiff, Nat.reducePow, Int.reducePow, Int.reduceLE, Int.reduceLT, Int.reduceEq, Int.reduceToNat, reduceCtorEq, RR, RB]
      exact And.intro rfl (fin_ret (by simp only [↓reduceIte, Nat.reduceAdd, Nat.reduceMul, Nat.reduceSub, Nat.reduceLT, Nat.reduceLeDiff, Nat.reduceEqDiff, Nat.reducePow, Int.reducePow, Int.reduceLE, Int.reduceLT, Int.reduceEq, Int.reduceToNat, reduceCtorEq, RR, RB, RZ, RE, fn_out, p42, Rs.ev, mapO, mapS, take_len_self, hl_36, h1_36, h5_36, h72_36, h73_36, h74_36, eq_true hlt, hw, w40a, w40b, wx41, w43, w45]))
  · rintro v74_3 _ e h ⟨k37, rfl, hl_36, h1_36, h5_36, h72_36, h73_36, h74_36⟩ hge t1 ho
    unfold F42_3_D at ho
    have hE := Option.some.inj ho; subst hE
    simp only [↓reduceIte, Nat.reduceAdd, Nat.reduceMul, Nat.reduceSub, Nat.reduceLT, Nat.reduceLeDiff, Nat.reduceEqDiff, Nat.reducePow, Int.reducePow, Int.reduceLE, Int.reduceLT, Int.reduceEq, Int.reduceToNat, reduceCtorEq, RR, RB, RZ, RE, opEv, fillV, mapO, mapS, b42_3, hl_36, h1_36, h5_36, h72_36, h73_36, h74_36, eq_false hge]
    intro ht; subst ht
    refine And.intro rfl (Exists.intro _ ( And.intro rfl ?_))
    simp only [↓reduceIte, Nat.reduceAdd, Nat.reduceMul, Nat.reduceSub, Nat.reduceLT, Nat.reduceLeDiff, Nat.reduceEqDiff, Nat.reducePow, Int.reducePow, Int.reduceLE, Int.reduceLT, Int.reduceEq, Int.reduceToNat, reduceCtorEq, RR, RB, RZ, RE, hl_36, h1_36, h5_36, h72_36, h73_36, h74_36, eq_false hge]
def I42_2 (a0 : GComplex)  (v5_2 : Int) (e : Env) (h : Heap) : Prop :=
  ∃ k28 : Nat, h = ⟨[(0, none)], k28⟩ ∧ e.length = 86 ∧ e.at 1 = V.iptr [V.int .i64 a0.Prime, V.isl (List.map Enc.enc a0.Dims), V.isl (List.map Enc.enc a0.Maps)] ∧ e.at 5 = V.int .i64 v5_2
def P42_2 (a0 : GComplex)  (t : (Unit) ⊕ Bool) (x : Ex) (e : Env) (h : Heap) : Prop :=
  match t with
  | .inl _ => x = .normal ∧ ∃ k28 : Nat, h = ⟨[(0, none)], k28⟩ ∧ e.length = 86
  | .inr r => x = .ret ∧ Fin p42 (Enc.enc r) .ret e h
theorem l42_2 (a0 : GComplex)   {s : Int} {t : (Unit) ⊕ Bool} (hF : loopW (F42_2_S a0) s = some t) {e : Env} {h : Heap} (hI : I42_2 a0  s e h) : W A c42_2 e h (P42_2 a0  t) := by
  show W A (.block 2 (.loop false b42_2)) e h _
  rw [W_block]
  refine W_loop hF 1 (by obtain ⟨_, rfl, _⟩ := hI; rfl) (I42_2 a0 ) hI ?_
  · rintro v5_2 e h ⟨k28, rfl, hl_27, h1_27, h5_27⟩ o ho
    unfold F42_2_S at ho
    obtain ⟨x30, gx30, ho⟩ := bS ho
    have w31 : ans A 86 [V.agg [V.int .i64 a0.Prime, V.isl (List.map Enc.enc a0.Dims), V.isl (List.map Enc.enc a0.Maps)]] = some (V.int .i64 x30) := s86 a0  gx30
    by_cases c32 : v5_2 ≤ x30
    · rw [if_pos c32] at ho
      obtain ⟨x33, gx33, ho⟩ := bS ho
      have wx33 := chk_w gx33
      obtain ⟨x34, gx34, ho⟩ := bS ho
      obtain ⟨w35a, w35b⟩ := getI_w gx34
      obtain ⟨t46, gt46, ho⟩ := bS ho
      rcases t46 with _ | r48
      · dsimp only at ho
        simp only [↓reduceIte, Nat.reduceAdd, Nat.reduceMul, Nat.reduceSub, Nat.reduceLT, Nat.reduceLeDiff, Nat.reduceEqDiff, Nat.reducePow, Int.reducePow, Int.reduceLE, Int.reduceLT, Int.reduceEq, Int.reduceToNat, reduceCtorEq, RR, RB, RZ, RE, opEv, fillV, mapO, mapS, b42_2, hl_27, h1_27, h5_27, w31, eq_true c32, wx33, w35a, w35b]
        refine W.mono (l42_3 a0 v5_2 x34   gt46 (Exists.intro _ ( And.intro rfl ?_))) ?_
        · simp only [↓reduceIte, Nat.reduceAdd, Nat.reduceMul, Nat.reduceSub, Nat.reduceLT, Nat.reduceLeDiff, Nat.reduceEqDiff, Nat.reducePow, Int.reducePow, Int.reduceLE, Int.reduceLT, Int.reduceEq, Int.reduceToNat, reduceCtorEq, RR, RB, RZ, RE, hl_27, h1_27, h5_27, w31, eq_true c32, wx33, w35a, w35b]
        rintro _ e _ ⟨rfl, k37, rfl, hl_38, h1_38, h5_38⟩
        obtain ⟨x47, gx47, ho⟩ := bS ho
        have wx47 := chk_w gx47
        have hE := Option.some.inj ho; subst hE
        simp only [↓reduceIte, Nat.reduceAdd, Nat.reduceMul, Nat.reduceSub, Nat.reduceLT, Nat.reduceLeDiff, Nat.reduceEqDiff, Nat.reducePow, Int.reducePow, Int.reduceLE, Int.reduceLT, Int.reduceEq, Int.reduceToNat, reduceCtorEq, RR, RB, RZ, RE, opEv, fillV, mapO, mapS, hl_38, h1_38, h5_38, eq_true c32, wx47]
        refine And.intro rfl (Exists.intro _ ( And.intro rfl ?_))
        simp only [↓reduceIte, Nat.reduceAdd, Nat.reduceMul, Nat.reduceSub, Nat.reduceLT, Nat.reduceLeDiff, Nat.reduceEqDiff, Nat.reducePow, Int.reducePow, Int.reduceLE, Int.reduceLT, Int.reduceEq, Int.reduceToNat, reduceCtorEq, RR, RB, RZ, RE, hl_38, h1_38, h5_38, eq_true c32, wx47]
      · dsimp only at ho
        have hE := Option.some.inj ho; subst hE
        simp only [↓reduceIte, Nat.reduceAdd, Nat.reduceMul, Nat.reduceSub, Nat.reduceLT, Nat.reduceLeDiff, Nat.reduceEqDiff, Nat.reducePow, Int.reducePow, Int.reduceLE, Int.reduceLT, Int.reduceEq, Int.reduceToNat, reduceCtorEq, RR, RB, RZ, RE, opEv, fillV, mapO, mapS, b42_2, hl_27, h1_27, h5_27, w31, eq_true c32, wx33, w35a, w35b]
        refine W.mono (l42_3 a0 v5_2 x34   gt46 (Exists.intro _ ( And.intro rfl ?_))) ?_
        · simp only [↓reduceIte, Nat.reduceAdd, Nat.reduceMul, Nat.reduceSub, Nat.reduceLT, Nat.reduceLeDiff, Nat.reduceEqDiff, Nat.reducePow, Int.reducePow, Int.reduceLE, Int.reduceLT, Int.reduceEq, Int.reduceToNat, reduceCtorEq, RR, RB, RZ, RE, hl_27, h1_27, h5_27, w31, eq_true c32, wx33, w35a, w35b]
        rintro _ e h ⟨rfl, hq⟩
        simp only [↓reduceIte, Nat.reduceAdd, Nat.reduceMul, Nat.reduceSub, Nat.reduceLT, Nat.reduceLeDiff, Nat.reduceEqDiff, Nat.reducePow, Int.reducePow, Int.reduceLE, Int.reduceLT, Int.reduceEq, Int.reduceToNat, reduceCtorEq, RR, RB]
        intro ht; subst ht
        simp only [↓reduceIte, Nat.reduceAdd, Nat.reduceMul, Nat.reduceSub, Nat.reduceLT, Nat.reduceLeDiff, Nat.reduceEqDiff, Nat.reducePow, Int.reducePow, Int.reduceLE, Int.reduceLT, Int.reduceEq, Int.reduceToNat, reduceCtorEq, RR, RB]
        exact And.intro rfl hq
    · rw [if_neg c32] at ho
      have hE := Option.some.inj ho; subst hE
      simp only [↓reduceIte, Nat.reduceAdd, Nat.reduceMul, Nat.reduceSub, Nat.reduceLT, Nat.reduceLeDiff, Nat.reduceEqDiff, Nat.reducePow, Int.reducePow, Int.reduceLE, Int.reduceLT, Int.reduceEq, Int.reduceToNat, reduceCtorEq, RR, RB, RZ, RE, opEv, fillV, mapO, mapS, b42_2, hl_27, h1_27, h5_27, w31, eq_false c32]
      intro ht; subst ht
      simp only [↓reduceIte, Nat.reduceAdd, Nat.reduceMul, Nat.reduceSub, Nat.reduceLT, Nat.reduceLeDiff, Nat.reduceEqDiff, Nat.reducePow, Int.reducePow, Int.reduceLE, Int.reduceLT, Int.reduceEq, Int.reduceToNat, reduceCtorEq, RR, RB]
      refine And.intro rfl (Exists.intro _ ( And.intro rfl ?_))
      simp only [↓reduceIte, Nat.reduceAdd, Nat.reduceMul, Nat.reduceSub, Nat.reduceLT, Nat.reduceLeDiff, Nat.reduceEqDiff, Nat.reducePow, Int.reducePow, Int.reduceLE, Int.reduceLT, Int.reduceEq, Int.reduceToNat, reduceCtorEq, RR, RB, RZ, RE, hl_27, h1_27, h5_27, w31, eq_false c32]
theorem s42 (a0 : GComplex)   {r : Bool} (hF : F42 a0 = some r) : ans A 42 [V.agg [V.int .i64 a0.Prime, V.isl (List.map Enc.enc a0.Dims), V.isl (List.map Enc.enc a0.Maps)]] = some (Enc.enc r) := by
  refine ans_of (f := p42) rfl rfl rfl fun e hl he => ?_
  have h0_0 : e.at 0 = V.agg [V.int .i64 a0.Prime, V.isl (List.map Enc.enc a0.Dims), V.isl (List.map Enc.enc a0.Maps)] := he 0 _ rfl
  have hl_0 : e.length = 86 := hl
  clear he hl
  show W A b42 e ⟨[], 0⟩ _
  unfold F42 at hF
  obtain ⟨x1, gx1, hF⟩ := bS hF
  have w2 : ans A 67 [V.int .i64 a0.Prime] = some (V.bool x1) := s67 a0.Prime  gx1
  cases x1 with
  | true =>
    rw [if_pos rfl] at hF
    obtain ⟨x3, gx3, hF⟩ := bS hF
    have w4 : ans A 86 [V.agg [V.int .i64 a0.Prime, V.isl (List.map Enc.enc a0.Dims), V.isl (List.map Enc.enc a0.Maps)]] = some (V.int .i64 x3) := s86 a0  gx3
    obtain ⟨x5, gx5, hF⟩ := bS hF
    have w6 : ans A 56 [V.int .i64 x3, V.int .i64 0, V.int .i64 5] = some (V.bool x5) := s56 x3 0 5  gx5
    cases x5 with
    | true =>
      rw [if_pos rfl] at hF
      have w8 : ans A 87 [V.isl (List.map Enc.enc a0.Maps)] = some (V.int .i64 (a0.Maps.length : Int)) := s87 a0.Maps  rfl
      by_cases c9 : (a0.Maps.length : Int) = x3
      · rw [if_pos c9] at hF
        obtain ⟨x10, gx10, hF⟩ := bS hF
        have w11 : ans A 82 [V.isl (List.map Enc.enc a0.Dims), V.fn 88 [] []] = some (V.bool x10) := s82 a0.Dims (fun x => F88 x) (Clo1.of (by intro h f; simp only [RZ, mapO]) (by intro h f; simp only [RZ, mapO]) (by intro f; simp only [RZ, RB]) (by intro f; simp only [RZ, RB]) (fun x _ hr => s88 x hr)) gx10
        cases x10 with
        | true =>
          rw [if_pos rfl] at hF
          have hE := Option.some.inj hF; subst hE
          simp only [↓reduceIte, Nat.reduceAdd, Nat.reduceMul, Nat.reduceSub, Nat.reduceLT, Nat.reduceLeDiff, Nat.reduceEqDiff, Nat.reducePow, Int.reducePow, Int.reduceLE, Int.reduceLT, Int.reduceEq, Int.reduceToNat, reduceCtorEq, RR, RB, RZ, RE, opEv, fillV, mapO, mapS, b42, hl_0, h0_0, w2, w4, w6, w8, eq_true c9, w11]
          exact fin_ret (by simp only [↓reduceIte, Nat.reduceAdd, Nat.reduceMul, Nat.reduceSub, Nat.reduceLT, Nat.reduceLeDiff, Nat.reduceEqDiff, Nat.reducePow, Int.reducePow, Int.reduceLE, Int.reduceLT, Int.reduceEq, Int.reduceToNat, reduceCtorEq, RR, RB, RZ, RE, fn_out, p42, Rs.ev, mapO, mapS, take_len_self, hl_0, h0_0, w2, w4, w6, w8, eq_true c9, w11])
        | false =>
          rw [if_neg Bool.false_ne_true] at hF
          obtain ⟨t26, gt26, hF⟩ := bS hF
          rcases t26 with _ | r51
          · dsimp only at hF
            simp only [↓reduceIte, Nat.reduceAdd, Nat.reduceMul, Nat.reduceSub, Nat.reduceLT, Nat.reduceLeDiff, Nat.reduceEqDiff, Nat.reducePow, Int.reducePow, Int.reduceLE, Int.reduceLT, Int.reduceEq, Int.reduceToNat, reduceCtorEq, RR, RB, RZ, RE, opEv, fillV, mapO, mapS, b42, hl_0, h0_0, w2, w4, w6, w8, eq_true c9, w11]
            refine W.mono (l42_1 a0   gt26 (Exists.intro _ ( And.intro rfl ?_))) ?_
            · simp only [↓reduceIte, Nat.reduceAdd, Nat.reduceMul, Nat.reduceSub, Nat.reduceLT, Nat.reduceLeDiff, Nat.reduceEqDiff, Nat.reducePow, Int.reducePow, Int.reduceLE, Int.reduceLT, Int.reduceEq, Int.reduceToNat, reduceCtorEq, RR, RB, RZ, RE, hl_0, h0_0, w2, w4, w6, w8, eq_true c9, w11]
            rintro _ e _ ⟨rfl, k13, rfl, hl_14, h1_14⟩
            obtain ⟨t49, gt49, hF⟩ := bS hF
            rcases t49 with _ | r50
            · dsimp only at hF
              simp only [↓reduceIte, Nat.reduceAdd, Nat.reduceMul, Nat.reduceSub, Nat.reduceLT, Nat.reduceLeDiff, Nat.reduceEqDiff, Nat.reducePow, Int.reducePow, Int.reduceLE, Int.reduceLT, Int.reduceEq, Int.reduceToNat, reduceCtorEq, RR, RB, RZ, RE, opEv, fillV, mapO, mapS, hl_14, h1_14, eq_true c9]
              refine W.mono (l42_2 a0   gt49 (Exists.intro _ ( And.intro rfl ?_))) ?_
              · simp only [↓reduceIte, Nat.reduceAdd, Nat.reduceMul, Nat.reduceSub, Nat.reduceLT, Nat.reduceLeDiff, Nat.reduceEqDiff, Nat.reducePow, Int.reducePow, Int.reduceLE, Int.reduceLT, Int.reduceEq, Int.reduceToNat, reduceCtorEq, RR, RB, RZ, RE, hl_14, h1_14, eq_true c9]
              rintro _ e _ ⟨rfl, k28, rfl, hl_29⟩
              have hE := Option.some.inj hF; subst hE
              simp only [↓reduceIte, Nat.reduceAdd, Nat.reduceMul, Nat.reduceSub, Nat.reduceLT, Nat.reduceLeDiff, Nat.reduceEqDiff, Nat.reducePow, Int.reducePow, Int.reduceLE, Int.reduceLT, Int.reduceEq, Int.reduceToNat, reduceCtorEq, RR, RB, RZ, RE, opEv, fillV, mapO, mapS, hl_29, eq_true c9]
              exact fin_ret (by simp only [↓reduceIte, Nat.reduceAdd, Nat.reduceMul, Nat.reduceSub, Nat.reduceLT, Nat.reduceLeDiff, Nat.reduceEqDiff, Nat.reducePow, Int.reducePow, Int.reduceLE, Int.reduceLT, Int.reduceEq, Int.reduceToNat, reduceCtorEq, RR, RB, RZ, RE, fn_out, p42, Rs.ev, mapO, mapS, take_len_self, hl_29, eq_true c9])
            · dsimp only at hF
              have hE := Option.some.inj hF; subst hE
              simp only [↓reduceIte, Nat.reduceAdd, Nat.reduceMul, Nat.reduceSub, Nat.reduceLT, Nat.reduceLeDiff, Nat.reduceEqDiff, Nat.reducePow, Int.reducePow, Int.reduceLE, Int.reduceLT, Int.reduceEq, Int.reduceToNat, reduceCtorEq, RR, RB, RZ, RE, opEv, fillV, mapO, mapS, hl_14, h1_14, eq_true c9]
              refine W.mono (l42_2 a0   gt49 (Exists.intro _ ( And.intro rfl ?_))) ?_
              · simp only [↓reduceIte, Nat.reduceAdd, Nat.reduceMul, Nat.reduceSub, Nat.reduceLT, Nat.reduceLeDiff, Nat.reduceEqDiff, Nat.reducePow, Int.reducePow, Int.reduceLE, Int.reduceLT, Int.reduceEq, Int.reduceToNat, reduceCtorEq, RR, RB, RZ, RE, hl_14, h1_14, eq_true c9]
              rintro _ e h ⟨rfl, hq⟩
              simp only [↓reduceIte, Nat.reduceAdd, Nat.reduceMul, Nat.reduceSub, Nat.reduceLT, Nat.reduceLeDiff, Nat.reduceEqDiff, Nat.reducePow, Int.reducePow, Int.reduceLE, Int.reduceLT, Int.reduceEq, Int.reduceToNat, reduceCtorEq, RR, RB]
              exact hq
          · dsimp only at hF
            have hE := Option.some.inj hF; subst hE
            simp only [↓reduceIte, Nat.reduceAdd, Nat.reduceMul, Nat.reduceSub, Nat.reduceLT, Nat.reduceLeDiff, Nat.reduceEqDiff, Nat.reducePow, Int.reducePow, Int.reduceLE, Int.reduceLT, Int.reduceEq, Int.reduceToNat, reduceCtorEq, RR, RB, RZ, RE, opEv, fillV, mapO, mapS, b42, hl_0, h0_0, w2, w4, w6, w8, eq_true c9, w11]
            refine W.mono (l42_1 a0   gt26 (Exists.intro _ ( And.intro rfl ?_))) ?_
            · simp only [↓reduceIte, Nat.reduceAdd, Nat.reduceMul, Nat.reduceSub, Nat.reduceLT, Nat.reduceLeDiff, Nat.reduceEqDiff, Nat.reducePow, Int.reducePow, Int.reduceLE, Int.reduceLT, Int.reduceEq, Int.reduceToNat, reduceCtorEq, RR, RB, RZ, RE, hl_0, h0_0, w2, w4, w6, w8, eq_true c9, w11]
            rintro _ e h ⟨rfl, hq⟩
            simp only [↓reduceIte, Nat.reduceAdd, Nat.reduceMul, Nat.reduceSub, Nat.reduceLT, Nat.reduceLeDiff, Nat.reduceEqDiff, Nat.reducePow, Int.reducePow, Int.reduceLE, Int.reduceLT, Int.reduceEq, Int.reduceToNat, reduceCtorEq, RR, RB]
            exact hq
      · rw [if_neg c9] at hF
        have hE := Option.some.inj hF; subst hE
        simp only [↓reduceIte, Nat.reduceAdd, Nat.reduceMul, Nat.reduceSub, Nat.reduceLT, Nat.reduceLeDiff, Nat.reduceEqDiff, Nat.reducePow, Int.reducePow, Int.reduceLE, Int.reduceLT, Int.reduceEq, Int.reduceToNat, reduceCtorEq, RR, RB, RZ, RE, opEv, fillV, mapO, mapS, b42, hl_0, h0_0, w2, w4, w6, w8, eq_false c9]
        exact fin_ret (by simp only [↓reduceIte, Nat.reduceAdd, Nat.reduceMul, Nat.reduceSub, Nat.reduceLT, Nat.reduceLeDiff, Nat.reduceEqDiff, Nat.reducePow, Int.reducePow, Int.reduceLE, Int.reduceLT, Int.reduceEq, Int.reduceToNat, reduceCtorEq, RR, RB, RZ, RE, fn_out, p42, Rs.ev, mapO, mapS, take_len_self, hl_0, h0_0, w2, w4, w6, w8, eq_false c9])
    | false =>
      rw [if_neg Bool.false_ne_true] at hF
      have hE := Option.some.inj hF; subst hE
      simp only [↓reduceIte, Nat.reduceAdd, Nat.reduceMul, Nat.reduceSub, Nat.reduceLT, Nat.reduceLeDiff, Nat.reduceEqDiff, Nat.reducePow, Int.reducePow, Int.reduceLE, Int.reduceLT, Int.reduceEq, Int.reduceToNat, reduceCtorEq, RR, RB, RZ, RE, opEv, fillV, mapO, mapS, b42, hl_0, h0_0, w2, w4, w6]
      exact fin_ret (by simp only [↓reduceIte, Nat.reduceAdd, Nat.reduceMul, Nat.reduceSub, Nat.reduceLT, Nat.reduceLeDiff, Nat.reduceEqDiff, Nat.reducePow, Int.reducePow, Int.reduceLE, Int.reduceLT, Int.reduceEq, Int.reduceToNat, reduceCtorEq, RR, RB, RZ, RE, fn_out, p42, Rs.ev, mapO, mapS, take_len_self, hl_0, h0_0, w2, w4, w6])
  | false =>
    rw [if_neg Bool.false_ne_true] at hF
    have hE := Option.some.inj hF; subst hE
    simp only [↓reduceIte, Nat.reduceAdd, Nat.reduceMul, Nat.reduceSub, Nat.reduceLT, Nat.reduceLeDiff, Nat.reduceEqDiff, Nat.reducePow, Int.reducePow, Int.reduceLE, Int.reduceLT, Int.reduceEq, Int.reduceToNat, reduceCtorEq, RR, RB, RZ, RE, opEv, fillV, mapO, mapS, b42, hl_0, h0_0, w2]
    exact fin_ret (by simp only [↓reduceIte, Nat.reduceAdd, Nat.reduceMul, Nat.reduceSub, Nat.reduceLT, Nat.reduceLeDiff, Nat.reduceEqDiff, Nat.reducePow, Int.reducePow, Int.reduceLE, Int.reduceLT, Int.reduceEq, Int.reduceToNat, reduceCtorEq, RR, RB, RZ, RE, fn_out, p42, Rs.ev, mapO, mapS, take_len_self, hl_0, h0_0, w2])
/-! loop.example/g01273/impl.IsFiltered$1 -/
def F83 (a0 : Int) : Option Bool :=
  (F56 a0 0 5).bind fun x1 =>
  some (!x1)
theorem s83 (a0 : Int)   {r : Bool} (hF : F83 a0 = some r) : ans A 83 [V.int .i64 a0] = some (Enc.enc r) := by
  refine ans_of (f := p83) rfl rfl rfl fun e hl he => ?_
  have h0_0 : e.at 0 = V.int .i64 a0 := he 0 _ rfl
  have hl_0 : e.length = 6 := hl
  clear he hl
  show W A b83 e ⟨[], 0⟩ _
  unfold F83 at hF
  obtain ⟨x1, gx1, hF⟩ := bS hF
  have w2 : ans A 56 [V.int .i64 a0, V.int .i64 0, V.int .i64 5] = some (V.bool x1) := s56 a0 0 5  gx1
  have hE := Option.some.inj hF; subst hE
  simp only [↓reduceIte, Nat.reduceAdd, Nat.reduceMul, Nat.reduceSub, Nat.reduceLT, Nat.reduceLeDiff, Nat.reduceEqDiff, Nat.reducePow, Int.reducePow, Int.reduceLE, Int.reduceLT, Int.reduceEq, Int.reduceToNat, reduceCtorEq, RR, RB, RZ, RE, opEv, fillV, mapO, mapS, b83, hl_0, h0_0, w2]
  exact fin_ret (by simp only [↓reduceIte, Nat.reduceAdd, Nat.reduceMul, Nat.reduceSub, Nat.reduceLT, Nat.reduceLeDiff, Nat.reduceEqDiff, Nat.reducePow, Int.reducePow, Int.reduceLE, Int.reduceLT, Int.reduceEq, Int.reduceToNat, reduceCtorEq, RR, RB, RZ, RE, fn_out, p83, Rs.ev, mapO, mapS, take_len_self, hl_0, h0_0, w2])
/-! loop.example/g01273/impl.IsFiltered$2 -/
def F84 (a0 : Int) (a1 : Int) (a2 : Int) (a3 : Int) (d0 : Bool) (d1 : GFiltered) : Option Bool :=
  if d0 = true then
    if a3 = 0 then
      some true
    else
      (chk (a0 - 1)).bind fun x2 =>
      (getI d1.Levels x2).bind fun x3 =>
      (getI x3 a2).bind fun x5 =>
      (getI d1.Levels a0).bind fun x7 =>
      (getI x7 a1).bind fun x9 =>
      some (decide (x5 ≤ x9))
  else
    some false
theorem q84 (r0 : Nat × Option (List V)) (r1 : Nat × Option (List V)) (uid clk : Nat) (G : List (Nat × Option (List V))) (a0 : Int) (a1 : Int) (a2 : Int) (a3 : Int) (d0 : Bool) (d1 : GFiltered) {r : Bool} (hF : F84 a0 a1 a2 a3 d0 d1 = some r) : res A 84 [V.int .i64 a0, V.int .i64 a1, V.int .i64 a2, V.int .i64 a3, V.ptr 2 uid 0, V.iptr [V.int .i64 d1.Complex.Prime, V.isl (List.map Enc.enc d1.Complex.Dims), V.isl (List.map Enc.enc d1.Complex.Maps), V.isl (List.map Enc.enc d1.Levels)]] ⟨r0 :: r1 :: (uid, some [V.bool d0]) :: G, clk⟩ = some (V.undef, ⟨r0 :: r1 :: (uid, some [V.bool r]) :: G, clk⟩) := by
  refine res_of (f := p84) rfl rfl rfl fun e hl he => ?_
  have h0_0 : e.at 0 = V.int .i64 a0 := he 0 _ rfl
  have h1_0 : e.at 1 = V.int .i64 a1 := he 1 _ rfl
  have h2_0 : e.at 2 = V.int .i64 a2 := he 2 _ rfl
  have h3_0 : e.at 3 = V.int .i64 a3 := he 3 _ rfl
  have h4_0 : e.at 4 = V.ptr 2 uid 0 := he 4 _ rfl
  have h5_0 : e.at 5 = V.iptr [V.int .i64 d1.Complex.Prime, V.isl (List.map Enc.enc d1.Complex.Dims), V.isl (List.map Enc.enc d1.Complex.Maps), V.isl (List.map Enc.enc d1.Levels)] := he 5 _ rfl
  have hl_0 : e.length = 35 := hl
  clear he hl
  show W A b84 e _ _
  unfold F84 at hF
  cases d0 with
  | true =>
    rw [if_pos rfl] at hF
    by_cases c1 : a3 = 0
    · rw [if_pos c1] at hF
      have hE := Option.some.inj hF; subst hE
      simp only [↓reduceIte, Nat.reduceAdd, Nat.reduceMul, Nat.reduceSub, Nat.reduceLT, Nat.reduceLeDiff, Nat.reduceEqDiff, Nat.reducePow, Int.reducePow, Int.reduceLE, Int.reduceLT, Int.reduceEq, Int.reduceToNat, reduceCtorEq, RR, RB, RZ, RE, opEv, fillV, mapO, mapS, b84, hl_0, h0_0, h1_0, h2_0, h3_0, h4_0, h5_0, eq_true c1]
      refine rfin_normal ?_ ?_
      · simp only [↓reduceIte, Nat.reduceAdd, Nat.reduceMul, Nat.reduceSub, Nat.reduceLT, Nat.reduceLeDiff, Nat.reduceEqDiff, Nat.reducePow, Int.reducePow, Int.reduceLE, Int.reduceLT, Int.reduceEq, Int.reduceToNat, reduceCtorEq, RR, RB, RZ, RE, fn_out, p84, mapO]; rfl
      · simp only [↓reduceIte, Nat.reduceAdd, Nat.reduceMul, Nat.reduceSub, Nat.reduceLT, Nat.reduceLeDiff, Nat.reduceEqDiff, Nat.reducePow, Int.reducePow, Int.reduceLE, Int.reduceLT, Int.reduceEq, Int.reduceToNat, reduceCtorEq, RR, RB, RZ, RE, hl_0, h0_0, h1_0, h2_0, h3_0, h4_0, h5_0, eq_true c1]
    · rw [if_neg c1] at hF
      obtain ⟨x2, gx2, hF⟩ := bS hF
      have wx2 := chk_w gx2
      obtain ⟨x3, gx3, hF⟩ := bS hF
      obtain ⟨w4a, w4b⟩ := getI_w gx3
      obtain ⟨x5, gx5, hF⟩ := bS hF
      obtain ⟨w6a, w6b⟩ := getI_w gx5
      obtain ⟨x7, gx7, hF⟩ := bS hF
      obtain ⟨w8a, w8b⟩ := getI_w gx7
      obtain ⟨x9, gx9, hF⟩ := bS hF
      obtain ⟨w10a, w10b⟩ := getI_w gx9
      have hE := Option.some.inj hF; subst hE
      simp only [↓reduceIte, Nat.reduceAdd, Nat.reduceMul, Nat.reduceSub, Nat.reduceLT, Nat.reduceLeDiff, Nat.reduceEqDiff, Nat.reducePow, Int.reducePow, Int.reduceLE, Int.reduceLT, Int.reduceEq, Int.reduceToNat, reduceCtorEq, RR, RB, RZ, RE, opEv, fillV, mapO, mapS, b84, hl_0, h0_0, h1_0, h2_0, h3_0, h4_0, h5_0, eq_false c1, wx2, w4a, w4b, w6a, w6b, w8a, w8b, w10a, w10b]
      refine rfin_normal ?_ ?_
      · simp only [↓reduceIte, Nat.reduceAdd, Nat.reduceMul, Nat.reduceSub, Nat.reduceLT, Nat.reduceLeDiff, Nat.reduceEqDiff, Nat.reducePow, Int.reducePow, Int.reduceLE, Int.reduceLT, Int.reduceEq, Int.reduceToNat, reduceCtorEq, RR, RB, RZ, RE, fn_out, p84, mapO]; rfl
      · simp only [↓reduceIte, Nat.reduceAdd, Nat.reduceMul, Nat.reduceSub, Nat.reduceLT, Nat.reduceLeDiff, Nat.reduceEqDiff, Nat.reducePow, Int.reducePow, Int.reduceLE, Int.reduceLT, Int.reduceEq, Int.reduceToNat, reduceCtorEq, RR, RB, RZ, RE, hl_0, h0_0, h1_0, h2_0, h3_0, h4_0, h5_0, eq_false c1, wx2, w4a, w4b, w6a, w6b, w8a, w8b, w10a, w10b]
  | false =>
    rw [if_neg Bool.false_ne_true] at hF
    have hE := Option.some.inj hF; subst hE
    simp only [↓reduceIte, Nat.reduceAdd, Nat.reduceMul, Nat.reduceSub, Nat.reduceLT, Nat.reduceLeDiff, Nat.reduceEqDiff, Nat.reducePow, Int.reducePow, Int.reduceLE, Int.reduceLT, Int.reduceEq, Int.reduceToNat, reduceCtorEq, RR, RB, RZ, RE, opEv, fillV, mapO, mapS, b84, hl_0, h0_0, h1_0, h2_0, h3_0, h4_0, h5_0]
    refine rfin_normal ?_ ?_
    · simp only [↓reduceIte, Nat.reduceAdd, Nat.reduceMul, Nat.reduceSub, Nat.reduceLT, Nat.reduceLeDiff, Nat.reduceEqDiff, Nat.reducePow, Int.reducePow, Int.reduceLE, Int.reduceLT, Int.reduceEq, Int.reduceToNat, reduceCtorEq, RR, RB, RZ, RE, fn_out, p84, mapO]; rfl
    · simp only [↓reduceIte, Nat.reduceAdd, Nat.reduceMul, Nat.reduceSub, Nat.reduceLT, Nat.reduceLeDiff, Nat.reduceEqDiff, Nat.reducePow, Int.reducePow, Int.reduceLE, Int.reduceLT, Int.reduceEq, Int.reduceToNat, reduceCtorEq, RR, RB, RZ, RE, hl_0, h0_0, h1_0, h2_0, h3_0, h4_0, h5_0]
/-! (loop.example/g01273/impl.Complex).eachNumber -/
def F85 {σ : Type} (ms : List (List (List Int))) (f : Int → Int → Int → Int → σ → Option σ) (s : σ) : Option σ :=
  forR 0 (ms.length : Int) (fun k s => (getI ms k).bind fun rows => (forR 0 (rows.length : Int) (fun i s => (getI rows i).bind fun row =>
    (forR 0 (row.length : Int) (fun j s => (getI row j).bind fun v => (chk (k + 1)).bind fun n => (f n i j v s).bind fun s' => some (.inl s')) (fun _ s => some s) s).bind fun s' => some (.inl s')) (fun _ s => some s) s).bind fun s' => some (.inl s')) (fun _ s => some s) s
structure Step4 (g : Nat) (fs cs : List V) {σ : Type} (S : σ → List (Nat × Option (List V)) → Prop) (f : Int → Int → Int → Int → σ → Option σ) : Prop where
  call : ∀ n r p v s s', f n r p v s = some s' → ∀ E c, S s E → ∃ E' c', res A g (fs ++ [V.int .i64 n, V.int .i64 r, V.int .i64 p, V.int .i64 v] ++ cs) ⟨E, c⟩ = some (V.undef, ⟨E', c'⟩) ∧ S s' E'
  pad : ∀ s E x, S s E → S s (E ++ [x])

theorem e85 {g : Nat} {fs cs : List V} {σ : Type} {S : σ → List (Nat × Option (List V)) → Prop} {f : Int → Int → Int → Int → σ → Option σ} (st : Step4 g fs cs S f) (x : GComplex) {s s' : σ} (hF : F85 x.Maps f s = some s') (E : List (Nat × Option (List V))) (c : Nat) (hS : S s E) :
    ∃ h', res A 85 [V.agg [V.int .i64 x.Prime, V.isl (List.map Enc.enc x.Dims), V.isl (List.map Enc.enc x.Maps)], V.fn g fs cs] ⟨E, c⟩ = some (V.undef, h') ∧ S s' h'.ents := by
  refine res_ex (f := p85) rfl rfl rfl fun e hl he => ?_
  have h0 : e.at 0 = V.agg [V.int .i64 x.Prime, V.isl (List.map Enc.enc x.Dims), V.isl (List.map Enc.enc x.Maps)] := he 0 _ rfl
  have h1 : e.at 1 = V.fn g fs cs := he 1 _ rfl
  have hl_0 : e.length = 42 := hl
  clear he hl
  show W A b85 e ⟨E, c⟩ _
  unfold F85 at hF
  simp only [↓reduceIte, Nat.reduceAdd, Nat.reduceMul, Nat.reduceSub, Nat.reduceLT, Nat.reduceLeDiff, Nat.reduceEqDiff, Nat.reducePow, Int.reducePow, Int.reduceLE, Int.reduceLT, Int.reduceEq, Int.reduceToNat, reduceCtorEq, RR, RB, RZ, RE, opEv, fillV, mapO, mapS, b85, hl_0, h0, h1, get_last, set_last]
  show W A (.block 0 (.loop true b85_1)) _ _ _
  rw [W_block]
  refine W_forR hF _ rfl (fun i s e h => S s h.ents ∧ e.length = 42 ∧ e.at 1 = V.fn g fs cs ∧ e.at 11 = V.isl (List.map Enc.enc x.Maps) ∧ e.at 12 = V.int .i64 (x.Maps.length : Int) ∧ e.at 13 = V.int .i64 i) ?_ ?_ ?_
  · refine And.intro (st.pad _ _ _ hS) ?_
    simp only [↓reduceIte, Nat.reduceAdd, Nat.reduceMul, Nat.reduceSub, Nat.reduceLT, Nat.reduceLeDiff, Nat.reduceEqDiff, Nat.reducePow, Int.reducePow, Int.reduceLE, Int.reduceLT, Int.reduceEq, Int.reduceToNat, reduceCtorEq, RR, RB, RZ, RE, hl_0, h0, h1]
  · rintro i s e ⟨E, c⟩ ⟨hS, hl_1, h1_1, h11_1, h12_1, h13_1⟩ hlt hw o ho
    obtain ⟨rows, g1, ho⟩ := bS ho
    obtain ⟨w1a, w1b⟩ := getI_w g1
    obtain ⟨z, g2, ho⟩ := bS ho
    have hE := Option.some.inj ho; subst hE
    simp only [↓reduceIte, Nat.reduceAdd, Nat.reduceMul, Nat.reduceSub, Nat.reduceLT, Nat.reduceLeDiff, Nat.reduceEqDiff, Nat.reducePow, Int.reducePow, Int.reduceLE, Int.reduceLT, Int.reduceEq, Int.reduceToNat, reduceCtorEq, RR, RB, RZ, RE, opEv, fillV, mapO, mapS, b85_1, hl_1, h1_1, h11_1, h12_1, h13_1, eq_true hlt, hw, w1a, w1b]
    refine W.mono (Q := fun x' e h => x' = .normal ∧ S z h.ents ∧ e.length = 42 ∧ e.at 1 = V.fn g fs cs ∧ e.at 11 = V.isl (List.map Enc.enc x.Maps) ∧ e.at 12 = V.int .i64 (x.Maps.length : Int) ∧ e.at 13 = V.int .i64 i) ?_ ?_
    rotate_left
    · rintro _ e ⟨E2, c2⟩ ⟨rfl, hS2, hl_2, h1_2, h11_2, h12_2, h13_2⟩
      simp only [↓reduceIte, Nat.reduceAdd, Nat.reduceMul, Nat.reduceSub, Nat.reduceLT, Nat.reduceLeDiff, Nat.reduceEqDiff, Nat.reducePow, Int.reducePow, Int.reduceLE, Int.reduceLT, Int.reduceEq, Int.reduceToNat, reduceCtorEq, RR, RB, RZ, RE, opEv, fillV, mapO, mapS, hl_2, h1_2, h11_2, h12_2, h13_2, hw]
      refine And.intro rfl (And.intro hS2 ?_)
      simp only [↓reduceIte, Nat.reduceAdd, Nat.reduceMul, Nat.reduceSub, Nat.reduceLT, Nat.reduceLeDiff, Nat.reduceEqDiff, Nat.reducePow, Int.reducePow, Int.reduceLE, Int.reduceLT, Int.reduceEq, Int.reduceToNat, reduceCtorEq, RR, RB, RZ, RE, hl_2, h1_2, h11_2, h12_2, h13_2, hw]
    show W A (.block 2 (.loop true b85_2)) _ _ _
    rw [W_block]
    refine W_forR g2 _ rfl (fun j s e h => S s h.ents ∧ e.length = 42 ∧ e.at 1 = V.fn g fs cs ∧ e.at 11 = V.isl (List.map Enc.enc x.Maps) ∧ e.at 12 = V.int .i64 (x.Maps.length : Int) ∧ e.at 13 = V.int .i64 i ∧ e.at 4 = V.int .i64 i ∧ e.at 18 = V.isl (List.map Enc.enc rows) ∧ e.at 19 = V.int .i64 (rows.length : Int) ∧ e.at 20 = V.int .i64 j) ?_ ?_ ?_
    · refine And.intro hS ?_
      simp only [↓reduceIte, Nat.reduceAdd, Nat.reduceMul, Nat.reduceSub, Nat.reduceLT, Nat.reduceLeDiff, Nat.reduceEqDiff, Nat.reducePow, Int.reducePow, Int.reduceLE, Int.reduceLT, Int.reduceEq, Int.reduceToNat, reduceCtorEq, RR, RB, RZ, RE, hl_1, h1_1, h11_1, h12_1, h13_1]
    · clear hl_1 h1_1 h11_1 h12_1 h13_1
      rintro j s e ⟨E, c⟩ ⟨hS, hl_1, h1_1, h11_1, h12_1, h13_1, h4_1, h18_1, h19_1, h20_1⟩ hlt2 hw2 o ho
      obtain ⟨row, g3, ho⟩ := bS ho
      obtain ⟨w3a, w3b⟩ := getI_w g3
      obtain ⟨z2, g4, ho⟩ := bS ho
      have hE := Option.some.inj ho; subst hE
      simp only [↓reduceIte, Nat.reduceAdd, Nat.reduceMul, Nat.reduceSub, Nat.reduceLT, Nat.reduceLeDiff, Nat.reduceEqDiff, Nat.reducePow, Int.reducePow, Int.reduceLE, Int.reduceLT, Int.reduceEq, Int.reduceToNat, reduceCtorEq, RR, RB, RZ, RE, opEv, fillV, mapO, mapS, b85_2, hl_1, h1_1, h11_1, h12_1, h13_1, h4_1, h18_1, h19_1, h20_1, eq_true hlt2, hw2, w3a, w3b]
      refine W.mono (Q := fun x' e h => x' = .normal ∧ S z2 h.ents ∧ e.length = 42 ∧ e.at 1 = V.fn g fs cs ∧ e.at 11 = V.isl (List.map Enc.enc x.Maps) ∧ e.at 12 = V.int .i64 (x.Maps.length : Int) ∧ e.at 13 = V.int .i64 i ∧ e.at 4 = V.int .i64 i ∧ e.at 18 = V.isl (List.map Enc.enc rows) ∧ e.at 19 = V.int .i64 (rows.length : Int) ∧ e.at 20 = V.int .i64 j) ?_ ?_
      rotate_left
      · rintro _ e ⟨E2, c2⟩ ⟨rfl, hS2, hl_2, h1_2, h11_2, h12_2, h13_2, h4_2, h18_2, h19_2, h20_2⟩
        simp only [↓reduceIte, Nat.reduceAdd, Nat.reduceMul, Nat.reduceSub, Nat.reduceLT, Nat.reduceLeDiff, Nat.reduceEqDiff, Nat.reducePow, Int.reducePow, Int.reduceLE, Int.reduceLT, Int.reduceEq, Int.reduceToNat, reduceCtorEq, RR, RB, RZ, RE, opEv, fillV, mapO, mapS, hl_2, h1_2, h11_2, h12_2, h13_2, h4_2, h18_2, h19_2, h20_2, hw2]
        refine And.intro rfl (And.intro hS2 ?_)
        simp only [↓reduceIte, Nat.reduceAdd, Nat.reduceMul, Nat.reduceSub, Nat.reduceLT, Nat.reduceLeDiff, Nat.reduceEqDiff, Nat.reducePow, Int.reducePow, Int.reduceLE, Int.reduceLT, Int.reduceEq, Int.reduceToNat, reduceCtorEq, RR, RB, RZ, RE, hl_2, h1_2, h11_2, h12_2, h13_2, h4_2, h18_2, h19_2, h20_2, hw2]
      show W A (.block 4 (.loop true b85_3)) _ _ _
      rw [W_block]
      refine W_forR g4 _ rfl (fun k s e h => S s h.ents ∧ e.length = 42 ∧ e.at 1 = V.fn g fs cs ∧ e.at 11 = V.isl (List.map Enc.enc x.Maps) ∧ e.at 12 = V.int .i64 (x.Maps.length : Int) ∧ e.at 13 = V.int .i64 i ∧ e.at 4 = V.int .i64 i ∧ e.at 18 = V.isl (List.map Enc.enc rows) ∧ e.at 19 = V.int .i64 (rows.length : Int) ∧ e.at 20 = V.int .i64 j ∧ e.at 6 = V.int .i64 j ∧ e.at 25 = V.isl (List.map Enc.enc row) ∧ e.at 26 = V.int .i64 (row.length : Int) ∧ e.at 27 = V.int .i64 k) ?_ ?_ ?_
      · refine And.intro hS ?_
        simp only [↓reduceIte, Nat.reduceAdd, Nat.reduceMul, Nat.reduceSub, Nat.reduceLT, Nat.reduceLeDiff, Nat.reduceEqDiff, Nat.reducePow, Int.reducePow, Int.reduceLE, Int.reduceLT, Int.reduceEq, Int.reduceToNat, reduceCtorEq, RR, RB, RZ, RE, hl_1, h1_1, h11_1, h12_1, h13_1, h4_1, h18_1, h19_1, h20_1]
      · clear hl_1 h1_1 h11_1 h12_1 h13_1 h4_1 h18_1 h19_1 h20_1
        rintro k s e ⟨E, c⟩ ⟨hS, hl_1, h1_1, h11_1, h12_1, h13_1, h4_1, h18_1, h19_1, h20_1, h6_1, h25_1, h26_1, h27_1⟩ hlt3 hw3 o ho
        obtain ⟨v, g5, ho⟩ := bS ho
        obtain ⟨w5a, w5b⟩ := getI_w g5
        obtain ⟨n, g6, ho⟩ := bS ho
        have w6 := chk_w g6
        obtain ⟨s2, g7, ho⟩ := bS ho
        have hE := Option.some.inj ho; subst hE
        obtain ⟨E2, c2, hr, hS2⟩ := st.call _ _ _ _ _ _ g7 E c hS
        simp only [↓reduceIte, Nat.reduceAdd, Nat.reduceMul, Nat.reduceSub, Nat.reduceLT, Nat.reduceLeDiff, Nat.reduceEqDiff, Nat.reducePow, Int.reducePow, Int.reduceLE, Int.reduceLT, Int.reduceEq, Int.reduceToNat, reduceCtorEq, RR, RB, RZ, RE, opEv, fillV, mapO, mapS, b85_3, hl_1, h1_1, h11_1, h12_1, h13_1, h4_1, h18_1, h19_1, h20_1, h6_1, h25_1, h26_1, h27_1, eq_true hlt3, hw3, w5a, w5b, w6, callM_plain_eq, List.append_assoc] at hr ⊢
        simp only [↓reduceIte, Nat.reduceAdd, Nat.reduceMul, Nat.reduceSub, Nat.reduceLT, Nat.reduceLeDiff, Nat.reduceEqDiff, Nat.reducePow, Int.reducePow, Int.reduceLE, Int.reduceLT, Int.reduceEq, Int.reduceToNat, reduceCtorEq, RR, RB, RZ, RE, opEv, fillV, mapO, mapS, hr, hl_1, h1_1, h11_1, h12_1, h13_1, h4_1, h18_1, h19_1, h20_1, h6_1, h25_1, h26_1, h27_1, eq_true hlt3, hw3]
        refine And.intro rfl (And.intro hS2 ?_)
        simp only [↓reduceIte, Nat.reduceAdd, Nat.reduceMul, Nat.reduceSub, Nat.reduceLT, Nat.reduceLeDiff, Nat.reduceEqDiff, Nat.reducePow, Int.reducePow, Int.reduceLE, Int.reduceLT, Int.reduceEq, Int.reduceToNat, reduceCtorEq, RR, RB, RZ, RE, hl_1, h1_1, h11_1, h12_1, h13_1, h4_1, h18_1, h19_1, h20_1, h6_1, h25_1, h26_1, h27_1, hw3]
      · clear hl_1 h1_1 h11_1 h12_1 h13_1 h4_1 h18_1 h19_1 h20_1
        rintro k s e ⟨E, c⟩ ⟨hS, hl_1, h1_1, h11_1, h12_1, h13_1, h4_1, h18_1, h19_1, h20_1, h6_1, h25_1, h26_1, h27_1⟩ hge t1 ho
        have hE := Option.some.inj ho; subst hE
        simp only [↓reduceIte, Nat.reduceAdd, Nat.reduceMul, Nat.reduceSub, Nat.reduceLT, Nat.reduceLeDiff, Nat.reduceEqDiff, Nat.reducePow, Int.reducePow, Int.reduceLE, Int.reduceLT, Int.reduceEq, Int.reduceToNat, reduceCtorEq, RR, RB, RZ, RE, opEv, fillV, mapO, mapS, b85_3, hl_1, h1_1, h11_1, h12_1, h13_1, h4_1, h18_1, h19_1, h20_1, h6_1, h25_1, h26_1, h27_1, eq_false hge]
        intro ht; subst ht
        exact hS
    · clear hl_1 h1_1 h11_1 h12_1 h13_1
      rintro j s e ⟨E, c⟩ ⟨hS, hl_1, h1_1, h11_1, h12_1, h13_1, h4_1, h18_1, h19_1, h20_1⟩ hge t1 ho
      have hE := Option.some.inj ho; subst hE
      simp only [↓reduceIte, Nat.reduceAdd, Nat.reduceMul, Nat.reduceSub, Nat.reduceLT, Nat.reduceLeDiff, Nat.reduceEqDiff, Nat.reducePow, Int.reducePow, Int.reduceLE, Int.reduceLT, Int.reduceEq, Int.reduceToNat, reduceCtorEq, RR, RB, RZ, RE, opEv, fillV, mapO, mapS, b85_2, hl_1, h1_1, h11_1, h12_1, h13_1, h4_1, h18_1, h19_1, h20_1, eq_false hge]
      intro ht; subst ht
      exact hS
  · rintro i s e ⟨E, c⟩ ⟨hS, hl_1, h1_1, h11_1, h12_1, h13_1⟩ hge t1 ho
    have hE := Option.some.inj ho; subst hE
    simp only [↓reduceIte, Nat.reduceAdd, Nat.reduceMul, Nat.reduceSub, Nat.reduceLT, Nat.reduceLeDiff, Nat.reduceEqDiff, Nat.reducePow, Int.reducePow, Int.reduceLE, Int.reduceLT, Int.reduceEq, Int.reduceToNat, reduceCtorEq, RR, RB, RZ, RE, opEv, fillV, mapO, mapS, b85_1, hl_1, h1_1, h11_1, h12_1, h13_1, eq_false hge]
    intro ht; subst ht
    refine And.intro (fun i => by simp only [ne_eq, reduceCtorEq, not_false_eq_true]) (And.intro ?_ hS)
    simp only [↓reduceIte, Nat.reduceAdd, Nat.reduceMul, Nat.reduceSub, Nat.reduceLT, Nat.reduceLeDiff, Nat.reduceEqDiff, Nat.reducePow, Int.reducePow, Int.reduceLE, Int.reduceLT, Int.reduceEq, Int.reduceToNat, reduceCtorEq, RR, RB, RZ, fn_out, p85, mapO]
    rfl
/-! loop.example/g01273/impl.IsFiltered -/
def F41_1_B (a0 : GFiltered) (v24_1 : Int) (s : Unit) : Option ((Unit) ⊕ ((Unit) ⊕ Bool)) :=
  (getI a0.Levels v24_1).bind fun x7 =>
(getI a0.Complex.Dims v24_1).bind fun x11 =>
if (x7.length : Int) = x11 then
  (F82 x7 (fun x => F83 x)).bind fun x14 =>
  if x14 = true then
    some (.inr (.inr false))
  else
    some (.inl ())
else
  some (.inr (.inr false))
def F41_1_D (a0 : GFiltered) (v24_1 : Int) (s : Unit) : Option ((Unit) ⊕ Bool) :=
  some (.inl ())
def F41 (a0 : GFiltered) : Option Bool :=
  (F42 a0.Complex).bind fun x1 =>
  if x1 = true then
    if (a0.Levels.length : Int) = (a0.Complex.Dims.length : Int) then
      (forR 0 (a0.Levels.length : Int) (F41_1_B a0) (F41_1_D a0) ()).bind fun t16 => match t16 with
        | .inl _ =>
          (F85 a0.Complex.Maps (fun n r p v s => F84 n r p v s a0) true).bind fun y17 =>
          some y17
        | .inr r21 => some r21
    else
      some false
  else
    some false
def I41_1 (a0 : GFiltered)  (v24_1 : Int) (s : Unit) (e : Env) (h : Heap) : Prop :=
  ∃ k5 : Nat, h = ⟨[(0, none), (1, some [V.int .i64 a0.Complex.Prime, V.isl (List.map Enc.enc a0.Complex.Dims), V.isl (List.map Enc.enc a0.Complex.Maps)])], k5⟩ ∧ e.length = 46 ∧ e.at 1 = V.iptr [V.int .i64 a0.Complex.Prime, V.isl (List.map Enc.enc a0.Complex.Dims), V.isl (List.map Enc.enc a0.Complex.Maps), V.isl (List.map Enc.enc a0.Levels)] ∧ e.at 3 = V.ptr 1 1 0 ∧ e.at 22 = V.isl (List.map Enc.enc a0.Levels) ∧ e.at 23 = V.int .i64 (a0.Levels.length : Int) ∧ e.at 24 = V.int .i64 v24_1
def P41_1 (a0 : GFiltered)  (t : (Unit) ⊕ Bool) (x : Ex) (e : Env) (h : Heap) : Prop :=
  match t with
  | .inl _ => x = .normal ∧ ∃ k5 : Nat, h = ⟨[(0, none), (1, some [V.int .i64 a0.Complex.Prime, V.isl (List.map Enc.enc a0.Complex.Dims), V.isl (List.map Enc.enc a0.Complex.Maps)])], k5⟩ ∧ e.length = 46 ∧ e.at 1 = V.iptr [V.int .i64 a0.Complex.Prime, V.isl (List.map Enc.enc a0.Complex.Dims), V.isl (List.map Enc.enc a0.Complex.Maps), V.isl (List.map Enc.enc a0.Levels)] ∧ e.at 3 = V.ptr 1 1 0
  | .inr r => x = .ret ∧ Fin p41 (Enc.enc r) .ret e h
theorem l41_1 (a0 : GFiltered)   {lo : Int} {s : Unit} {t : (Unit) ⊕ Bool} (hF : forR lo (a0.Levels.length : Int) (F41_1_B a0) (F41_1_D a0) s = some t) {e : Env} {h : Heap} (hI : I41_1 a0  lo s e h) : W A c41_1 e h (P41_1 a0  t) := by
  show W A (.block 0 (.loop false b41_1)) e h _
  rw [W_block]
  refine W_forR hF 2 (by obtain ⟨_, rfl, _⟩ := hI; rfl) (I41_1 a0 ) hI ?_ ?_
  · rintro v24_1 _ e h ⟨k5, rfl, hl_4, h1_4, h3_4, h22_4, h23_4, h24_4⟩ hlt hw o ho
    unfold F41_1_B at ho
    obtain ⟨x7, gx7, ho⟩ := bS ho
    obtain ⟨w8a, w8b⟩ := getI_w gx7
    have w10 : ans A 73 [V.isl (List.map Enc.enc x7)] = some (V.int .i64 (x7.length : Int)) := s73 x7  rfl
    obtain ⟨x11, gx11, ho⟩ := bS ho
    obtain ⟨w12a, w12b⟩ := getI_w gx11
    by_cases c13 : (x7.length : Int) = x11
    · rw [if_pos c13] at ho
      obtain ⟨x14, gx14, ho⟩ := bS ho
      have w15 : ans A 82 [V.isl (List.map Enc.enc x7), V.fn 83 [] []] = some (V.bool x14) := s82 x7 (fun x => F83 x) (Clo1.of (by intro h f; simp only [RZ, mapO]) (by intro h f; simp only [RZ, mapO]) (by intro f; simp only [RZ, RB]) (by intro f; simp only [RZ, RB]) (fun x _ hr => s83 x hr)) gx14
      cases x14 with
      | true =>
        rw [if_pos rfl] at ho
        have hE := Option.some.inj ho; subst hE
        simp only [↓reduceIte, Nat.reduceAdd, Nat.reduceMul, Nat.reduceSub, Nat.reduceLT, Nat.reduceLeDiff, Nat.reduceEqDiff, Nat.reducePow, Int.reducePow, Int.reduceLE, Int.reduceLT, Int.reduceEq, Int.reduceToNat, reduceCtorEq, RR, RB, RZ, RE, opEv, fillV, mapO, mapS, b41_1, hl_4, h1_4, h3_4, h22_4, h23_4, h24_4, eq_true hlt, hw, w8a, w8b, w10, w12a, w12b, eq_true c13, w15]
        intro ht; subst ht
        simp only [↓reduceIte, Nat.reduceAdd, Nat.reduceMul, Nat.reduceSub, Nat.reduceLT, Nat.reduceLeDiff, Nat.reduceEqDiff, Nat.reducePow, Int.reducePow, Int.reduceLE, Int.reduceLT, Int.reduceEq, Int.reduceToNat, reduceCtorEq, RR, RB]
        exact And.intro rfl (fin_ret (by simp only [↓reduceIte, Nat.reduceAdd, Nat.reduceMul, Nat.reduceSub, Nat.reduceLT, Nat.reduceLeDiff, Nat.reduceEqDiff, Nat.reducePow, Int.reducePow, Int.reduceLE, Int.reduceLT, Int.reduceEq, Int.reduceToNat, reduceCtorEq, RR, RB, RZ, RE, fn_out, p41, Rs.ev, mapO, mapS, take_len_self, hl_4, h1_4, h3_4, h22_4, h23_4, h24_4, eq_true hlt, hw, w8a, w8b, w10, w12a, w12b, eq_true c13, w15]))
      | false =>
        rw [if_neg Bool.false_ne_true] at ho
        have hE := Option.some.inj ho; subst hE
        simp only [↓reduceIte, Nat.reduceAdd, Nat.reduceMul, Nat.reduceSub, Nat.reduceLT, Nat.reduceLeDiff, Nat.reduceEqDiff, Nat.reducePow, Int.reducePow, Int.reduceLE, Int.reduceLT, Int.reduceEq, Int.reduceToNat, reduceCtorEq, RR, RB, RZ, RE, opEv, fillV, mapO, mapS, b41_1, hl_4, h1_4, h3_4, h22_4, h23_4, h24_4, eq_true hlt, hw, w8a, w8b, w10, w12a, w12b, eq_true c13, w15]
        refine And.intro rfl (Exists.intro _ ( And.intro rfl ?_))
        simp only [↓reduceIte, Nat.reduceAdd, Nat.reduceMul, Nat.reduceSub, Nat.reduceLT, Nat.reduceLeDiff, Nat.reduceEqDiff, Nat.reducePow, Int.reducePow, Int.reduceLE, Int.reduceLT, Int.reduceEq, Int.reduceToNat, reduceCtorEq, RR, RB, RZ, RE, hl_4, h1_4, h3_4, h22_4, h23_4, h24_4, eq_true hlt, hw, w8a, w8b, w10, w12a, w12b, eq_true c13, w15]
    · rw [if_neg c13] at ho
      have hE := Option.some.inj ho; subst hE
      simp only [↓reduceIte, Nat.reduceAdd, Nat.reduceMul, Nat.reduceSub, Nat.reduceLT, Nat.reduceLeDiff, Nat.reduceEqDiff, Nat.reducePow, Int.reducePow, Int.reduceLE, Int.reduceLT, Int.reduceEq, Int.reduceToNat, reduceCtorEq, RR, RB, RZ, RE, opEv, fillV, mapO, mapS, b41_1, hl_4, h1_4, h3_4, h22_4, h23_4, h24_4, eq_true hlt, hw, w8a, w8b, w10, w12a, w12b, eq_false c13]
      intro ht; subst ht
      simp only [↓reduceIte, Nat.reduceAdd, Nat.reduceMul, Nat.reduceSub, Nat.reduceLT, Nat.reduceLeDiff, Nat.reduceEqDiff, Nat.reducePow, Int.reducePow, Int.reduceLE, Int.reduceLT, Int.reduceEq, Int.reduceToNat, reduceCtorEq, RR, RB]
      exact And.intro rfl (fin_ret (by simp only [↓reduceIte, Nat.reduceAdd, Nat.reduceMul, Nat.reduceSub, Nat.reduceLT, Nat.reduceLeDiff, Nat.reduceEqDiff, Nat.reducePow, Int.reducePow, Int.reduceLE, Int.reduceLT, Int.reduceEq, Int.reduceToNat, reduceCtorEq, RR, RB, RZ, RE, fn_out, p41, Rs.ev, mapO, mapS, take_len_self, hl_4, h1_4, h3_4, h22_4, h23_4, h24_4, eq_true hlt, hw, w8a, w8b, w10, w12a, w12b, eq_false c13]))
  · rintro v24_1 _ e h ⟨k5, rfl, hl_4, h1_4, h3_4, h22_4, h23_4, h24_4⟩ hge t1 ho
    unfold F41_1_D at ho
    have hE := Option.some.inj ho; subst hE
    simp only [↓reduceIte, Nat.reduceAdd, Nat.reduceMul, Nat.reduceSub, Nat.reduceLT, Nat.reduceLeDiff, Nat.reduceEqDiff, Nat.reducePow, Int.reducePow, Int.reduceLE, Int.reduceLT, Int.reduceEq, Int.reduceToNat, reduceCtorEq, RR, RB, RZ, RE, opEv, fillV, mapO, mapS, b41_1, hl_4, h1_4, h3_4, h22_4, h23_4, h24_4, eq_false hge]
    intro ht; subst ht
    refine And.intro rfl (Exists.intro _ ( And.intro rfl ?_))
    simp only [↓reduceIte, Nat.reduceAdd, Nat.reduceMul, Nat.reduceSub, Nat.reduceLT, Nat.reduceLeDiff, Nat.reduceEqDiff, Nat.reducePow, Int.reducePow, Int.reduceLE, Int.reduceLT, Int.reduceEq, Int.reduceToNat, reduceCtorEq, RR, RB, RZ, RE, hl_4, h1_4, h3_4, h22_4, h23_4, h24_4, eq_false hge]
theorem s41 (a0 : GFiltered)   {r : Bool} (hF : F41 a0 = some r) : ans A 41 [V.agg [V.int .i64 a0.Complex.Prime, V.isl (List.map Enc.enc a0.Complex.Dims), V.isl (List.map Enc.enc a0.Complex.Maps), V.isl (List.map Enc.enc a0.Levels)]] = some (Enc.enc r) := by
  refine ans_of (f := p41) rfl rfl rfl fun e hl he => ?_
  have h0_0 : e.at 0 = V.agg [V.int .i64 a0.Complex.Prime, V.isl (List.map Enc.enc a0.Complex.Dims), V.isl (List.map Enc.enc a0.Complex.Maps), V.isl (List.map Enc.enc a0.Levels)] := he 0 _ rfl
  have hl_0 : e.length = 46 := hl
  clear he hl
  show W A b41 e ⟨[], 0⟩ _
  unfold F41 at hF
  obtain ⟨x1, gx1, hF⟩ := bS hF
  have w2 : ans A 42 [V.agg [V.int .i64 a0.Complex.Prime, V.isl (List.map Enc.enc a0.Complex.Dims), V.isl (List.map Enc.enc a0.Complex.Maps)]] = some (V.bool x1) := s42 a0.Complex  gx1
  cases x1 with
  | true =>
    rw [if_pos rfl] at hF
    by_cases c3 : (a0.Levels.length : Int) = (a0.Complex.Dims.length : Int)
    · rw [if_pos c3] at hF
      obtain ⟨t16, gt16, hF⟩ := bS hF
      rcases t16 with _ | r21
      · dsimp only at hF
        simp only [↓reduceIte, Nat.reduceAdd, Nat.reduceMul, Nat.reduceSub, Nat.reduceLT, Nat.reduceLeDiff, Nat.reduceEqDiff, Nat.reducePow, Int.reducePow, Int.reduceLE, Int.reduceLT, Int.reduceEq, Int.reduceToNat, reduceCtorEq, RR, RB, RZ, RE, opEv, fillV, mapO, mapS, b41, hl_0, h0_0, w2, eq_true c3]
        refine W.mono (l41_1 a0   gt16 (Exists.intro _ ( And.intro rfl ?_))) ?_
        · simp only [↓reduceIte, Nat.reduceAdd, Nat.reduceMul, Nat.reduceSub, Nat.reduceLT, Nat.reduceLeDiff, Nat.reduceEqDiff, Nat.reducePow, Int.reducePow, Int.reduceLE, Int.reduceLT, Int.reduceEq, Int.reduceToNat, reduceCtorEq, RR, RB, RZ, RE, hl_0, h0_0, w2, eq_true c3]
        rintro _ e _ ⟨rfl, k5, rfl, hl_6, h1_6, h3_6⟩
        obtain ⟨y17, gy17, hF⟩ := bS hF
        have w18 := e85 (g := 84) (fs := []) (cs := [V.ptr 2 k5 0, V.iptr [V.int .i64 a0.Complex.Prime, V.isl (List.map Enc.enc a0.Complex.Dims), V.isl (List.map Enc.enc a0.Complex.Maps), V.isl (List.map Enc.enc a0.Levels)]]) (S := (fun (s : Bool) E => ∃ G, E = (0, none) :: (1, some [V.int .i64 a0.Complex.Prime, V.isl (List.map Enc.enc a0.Complex.Dims), V.isl (List.map Enc.enc a0.Complex.Maps)]) :: (k5, some [V.bool s]) :: G)) (f := (fun n r p v s => F84 n r p v s a0)) ⟨fun n r p v s s' hs E c hS => (by obtain ⟨G, rfl⟩ := hS; exact ⟨_, _, q84 (0, none) (1, some [V.int .i64 a0.Complex.Prime, V.isl (List.map Enc.enc a0.Complex.Dims), V.isl (List.map Enc.enc a0.Complex.Maps)]) k5 _ _ n r p v s a0 hs, G, rfl⟩), fun s E x hS => (by obtain ⟨G, rfl⟩ := hS; exact ⟨G ++ [x], rfl⟩)⟩ a0.Complex gy17 _ (k5 + 1) ⟨[], rfl⟩
        obtain ⟨⟨w18E, k20⟩, w18, G19, w18h⟩ := w18
        dsimp only at w18h
        subst w18h
        have hE := Option.some.inj hF; subst hE
        simp only [↓reduceIte, Nat.reduceAdd, Nat.reduceMul, Nat.reduceSub, Nat.reduceLT, Nat.reduceLeDiff, Nat.reduceEqDiff, Nat.reducePow, Int.reducePow, Int.reduceLE, Int.reduceLT, Int.reduceEq, Int.reduceToNat, reduceCtorEq, RR, RB, RZ, RE, opEv, fillV, mapO, mapS, hl_6, h1_6, h3_6, eq_true c3, callM_plain_eq, w18]
        exact fin_ret (by simp only [↓reduceIte, Nat.reduceAdd, Nat.reduceMul, Nat.reduceSub, Nat.reduceLT, Nat.reduceLeDiff, Nat.reduceEqDiff, Nat.reducePow, Int.reducePow, Int.reduceLE, Int.reduceLT, Int.reduceEq, Int.reduceToNat, reduceCtorEq, RR, RB, RZ, RE, fn_out, p41, Rs.ev, mapO, mapS, take_len_self, hl_6, h1_6, h3_6, eq_true c3, callM_plain_eq, w18])
      · dsimp only at hF
        have hE := Option.some.inj hF; subst hE
        simp only [↓reduceIte, Nat.reduceAdd, Nat.reduceMul, Nat.reduceSub, Nat.reduceLT, Nat.reduceLeDiff, Nat.reduceEqDiff, Nat.reducePow, Int.reducePow, Int.reduceLE, Int.reduceLT, Int.reduceEq, Int.reduceToNat, reduceCtorEq, RR, RB, RZ, RE, opEv, fillV, mapO, mapS, b41, hl_0, h0_0, w2, eq_true c3]
        refine W.mono (l41_1 a0   gt16 (Exists.intro _ ( And.intro rfl ?_))) ?_
        · simp only [↓reduceIte, Nat.reduceAdd, Nat.reduceMul, Nat.reduceSub, Nat.reduceLT, Nat.reduceLeDiff, Nat.reduceEqDiff, Nat.reducePow, Int.reducePow, Int.reduceLE, Int.reduceLT, Int.reduceEq, Int.reduceToNat, reduceCtorEq, RR, RB, RZ, RE, hl_0, h0_0, w2, eq_true c3]
        rintro _ e h ⟨rfl, hq⟩
        simp only [↓reduceIte, Nat.reduceAdd, Nat.reduceMul, Nat.reduceSub, Nat.reduceLT, Nat.reduceLeDiff, Nat.reduceEqDiff, Nat.reducePow, Int.reducePow, Int.reduceLE, Int.reduceLT, Int.reduceEq, Int.reduceToNat, reduceCtorEq, RR, RB]
        exact hq
    · rw [if_neg c3] at hF
      have hE := Option.some.inj hF; subst hE
      simp only [↓reduceIte, Nat.reduceAdd, Nat.reduceMul, Nat.reduceSub, Nat.reduceLT, Nat.reduceLeDiff, Nat.reduceEqDiff, Nat.reducePow, Int.reducePow, Int.reduceLE, Int.reduceLT, Int.reduceEq, Int.reduceToNat, reduceCtorEq, RR, RB, RZ, RE, opEv, fillV, mapO, mapS, b41, hl_0, h0_0, w2, eq_false c3]
      exact fin_ret (by simp only [↓reduceIte, Nat.reduceAdd, Nat.reduceMul, Nat.reduceSub, Nat.reduceLT, Nat.reduceLeDiff, Nat.reduceEqDiff, Nat.reducePow, Int.reducePow, Int.reduceLE, Int.reduceLT, Int.reduceEq, Int.reduceToNat, reduceCtorEq, RR, RB, RZ, RE, fn_out, p41, Rs.ev, mapO, mapS, take_len_self, hl_0, h0_0, w2, eq_false c3])
  | false =>
    rw [if_neg Bool.false_ne_true] at hF
    have hE := Option.some.inj hF; subst hE
    simp only [↓reduceIte, Nat.reduceAdd, Nat.reduceMul, Nat.reduceSub, Nat.reduceLT, Nat.reduceLeDiff, Nat.reduceEqDiff, Nat.reducePow, Int.reducePow, Int.reduceLE, Int.reduceLT, Int.reduceEq, Int.reduceToNat, reduceCtorEq, RR, RB, RZ, RE, opEv, fillV, mapO, mapS, b41, hl_0, h0_0, w2]
    exact fin_ret (by simp only [↓reduceIte, Nat.reduceAdd, Nat.reduceMul, Nat.reduceSub, Nat.reduceLT, Nat.reduceLeDiff, Nat.reduceEqDiff, Nat.reducePow, Int.reducePow, Int.reduceLE, Int.reduceLT, Int.reduceEq, Int.reduceToNat, reduceCtorEq, RR, RB, RZ, RE, fn_out, p41, Rs.ev, mapO, mapS, take_len_self, hl_0, h0_0, w2])
/-! loop.example/g01273/impl.IsDesk -/
def F9 (a0 : GDesk) : Option Bool :=
  (F41 a0.First).bind fun x1 =>
  if x1 = true then
    (F42 a0.Second).bind fun x3 =>
    some x3
  else
    some false
theorem s9 (a0 : GDesk)   {r : Bool} (hF : F9 a0 = some r) : ans A 9 [V.agg [V.int .i64 a0.First.Complex.Prime, V.isl (List.map Enc.enc a0.First.Complex.Dims), V.isl (List.map Enc.enc a0.First.Complex.Maps), V.isl (List.map Enc.enc a0.First.Levels), V.int .i64 a0.Second.Prime, V.isl (List.map Enc.enc a0.Second.Dims), V.isl (List.map Enc.enc a0.Second.Maps)]] = some (Enc.enc r) := by
  refine ans_of (f := p9) rfl rfl rfl fun e hl he => ?_
  have h0_0 : e.at 0 = V.agg [V.int .i64 a0.First.Complex.Prime, V.isl (List.map Enc.enc a0.First.Complex.Dims), V.isl (List.map Enc.enc a0.First.Complex.Maps), V.isl (List.map Enc.enc a0.First.Levels), V.int .i64 a0.Second.Prime, V.isl (List.map Enc.enc a0.Second.Dims), V.isl (List.map Enc.enc a0.Second.Maps)] := he 0 _ rfl
  have hl_0 : e.length = 11 := hl
  clear he hl
  show W A b9 e ⟨[], 0⟩ _
  unfold F9 at hF
  obtain ⟨x1, gx1, hF⟩ := bS hF
  have w2 : ans A 41 [V.agg [V.int .i64 a0.First.Complex.Prime, V.isl (List.map Enc.enc a0.First.Complex.Dims), V.isl (List.map Enc.enc a0.First.Complex.Maps), V.isl (List.map Enc.enc a0.First.Levels)]] = some (V.bool x1) := s41 a0.First  gx1
  cases x1 with
  | true =>
    rw [if_pos rfl] at hF
    obtain ⟨x3, gx3, hF⟩ := bS hF
    have w4 : ans A 42 [V.agg [V.int .i64 a0.Second.Prime, V.isl (List.map Enc.enc a0.Second.Dims), V.isl (List.map Enc.enc a0.Second.Maps)]] = some (V.bool x3) := s42 a0.Second  gx3
    have hE := Option.some.inj hF; subst hE
    simp only [↓reduceIte, Nat.reduceAdd, Nat.reduceMul, Nat.reduceSub, Nat.reduceLT, Nat.reduceLeDiff, Nat.reduceEqDiff, Nat.reducePow, Int.reducePow, Int.reduceLE, Int.reduceLT, Int.reduceEq, Int.reduceToNat, reduceCtorEq, RR, RB, RZ, RE, opEv, fillV, mapO, mapS, b9, hl_0, h0_0, w2, w4]
    exact fin_ret (by simp only [↓reduceIte, Nat.reduceAdd, Nat.reduceMul, Nat.reduceSub, Nat.reduceLT, Nat.reduceLeDiff, Nat.reduceEqDiff, Nat.reducePow, Int.reducePow, Int.reduceLE, Int.reduceLT, Int.reduceEq, Int.reduceToNat, reduceCtorEq, RR, RB, RZ, RE, fn_out, p9, Rs.ev, mapO, mapS, take_len_self, hl_0, h0_0, w2, w4])
  | false =>
    rw [if_neg Bool.false_ne_true] at hF
    have hE := Option.some.inj hF; subst hE
    simp only [↓reduceIte, Nat.reduceAdd, Nat.reduceMul, Nat.reduceSub, Nat.reduceLT, Nat.reduceLeDiff, Nat.reduceEqDiff, Nat.reducePow, Int.reducePow, Int.reduceLE, Int.reduceLT, Int.reduceEq, Int.reduceToNat, reduceCtorEq, RR, RB, RZ, RE, opEv, fillV, mapO, mapS, b9, hl_0, h0_0, w2]
    exact fin_ret (by simp only [↓reduceIte, Nat.reduceAdd, Nat.reduceMul, Nat.reduceSub, Nat.reduceLT, Nat.reduceLeDiff, Nat.reduceEqDiff, Nat.reducePow, Int.reducePow, Int.reduceLE, Int.reduceLT, Int.reduceEq, Int.reduceToNat, reduceCtorEq, RR, RB, RZ, RE, fn_out, p9, Rs.ev, mapO, mapS, take_len_self, hl_0, h0_0, w2])
/-! loop.example/g01273/laws.FnExactIsDesk -/
def F110 (a0 : GDesk) : Option Bool :=
  (F6 a0 1048576).bind fun x1 =>
  if x1 < 0 then
    some true
  else
    (F7 a0).bind fun x4 =>
    (F8 x4).bind fun x6 =>
    (F9 x4).bind fun x8 =>
    if (x8 == x6) = true then
      (F3 x4 x4).bind fun x11 =>
      if x11 = true then
        some true
      else
        some false
    else
      some false
theorem s110 (a0 : GDesk)   {r : Bool} (hF : F110 a0 = some r) : ans A 110 [V.agg [V.int .i64 a0.First.Complex.Prime, V.isl (List.map Enc.enc a0.First.Complex.Dims), V.isl (List.map Enc.enc a0.First.Complex.Maps), V.isl (List.map Enc.enc a0.First.Levels), V.int .i64 a0.Second.Prime, V.isl (List.map Enc.enc a0.Second.Dims), V.isl (List.map Enc.enc a0.Second.Maps)]] = some (Enc.enc r) := by
  refine ans_of (f := p110) rfl rfl rfl fun e hl he => ?_
  have h0_0 : e.at 0 = V.agg [V.int .i64 a0.First.Complex.Prime, V.isl (List.map Enc.enc a0.First.Complex.Dims), V.isl (List.map Enc.enc a0.First.Complex.Maps), V.isl (List.map Enc.enc a0.First.Levels), V.int .i64 a0.Second.Prime, V.isl (List.map Enc.enc a0.Second.Dims), V.isl (List.map Enc.enc a0.Second.Maps)] := he 0 _ rfl
  have hl_0 : e.length = 27 := hl
  clear he hl
  show W A b110 e ⟨[], 0⟩ _
  unfold F110 at hF
  obtain ⟨x1, gx1, hF⟩ := bS hF
  have w2 : ans A 6 [V.agg [V.int .i64 a0.First.Complex.Prime, V.isl (List.map Enc.enc a0.First.Complex.Dims), V.isl (List.map Enc.enc a0.First.Complex.Maps), V.isl (List.map Enc.enc a0.First.Levels), V.int .i64 a0.Second.Prime, V.isl (List.map Enc.enc a0.Second.Dims), V.isl (List.map Enc.enc a0.Second.Maps)], V.int .i64 1048576] = some (V.int .i64 x1) := s6 a0 1048576  gx1
  by_cases c3 : x1 < 0
  · rw [if_pos c3] at hF
    have hE := Option.some.inj hF; subst hE
    simp only [↓reduceIte, Nat.reduceAdd, Nat.reduceMul, Nat.reduceSub, Nat.reduceLT, Nat.reduceLeDiff, Nat.reduceEqDiff, Nat.reducePow, Int.reducePow, Int.reduceLE, Int.reduceLT, Int.reduceEq, Int.reduceToNat, reduceCtorEq, RR, RB, RZ, RE, opEv, fillV, mapO, mapS, b110, hl_0, h0_0, w2, eq_true c3]
    exact fin_ret (by simp only [↓reduceIte, Nat.reduceAdd, Nat.reduceMul, Nat.reduceSub, Nat.reduceLT, Nat.reduceLeDiff, Nat.reduceEqDiff, Nat.reducePow, Int.reducePow, Int.reduceLE, Int.reduceLT, Int.reduceEq, Int.reduceToNat, reduceCtorEq, RR, RB, RZ, RE, fn_out, p110, Rs.ev, mapO, mapS, take_len_self, hl_0, h0_0, w2, eq_true c3])
  · rw [if_neg c3] at hF
    obtain ⟨x4, gx4, hF⟩ := bS hF
    have w5 : ans A 7 [V.agg [V.int .i64 a0.First.Complex.Prime, V.isl (List.map Enc.enc a0.First.Complex.Dims), V.isl (List.map Enc.enc a0.First.Complex.Maps), V.isl (List.map Enc.enc a0.First.Levels), V.int .i64 a0.Second.Prime, V.isl (List.map Enc.enc a0.Second.Dims), V.isl (List.map Enc.enc a0.Second.Maps)]] = some (V.agg [V.int .i64 x4.First.Complex.Prime, V.isl (List.map Enc.enc x4.First.Complex.Dims), V.isl (List.map Enc.enc x4.First.Complex.Maps), V.isl (List.map Enc.enc x4.First.Levels), V.int .i64 x4.Second.Prime, V.isl (List.map Enc.enc x4.Second.Dims), V.isl (List.map Enc.enc x4.Second.Maps)]) := s7 a0  gx4
    obtain ⟨x6, gx6, hF⟩ := bS hF
    have w7 : ans A 8 [V.agg [V.int .i64 x4.First.Complex.Prime, V.isl (List.map Enc.enc x4.First.Complex.Dims), V.isl (List.map Enc.enc x4.First.Complex.Maps), V.isl (List.map Enc.enc x4.First.Levels), V.int .i64 x4.Second.Prime, V.isl (List.map Enc.enc x4.Second.Dims), V.isl (List.map Enc.enc x4.Second.Maps)]] = some (V.bool x6) := s8 x4  gx6
    obtain ⟨x8, gx8, hF⟩ := bS hF
    have w9 : ans A 9 [V.agg [V.int .i64 x4.First.Complex.Prime, V.isl (List.map Enc.enc x4.First.Complex.Dims), V.isl (List.map Enc.enc x4.First.Complex.Maps), V.isl (List.map Enc.enc x4.First.Levels), V.int .i64 x4.Second.Prime, V.isl (List.map Enc.enc x4.Second.Dims), V.isl (List.map Enc.enc x4.Second.Maps)]] = some (V.bool x8) := s9 x4  gx8
    by_cases c10 : (x8 == x6) = true
    · rw [if_pos c10] at hF
      obtain ⟨x11, gx11, hF⟩ := bS hF
      have w12 : ans A 3 [V.agg [V.int .i64 x4.First.Complex.Prime, V.isl (List.map Enc.enc x4.First.Complex.Dims), V.isl (List.map Enc.enc x4.First.Complex.Maps), V.isl (List.map Enc.enc x4.First.Levels), V.int .i64 x4.Second.Prime, V.isl (List.map Enc.enc x4.Second.Dims), V.isl (List.map Enc.enc x4.Second.Maps)], V.agg [V.int .i64 x4.First.Complex.Prime, V.isl (List.map Enc.enc x4.First.Complex.Dims), V.isl (List.map Enc.enc x4.First.Complex.Maps), V.isl (List.map Enc.enc x4.First.Levels), V.int .i64 x4.Second.Prime, V.isl (List.map Enc.enc x4.Second.Dims), V.isl (List.map Enc.enc x4.Second.Maps)]] = some (V.bool x11) := s3 x4 x4  gx11
      cases x11 with
      | true =>
        rw [if_pos rfl] at hF
        have hE := Option.some.inj hF; subst hE
        simp only [↓reduceIte, Nat.reduceAdd, Nat.reduceMul, Nat.reduceSub, Nat.reduceLT, Nat.reduceLeDiff, Nat.reduceEqDiff, Nat.reducePow, Int.reducePow, Int.reduceLE, Int.reduceLT, Int.reduceEq, Int.reduceToNat, reduceCtorEq, RR, RB, RZ, RE, opEv, fillV, mapO, mapS, b110, hl_0, h0_0, w2, eq_false c3, w5, w7, w9, c10, w12]
        exact fin_ret (by simp only [↓reduceIte, Nat.reduceAdd, Nat.reduceMul, Nat.reduceSub, Nat.reduceLT, Nat.reduceLeDiff, Nat.reduceEqDiff, Nat.reducePow, Int.reducePow, Int.reduceLE, Int.reduceLT, Int.reduceEq, Int.reduceToNat, reduceCtorEq, RR, RB, RZ, RE, fn_out, p110, Rs.ev, mapO, mapS, take_len_self, hl_0, h0_0, w2, eq_false c3, w5, w7, w9, c10, w12])
      | false =>
        rw [if_neg Bool.false_ne_true] at hF
        have hE := Option.some.inj hF; subst hE
        simp only [↓reduceIte, Nat.reduceAdd, Nat.reduceMul, Nat.reduceSub, Nat.reduceLT, Nat.reduceLeDiff, Nat.reduceEqDiff, Nat.reducePow, Int.reducePow, Int.reduceLE, Int.reduceLT, Int.reduceEq, Int.reduceToNat, reduceCtorEq, RR, RB, RZ, RE, opEv, fillV, mapO, mapS, b110, hl_0, h0_0, w2, eq_false c3, w5, w7, w9, c10, w12]
        exact fin_ret (by simp only [↓reduceIte, Nat.reduceAdd, Nat.reduceMul, Nat.reduceSub, Nat.reduceLT, Nat.reduceLeDiff, Nat.reduceEqDiff, Nat.reducePow, Int.reducePow, Int.reduceLE, Int.reduceLT, Int.reduceEq, Int.reduceToNat, reduceCtorEq, RR, RB, RZ, RE, fn_out, p110, Rs.ev, mapO, mapS, take_len_self, hl_0, h0_0, w2, eq_false c3, w5, w7, w9, c10, w12])
    · rw [if_neg c10] at hF
      have hE := Option.some.inj hF; subst hE
      simp only [↓reduceIte, Nat.reduceAdd, Nat.reduceMul, Nat.reduceSub, Nat.reduceLT, Nat.reduceLeDiff, Nat.reduceEqDiff, Nat.reducePow, Int.reducePow, Int.reduceLE, Int.reduceLT, Int.reduceEq, Int.reduceToNat, reduceCtorEq, RR, RB, RZ, RE, opEv, fillV, mapO, mapS, b110, hl_0, h0_0, w2, eq_false c3, w5, w7, w9, Bool.eq_false_iff.2 c10]
      exact fin_ret (by simp only [↓reduceIte, Nat.reduceAdd, Nat.reduceMul, Nat.reduceSub, Nat.reduceLT, Nat.reduceLeDiff, Nat.reduceEqDiff, Nat.reducePow, Int.reducePow, Int.reduceLE, Int.reduceLT, Int.reduceEq, Int.reduceToNat, reduceCtorEq, RR, RB, RZ, RE, fn_out, p110, Rs.ev, mapO, mapS, take_len_self, hl_0, h0_0, w2, eq_false c3, w5, w7, w9, Bool.eq_false_iff.2 c10])

end
end Rv
