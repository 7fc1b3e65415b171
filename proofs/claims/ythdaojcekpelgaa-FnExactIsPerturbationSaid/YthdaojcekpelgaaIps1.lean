/- What the abstract code answers: typed functions, part 2. -/
import Derived.Test.YthdaojcekpelgaaIps0
namespace Rv
set_option linter.unusedVariables false
set_option linter.unusedSimpArgs false
set_option maxRecDepth 100000
noncomputable section

/-! (loop.example/g01273/impl.Complex).differential -/
def F91 (a0 : GComplex) (a1 : Int) (a2 : List Int) : Option (List Int) :=
  if a1 ≤ 0 then
    some ([] : List Int)
  else
    (F86 a0).bind fun x2 =>
    if x2 < a1 then
      some ([] : List Int)
    else
      (chk (a1 - 1)).bind fun x5 =>
      (getI a0.Dims x5).bind fun x6 =>
      (getI a0.Maps x5).bind fun x8 =>
      (F119 a0.Prime x6 a2 x8).bind fun x10 =>
      some x10
theorem s91 (a0 : GComplex) (a1 : Int) (a2 : List Int)   {r : List Int} (hF : F91 a0 a1 a2 = some r) : ans A 91 [V.agg [V.int .i64 a0.Prime, V.isl (List.map Enc.enc a0.Dims), V.isl (List.map Enc.enc a0.Maps)], V.int .i64 a1, V.isl (List.map Enc.enc a2)] = some (Enc.enc r) := by
  refine ans_of (f := p91) rfl rfl rfl fun e hl he => ?_
  have h0_0 : e.at 0 = V.agg [V.int .i64 a0.Prime, V.isl (List.map Enc.enc a0.Dims), V.isl (List.map Enc.enc a0.Maps)] := he 0 _ rfl
  have h1_0 : e.at 1 = V.int .i64 a1 := he 1 _ rfl
  have h2_0 : e.at 2 = V.isl (List.map Enc.enc a2) := he 2 _ rfl
  have hl_0 : e.length = 31 := hl
  clear he hl
  show W A b91 e ⟨[], 0⟩ _
  unfold F91 at hF
  by_cases c1 : a1 ≤ 0
  · rw [if_pos c1] at hF
    have hE := Option.some.inj hF; subst hE
    simp only [↓reduceIte, Nat.reduceAdd, Nat.reduceMul, Nat.reduceSub, Nat.reduceLT, Nat.reduceLeDiff, Nat.reduceEqDiff, Nat.reducePow, Int.reducePow, Int.reduceLE, Int.reduceLT, Int.reduceEq, Int.reduceToNat, reduceCtorEq, RR, RB, RZ, RE, opEv, fillV, mapO, mapS, b91, hl_0, h0_0, h1_0, h2_0, eq_true c1]
    exact fin_ret (by simp only [↓reduceIte, Nat.reduceAdd, Nat.reduceMul, Nat.reduceSub, Nat.reduceLT, Nat.reduceLeDiff, Nat.reduceEqDiff, Nat.reducePow, Int.reducePow, Int.reduceLE, Int.reduceLT, Int.reduceEq, Int.reduceToNat, reduceCtorEq, RR, RB, RZ, RE, fn_out, p91, Rs.ev, mapO, mapS, take_len_self, hl_0, h0_0, h1_0, h2_0, eq_true c1])
  · rw [if_neg c1] at hF
    obtain ⟨x2, gx2, hF⟩ := bS hF
    have w3 : ans A 86 [V.agg [V.int .i64 a0.Prime, V.isl (List.map Enc.enc a0.Dims), V.isl (List.map Enc.enc a0.Maps)]] = some (V.int .i64 x2) := s86 a0  gx2
    by_cases c4 : x2 < a1
    · rw [if_pos c4] at hF
      have hE := Option.some.inj hF; subst hE
      simp only [↓reduceIte, Nat.reduceAdd, Nat.reduceMul, Nat.reduceSub, Nat.reduceLT, Nat.reduceLeDiff, Nat.reduceEqDiff, Nat.reducePow, Int.reducePow, Int.reduceLE, Int.reduceLT, Int.reduceEq, Int.reduceToNat, reduceCtorEq, RR, RB, RZ, RE, opEv, fillV, mapO, mapS, b91, hl_0, h0_0, h1_0, h2_0, eq_false c1, w3, eq_true c4]
      exact fin_ret (by simp only [↓reduceIte, Nat.reduceAdd, Nat.reduceMul, Nat.reduceSub, Nat.reduceLT, Nat.reduceLeDiff, Nat.reduceEqDiff, Nat.reducePow, Int.reducePow, Int.reduceLE, Int.reduceLT, Int.reduceEq, Int.reduceToNat, reduceCtorEq, RR, RB, RZ, RE, fn_out, p91, Rs.ev, mapO, mapS, take_len_self, hl_0, h0_0, h1_0, h2_0, eq_false c1, w3, eq_true c4])
    · rw [if_neg c4] at hF
      obtain ⟨x5, gx5, hF⟩ := bS hF
      have wx5 := chk_w gx5
      obtain ⟨x6, gx6, hF⟩ := bS hF
      obtain ⟨w7a, w7b⟩ := getI_w gx6
      obtain ⟨x8, gx8, hF⟩ := bS hF
      obtain ⟨w9a, w9b⟩ := getI_w gx8
      obtain ⟨x10, gx10, hF⟩ := bS hF
      have w11 : ans A 119 [V.int .i64 a0.Prime, V.int .i64 x6, V.isl (List.map Enc.enc a2), V.isl (List.map Enc.enc x8)] = some (V.isl (List.map Enc.enc x10)) := s119 a0.Prime x6 a2 x8  gx10
      have hE := Option.some.inj hF; subst hE
      simp only [↓reduceIte, Nat.reduceAdd, Nat.reduceMul, Nat.reduceSub, Nat.reduceLT, Nat.reduceLeDiff, Nat.reduceEqDiff, Nat.reducePow, Int.reducePow, Int.reduceLE, Int.reduceLT, Int.reduceEq, Int.reduceToNat, reduceCtorEq, RR, RB, RZ, RE, opEv, fillV, mapO, mapS, b91, hl_0, h0_0, h1_0, h2_0, eq_false c1, w3, eq_false c4, wx5, w7a, w7b, w9a, w9b, w11]
      exact fin_ret (by simp only [↓reduceIte, Nat.reduceAdd, Nat.reduceMul, Nat.reduceSub, Nat.reduceLT, Nat.reduceLeDiff, Nat.reduceEqDiff, Nat.reducePow, Int.reducePow, Int.reduceLE, Int.reduceLT, Int.reduceEq, Int.reduceToNat, reduceCtorEq, RR, RB, RZ, RE, fn_out, p91, Rs.ev, mapO, mapS, take_len_self, hl_0, h0_0, h1_0, h2_0, eq_false c1, w3, eq_false c4, wx5, w7a, w7b, w9a, w9b, w11])
/-! loop.example/g01273/impl.isZero$1 -/
def F118 (a0 : Int) : Option Bool :=
  some (!(decide (a0 = 0)))
theorem s118 (a0 : Int)   {r : Bool} (hF : F118 a0 = some r) : ans A 118 [V.int .i64 a0] = some (Enc.enc r) := by
  refine ans_of (f := p118) rfl rfl rfl fun e hl he => ?_
  have h0_0 : e.at 0 = V.int .i64 a0 := he 0 _ rfl
  have hl_0 : e.length = 5 := hl
  clear he hl
  show W A b118 e ⟨[], 0⟩ _
  unfold F118 at hF
  have hE := Option.some.inj hF; subst hE
  simp only [↓reduceIte, Nat.reduceAdd, Nat.reduceMul, Nat.reduceSub, Nat.reduceLT, Nat.reduceLeDiff, Nat.reduceEqDiff, Nat.reducePow, Int.reducePow, Int.reduceLE, Int.reduceLT, Int.reduceEq, Int.reduceToNat, reduceCtorEq, RR, RB, RZ, RE, opEv, fillV, mapO, mapS, b118, hl_0, h0_0]
  exact fin_ret (by simp only [↓reduceIte, Nat.reduceAdd, Nat.reduceMul, Nat.reduceSub, Nat.reduceLT, Nat.reduceLeDiff, Nat.reduceEqDiff, Nat.reducePow, Int.reducePow, Int.reduceLE, Int.reduceLT, Int.reduceEq, Int.reduceToNat, reduceCtorEq, RR, RB, RZ, RE, fn_out, p118, Rs.ev, mapO, mapS, take_len_self, hl_0, h0_0])
/-! loop.example/g01273/impl.isZero -/
def F92 (a0 : List Int) : Option Bool :=
  (F82 a0 (fun x => F118 x)).bind fun x1 =>
  some (!x1)
theorem s92 (a0 : List Int)   {r : Bool} (hF : F92 a0 = some r) : ans A 92 [V.isl (List.map Enc.enc a0)] = some (Enc.enc r) := by
  refine ans_of (f := p92) rfl rfl rfl fun e hl he => ?_
  have h0_0 : e.at 0 = V.isl (List.map Enc.enc a0) := he 0 _ rfl
  have hl_0 : e.length = 6 := hl
  clear he hl
  show W A b92 e ⟨[], 0⟩ _
  unfold F92 at hF
  obtain ⟨x1, gx1, hF⟩ := bS hF
  have w2 : ans A 82 [V.isl (List.map Enc.enc a0), V.fn 118 [] []] = some (V.bool x1) := s82 a0 (fun x => F118 x) (Clo1.of (by intro h f; simp only [RZ, mapO]) (by intro h f; simp only [RZ, mapO]) (by intro f; simp only [RZ, RB]) (by intro f; simp only [RZ, RB]) (fun x _ hr => s118 x hr)) gx1
  have hE := Option.some.inj hF; subst hE
  simp only [↓reduceIte, Nat.reduceAdd, Nat.reduceMul, Nat.reduceSub, Nat.reduceLT, Nat.reduceLeDiff, Nat.reduceEqDiff, Nat.reducePow, Int.reducePow, Int.reduceLE, Int.reduceLT, Int.reduceEq, Int.reduceToNat, reduceCtorEq, RR, RB, RZ, RE, opEv, fillV, mapO, mapS, b92, hl_0, h0_0, w2]
  exact fin_ret (by simp only [↓reduceIte, Nat.reduceAdd, Nat.reduceMul, Nat.reduceSub, Nat.reduceLT, Nat.reduceLeDiff, Nat.reduceEqDiff, Nat.reducePow, Int.reducePow, Int.reduceLE, Int.reduceLT, Int.reduceEq, Int.reduceToNat, reduceCtorEq, RR, RB, RZ, RE, fn_out, p92, Rs.ev, mapO, mapS, take_len_self, hl_0, h0_0, w2])
/-! loop.example/g01273/impl.IsComplex -/
def F42_1_B (a0 : GComplex) (v34_1 : Int) (s : Unit) : Option ((Unit) ⊕ ((Unit) ⊕ Bool)) :=
  (getI a0.Maps v34_1).bind fun x15 =>
(getI a0.Dims (v34_1 + 1)).bind fun x19 =>
if (x15.length : Int) = x19 then
  (getI a0.Dims v34_1).bind fun x22 =>
  (F90 a0.Prime x22 x15).bind fun x24 =>
  if x24 = true then
    some (.inl ())
  else
    some (.inr (.inr false))
else
  some (.inr (.inr false))
def F42_1_D (a0 : GComplex) (v34_1 : Int) (s : Unit) : Option ((Unit) ⊕ Bool) :=
  some (.inl ())
def F42_3_B (a0 : GComplex) (v5_2 : Int) (x34 : List (List Int)) (v74_3 : Int) (s : Unit) : Option ((Unit) ⊕ ((Unit) ⊕ Bool)) :=
  (getI x34 v74_3).bind fun x39 =>
(chk (v5_2 - 1)).bind fun x41 =>
(F91 a0 x41 x39).bind fun x42 =>
(F92 x42).bind fun x44 =>
if x44 = true then
  some (.inl ())
else
  some (.inr (.inr false))
def F42_3_D (a0 : GComplex) (v5_2 : Int) (x34 : List (List Int)) (v74_3 : Int) (s : Unit) : Option ((Unit) ⊕ Bool) :=
  some (.inl ())
def F42_2_S (a0 : GComplex) (v5_2 : Int) : Option ((Int) ⊕ ((Unit) ⊕ Bool)) :=
  (F86 a0).bind fun x30 =>
if v5_2 ≤ x30 then
  (chk (v5_2 - 1)).bind fun x33 =>
  (getI a0.Maps x33).bind fun x34 =>
  (forR 0 (x34.length : Int) (F42_3_B a0 v5_2 x34) (F42_3_D a0 v5_2 x34) ()).bind fun t46 => match t46 with
    | .inl _ =>
      (chk (v5_2 + 1)).bind fun x47 =>
      some (.inl x47)
    | .inr r48 => some (.inr (.inr r48))
else
  some (.inr (.inl ()))
def F42 (a0 : GComplex) : Option Bool :=
  (F67 a0.Prime).bind fun x1 =>
  if x1 = true then
    (F86 a0).bind fun x3 =>
    (F56 x3 0 5).bind fun x5 =>
    if x5 = true then
      if (a0.Maps.length : Int) = x3 then
        (F82 a0.Dims (fun x => F88 x)).bind fun x10 =>
        if x10 = true then
          some false
        else
          (forR 0 (a0.Maps.length : Int) (F42_1_B a0) (F42_1_D a0) ()).bind fun t26 => match t26 with
            | .inl _ =>
              (loopW (F42_2_S a0) 2).bind fun t49 => match t49 with
                | .inl _ =>
                  some true
                | .inr r50 => some r50
            | .inr r51 => some r51
      else
        some false
    else
      some false
  else
    some false
def I42_1 (a0 : GComplex)  (v34_1 : Int) (s : Unit) (e : Env) (h : Heap) : Prop :=
  ∃ k13 : Nat, h = ⟨[(0, none)], k13⟩ ∧ e.length = 86 ∧ e.at 1 = V.iptr [V.int .i64 a0.Prime, V.isl (List.map Enc.enc a0.Dims), V.isl (List.map Enc.enc a0.Maps)] ∧ e.at 32 = V.isl (List.map Enc.enc a0.Maps) ∧ e.at 33 = V.int .i64 (a0.Maps.length : Int) ∧ e.at 34 = V.int .i64 v34_1
def P42_1 (a0 : GComplex)  (t : (Unit) ⊕ Bool) (x : Ex) (e : Env) (h : Heap) : Prop :=
  match t with
  | .inl _ => x = .normal ∧ ∃ k13 : Nat, h = ⟨[(0, none)], k13⟩ ∧ e.length = 86 ∧ e.at 1 = V.iptr [V.int .i64 a0.Prime, V.isl (List.map Enc.enc a0.Dims), V.isl (List.map Enc.enc a0.Maps)]
  | .inr r => x = .ret ∧ Fin p42 (Enc.enc r) .ret e h
theorem l42_1 (a0 : GComplex)   {lo : Int} {s : Unit} {t : (Unit) ⊕ Bool} (hF : forR lo (a0.Maps.length : Int) (F42_1_B a0) (F42_1_D a0) s = some t) {e : Env} {h : Heap} (hI : I42_1 a0  lo s e h) : W A c42_1 e h (P42_1 a0  t) := by
  show W A (.block 0 (.loop false b42_1)) e h _
  rw [W_block]
  refine W_forR hF 1 (by obtain ⟨_, rfl, _⟩ := hI; rfl) (I42_1 a0 ) hI ?_ ?_
  · rintro v34_1 _ e h ⟨k13, rfl, hl_12, h1_12, h32_12, h33_12, h34_12⟩ hlt hw o ho
    unfold F42_1_B at ho
    obtain ⟨x15, gx15, ho⟩ := bS ho
    obtain ⟨w16a, w16b⟩ := getI_w gx15
    have w18 : ans A 89 [V.isl (List.map Enc.enc x15)] = some (V.int .i64 (x15.length : Int)) := s89 x15  rfl
    obtain ⟨x19, gx19, ho⟩ := bS ho
    obtain ⟨w20a, w20b⟩ := getI_w gx19
    by_cases c21 : (x15.length : Int) = x19
    · rw [if_pos c21] at ho
      obtain ⟨x22, gx22, ho⟩ := bS ho
      obtain ⟨w23a, w23b⟩ := getI_w gx22
      obtain ⟨x24, gx24, ho⟩ := bS ho
      have w25 : ans A 90 [V.int .i64 a0.Prime, V.int .i64 x22, V.isl (List.map Enc.enc x15)] = some (V.bool x24) := s90 a0.Prime x22 x15  gx24
      cases x24 with
      | true =>
        rw [if_pos rfl] at ho
        have hE := Option.some.inj ho; subst hE
        simp only [↓reduceIte, Nat.reduceAdd, Nat.reduceMul, Nat.reduceSub, Nat.reduceLT, Nat.reduceLeDiff, Nat.reduceEqDiff, Nat.reducePow, Int.reducePow, Int.reduceLE, Int.reduceLT, Int.reduceEq, Int.reduceToNat, reduceCtorEq, RR, RB, RZ, RE, opEv, fillV, mapO, mapS, b42_1, hl_12, h1_12, h32_12, h33_12, h34_12, eq_true hlt, hw, w16a, w16b, w18, w20a, w20b, eq_true c21, w23a, w23b, w25]
        refine And.intro rfl (Exists.intro _ ( And.intro rfl ?_))
        simp only [↓reduceIte, Nat.reduceAdd, Nat.reduceMul, Nat.reduceSub, Nat.reduceLT, Nat.reduceLeDiff, Nat.reduceEqDiff, Nat.reducePow, Int.reducePow, Int.reduceLE, Int.reduceLT, Int.reduceEq, Int.reduceToNat, reduceCtorEq, RR, RB, RZ, RE, hl_12, h1_12, h32_12, h33_12, h34_12, eq_true hlt, hw, w16a, w16b, w18, w20a, w20b, eq_true c21, w23a, w23b, w25]
      | false =>
        rw [if_neg Bool.false_ne_true] at ho
        have hE := Option.some.inj ho; subst hE
        simp only [↓reduceIte, Nat.reduceAdd, Nat.reduceMul, Nat.reduceSub, Nat.reduceLT, Nat.reduceLeDiff, Nat.reduceEqDiff, Nat.reducePow, Int.reducePow, Int.reduceLE, Int.reduceLT, Int.reduceEq, Int.reduceToNat, reduceCtorEq, RR, RB, RZ, RE, opEv, fillV, mapO, mapS, b42_1, hl_12, h1_12, h32_12, h33_12, h34_12, eq_true hlt, hw, w16a, w16b, w18, w20a, w20b, eq_true c21, w23a, w23b, w25]
        intro ht; subst ht
        simp only [↓reduceIte, Nat.reduceAdd, Nat.reduceMul, Nat.reduceSub, Nat.reduceLT, Nat.reduceLeDiff, Nat.reduceEqDiff, Nat.reducePow, Int.reducePow, Int.reduceLE, Int.reduceLT, Int.reduceEq, Int.reduceToNat, reduceCtorEq, RR, RB]
        exact And.intro rfl (fin_ret (by simp only [↓reduceIte, Nat.reduceAdd, Nat.reduceMul, Nat.reduceSub, Nat.reduceLT, Nat.reduceLeDiff, Nat.reduceEqDiff, Nat.reducePow, Int.reducePow, Int.reduceLE, Int.reduceLT, Int.reduceEq, Int.reduceToNat, reduceCtorEq, RR, RB, RZ, RE, fn_out, p42, Rs.ev, mapO, mapS, take_len_self, hl_12, h1_12, h32_12, h33_12, h34_12, eq_true hlt, hw, w16a, w16b, w18, w20a, w20b, eq_true c21, w23a, w23b, w25]))
    · rw [if_neg c21] at ho
      have hE := Option.some.inj ho; subst hE
      simp only [↓reduceIte, Nat.reduceAdd, Nat.reduceMul, Nat.reduceSub, Nat.reduceLT, Nat.reduceLeDiff, Nat.reduceEqDiff, Nat.reducePow, Int.reducePow, Int.reduceLE, Int.reduceLT, Int.reduceEq, Int.reduceToNat, reduceCtorEq, RR, RB, RZ, RE, opEv, fillV, mapO, mapS, b42_1, hl_12, h1_12, h32_12, h33_12, h34_12, eq_true hlt, hw, w16a, w16b, w18, w20a, w20b, eq_false c21]
      intro ht; subst ht
      simp only [↓reduceIte, Nat.reduceAdd, Nat.reduceMul, Nat.reduceSub, Nat.reduceLT, Nat.reduceLeDiff, Nat.reduceEqDiff, Nat.reducePow, Int.reducePow, Int.reduceLE, Int.reduceLT, Int.reduceEq, Int.reduceToNat, reduceCtorEq, RR, RB]
      exact And.intro rfl (fin_ret (by simp only [↓reduceIte, Nat.reduceAdd, Nat.reduceMul, Nat.reduceSub, Nat.reduceLT, Nat.reduceLeDiff, Nat.reduceEqDiff, Nat.reducePow, Int.reducePow, Int.reduceLE, Int.reduceLT, Int.reduceEq, Int.reduceToNat, reduceCtorEq, RR, RB, RZ, RE, fn_out, p42, Rs.ev, mapO, mapS, take_len_self, hl_12, h1_12, h32_12, h33_12, h34_12, eq_true hlt, hw, w16a, w16b, w18, w20a, w20b, eq_false c21]))
  · rintro v34_1 _ e h ⟨k13, rfl, hl_12, h1_12, h32_12, h33_12, h34_12⟩ hge t1 ho
    unfold F42_1_D at ho
    have hE := Option.some.inj ho; subst hE
    simp only [↓reduceIte, Nat.reduceAdd, Nat.reduceMul, Nat.reduceSub, Nat.reduceLT, Nat.reduceLeDiff, Nat.reduceEqDiff, Nat.reducePow, Int.reducePow, Int.reduceLE, Int.reduceLT, Int.reduceEq, Int.reduceToNat, reduceCtorEq, RR, RB, RZ, RE, opEv, fillV, mapO, mapS, b42_1, hl_12, h1_12, h32_12, h33_12, h34_12, eq_false hge]
    intro ht; subst ht
    refine And.intro rfl (Exists.intro _ ( And.intro rfl ?_))
    simp only [↓reduceIte, Nat.reduceAdd, Nat.reduceMul, Nat.reduceSub, Nat.reduceLT, Nat.reduceLeDiff, Nat.reduceEqDiff, Nat.reducePow, Int.reducePow, Int.reduceLE, Int.reduceLT, Int.reduceEq, Int.reduceToNat, reduceCtorEq, RR, RB, RZ, RE, hl_12, h1_12, h32_12, h33_12, h34_12, eq_false hge]
def I42_3 (a0 : GComplex) (v5_2 : Int) (x34 : List (List Int))  (v74_3 : Int) (s : Unit) (e : Env) (h : Heap) : Prop :=
  ∃ k37 : Nat, h = ⟨[(0, none)], k37⟩ ∧ e.length = 86 ∧ e.at 1 = V.iptr [V.int .i64 a0.Prime, V.isl (List.map Enc.enc a0.Dims), V.isl (List.map Enc.enc a0.Maps)] ∧ e.at 5 = V.int .i64 v5_2 ∧ e.at 72 = V.isl (List.map Enc.enc x34) ∧ e.at 73 = V.int .i64 (x34.length : Int) ∧ e.at 74 = V.int .i64 v74_3
def P42_3 (a0 : GComplex) (v5_2 : Int) (x34 : List (List Int))  (t : (Unit) ⊕ Bool) (x : Ex) (e : Env) (h : Heap) : Prop :=
  match t with
  | .inl _ => x = .normal ∧ ∃ k37 : Nat, h = ⟨[(0, none)], k37⟩ ∧ e.length = 86 ∧ e.at 1 = V.iptr [V.int .i64 a0.Prime, V.isl (List.map Enc.enc a0.Dims), V.isl (List.map Enc.enc a0.Maps)] ∧ e.at 5 = V.int .i64 v5_2
  | .inr r => x = .ret ∧ Fin p42 (Enc.enc r) .ret e h
theorem l42_3 (a0 : GComplex) (v5_2 : Int) (x34 : List (List Int))   {lo : Int} {s : Unit} {t : (Unit) ⊕ Bool} (hF : forR lo (x34.length : Int) (F42_3_B a0 v5_2 x34) (F42_3_D a0 v5_2 x34) s = some t) {e : Env} {h : Heap} (hI : I42_3 a0 v5_2 x34  lo s e h) : W A c42_3 e h (P42_3 a0 v5_2 x34  t) := by
  show W A (.block 4 (.loop false b42_3)) e h _
  rw [W_block]
  refine W_forR hF 1 (by obtain ⟨_, rfl, _⟩ := hI; rfl) (I42_3 a0 v5_2 x34 ) hI ?_ ?_
  · rintro v74_3 _ e h ⟨k37, rfl, hl_36, h1_36, h5_36, h72_36, h73_36, h74_36⟩ hlt hw o ho
    unfold F42_3_B at ho
    obtain ⟨x39, gx39, ho⟩ := bS ho
    obtain ⟨w40a, w40b⟩ := getI_w gx39
    obtain ⟨x41, gx41, ho⟩ := bS ho
    have wx41 := chk_w gx41
    obtain ⟨x42, gx42, ho⟩ := bS ho
    have w43 : ans A 91 [V.agg [V.int .i64 a0.Prime, V.isl (List.map Enc.enc a0.Dims), V.isl (List.map Enc.enc a0.Maps)], V.int .i64 x41, V.isl (List.map Enc.enc x39)] = some (V.isl (List.map Enc.enc x42)) := s91 a0 x41 x39  gx42
    obtain ⟨x44, gx44, ho⟩ := bS ho
    have w45 : ans A 92 [V.isl (List.map Enc.enc x42)] = some (V.bool x44) := s92 x42  gx44
    cases x44 with
    | true =>
      rw [if_pos rfl] at ho
      have hE := Option.some.inj ho; subst hE
      simp only [↓reduceIte, Nat.reduceAdd, Nat.reduceMul, Nat.reduceSub, Nat.reduceLT, Nat.reduceLeDiff, Nat.reduceEqDiff, Nat.reducePow, Int.reducePow, Int.reduceLE, Int.reduceLT, Int.reduceEq, Int.reduceToNat, reduceCtorEq, RR, RB, RZ, RE, opEv, fillV, mapO, mapS, b42_3, hl_36, h1_36, h5_36, h72_36, h73_36, h74_36, eq_true hlt, hw, w40a, w40b, wx41, w43, w45]
      refine And.intro rfl (Exists.intro _ ( And.intro rfl ?_))
      simp only [↓reduceIte, Nat.reduceAdd, Nat.reduceMul, Nat.reduceSub, Nat.reduceLT, Nat.reduceLeDiff, Nat.reduceEqDiff, Nat.reducePow, Int.reducePow, Int.reduceLE, Int.reduceLT, Int.reduceEq, Int.reduceToNat, reduceCtorEq, RR, RB, RZ, RE, hl_36, h1_36, h5_36, h72_36, h73_36, h74_36, eq_true hlt, hw, w40a, w40b, wx41, w43, w45]
    | false =>
      rw [if_neg Bool.false_ne_true] at ho
      have hE := Option.some.inj ho; subst hE
      simp only [↓reduceIte, Nat.reduceAdd, Nat.reduceMul, Nat.reduceSub, Nat.reduceLT, Nat.reduceLeDiff, Nat.reduceEqDiff, Nat.reducePow, Int.reducePow, Int.reduceLE, Int.reduceLT, Int.reduceEq, Int.reduceToNat, reduceCtorEq, RR, RB, RZ, RE, opEv, fillV, mapO, mapS, b42_3, hl_36, h1_36, h5_36, h72_36, h73_36, h74_36, eq_true hlt, hw, w40a, w40b, wx41, w43, w45]
      intro ht; subst ht
      simp only [↓reduceIte, Nat.reduceAdd, Nat.reduceMul, Nat.reduceSub, Nat.reduceLT, Nat.reduceLeDiff, Nat.reduceEqDiff, Nat.reducePow, Int.reducePow, Int.reduceLE, Int.reduceLT, Int.reduceEq, Int.reduceToNat, reduceCtorEq, RR, RB]
      exact And.intro rfl (fin_ret (by simp only [↓reduceIte, Nat.reduceAdd, Nat.reduceMul, Nat.reduceSub, Nat.reduceLT, Nat.reduceLeDiff, Nat.reduceEqDiff, Nat.reducePow, Int.reducePow, Int.reduceLE, Int.reduceLT, Int.reduceEq, Int.reduceToNat, reduceCtorEq, RR, RB, RZ, RE, fn_out, p42, Rs.ev, mapO, mapS, take_len_self, hl_36, h1_36, h5_36, h72_36, h73_36, h74_36, eq_true hlt, hw, w40a, w40b, wx41, w43, w45]))
  · rintro v74_3 _ e h ⟨k37, rfl, hl_36, h1_36, h5_36, h72_36, h73_36, h74_36⟩ hge t1 ho
    unfold F42_3_D at ho
    have hE := Option.some.inj ho; subst hE
    simp only [↓reduceIte, Nat.reduceAdd, Nat.reduceMul, Nat.reduceSub, Nat.reduceLT, Nat.reduceLeDiff, Nat.reduceEqDiff, Nat.reducePow, Int.reducePow, Int.reduceLE, Int.reduceLT, Int.reduceEq, Int.reduceToNat, reduceCtorEq, RR, RB, RZ, RE, opEv, fillV, mapO, mapS, b42_3, hl_36, h1_36, h5_36, h72_36, h73_36, h74_36, eq_false hge]
    intro ht; subst ht
    refine And.intro rfl (Exists.intro _ ( And.intro rfl ?_))
    simp only [↓reduceIte, Nat.reduceAdd, Nat.reduceMul, Nat.reduceSub, Nat.reduceLT, Nat.reduceLeDiff, Nat.reduceEqDiff, Nat.reducePow, Int.reducePow, Int.reduceLE, Int.reduceLT, Int.reduceEq, Int.reduceToNat, reduceCtorEq, RR, RB, RZ, RE, hl_36, h1_36, h5_36, h72_36, h73_36, h74_36, eq_false hge]
def I42_2 (a0 : GComplex)  (v5_2 : Int) (e : Env) (h : Heap) : Prop :=
  ∃ k28 : Nat, h = ⟨[(0, none)], k28⟩ ∧ e.length = 86 ∧ e.at 1 = V.iptr [V.int .i64 a0.Prime, V.isl (List.map Enc.enc a0.Dims), V.isl (List.map Enc.enc a0.Maps)] ∧ e.at 5 = V.int .i64 v5_2
def P42_2 (a0 : GComplex)  (t : (Unit) ⊕ Bool) (x : Ex) (e : Env) (h : Heap) : Prop :=
  match t with
  | .inl _ => x = .normal ∧ ∃ k28 : Nat, h = ⟨[(0, none)], k28⟩ ∧ e.length = 86
  | .inr r => x = .ret ∧ Fin p42 (Enc.enc r) .ret e h
theorem l42_2 (a0 : GComplex)   {s : Int} {t : (Unit) ⊕ Bool} (hF : loopW (F42_2_S a0) s = some t) {e : Env} {h : Heap} (hI : I42_2 a0  s e h) : W A c42_2 e h (P42_2 a0  t) := by
  show W A (.block 2 (.loop false b42_2)) e h _
  rw [W_block]
  refine W_loop hF 1 (by obtain ⟨_, rfl, _⟩ := hI; rfl) (I42_2 a0 ) hI ?_
  · rintro v5_2 e h ⟨k28, rfl, hl_27, h1_27, h5_27⟩ o ho
    unfold F42_2_S at ho
    obtain ⟨x30, gx30, ho⟩ := bS ho
    have w31 : ans A 86 [V.agg [V.int .i64 a0.Prime, V.isl (List.map Enc.enc a0.Dims), V.isl (List.map Enc.enc a0.Maps)]] = some (V.int .i64 x30) := s86 a0  gx30
    by_cases c32 : v5_2 ≤ x30
    · rw [if_pos c32] at ho
      obtain ⟨x33, gx33, ho⟩ := bS ho
      have wx33 := chk_w gx33
      obtain ⟨x34, gx34, ho⟩ := bS ho
      obtain ⟨w35a, w35b⟩ := getI_w gx34
      obtain ⟨t46, gt46, ho⟩ := bS ho
      rcases t46 with _ | r48
      · dsimp only at ho
        simp only [↓reduceIte, Nat.reduceAdd, Nat.reduceMul, Nat.reduceSub, Nat.reduceLT, Nat.reduceLeDiff, Nat.reduceEqDiff, Nat.reducePow, Int.reducePow, Int.reduceLE, Int.reduceLT, Int.reduceEq, Int.reduceToNat, reduceCtorEq, RR, RB, RZ, RE, opEv, fillV, mapO, mapS, b42_2, hl_27, h1_27, h5_27, w31, eq_true c32, wx33, w35a, w35b]
        refine W.mono (l42_3 a0 v5_2 x34   gt46 (Exists.intro _ ( And.intro rfl ?_))) ?_
        · simp only [↓reduceIte, Nat.reduceAdd, Nat.reduceMul, Nat.reduceSub, Nat.reduceLT, Nat.reduceLeDiff, Nat.reduceEqDiff, Nat.reducePow, Int.reducePow, Int.reduceLE, Int.reduceLT, Int.reduceEq, Int.reduceToNat, reduceCtorEq, RR, RB, RZ, RE, hl_27, h1_27, h5_27, w31, eq_true c32, wx33, w35a, w35b]
        rintro _ e _ ⟨rfl, k37, rfl, hl_38, h1_38, h5_38⟩
        obtain ⟨x47, gx47, ho⟩ := bS ho
        have wx47 := chk_w gx47
        have hE := Option.some.inj ho; subst hE
        simp only [↓reduceIte, Nat.reduceAdd, Nat.reduceMul, Nat.reduceSub, Nat.reduceLT, Nat.reduceLeDiff, Nat.reduceEqDiff, Nat.reducePow, Int.reducePow, Int.reduceLE, Int.reduceLT, Int.reduceEq, Int.reduceToNat, reduceCtorEq, RR, RB, RZ, RE, opEv, fillV, mapO, mapS, hl_38, h1_38, h5_38, eq_true c32, wx47]
        refine And.intro rfl (Exists.intro _ ( And.intro rfl ?_))
        simp only [↓reduceIte, Nat.reduceAdd, Nat.reduceMul, Nat.reduceSub, Nat.reduceLT, Nat.reduceLeDiff, Nat.reduceEqDiff, Nat.reducePow, Int.reducePow, Int.reduceLE, Int.reduceLT, Int.reduceEq, Int.reduceToNat, reduceCtorEq, RR, RB, RZ, RE, hl_38, h1_38, h5_38, eq_true c32, wx47]
      · dsimp only at ho
        have hE := Option.some.inj ho; subst hE
        simp only [↓reduceIte, Nat.reduceAdd, Nat.reduceMul, Nat.reduceSub, Nat.reduceLT, Nat.reduceLeDiff, Nat.reduceEqDiff, Nat.reducePow, Int.reducePow, Int.reduceLE, Int.reduceLT, Int.reduceEq, Int.reduceToNat, reduceCtorEq, RR, RB, RZ, RE, opEv, fillV, mapO, mapS, b42_2, hl_27, h1_27, h5_27, w31, eq_true c32, wx33, w35a, w35b]
        refine W.mono (l42_3 a0 v5_2 x34   gt46 (Exists.intro _ ( And.intro rfl ?_))) ?_
        · simp only [↓reduceIte, Nat.reduceAdd, Nat.reduceMul, Nat.reduceSub, Nat.reduceLT, Nat.reduceLeDiff, Nat.reduceEqDiff, Nat.reducePow, Int.reducePow, Int.reduceLE, Int.reduceLT, Int.reduceEq, Int.reduceToNat, reduceCtorEq, RR, RB, RZ, RE, hl_27, h1_27, h5_27, w31, eq_true c32, wx33, w35a, w35b]
        rintro _ e h ⟨rfl, hq⟩
        simp only [↓reduceIte, Nat.reduceAdd, Nat.reduceMul, Nat.reduceSub, Nat.reduceLT, Nat.reduceLeDiff, Nat.reduceEqDiff, Nat.reducePow, Int.reducePow, Int.reduceLE, Int.reduceLT, Int.reduceEq, Int.reduceToNat, reduceCtorEq, RR, RB]
        intro ht; subst ht
        simp only [↓reduceIte, Nat.reduceAdd, Nat.reduceMul, Nat.reduceSub, Nat.reduceLT, Nat.reduceLeDiff, Nat.reduceEqDiff, Nat.reducePow, Int.reducePow, Int.reduceLE, Int.reduceLT, Int.reduceEq, Int.reduceToNat, reduceCtorEq, RR, RB]
        exact And.intro rfl hq
    · rw [if_neg c32] at ho
      have hE := Option.some.inj ho; subst hE
      simp only [↓reduceIte, Nat.reduceAdd, Nat.reduceMul, Nat.reduceSub, Nat.reduceLT, Nat.reduceLeDiff, Nat.reduceEqDiff, Nat.reducePow, Int.reducePow, Int.reduceLE, Int.reduceLT, Int.reduceEq, Int.reduceToNat, reduceCtorEq, RR, RB, RZ, RE, opEv, fillV, mapO, mapS, b42_2, hl_27, h1_27, h5_27, w31, eq_false c32]
      intro ht; subst ht
      simp only [↓reduceIte, Nat.reduceAdd, Nat.reduceMul, Nat.reduceSub, Nat.reduceLT, Nat.reduceLeDiff, Nat.reduceEqDiff, Nat.reducePow, Int.reducePow, Int.reduceLE, Int.reduceLT, Int.reduceEq, Int.reduceToNat, reduceCtorEq, RR, RB]
      refine And.intro rfl (Exists.intro _ ( And.intro rfl ?_))
      simp only [↓reduceIte, Nat.reduceAdd, Nat.reduceMul, Nat.reduceSub, Nat.reduceLT, Nat.reduceLeDiff, Nat.reduceEqDiff, Nat.reducePow, Int.reducePow, Int.reduceLE, Int.reduceLT, Int.reduceEq, Int.reduceToNat, reduceCtorEq, RR, RB, RZ, RE, hl_27, h1_27, h5_27, w31, eq_false c32]
theorem s42 (a0 : GComplex)   {r : Bool} (hF : F42 a0 = some r) : ans A 42 [V.agg [V.int .i64 a0.Prime, V.isl (List.map Enc.enc a0.Dims), V.isl (List.map Enc.enc a0.Maps)]] = some (Enc.enc r) := by
  refine ans_of (f := p42) rfl rfl rfl fun e hl he => ?_
  have h0_0 : e.at 0 = V.agg [V.int .i64 a0.Prime, V.isl (List.map Enc.enc a0.Dims), V.isl (List.map Enc.enc a0.Maps)] := he 0 _ rfl
  have hl_0 : e.length = 86 := hl
  clear he hl
  show W A b42 e ⟨[], 0⟩ _
  unfold F42 at hF
  obtain ⟨x1, gx1, hF⟩ := bS hF
  have w2 : ans A 67 [V.int .i64 a0.Prime] = some (V.bool x1) := s67 a0.Prime  gx1
  cases x1 with
  | true =>
    rw [if_pos rfl] at hF
    obtain ⟨x3, gx3, hF⟩ := bS hF
    have w4 : ans A 86 [V.agg [V.int .i64 a0.Prime, V.isl (List.map Enc.enc a0.Dims), V.isl (List.map Enc.enc a0.Maps)]] = some (V.int .i64 x3) := s86 a0  gx3
    obtain ⟨x5, gx5, hF⟩ := bS hF
    have w6 : ans A 56 [V.int .i64 x3, V.int .i64 0, V.int .i64 5] = some (V.bool x5) := s56 x3 0 5  gx5
    cases x5 with
    | true =>
      rw [if_pos rfl] at hF
      have w8 : ans A 87 [V.isl (List.map Enc.enc a0.Maps)] = some (V.int .i64 (a0.Maps.length : Int)) := s87 a0.Maps  rfl
      by_cases c9 : (a0.Maps.length : Int) = x3
      · rw [if_pos c9] at hF
        obtain ⟨x10, gx10, hF⟩ := bS hF
        have w11 : ans A 82 [V.isl (List.map Enc.enc a0.Dims), V.fn 88 [] []] = some (V.bool x10) := s82 a0.Dims (fun x => F88 x) (Clo1.of (by intro h f; simp only [RZ, mapO]) (by intro h f; simp only [RZ, mapO]) (by intro f; simp only [RZ, RB]) (by intro f; simp only [RZ, RB]) (fun x _ hr => s88 x hr)) gx10
        cases x10 with
        | true =>
          rw [if_pos rfl] at hF
          have hE := Option.some.inj hF; subst hE
          simp only [↓reduceIte, Nat.reduceAdd, Nat.reduceMul, Nat.reduceSub, Nat.reduceLT, Nat.reduceLeDiff, Nat.reduceEqDiff, Nat.reducePow, Int.reducePow, Int.reduceLE, Int.reduceLT, Int.reduceEq, Int.reduceToNat, reduceCtorEq, RR, RB, RZ, RE, opEv, fillV, mapO, mapS, b42, hl_0, h0_0, w2, w4, w6, w8, eq_true c9, w11]
          exact fin_ret (by simp only [↓reduceIte, Nat.reduceAdd, Nat.reduceMul, Nat.reduceSub, Nat.reduceLT, Nat.reduceLeDiff, Nat.reduceEqDiff, Nat.reducePow, Int.reducePow, Int.reduceLE, Int.reduceLT, Int.reduceEq, Int.reduceToNat, reduceCtorEq, RR, RB, RZ, RE, fn_out, p42, Rs.ev, mapO, mapS, take_len_self, hl_0, h0_0, w2, w4, w6, w8, eq_true c9, w11])
        | false =>
          rw [if_neg Bool.false_ne_true] at hF
          obtain ⟨t26, gt26, hF⟩ := bS hF
          rcases t26 with _ | r51
          · dsimp only at hF
            simp only [↓reduceIte, Nat.reduceAdd, Nat.reduceMul, Nat.reduceSub, Nat.reduceLT, Nat.reduceLeDiff, Nat.reduceEqDiff, Nat.reducePow, Int.reducePow, Int.reduceLE, Int.reduceLT, Int.reduceEq, Int.reduceToNat, reduceCtorEq, RR, RB, RZ, RE, opEv, fillV, mapO, mapS, b42, hl_0, h0_0, w2, w4, w6, w8, eq_true c9, w11]
            refine W.mono (l42_1 a0   gt26 (Exists.intro _ ( And.intro rfl ?_))) ?_
            · simp only [↓reduceIte, Nat.reduceAdd, Nat.reduceMul, Nat.reduceSub, Nat.reduceLT, Nat.reduceLeDiff, Nat.reduceEqDiff, Nat.reducePow, Int.reducePow, Int.reduceLE, Int.reduceLT, Int.reduceEq, Int.reduceToNat, reduceCtorEq, RR, RB, RZ, RE, hl_0, h0_0, w2, w4, w6, w8, eq_true c9, w11]
            rintro _ e _ ⟨rfl, k13, rfl, hl_14, h1_14⟩
            obtain ⟨t49, gt49, hF⟩ := bS hF
            rcases t49 with _ | r50
            · dsimp only at hF
              simp only [↓reduceIte, Nat.reduceAdd, Nat.reduceMul, Nat.reduceSub, Nat.reduceLT, Nat.reduceLeDiff, Nat.reduceEqDiff, Nat.reducePow, Int.reducePow, Int.reduceLE, Int.reduceLT, Int.reduceEq, Int.reduceToNat, reduceCtorEq, RR, RB, RZ, RE, opEv, fillV, mapO, mapS, hl_14, h1_14, eq_true c9]
              refine W.mono (l42_2 a0   gt49 (Exists.intro _ ( And.intro rfl ?_))) ?_
              · simp only [↓reduceIte, Nat.reduceAdd, Nat.reduceMul, Nat.reduceSub, Nat.reduceLT, Nat.reduceLeDiff, Nat.reduceEqDiff, Nat.reducePow, Int.reducePow, Int.reduceLE, Int.reduceLT, Int.reduceEq, Int.reduceToNat, reduceCtorEq, RR, RB, RZ, RE, hl_14, h1_14, eq_true c9]
              rintro _ e _ ⟨rfl, k28, rfl, hl_29⟩
              have hE := Option.some.inj hF; subst hE
              simp only [↓reduceIte, Nat.reduceAdd, Nat.reduceMul, Nat.reduceSub, Nat.reduceLT, Nat.reduceLeDiff, Nat.reduceEqDiff, Nat.reducePow, Int.reducePow, Int.reduceLE, Int.reduceLT, Int.reduceEq, Int.reduceToNat, reduceCtorEq, RR, RB, RZ, RE, opEv, fillV, mapO, mapS, hl_29, eq_true c9]
              exact fin_ret (by simp only [↓reduceIte, Nat.reduceAdd, Nat.reduceMul, Nat.reduceSub, Nat.reduceLT, Nat.reduceLeDiff, Nat.reduceEqDiff, Nat.reducePow, Int.reducePow, Int.reduceLE, Int.reduceLT, Int.reduceEq, Int.reduceToNat, reduceCtorEq, RR, RB, RZ, RE, fn_out, p42, Rs.ev, mapO, mapS, take_len_self, hl_29, eq_true c9])
            · dsimp only at hF
              have hE := Option.some.inj hF; subst hE
              simp only [↓reduceIte, Nat.reduceAdd, Nat.reduceMul, Nat.reduceSub, Nat.reduceLT, Nat.reduceLeDiff, Nat.reduceEqDiff, Nat.reducePow, Int.reducePow, Int.reduceLE, Int.reduceLT, Int.reduceEq, Int.reduceToNat, reduceCtorEq, RR, RB, RZ, RE, opEv, fillV, mapO, mapS, hl_14, h1_14, eq_true c9]
              refine W.mono (l42_2 a0   gt49 (Exists.intro _ ( And.intro rfl ?_))) ?_
              · simp only [↓reduceIte, Nat.reduceAdd, Nat.reduceMul, Nat.reduceSub, Nat.reduceLT, Nat.reduceLeDiff, Nat.reduceEqDiff, Nat.reducePow, Int.reducePow, Int.reduceLE, Int.reduceLT, Int.reduceEq, Int.reduceToNat, reduceCtorEq, RR, RB, RZ, RE, hl_14, h1_14, eq_true c9]
              rintro _ e h ⟨rfl, hq⟩
              simp only [↓reduceIte, Nat.reduceAdd, Nat.reduceMul, Nat.reduceSub, Nat.reduceLT, Nat.reduceLeDiff, Nat.reduceEqDiff, Nat.reducePow, Int.reducePow, Int.reduceLE, Int.reduceLT, Int.reduceEq, Int.reduceToNat, reduceCtorEq, RR, RB]
              exact hq
          · dsimp only at hF
            have hE := Option.some.inj hF; subst hE
            simp only [↓reduceIte, Nat.reduceAdd, Nat.reduceMul, Nat.reduceSub, Nat.reduceLT, Nat.reduceLeDiff, Nat.reduceEqDiff, Nat.reducePow, Int.reducePow, Int.reduceLE, Int.reduceLT, Int.reduceEq, Int.reduceToNat, reduceCtorEq, RR, RB, RZ, RE, opEv, fillV, mapO, mapS, b42, hl_0, h0_0, w2, w4, w6, w8, eq_true c9, w11]
            refine W.mono (l42_1 a0   gt26 (Exists.intro _ ( And.intro rfl ?_))) ?_
            · simp only [↓reduceIte, Nat.reduceAdd, Nat.reduceMul, Nat.reduceSub, Nat.reduceLT, Nat.reduceLeDiff, Nat.reduceEqDiff, Nat.reducePow, Int.reducePow, Int.reduceLE, Int.reduceLT, Int.reduceEq, Int.reduceToNat, reduceCtorEq, RR, RB, RZ, RE, hl_0, h0_0, w2, w4, w6, w8, eq_true c9, w11]
            rintro _ e h ⟨rfl, hq⟩
            simp only [↓reduceIte, Nat.reduceAdd, Nat.reduceMul, Nat.reduceSub, Nat.reduceLT, Nat.reduceLeDiff, Nat.reduceEqDiff, Nat.reducePow, Int.reducePow, Int.reduceLE, Int.reduceLT, Int.reduceEq, Int.reduceToNat, reduceCtorEq, RR, RB]
            exact hq
      · rw [if_neg c9] at hF
        have hE := Option.some.inj hF; subst hE
        simp only [↓reduceIte, Nat.reduceAdd, Nat.reduceMul, Nat.reduceSub, Nat.reduceLT, Nat.reduceLeDiff, Nat.reduceEqDiff, Nat.reducePow, Int.reducePow, Int.reduceLE, Int.reduceLT, Int.reduceEq, Int.reduceToNat, reduceCtorEq, RR, RB, RZ, RE, opEv, fillV, mapO, mapS, b42, hl_0, h0_0, w2, w4, w6, w8, eq_false c9]
        exact fin_ret (by simp only [↓reduceIte, Nat.reduceAdd, Nat.reduceMul, Nat.reduceSub, Nat.reduceLT, Nat.reduceLeDiff, Nat.reduceEqDiff, Nat.reducePow, Int.reducePow, Int.reduceLE, Int.reduceLT, Int.reduceEq, Int.reduceToNat, reduceCtorEq, RR, RB, RZ, RE, fn_out, p42, Rs.ev, mapO, mapS, take_len_self, hl_0, h0_0, w2, w4, w6, w8, eq_false c9])
    | false =>
      rw [if_neg Bool.false_ne_true] at hF
      have hE := Option.some.inj hF; subst hE
      simp only [↓reduceIte, Nat.reduceAdd, Nat.reduceMul, Nat.reduceSub, Nat.reduceLT, Nat.reduceLeDiff, Nat.reduceEqDiff, Nat.reducePow, Int.reducePow, Int.reduceLE, Int.reduceLT, Int.reduceEq, Int.reduceToNat, reduceCtorEq, RR, RB, RZ, RE, opEv, fillV, mapO, mapS, b42, hl_0, h0_0, w2, w4, w6]
      exact fin_ret (by simp only [↓reduceIte, Nat.reduceAdd, Nat.reduceMul, Nat.reduceSub, Nat.reduceLT, Nat.reduceLeDiff, Nat.reduceEqDiff, Nat.reducePow, Int.reducePow, Int.reduceLE, Int.reduceLT, Int.reduceEq, Int.reduceToNat, reduceCtorEq, RR, RB, RZ, RE, fn_out, p42, Rs.ev, mapO, mapS, take_len_self, hl_0, h0_0, w2, w4, w6])
  | false =>
    rw [if_neg Bool.false_ne_true] at hF
    have hE := Option.some.inj hF; subst hE
    simp only [↓reduceIte, Nat.reduceAdd, Nat.reduceMul, Nat.reduceSub, Nat.reduceLT, Nat.reduceLeDiff, Nat.reduceEqDiff, Nat.reducePow, Int.reducePow, Int.reduceLE, Int.reduceLT, Int.reduceEq, Int.reduceToNat, reduceCtorEq, RR, RB, RZ, RE, opEv, fillV, mapO, mapS, b42, hl_0, h0_0, w2]
    exact fin_ret (by simp only [↓reduceIte, Nat.reduceAdd, Nat.reduceMul, Nat.reduceSub, Nat.reduceLT, Nat.reduceLeDiff, Nat.reduceEqDiff, Nat.reducePow, Int.reducePow, Int.reduceLE, Int.reduceLT, Int.reduceEq, Int.reduceToNat, reduceCtorEq, RR, RB, RZ, RE, fn_out, p42, Rs.ev, mapO, mapS, take_len_self, hl_0, h0_0, w2])
/-! loop.example/g01273/impl.IsFiltered$1 -/
def F83 (a0 : Int) : Option Bool :=
  (F56 a0 0 5).bind fun x1 =>
  some (!x1)
theorem s83 (a0 : Int)   {r : Bool} (hF : F83 a0 = some r) : ans A 83 [V.int .i64 a0] = some (Enc.enc r) := by
  refine ans_of (f := p83) rfl rfl rfl fun e hl he => ?_
  have h0_0 : e.at 0 = V.int .i64 a0 := he 0 _ rfl
  have hl_0 : e.length = 6 := hl
  clear he hl
  show W A b83 e ⟨[], 0⟩ _
  unfold F83 at hF
  obtain ⟨x1, gx1, hF⟩ := bS hF
  have w2 : ans A 56 [V.int .i64 a0, V.int .i64 0, V.int .i64 5] = some (V.bool x1) := s56 a0 0 5  gx1
  have hE := Option.some.inj hF; subst hE
  simp only [↓reduceIte, Nat.reduceAdd, Nat.reduceMul, Nat.reduceSub, Nat.reduceLT, Nat.reduceLeDiff, Nat.reduceEqDiff, Nat.reducePow, Int.reducePow, Int.reduceLE, Int.reduceLT, Int.reduceEq, Int.reduceToNat, reduceCtorEq, RR, RB, RZ, RE, opEv, fillV, mapO, mapS, b83, hl_0, h0_0, w2]
  exact fin_ret (by simp only [↓reduceIte, Nat.reduceAdd, Nat.reduceMul, Nat.reduceSub, Nat.reduceLT, Nat.reduceLeDiff, Nat.reduceEqDiff, Nat.reducePow, Int.reducePow, Int.reduceLE, Int.reduceLT, Int.reduceEq, Int.reduceToNat, reduceCtorEq, RR, RB, RZ, RE, fn_out, p83, Rs.ev, mapO, mapS, take_len_self, hl_0, h0_0, w2])
/-! loop.example/g01273/impl.IsFiltered$2 -/
def F84 (a0 : Int) (a1 : Int) (a2 : Int) (a3 : Int) (d0 : Bool) (d1 : GFiltered) : Option Bool :=
  if d0 = true then
    if a3 = 0 then
      some true
    else
      (chk (a0 - 1)).bind fun x2 =>
      (getI d1.Levels x2).bind fun x3 =>
      (getI x3 a2).bind fun x5 =>
      (getI d1.Levels a0).bind fun x7 =>
      (getI x7 a1).bind fun x9 =>
      some (decide (x5 ≤ x9))
  else
    some false
theorem q84 (r0 : Nat × Option (List V)) (r1 : Nat × Option (List V)) (uid clk : Nat) (G : List (Nat × Option (List V))) (a0 : Int) (a1 : Int) (a2 : Int) (a3 : Int) (d0 : Bool) (d1 : GFiltered) {r : Bool} (hF : F84 a0 a1 a2 a3 d0 d1 = some r) : res A 84 [V.int .i64 a0, V.int .i64 a1, V.int .i64 a2, V.int .i64 a3, V.ptr 2 uid 0, V.iptr [V.int .i64 d1.Complex.Prime, V.isl (List.map Enc.enc d1.Complex.Dims), V.isl (List.map Enc.enc d1.Complex.Maps), V.isl (List.map Enc.enc d1.Levels)]] ⟨r0 :: r1 :: (uid, some [V.bool d0]) :: G, clk⟩ = some (V.undef, ⟨r0 :: r1 :: (uid, some [V.bool r]) :: G, clk⟩) := by
  refine res_of (f := p84) rfl rfl rfl fun e hl he => ?_
  have h0_0 : e.at 0 = V.int .i64 a0 := he 0 _ rfl
  have h1_0 : e.at 1 = V.int .i64 a1 := he 1 _ rfl
  have h2_0 : e.at 2 = V.int .i64 a2 := he 2 _ rfl
  have h3_0 : e.at 3 = V.int .i64 a3 := he 3 _ rfl
  have h4_0 : e.at 4 = V.ptr 2 uid 0 := he 4 _ rfl
  have h5_0 : e.at 5 = V.iptr [V.int .i64 d1.Complex.Prime, V.isl (List.map Enc.enc d1.Complex.Dims), V.isl (List.map Enc.enc d1.Complex.Maps), V.isl (List.map Enc.enc d1.Levels)] := he 5 _ rfl
  have hl_0 : e.length = 35 := hl
  clear he hl
  show W A b84 e _ _
  unfold F84 at hF
  cases d0 with
  | true =>
    rw [if_pos rfl] at hF
    by_cases c1 : a3 = 0
    · rw [if_pos c1] at hF
      have hE := Option.some.inj hF; subst hE
      simp only [↓reduceIte, Nat.reduceAdd, Nat.reduceMul, Nat.reduceSub, Nat.reduceLT, Nat.reduceLeDiff, Nat.reduceEqDiff, Nat.reducePow, Int.reducePow, Int.reduceLE, Int.reduceLT, Int.reduceEq, Int.reduceToNat, reduceCtorEq, RR, RB, RZ, RE, opEv, fillV, mapO, mapS, b84, hl_0, h0_0, h1_0, h2_0, h3_0, h4_0, h5_0, eq_true c1]
      refine rfin_normal ?_ ?_
      · simp only [↓reduceIte, Nat.reduceAdd, Nat.reduceMul, Nat.reduceSub, Nat.reduceLT, Nat.reduceLeDiff, Nat.reduceEqDiff, Nat.reducePow, Int.reducePow, Int.reduceLE, Int.reduceLT, Int.reduceEq, Int.reduceToNat, reduceCtorEq, RR, RB, RZ, RE, fn_out, p84, mapO]; rfl
      · simp only [↓reduceIte, Nat.reduceAdd, Nat.reduceMul, Nat.reduceSub, Nat.reduceLT, Nat.reduceLeDiff, Nat.reduceEqDiff, Nat.reducePow, Int.reducePow, Int.reduceLE, Int.reduceLT, Int.reduceEq, Int.reduceToNat, reduceCtorEq, RR, RB, RZ, RE, hl_0, h0_0, h1_0, h2_0, h3_0, h4_0, h5_0, eq_true c1]
    · rw [if_neg c1] at hF
      obtain ⟨x2, gx2, hF⟩ := bS hF
      have wx2 := chk_w gx2
      obtain ⟨x3, gx3, hF⟩ := bS hF
      obtain ⟨w4a, w4b⟩ := getI_w gx3
      obtain ⟨x5, gx5, hF⟩ := bS hF
      obtain ⟨w6a, w6b⟩ := getI_w gx5
      obtain ⟨x7, gx7, hF⟩ := bS hF
      obtain ⟨w8a, w8b⟩ := getI_w gx7
      obtain ⟨x9, gx9, hF⟩ := bS hF
      obtain ⟨w10a, w10b⟩ := getI_w gx9
      have hE := Option.some.inj hF; subst hE
      simp only [↓reduceIte, Nat.reduceAdd, Nat.reduceMul, Nat.reduceSub, Nat.reduceLT, Nat.reduceLeDiff, Nat.reduceEqDiff, Nat.reducePow, Int.reducePow, Int.reduceLE, Int.reduceLT, Int.reduceEq, Int.reduceToNat, reduceCtorEq, RR, RB, RZ, RE, opEv, fillV, mapO, mapS, b84, hl_0, h0_0, h1_0, h2_0, h3_0, h4_0, h5_0, eq_false c1, wx2, w4a, w4b, w6a, w6b, w8a, w8b, w10a, w10b]
      refine rfin_normal ?_ ?_
      · simp only [↓reduceIte, Nat.reduceAdd, Nat.reduceMul, Nat.reduceSub, Nat.reduceLT, Nat.reduceLeDiff, Nat.reduceEqDiff, Nat.reducePow, Int.reducePow, Int.reduceLE, Int.reduceLT, Int.reduceEq, Int.reduceToNat, reduceCtorEq, RR, RB, RZ, RE, fn_out, p84, mapO]; rfl
      · simp only [↓reduceIte, Nat.reduceAdd, Nat.reduceMul, Nat.reduceSub, Nat.reduceLT, Nat.reduceLeDiff, Nat.reduceEqDiff, Nat.reducePow, Int.reducePow, Int.reduceLE, Int.reduceLT, Int.reduceEq, Int.reduceToNat, reduceCtorEq, RR, RB, RZ, RE, hl_0, h0_0, h1_0, h2_0, h3_0, h4_0, h5_0, eq_false c1, wx2, w4a, w4b, w6a, w6b, w8a, w8b, w10a, w10b]
  | false =>
    rw [if_neg Bool.false_ne_true] at hF
    have hE := Option.some.inj hF; subst hE
    simp only [↓reduceIte, Nat.reduceAdd, Nat.reduceMul, Nat.reduceSub, Nat.reduceLT, Nat.reduceLeDiff, Nat.reduceEqDiff, Nat.reducePow, Int.reducePow, Int.reduceLE, Int.reduceLT, Int.reduceEq, Int.reduceToNat, reduceCtorEq, RR, RB, RZ, RE, opEv, fillV, mapO, mapS, b84, hl_0, h0_0, h1_0, h2_0, h3_0, h4_0, h5_0]
    refine rfin_normal ?_ ?_
    · simp only [↓reduceIte, Nat.reduceAdd, Nat.reduceMul, Nat.reduceSub, Nat.reduceLT, Nat.reduceLeDiff, Nat.reduceEqDiff, Nat.reducePow, Int.reducePow, Int.reduceLE, Int.reduceLT, Int.reduceEq, Int.reduceToNat, reduceCtorEq, RR, RB, RZ, RE, fn_out, p84, mapO]; rfl
    · simp only [↓reduceIte, Nat.reduceAdd, Nat.reduceMul, Nat.reduceSub, Nat.reduceLT, Nat.reduceLeDiff, Nat.reduceEqDiff, Nat.reducePow, Int.reducePow, Int.reduceLE, Int.reduceLT, Int.reduceEq, Int.reduceToNat, reduceCtorEq, RR, RB, RZ, RE, hl_0, h0_0, h1_0, h2_0, h3_0, h4_0, h5_0]
/-! (loop.example/g01273/impl.Complex).eachNumber -/
def F85 {σ : Type} (ms : List (List (List Int))) (f : Int → Int → Int → Int → σ → Option σ) (s : σ) : Option σ :=
  forR 0 (ms.length : Int) (fun k s => (getI ms k).bind fun rows => (forR 0 (rows.length : Int) (fun i s => (getI rows i).bind fun row =>
    (forR 0 (row.length : Int) (fun j s => (getI row j).bind fun v => (chk (k + 1)).bind fun n => (f n i j v s).bind fun s' => some (.inl s')) (fun _ s => some s) s).bind fun s' => some (.inl s')) (fun _ s => some s) s).bind fun s' => some (.inl s')) (fun _ s => some s) s
structure Step4 (g : Nat) (fs cs : List V) {σ : Type} (S : σ → List (Nat × Option (List V)) → Prop) (f : Int → Int → Int → Int → σ → Option σ) : Prop where
  call : ∀ n r p v s s', f n r p v s = some s' → ∀ E c, S s E → ∃ E' c', res A g (fs ++ [V.int .i64 n, V.int .i64 r, V.int .i64 p, V.int .i64 v] ++ cs) ⟨E, c⟩ = some (V.undef, ⟨E', c'⟩) ∧ S s' E'
  pad : ∀ s E x, S s E → S s (E ++ [x])

theorem e85 {g : Nat} {fs cs : List V} {σ : Type} {S : σ → List (Nat × Option (List V)) → Prop} {f : Int → Int → Int → Int → σ → Option σ} (st : Step4 g fs cs S f) (x : GComplex) {s s' : σ} (hF : F85 x.Maps f s = some s') (E : List (Nat × Option (List V))) (c : Nat) (hS : S s E) :
    ∃ h', res A 85 [V.agg [V.int .i64 x.Prime, V.isl (List.map Enc.enc x.Dims), V.isl (List.map Enc.enc x.Maps)], V.fn g fs cs] ⟨E, c⟩ = some (V.undef, h') ∧ S s' h'.ents := by
  refine res_ex (f := p85) rfl rfl rfl fun e hl he => ?_
  have h0 : e.at 0 = V.agg [V.int .i64 x.Prime, V.isl (List.map Enc.enc x.Dims), V.isl (List.map Enc.enc x.Maps)] := he 0 _ rfl
  have h1 : e.at 1 = V.fn g fs cs := he 1 _ rfl
  have hl_0 : e.length = 42 := hl
  clear he hl
  show W A b85 e ⟨E, c⟩ _
  unfold F85 at hF
  simp only [↓reduceIte, Nat.reduceAdd, Nat.reduceMul, Nat.reduceSub, Nat.reduceLT, Nat.reduceLeDiff, Nat.reduceEqDiff, Nat.reducePow, Int.reducePow, Int.reduceLE, Int.reduceLT, Int.reduceEq, Int.reduceToNat, reduceCtorEq, RR, RB, RZ, RE, opEv, fillV, mapO, mapS, b85, hl_0, h0, h1, get_last, set_last]
  show W A (.block 0 (.loop true b85_1)) _ _ _
  rw [W_block]
  refine W_forR hF _ rfl (fun i s e h => S s h.ents ∧ e.length = 42 ∧ e.at 1 = V.fn g fs cs ∧ e.at 11 = V.isl (List.map Enc.enc x.Maps) ∧ e.at 12 = V.int .i64 (x.Maps.length : Int) ∧ e.at 13 = V.int .i64 i) ?_ ?_ ?_
  · refine And.intro (st.pad _ _ _ hS) ?_
    simp only [↓reduceIte, Nat.reduceAdd, Nat.reduceMul, Nat.reduceSub, Nat.reduceLT, Nat.reduceLeDiff, Nat.reduceEqDiff, Nat.reducePow, Int.reducePow, Int.reduceLE, Int.reduceLT, Int.reduceEq, Int.reduceToNat, reduceCtorEq, RR, RB, RZ, RE, hl_0, h0, h1]
  · rintro i s e ⟨E, c⟩ ⟨hS, hl_1, h1_1, h11_1, h12_1, h13_1⟩ hlt hw o ho
    obtain ⟨rows, g1, ho⟩ := bS ho
    obtain ⟨w1a, w1b⟩ := getI_w g1
    obtain ⟨z, g2, ho⟩ := bS ho
    have hE := Option.some.inj ho; subst hE
    simp only [↓reduceIte, Nat.reduceAdd, Nat.reduceMul, Nat.reduceSub, Nat.reduceLT, Nat.reduceLeDiff, Nat.reduceEqDiff, Nat.reducePow, Int.reducePow, Int.reduceLE, Int.reduceLT, Int.reduceEq, Int.reduceToNat, reduceCtorEq, RR, RB, RZ, RE, opEv, fillV, mapO, mapS, b85_1, hl_1, h1_1, h11_1, h12_1, h13_1, eq_true hlt, hw, w1a, w1b]
    refine W.mono (Q := fun x' e h => x' = .normal ∧ S z h.ents ∧ e.length = 42 ∧ e.at 1 = V.fn g fs cs ∧ e.at 11 = V.isl (List.map Enc.enc x.Maps) ∧ e.at 12 = V.int .i64 (x.Maps.length : Int) ∧ e.at 13 = V.int .i64 i) ?_ ?_
    rotate_left
    · rintro _ e ⟨E2, c2⟩ ⟨rfl, hS2, hl_2, h1_2, h11_2, h12_2, h13_2⟩
      simp only [↓reduceIte, Nat.reduceAdd, Nat.reduceMul, Nat.reduceSub, Nat.reduceLT, Nat.reduceLeDiff, Nat.reduceEqDiff, Nat.reducePow, Int.reducePow, Int.reduceLE, Int.reduceLT, Int.reduceEq, Int.reduceToNat, reduceCtorEq, RR, RB, RZ, RE, opEv, fillV, mapO, mapS, hl_2, h1_2, h11_2, h12_2, h13_2, hw]
      refine And.intro rfl (And.intro hS2 ?_)
      simp only [↓reduceIte, Nat.reduceAdd, Nat.reduceMul, Nat.reduceSub, Nat.reduceLT, Nat.reduceLeDiff, Nat.reduceEqDiff, Nat.reducePow, Int.reducePow, Int.reduceLE, Int.reduceLT, Int.reduceEq, Int.reduceToNat, reduceCtorEq, RR, RB, RZ, RE, hl_2, h1_2, h11_2, h12_2, h13_2, hw]
    show W A (.block 2 (.loop true b85_2)) _ _ _
    rw [W_block]
    refine W_forR g2 _ rfl (fun j s e h => S s h.ents ∧ e.length = 42 ∧ e.at 1 = V.fn g fs cs ∧ e.at 11 = V.isl (List.map Enc.enc x.Maps) ∧ e.at 12 = V.int .i64 (x.Maps.length : Int) ∧ e.at 13 = V.int .i64 i ∧ e.at 4 = V.int .i64 i ∧ e.at 18 = V.isl (List.map Enc.enc rows) ∧ e.at 19 = V.int .i64 (rows.length : Int) ∧ e.at 20 = V.int .i64 j) ?_ ?_ ?_
    · refine And.intro hS ?_
      simp only [↓reduceIte, Nat.reduceAdd, Nat.reduceMul, Nat.reduceSub, Nat.reduceLT, Nat.reduceLeDiff, Nat.reduceEqDiff, Nat.reducePow, Int.reducePow, Int.reduceLE, Int.reduceLT, Int.reduceEq, Int.reduceToNat, reduceCtorEq, RR, RB, RZ, RE, hl_1, h1_1, h11_1, h12_1, h13_1]
    · clear hl_1 h1_1 h11_1 h12_1 h13_1
      rintro j s e ⟨E, c⟩ ⟨hS, hl_1, h1_1, h11_1, h12_1, h13_1, h4_1, h18_1, h19_1, h20_1⟩ hlt2 hw2 o ho
      obtain ⟨row, g3, ho⟩ := bS ho
      obtain ⟨w3a, w3b⟩ := getI_w g3
      obtain ⟨z2, g4, ho⟩ := bS ho
      have hE := Option.some.inj ho; subst hE
      simp only [↓reduceIte, Nat.reduceAdd, Nat.reduceMul, Nat.reduceSub, Nat.reduceLT, Nat.reduceLeDiff, Nat.reduceEqDiff, Nat.reducePow, Int.reducePow, Int.reduceLE, Int.reduceLT, Int.reduceEq, Int.reduceToNat, reduceCtorEq, RR, RB, RZ, RE, opEv, fillV, mapO, mapS, b85_2, hl_1, h1_1, h11_1, h12_1, h13_1, h4_1, h18_1, h19_1, h20_1, eq_true hlt2, hw2, w3a, w3b]
      refine W.mono (Q := fun x' e h => x' = .normal ∧ S z2 h.ents ∧ e.length = 42 ∧ e.at 1 = V.fn g fs cs ∧ e.at 11 = V.isl (List.map Enc.enc x.Maps) ∧ e.at 12 = V.int .i64 (x.Maps.length : Int) ∧ e.at 13 = V.int .i64 i ∧ e.at 4 = V.int .i64 i ∧ e.at 18 = V.isl (List.map Enc.enc rows) ∧ e.at 19 = V.int .i64 (rows.length : Int) ∧ e.at 20 = V.int .i64 j) ?_ ?_
      rotate_left
      · rintro _ e ⟨E2, c2⟩ ⟨rfl, hS2, hl_2, h1_2, h11_2, h12_2, h13_2, h4_2, h18_2, h19_2, h20_2⟩
        simp only [↓reduceIte, Nat.reduceAdd, Nat.reduceMul, Nat.reduceSub, Nat.reduceLT, Nat.reduceLeDiff, Nat.reduceEqDiff, Nat.reducePow, Int.reducePow, Int.reduceLE, Int.reduceLT, Int.reduceEq, Int.reduceToNat, reduceCtorEq, RR, RB, RZ, RE, opEv, fillV, mapO, mapS, hl_2, h1_2, h11_2, h12_2, h13_2, h4_2, h18_2, h19_2, h20_2, hw2]
        refine And.intro rfl (And.intro hS2 ?_)
        simp only [↓reduceIte, Nat.reduceAdd, Nat.reduceMul, Nat.reduceSub, Nat.reduceLT, Nat.reduceLeDiff, Nat.reduceEqDiff, Nat.reducePow, Int.reducePow, Int.reduceLE, Int.reduceLT, Int.reduceEq, Int.reduceToNat, reduceCtorEq, RR, RB, RZ, RE, hl_2, h1_2, h11_2, h12_2, h13_2, h4_2, h18_2, h19_2, h20_2, hw2]
      show W A (.block 4 (.loop true b85_3)) _ _ _
      rw [W_block]
      refine W_forR g4 _ rfl (fun k s e h => S s h.ents ∧ e.length = 42 ∧ e.at 1 = V.fn g fs cs ∧ e.at 11 = V.isl (List.map Enc.enc x.Maps) ∧ e.at 12 = V.int .i64 (x.Maps.length : Int) ∧ e.at 13 = V.int .i64 i ∧ e.at 4 = V.int .i64 i ∧ e.at 18 = V.isl (List.map Enc.enc rows) ∧ e.at 19 = V.int .i64 (rows.length : Int) ∧ e.at 20 = V.int .i64 j ∧ e.at 6 = V.int .i64 j ∧ e.at 25 = V.isl (List.map Enc.enc row) ∧ e.at 26 = V.int .i64 (row.length : Int) ∧ e.at 27 = V.int .i64 k) ?_ ?_ ?_
      · refine And.intro hS ?_
        simp only [↓reduceIte, Nat.reduceAdd, Nat.reduceMul, Nat.reduceSub, Nat.reduceLT, Nat.reduceLeDiff, Nat.reduceEqDiff, Nat.reducePow, Int.reducePow, Int.reduceLE, Int.reduceLT, Int.reduceEq, Int.reduceToNat, reduceCtorEq, RR, RB, RZ, RE, hl_1, h1_1, h11_1, h12_1, h13_1, h4_1, h18_1, h19_1, h20_1]
      · clear hl_1 h1_1 h11_1 h12_1 h13_1 h4_1 h18_1 h19_1 h20_1
        rintro k s e ⟨E, c⟩ ⟨hS, hl_1, h1_1, h11_1, h12_1, h13_1, h4_1, h18_1, h19_1, h20_1, h6_1, h25_1, h26_1, h27_1⟩ hlt3 hw3 o ho
        obtain ⟨v, g5, ho⟩ := bS ho
        obtain ⟨w5a, w5b⟩ := getI_w g5
        obtain ⟨n, g6, ho⟩ := bS ho
        have w6 := chk_w g6
        obtain ⟨s2, g7, ho⟩ := bS ho
        have hE := Option.some.inj ho; subst hE
        obtain ⟨E2, c2, hr, hS2⟩ := st.call _ _ _ _ _ _ g7 E c hS
        simp only [↓reduceIte, Nat.reduceAdd, Nat.reduceMul, Nat.reduceSub, Nat.reduceLT, Nat.reduceLeDiff, Nat.reduceEqDiff, Nat.reducePow, Int.reducePow, Int.reduceLE, Int.reduceLT, Int.reduceEq, Int.reduceToNat, reduceCtorEq, RR, RB, RZ, RE, opEv, fillV, mapO, mapS, b85_3, hl_1, h1_1, h11_1, h12_1, h13_1, h4_1, h18_1, h19_1, h20_1, h6_1, h25_1, h26_1, h27_1, eq_true hlt3, hw3, w5a, w5b, w6, callM_plain_eq, List.append_assoc] at hr ⊢
        simp only [↓reduceIte, Nat.reduceAdd, Nat.reduceMul, Nat.reduceSub, Nat.reduceLT, Nat.reduceLeDiff, Nat.reduceEqDiff, Nat.reducePow, Int.reducePow, Int.reduceLE, Int.reduceLT, Int.reduceEq, Int.reduceToNat, reduceCtorEq, RR, RB, RZ, RE, opEv, fillV, mapO, mapS, hr, hl_1, h1_1, h11_1, h12_1, h13_1, h4_1, h18_1, h19_1, h20_1, h6_1, h25_1, h26_1, h27_1, eq_true hlt3, hw3]
        refine And.intro rfl (And.intro hS2 ?_)
        simp only [↓reduceIte, Nat.reduceAdd, Nat.reduceMul, Nat.reduceSub, Nat.reduceLT, Nat.reduceLeDiff, Nat.reduceEqDiff, Nat.reducePow, Int.reducePow, Int.reduceLE, Int.reduceLT, Int.reduceEq, Int.reduceToNat, reduceCtorEq, RR, RB, RZ, RE, hl_1, h1_1, h11_1, h12_1, h13_1, h4_1, h18_1, h19_1, h20_1, h6_1, h25_1, h26_1, h27_1, hw3]
      · clear hl_1 h1_1 h11_1 h12_1 h13_1 h4_1 h18_1 h19_1 h20_1
        rintro k s e ⟨E, c⟩ ⟨hS, hl_1, h1_1, h11_1, h12_1, h13_1, h4_1, h18_1, h19_1, h20_1, h6_1, h25_1, h26_1, h27_1⟩ hge t1 ho
        have hE := Option.some.inj ho; subst hE
        simp only [↓reduceIte, Nat.reduceAdd, Nat.reduceMul, Nat.reduceSub, Nat.reduceLT, Nat.reduceLeDiff, Nat.reduceEqDiff, Nat.reducePow, Int.reducePow, Int.reduceLE, Int.reduceLT, Int.reduceEq, Int.reduceToNat, reduceCtorEq, RR, RB, RZ, RE, opEv, fillV, mapO, mapS, b85_3, hl_1, h1_1, h11_1, h12_1, h13_1, h4_1, h18_1, h19_1, h20_1, h6_1, h25_1, h26_1, h27_1, eq_false hge]
        intro ht; subst ht
        exact hS
    · clear hl_1 h1_1 h11_1 h12_1 h13_1
      rintro j s e ⟨E, c⟩ ⟨hS, hl_1, h1_1, h11_1, h12_1, h13_1, h4_1, h18_1, h19_1, h20_1⟩ hge t1 ho
      have hE := Option.some.inj ho; subst hE
      simp only [↓reduceIte, Nat.reduceAdd, Nat.reduceMul, Nat.reduceSub, Nat.reduceLT, Nat.reduceLeDiff, Nat.reduceEqDiff, Nat.reducePow, Int.reducePow, Int.reduceLE, Int.reduceLT, Int.reduceEq, Int.reduceToNat, reduceCtorEq, RR, RB, RZ, RE, opEv, fillV, mapO, mapS, b85_2, hl_1, h1_1, h11_1, h12_1, h13_1, h4_1, h18_1, h19_1, h20_1, eq_false hge]
      intro ht; subst ht
      exact hS
  · rintro i s e ⟨E, c⟩ ⟨hS, hl_1, h1_1, h11_1, h12_1, h13_1⟩ hge t1 ho
    have hE := Option.some.inj ho; subst hE
    simp only [↓reduceIte, Nat.reduceAdd, Nat.reduceMul, Nat.reduceSub, Nat.reduceLT, Nat.reduceLeDiff, Nat.reduceEqDiff, Nat.reducePow, Int.reducePow, Int.reduceLE, Int.reduceLT, Int.reduceEq, Int.reduceToNat, reduceCtorEq, RR, RB, RZ, RE, opEv, fillV, mapO, mapS, b85_1, hl_1, h1_1, h11_1, h12_1, h13_1, eq_false hge]
    intro ht; subst ht
    refine And.intro (fun i => by simp only [ne_eq, reduceCtorEq, not_false_eq_true]) (And.intro ?_ hS)
    simp only [↓reduceIte, Nat.reduceAdd, Nat.reduceMul, Nat.reduceSub, Nat.reduceLT, Nat.reduceLeDiff, Nat.reduceEqDiff, Nat.reducePow, Int.reducePow, Int.reduceLE, Int.reduceLT, Int.reduceEq, Int.reduceToNat, reduceCtorEq, RR, RB, RZ, fn_out, p85, mapO]
    rfl
/-! loop.example/g01273/impl.IsFiltered -/
def F41_1_B (a0 : GFiltered) (v24_1 : Int) (s : Unit) : Option ((Unit) ⊕ ((Unit) ⊕ Bool)) :=
  (getI a0.Levels v24_1).bind fun x7 =>
(getI a0.Complex.Dims v24_1).bind fun x11 =>
if (x7.length : Int) = x11 then
  (F82 x7 (fun x => F83 x)).bind fun x14 =>
  if x14 = true then
    some (.inr (.inr false))
  else
    some (.inl ())
else
  some (.inr (.inr false))
def F41_1_D (a0 : GFiltered) (v24_1 : Int) (s : Unit) : Option ((Unit) ⊕ Bool) :=
  some (.inl ())
def F41 (a0 : GFiltered) : Option Bool :=
  (F42 a0.Complex).bind fun x1 =>
  if x1 = true then
    if (a0.Levels.length : Int) = (a0.Complex.Dims.length : Int) then
      (forR 0 (a0.Levels.length : Int) (F41_1_B a0) (F41_1_D a0) ()).bind fun t16 => match t16 with
        | .inl _ =>
          (F85 a0.Complex.Maps (fun n r p v s => F84 n r p v s a0) true).bind fun y17 =>
          some y17
        | .inr r21 => some r21
    else
      some false
  else
    some false
def I41_1 (a0 : GFiltered)  (v24_1 : Int) (s : Unit) (e : Env) (h : Heap) : Prop :=
  ∃ k5 : Nat, h = ⟨[(0, none), (1, some [V.int .i64 a0.Complex.Prime, V.isl (List.map Enc.enc a0.Complex.Dims), V.isl (List.map Enc.enc a0.Complex.Maps)])], k5⟩ ∧ e.length = 46 ∧ e.at 1 = V.iptr [V.int .i64 a0.Complex.Prime, V.isl (List.map Enc.enc a0.Complex.Dims), V.isl (List.map Enc.enc a0.Complex.Maps), V.isl (List.map Enc.enc a0.Levels)] ∧ e.at 3 = V.ptr 1 1 0 ∧ e.at 22 = V.isl (List.map Enc.enc a0.Levels) ∧ e.at 23 = V.int .i64 (a0.Levels.length : Int) ∧ e.at 24 = V.int .i64 v24_1
def P41_1 (a0 : GFiltered)  (t : (Unit) ⊕ Bool) (x : Ex) (e : Env) (h : Heap) : Prop :=
  match t with
  | .inl _ => x = .normal ∧ ∃ k5 : Nat, h = ⟨[(0, none), (1, some [V.int .i64 a0.Complex.Prime, V.isl (List.map Enc.enc a0.Complex.Dims), V.isl (List.map Enc.enc a0.Complex.Maps)])], k5⟩ ∧ e.length = 46 ∧ e.at 1 = V.iptr [V.int .i64 a0.Complex.Prime, V.isl (List.map Enc.enc a0.Complex.Dims), V.isl (List.map Enc.enc a0.Complex.Maps), V.isl (List.map Enc.enc a0.Levels)] ∧ e.at 3 = V.ptr 1 1 0
  | .inr r => x = .ret ∧ Fin p41 (Enc.enc r) .ret e h
theorem l41_1 (a0 : GFiltered)   {lo : Int} {s : Unit} {t : (Unit) ⊕ Bool} (hF : forR lo (a0.Levels.length : Int) (F41_1_B a0) (F41_1_D a0) s = some t) {e : Env} {h : Heap} (hI : I41_1 a0  lo s e h) : W A c41_1 e h (P41_1 a0  t) := by
  show W A (.block 0 (.loop false b41_1)) e h _
  rw [W_block]
  refine W_forR hF 2 (by obtain ⟨_, rfl, _⟩ := hI; rfl) (I41_1 a0 ) hI ?_ ?_
  · rintro v24_1 _ e h ⟨k5, rfl, hl_4, h1_4, h3_4, h22_4, h23_4, h24_4⟩ hlt hw o ho
    unfold F41_1_B at ho
    obtain ⟨x7, gx7, ho⟩ := bS ho
    obtain ⟨w8a, w8b⟩ := getI_w gx7
    have w10 : ans A 73 [V.isl (List.map Enc.enc x7)] = some (V.int .i64 (x7.length : Int)) := s73 x7  rfl
    obtain ⟨x11, gx11, ho⟩ := bS ho
    obtain ⟨w12a, w12b⟩ := getI_w gx11
    by_cases c13 : (x7.length : Int) = x11
    · rw [if_pos c13] at ho
      obtain ⟨x14, gx14, ho⟩ := bS ho
      have w15 : ans A 82 [V.isl (List.map Enc.enc x7), V.fn 83 [] []] = some (V.bool x14) := s82 x7 (fun x => F83 x) (Clo1.of (by intro h f; simp only [RZ, mapO]) (by intro h f; simp only [RZ, mapO]) (by intro f; simp only [RZ, RB]) (by intro f; simp only [RZ, RB]) (fun x _ hr => s83 x hr)) gx14
      cases x14 with
      | true =>
        rw [if_pos rfl] at ho
        have hE := Option.some.inj ho; subst hE
        simp only [↓reduceIte, Nat.reduceAdd, Nat.reduceMul, Nat.reduceSub, Nat.reduceLT, Nat.reduceLeDiff, Nat.reduceEqDiff, Nat.reducePow, Int.reducePow, Int.reduceLE, Int.reduceLT, Int.reduceEq, Int.reduceToNat, reduceCtorEq, RR, RB, RZ, RE, opEv, fillV, mapO, mapS, b41_1, hl_4, h1_4, h3_4, h22_4, h23_4, h24_4, eq_true hlt, hw, w8a, w8b, w10, w12a, w12b, eq_true c13, w15]
        intro ht; subst ht
        simp only [↓reduceIte, Nat.reduceAdd, Nat.reduceMul, Nat.reduceSub, Nat.reduceLT, Nat.reduceLeDiff, Nat.reduceEqDiff, Nat.reducePow, Int.reducePow, Int.reduceLE, Int.reduceLT, Int.reduceEq, Int.reduceToNat, reduceCtorEq, RR, RB]
        exact And.intro rfl (fin_ret (by simp only [↓reduceIte, Nat.reduceAdd, Nat.reduceMul, Nat.reduceSub, Nat.reduceLT, Nat.reduceLeDiff, Nat.reduceEqDiff, Nat.reducePow, Int.reducePow, Int.reduceLE, Int.reduceLT, Int.reduceEq, Int.reduceToNat, reduceCtorEq, RR, RB, RZ, RE, fn_out, p41, Rs.ev, mapO, mapS, take_len_self, hl_4, h1_4, h3_4, h22_4, h23_4, h24_4, eq_true hlt, hw, w8a, w8b, w10, w12a, w12b, eq_true c13, w15]))
      | false =>
        rw [if_neg Bool.false_ne_true] at ho
        have hE := Option.some.inj ho; subst hE
        simp only [↓reduceIte, Nat.reduceAdd, Nat.reduceMul, Nat.reduceSub, Nat.reduceLT, Nat.reduceLeDiff, Nat.reduceEqDiff, Nat.reducePow, Int.reducePow, Int.reduceLE, Int.reduceLT, Int.reduceEq, Int.reduceToNat, reduceCtorEq, RR, RB, RZ, RE, opEv, fillV, mapO, mapS, b41_1, hl_4, h1_4, h3_4, h22_4, h23_4, h24_4, eq_true hlt, hw, w8a, w8b, w10, w12a, w12b, eq_true c13, w15]
        refine And.intro rfl (Exists.intro _ ( And.intro rfl ?_))
        simp only [↓reduceIte, Nat.reduceAdd, Nat.reduceMul, Nat.reduceSub, Nat.reduceLT, Nat.reduceLeDiff, Nat.reduceEqDiff, Nat.reducePow, Int.reducePow, Int.reduceLE, Int.reduceLT, Int.reduceEq, Int.reduceToNat, reduceCtorEq, RR, RB, RZ, RE, hl_4, h1_4, h3_4, h22_4, h23_4, h24_4, eq_true hlt, hw, w8a, w8b, w10, w12a, w12b, eq_true c13, w15]
    · rw [if_neg c13] at ho
      have hE := Option.some.inj ho; subst hE
      simp only [↓reduceIte, Nat.reduceAdd, Nat.reduceMul, Nat.reduceSub, Nat.reduceLT, Nat.reduceLeDiff, Nat.reduceEqDiff, Nat.reducePow, Int.reducePow, Int.reduceLE, Int.reduceLT, Int.reduceEq, Int.reduceToNat, reduceCtorEq, RR, RB, RZ, RE, opEv, fillV, mapO, mapS, b41_1, hl_4, h1_4, h3_4, h22_4, h23_4, h24_4, eq_true hlt, hw, w8a, w8b, w10, w12a, w12b, eq_false c13]
      intro ht; subst ht
      simp only [↓reduceIte, Nat.reduceAdd, Nat.reduceMul, Nat.reduceSub, Nat.reduceLT, Nat.reduceLeDiff, Nat.reduceEqDiff, Nat.reducePow, Int.reducePow, Int.reduceLE, Int.reduceLT, Int.reduceEq, Int.reduceToNat, reduceCtorEq, RR, RB]
      exact And.intro rfl (fin_ret (by simp only [↓reduceIte, Nat.reduceAdd, Nat.reduceMul, Nat.reduceSub, Nat.reduceLT, Nat.reduceLeDiff, Nat.reduceEqDiff, Nat.reducePow, Int.reducePow, Int.reduceLE, Int.reduceLT, Int.reduceEq, Int.reduceToNat, reduceCtorEq, RR, RB, RZ, RE, fn_out, p41, Rs.ev, mapO, mapS, take_len_self, hl_4, h1_4, h3_4, h22_4, h23_4, h24_4, eq_true hlt, hw, w8a, w8b, w10, w12a, w12b, eq_false c13]))
  · rintro v24_1 _ e h ⟨k5, rfl, hl_4, h1_4, h3_4, h22_4, h23_4, h24_4⟩ hge t1 ho
    unfold F41_1_D at ho
    have hE := Option.some.inj ho; subst hE
    simp only [↓reduceIte, Nat.reduceAdd, Nat.reduceMul, Nat.reduceSub, Nat.reduceLT, Nat.reduceLeDiff, Nat.reduceEqDiff, Nat.reducePow, Int.reducePow, Int.reduceLE, Int.reduceLT, Int.reduceEq, Int.reduceToNat, reduceCtorEq, RR, RB, RZ, RE, opEv, fillV, mapO, mapS, b41_1, hl_4, h1_4, h3_4, h22_4, h23_4, h24_4, eq_false hge]
    intro ht; subst ht
    refine And.intro rfl (Exists.intro _ ( And.intro rfl ?_))
    simp only [↓reduceIte, Nat.reduceAdd, Nat.reduceMul, Nat.reduceSub, Nat.reduceLT, Nat.reduceLeDiff, Nat.reduceEqDiff, Nat.reducePow, Int.reducePow, Int.reduceLE, Int.reduceLT, Int.reduceEq, Int.reduceToNat, reduceCtorEq, RR, RB, RZ, RE, hl_4, h1_4, h3_4, h22_4, h23_4, h24_4, eq_false hge]
theorem s41 (a0 : GFiltered)   {r : Bool} (hF : F41 a0 = some r) : ans A 41 [V.agg [V.int .i64 a0.Complex.Prime, V.isl (List.map Enc.enc a0.Complex.Dims), V.isl (List.map Enc.enc a0.Complex.Maps), V.isl (List.map Enc.enc a0.Levels)]] = some (Enc.enc r) := by
  refine ans_of (f := p41) rfl rfl rfl fun e hl he => ?_
  have h0_0 : e.at 0 = V.agg [V.int .i64 a0.Complex.Prime, V.isl (List.map Enc.enc a0.Complex.Dims), V.isl (List.map Enc.enc a0.Complex.Maps), V.isl (List.map Enc.enc a0.Levels)] := he 0 _ rfl
  have hl_0 : e.length = 46 := hl
  clear he hl
  show W A b41 e ⟨[], 0⟩ _
  unfold F41 at hF
  obtain ⟨x1, gx1, hF⟩ := bS hF
  have w2 : ans A 42 [V.agg [V.int .i64 a0.Complex.Prime, V.isl (List.map Enc.enc a0.Complex.Dims), V.isl (List.map Enc.enc a0.Complex.Maps)]] = some (V.bool x1) := s42 a0.Complex  gx1
  cases x1 with
  | true =>
    rw [if_pos rfl] at hF
    by_cases c3 : (a0.Levels.length : Int) = (a0.Complex.Dims.length : Int)
    · rw [if_pos c3] at hF
      obtain ⟨t16, gt16, hF⟩ := bS hF
      rcases t16 with _ | r21
      · dsimp only at hF
        simp only [↓reduceIte, Nat.reduceAdd, Nat.reduceMul, Nat.reduceSub, Nat.reduceLT, Nat.reduceLeDiff, Nat.reduceEqDiff, Nat.reducePow, Int.reducePow, Int.reduceLE, Int.reduceLT, Int.reduceEq, Int.reduceToNat, reduceCtorEq, RR, RB, RZ, RE, opEv, fillV, mapO, mapS, b41, hl_0, h0_0, w2, eq_true c3]
        refine W.mono (l41_1 a0   gt16 (Exists.intro _ ( And.intro rfl ?_))) ?_
        · simp only [↓reduceIte, Nat.reduceAdd, Nat.reduceMul, Nat.reduceSub, Nat.reduceLT, Nat.reduceLeDiff, Nat.reduceEqDiff, Nat.reducePow, Int.reducePow, Int.reduceLE, Int.reduceLT, Int.reduceEq, Int.reduceToNat, reduceCtorEq, RR, RB, RZ, RE, hl_0, h0_0, w2, eq_true c3]
        rintro _ e _ ⟨rfl, k5, rfl, hl_6, h1_6, h3_6⟩
        obtain ⟨y17, gy17, hF⟩ := bS hF
        have w18 := e85 (g := 84) (fs := []) (cs := [V.ptr 2 k5 0, V.iptr [V.int .i64 a0.Complex.Prime, V.isl (List.map Enc.enc a0.Complex.Dims), V.isl (List.map Enc.enc a0.Complex.Maps), V.isl (List.map Enc.enc a0.Levels)]]) (S := (fun (s : Bool) E => ∃ G, E = (0, none) :: (1, some [V.int .i64 a0.Complex.Prime, V.isl (List.map Enc.enc a0.Complex.Dims), V.isl (List.map Enc.enc a0.Complex.Maps)]) :: (k5, some [V.bool s]) :: G)) (f := (fun n r p v s => F84 n r p v s a0)) ⟨fun n r p v s s' hs E c hS => (by obtain ⟨G, rfl⟩ := hS; exact ⟨_, _, q84 (0, none) (1, some [V.int .i64 a0.Complex.Prime, V.isl (List.map Enc.enc a0.Complex.Dims), V.isl (List.map Enc.enc a0.Complex.Maps)]) k5 _ _ n r p v s a0 hs, G, rfl⟩), fun s E x hS => (by obtain ⟨G, rfl⟩ := hS; exact ⟨G ++ [x], rfl⟩)⟩ a0.Complex gy17 _ (k5 + 1) ⟨[], rfl⟩
        obtain ⟨⟨w18E, k20⟩, w18, G19, w18h⟩ := w18
        dsimp only at w18h
        subst w18h
        have hE := Option.some.inj hF; subst hE
        simp only [↓reduceIte, Nat.reduceAdd, Nat.reduceMul, Nat.reduceSub, Nat.reduceLT, Nat.reduceLeDiff, Nat.reduceEqDiff, Nat.reducePow, Int.reducePow, Int.reduceLE, Int.reduceLT, Int.reduceEq, Int.reduceToNat, reduceCtorEq, RR, RB, RZ, RE, opEv, fillV, mapO, mapS, hl_6, h1_6, h3_6, eq_true c3, callM_plain_eq, w18]
        exact fin_ret (by simp only [↓reduceIte, Nat.reduceAdd, Nat.reduceMul, Nat.reduceSub, Nat.reduceLT, Nat.reduceLeDiff, Nat.reduceEqDiff, Nat.reducePow, Int.reducePow, Int.reduceLE, Int.reduceLT, Int.reduceEq, Int.reduceToNat, reduceCtorEq, RR, RB, RZ, RE, fn_out, p41, Rs.ev, mapO, mapS, take_len_self, hl_6, h1_6, h3_6, eq_true c3, callM_plain_eq, w18])
      · dsimp only at hF
        have hE := Option.some.inj hF; subst hE
        simp only [↓reduceIte, Nat.reduceAdd, Nat.reduceMul, Nat.reduceSub, Nat.reduceLT, Nat.reduceLeDiff, Nat.reduceEqDiff, Nat.reducePow, Int.reducePow, Int.reduceLE, Int.reduceLT, Int.reduceEq, Int.reduceToNat, reduceCtorEq, RR, RB, RZ, RE, opEv, fillV, mapO, mapS, b41, hl_0, h0_0, w2, eq_true c3]
        refine W.mono (l41_1 a0   gt16 (Exists.intro _ ( And.intro rfl ?_))) ?_
        · simp only [↓reduceIte, Nat.reduceAdd, Nat.reduceMul, Nat.reduceSub, Nat.reduceLT, Nat.reduceLeDiff, Nat.reduceEqDiff, Nat.reducePow, Int.reducePow, Int.reduceLE, Int.reduceLT, Int.reduceEq, Int.reduceToNat, reduceCtorEq, RR, RB, RZ, RE, hl_0, h0_0, w2, eq_true c3]
        rintro _ e h ⟨rfl, hq⟩
        simp only [↓reduceIte, Nat.reduceAdd, Nat.reduceMul, Nat.reduceSub, Nat.reduceLT, Nat.reduceLeDiff, Nat.reduceEqDiff, Nat.reducePow, Int.reducePow, Int.reduceLE, Int.reduceLT, Int.reduceEq, Int.reduceToNat, reduceCtorEq, RR, RB]
        exact hq
    · rw [if_neg c3] at hF
      have hE := Option.some.inj hF; subst hE
      simp only [↓reduceIte, Nat.reduceAdd, Nat.reduceMul, Nat.reduceSub, Nat.reduceLT, Nat.reduceLeDiff, Nat.reduceEqDiff, Nat.reducePow, Int.reducePow, Int.reduceLE, Int.reduceLT, Int.reduceEq, Int.reduceToNat, reduceCtorEq, RR, RB, RZ, RE, opEv, fillV, mapO, mapS, b41, hl_0, h0_0, w2, eq_false c3]
      exact fin_ret (by simp only [↓reduceIte, Nat.reduceAdd, Nat.reduceMul, Nat.reduceSub, Nat.reduceLT, Nat.reduceLeDiff, Nat.reduceEqDiff, Nat.reducePow, Int.reducePow, Int.reduceLE, Int.reduceLT, Int.reduceEq, Int.reduceToNat, reduceCtorEq, RR, RB, RZ, RE, fn_out, p41, Rs.ev, mapO, mapS, take_len_self, hl_0, h0_0, w2, eq_false c3])
  | false =>
    rw [if_neg Bool.false_ne_true] at hF
    have hE := Option.some.inj hF; subst hE
    simp only [↓reduceIte, Nat.reduceAdd, Nat.reduceMul, Nat.reduceSub, Nat.reduceLT, Nat.reduceLeDiff, Nat.reduceEqDiff, Nat.reducePow, Int.reducePow, Int.reduceLE, Int.reduceLT, Int.reduceEq, Int.reduceToNat, reduceCtorEq, RR, RB, RZ, RE, opEv, fillV, mapO, mapS, b41, hl_0, h0_0, w2]
    exact fin_ret (by simp only [↓reduceIte, Nat.reduceAdd, Nat.reduceMul, Nat.reduceSub, Nat.reduceLT, Nat.reduceLeDiff, Nat.reduceEqDiff, Nat.reducePow, Int.reducePow, Int.reduceLE, Int.reduceLT, Int.reduceEq, Int.reduceToNat, reduceCtorEq, RR, RB, RZ, RE, fn_out, p41, Rs.ev, mapO, mapS, take_len_self, hl_0, h0_0, w2])
/-! loop.example/g01273/impl.IsDesk -/
def F9 (a0 : GDesk) : Option Bool :=
  (F41 a0.First).bind fun x1 =>
  if x1 = true then
    (F42 a0.Second).bind fun x3 =>
    some x3
  else
    some false
theorem s9 (a0 : GDesk)   {r : Bool} (hF : F9 a0 = some r) : ans A 9 [V.agg [V.int .i64 a0.First.Complex.Prime, V.isl (List.map Enc.enc a0.First.Complex.Dims), V.isl (List.map Enc.enc a0.First.Complex.Maps), V.isl (List.map Enc.enc a0.First.Levels), V.int .i64 a0.Second.Prime, V.isl (List.map Enc.enc a0.Second.Dims), V.isl (List.map Enc.enc a0.Second.Maps)]] = some (Enc.enc r) := by
  refine ans_of (f := p9) rfl rfl rfl fun e hl he => ?_
  have h0_0 : e.at 0 = V.agg [V.int .i64 a0.First.Complex.Prime, V.isl (List.map Enc.enc a0.First.Complex.Dims), V.isl (List.map Enc.enc a0.First.Complex.Maps), V.isl (List.map Enc.enc a0.First.Levels), V.int .i64 a0.Second.Prime, V.isl (List.map Enc.enc a0.Second.Dims), V.isl (List.map Enc.enc a0.Second.Maps)] := he 0 _ rfl
  have hl_0 : e.length = 11 := hl
  clear he hl
  show W A b9 e ⟨[], 0⟩ _
  unfold F9 at hF
  obtain ⟨x1, gx1, hF⟩ := bS hF
  have w2 : ans A 41 [V.agg [V.int .i64 a0.First.Complex.Prime, V.isl (List.map Enc.enc a0.First.Complex.Dims), V.isl (List.map Enc.enc a0.First.Complex.Maps), V.isl (List.map Enc.enc a0.First.Levels)]] = some (V.bool x1) := s41 a0.First  gx1
  cases x1 with
  | true =>
    rw [if_pos rfl] at hF
    obtain ⟨x3, gx3, hF⟩ := bS hF
    have w4 : ans A 42 [V.agg [V.int .i64 a0.Second.Prime, V.isl (List.map Enc.enc a0.Second.Dims), V.isl (List.map Enc.enc a0.Second.Maps)]] = some (V.bool x3) := s42 a0.Second  gx3
    have hE := Option.some.inj hF; subst hE
    simp only [↓reduceIte, Nat.reduceAdd, Nat.reduceMul, Nat.reduceSub, Nat.reduceLT, Nat.reduceLeDiff, Nat.reduceEqDiff, Nat.reducePow, Int.reducePow, Int.reduceLE, Int.reduceLT, Int.reduceEq, Int.reduceToNat, reduceCtorEq, RR, RB, RZ, RE, opEv, fillV, mapO, mapS, b9, hl_0, h0_0, w2, w4]
    exact fin_ret (by simp only [↓reduceIte, Nat.reduceAdd, Nat.reduceMul, Nat.reduceSub, Nat.reduceLT, Nat.reduceLeDiff, Nat.reduceEqDiff, Nat.reducePow, Int.reducePow, Int.reduceLE, Int.reduceLT, Int.reduceEq, Int.reduceToNat, reduceCtorEq, RR, RB, RZ, RE, fn_out, p9, Rs.ev, mapO, mapS, take_len_self, hl_0, h0_0, w2, w4])
  | false =>
    rw [if_neg Bool.false_ne_true] at hF
    have hE := Option.some.inj hF; subst hE
    simp only [↓reduceIte, Nat.reduceAdd, Nat.reduceMul, Nat.reduceSub, Nat.reduceLT, Nat.reduceLeDiff, Nat.reduceEqDiff, Nat.reducePow, Int.reducePow, Int.reduceLE, Int.reduceLT, Int.reduceEq, Int.reduceToNat, reduceCtorEq, RR, RB, RZ, RE, opEv, fillV, mapO, mapS, b9, hl_0, h0_0, w2]
    exact fin_ret (by simp only [↓reduceIte, Nat.reduceAdd, Nat.reduceMul, Nat.reduceSub, Nat.reduceLT, Nat.reduceLeDiff, Nat.reduceEqDiff, Nat.reducePow, Int.reducePow, Int.reduceLE, Int.reduceLT, Int.reduceEq, Int.reduceToNat, reduceCtorEq, RR, RB, RZ, RE, fn_out, p9, Rs.ev, mapO, mapS, take_len_self, hl_0, h0_0, w2])
/-! loop.example/g01273/laws.FnExactIsDesk -/
def F110 (a0 : GDesk) : Option Bool :=
  (F6 a0 1048576).bind fun x1 =>
  if x1 < 0 then
    some true
  else
    (F7 a0).bind fun x4 =>
    (F8 x4).bind fun x6 =>
    (F9 x4).bind fun x8 =>
    if (x8 == x6) = true then
      (F3 x4 x4).bind fun x11 =>
      if x11 = true then
        some true
      else
        some false
    else
      some false
theorem s110 (a0 : GDesk)   {r : Bool} (hF : F110 a0 = some r) : ans A 110 [V.agg [V.int .i64 a0.First.Complex.Prime, V.isl (List.map Enc.enc a0.First.Complex.Dims), V.isl (List.map Enc.enc a0.First.Complex.Maps), V.isl (List.map Enc.enc a0.First.Levels), V.int .i64 a0.Second.Prime, V.isl (List.map Enc.enc a0.Second.Dims), V.isl (List.map Enc.enc a0.Second.Maps)]] = some (Enc.enc r) := by
  refine ans_of (f := p110) rfl rfl rfl fun e hl he => ?_
  have h0_0 : e.at 0 = V.agg [V.int .i64 a0.First.Complex.Prime, V.isl (List.map Enc.enc a0.First.Complex.Dims), V.isl (List.map Enc.enc a0.First.Complex.Maps), V.isl (List.map Enc.enc a0.First.Levels), V.int .i64 a0.Second.Prime, V.isl (List.map Enc.enc a0.Second.Dims), V.isl (List.map Enc.enc a0.Second.Maps)] := he 0 _ rfl
  have hl_0 : e.length = 27 := hl
  clear he hl
  show W A b110 e ⟨[], 0⟩ _
  unfold F110 at hF
  obtain ⟨x1, gx1, hF⟩ := bS hF
  have w2 : ans A 6 [V.agg [V.int .i64 a0.First.Complex.Prime, V.isl (List.map Enc.enc a0.First.Complex.Dims), V.isl (List.map Enc.enc a0.First.Complex.Maps), V.isl (List.map Enc.enc a0.First.Levels), V.int .i64 a0.Second.Prime, V.isl (List.map Enc.enc a0.Second.Dims), V.isl (List.map Enc.enc a0.Second.Maps)], V.int .i64 1048576] = some (V.int .i64 x1) := s6 a0 1048576  gx1
  by_cases c3 : x1 < 0
  · rw [if_pos c3] at hF
    have hE := Option.some.inj hF; subst hE
    simp only [↓reduceIte, Nat.reduceAdd, Nat.reduceMul, Nat.reduceSub, Nat.reduceLT, Nat.reduceLeDiff, Nat.reduceEqDiff, Nat.reducePow, Int.reducePow, Int.reduceLE, Int.reduceLT, Int.reduceEq, Int.reduceToNat, reduceCtorEq, RR, RB, RZ, RE, opEv, fillV, mapO, mapS, b110, hl_0, h0_0, w2, eq_true c3]
    exact fin_ret (by simp only [↓reduceIte, Nat.reduceAdd, Nat.reduceMul, Nat.reduceSub, Nat.reduceLT, Nat.reduceLeDiff, Nat.reduceEqDiff, Nat.reducePow, Int.reducePow, Int.reduceLE, Int.reduceLT, Int.reduceEq, Int.reduceToNat, reduceCtorEq, RR, RB, RZ, RE, fn_out, p110, Rs.ev, mapO, mapS, take_len_self, hl_0, h0_0, w2, eq_true c3])
  · rw [if_neg c3] at hF
    obtain ⟨x4, gx4, hF⟩ := bS hF
    have w5 : ans A 7 [V.agg [V.int .i64 a0.First.Complex.Prime, V.isl (List.map Enc.enc a0.First.Complex.Dims), V.isl (List.map Enc.enc a0.First.Complex.Maps), V.isl (List.map Enc.enc a0.First.Levels), V.int .i64 a0.Second.Prime, V.isl (List.map Enc.enc a0.Second.Dims), V.isl (List.map Enc.enc a0.Second.Maps)]] = some (V.agg [V.int .i64 x4.First.Complex.Prime, V.isl (List.map Enc.enc x4.First.Complex.Dims), V.isl (List.map Enc.enc x4.First.Complex.Maps), V.isl (List.map Enc.enc x4.First.Levels), V.int .i64 x4.Second.Prime, V.isl (List.map Enc.enc x4.Second.Dims), V.isl (List.map Enc.enc x4.Second.Maps)]) := s7 a0  gx4
    obtain ⟨x6, gx6, hF⟩ := bS hF
    have w7 : ans A 8 [V.agg [V.int .i64 x4.First.Complex.Prime, V.isl (List.map Enc.enc x4.First.Complex.Dims), V.isl (List.map Enc.enc x4.First.Complex.Maps), V.isl (List.map Enc.enc x4.First.Levels), V.int .i64 x4.Second.Prime, V.isl (List.map Enc.enc x4.Second.Dims), V.isl (List.map Enc.enc x4.Second.Maps)]] = some (V.bool x6) := s8 x4  gx6
    obtain ⟨x8, gx8, hF⟩ := bS hF
    have w9 : ans A 9 [V.agg [V.int .i64 x4.First.Complex.Prime, V.isl (List.map Enc.enc x4.First.Complex.Dims), V.isl (List.map Enc.enc x4.First.Complex.Maps), V.isl (List.map Enc.enc x4.First.Levels), V.int .i64 x4.Second.Prime, V.isl (List.map Enc.enc x4.Second.Dims), V.isl (List.map Enc.enc x4.Second.Maps)]] = some (V.bool x8) := s9 x4  gx8
    by_cases c10 : (x8 == x6) = true
    · rw [if_pos c10] at hF
      obtain ⟨x11, gx11, hF⟩ := bS hF
      have w12 : ans A 3 [V.agg [V.int .i64 x4.First.Complex.Prime, V.isl (List.map Enc.enc x4.First.Complex.Dims), V.isl (List.map Enc.enc x4.First.Complex.Maps), V.isl (List.map Enc.enc x4.First.Levels), V.int .i64 x4.Second.Prime, V.isl (List.map Enc.enc x4.Second.Dims), V.isl (List.map Enc.enc x4.Second.Maps)], V.agg [V.int .i64 x4.First.Complex.Prime, V.isl (List.map Enc.enc x4.First.Complex.Dims), V.isl (List.map Enc.enc x4.First.Complex.Maps), V.isl (List.map Enc.enc x4.First.Levels), V.int .i64 x4.Second.Prime, V.isl (List.map Enc.enc x4.Second.Dims), V.isl (List.map Enc.enc x4.Second.Maps)]] = some (V.bool x11) := s3 x4 x4  gx11
      cases x11 with
      | true =>
        rw [if_pos rfl] at hF
        have hE := Option.some.inj hF; subst hE
        simp only [↓reduceIte, Nat.reduceAdd, Nat.reduceMul, Nat.reduceSub, Nat.reduceLT, Nat.reduceLeDiff, Nat.reduceEqDiff, Nat.reducePow, Int.reducePow, Int.reduceLE, Int.reduceLT, Int.reduceEq, Int.reduceToNat, reduceCtorEq, RR, RB, RZ, RE, opEv, fillV, mapO, mapS, b110, hl_0, h0_0, w2, eq_false c3, w5, w7, w9, c10, w12]
        exact fin_ret (by simp only [↓reduceIte, Nat.reduceAdd, Nat.reduceMul, Nat.reduceSub, Nat.reduceLT, Nat.reduceLeDiff, Nat.reduceEqDiff, Nat.reducePow, Int.reducePow, Int.reduceLE, Int.reduceLT, Int.reduceEq, Int.reduceToNat, reduceCtorEq, RR, RB, RZ, RE, fn_out, p110, Rs.ev, mapO, mapS, take_len_self, hl_0, h0_0, w2, eq_false c3, w5, w7, w9, c10, w12])
      | false =>
        rw [if_neg Bool.false_ne_true] at hF
        have hE := Option.some.inj hF; subst hE
        simp only [↓reduceIte, Nat.reduceAdd, Nat.reduceMul, Nat.reduceSub, Nat.reduceLT, Nat.reduceLeDiff, Nat.reduceEqDiff, Nat.reducePow, Int.reducePow, Int.reduceLE, Int.reduceLT, Int.reduceEq, Int.reduceToNat, reduceCtorEq, RR, RB, RZ, RE, opEv, fillV, mapO, mapS, b110, hl_0, h0_0, w2, eq_false c3, w5, w7, w9, c10, w12]
        exact fin_ret (by simp only [↓reduceIte, Nat.reduceAdd, Nat.reduceMul, Nat.reduceSub, Nat.reduceLT, Nat.reduceLeDiff, Nat.reduceEqDiff, Nat.reducePow, Int.reducePow, Int.reduceLE, Int.reduceLT, Int.reduceEq, Int.reduceToNat, reduceCtorEq, RR, RB, RZ, RE, fn_out, p110, Rs.ev, mapO, mapS, take_len_self, hl_0, h0_0, w2, eq_false c3, w5, w7, w9, c10, w12])
    · rw [if_neg c10] at hF
      have hE := Option.some.inj hF; subst hE
      simp only [↓reduceIte, Nat.reduceAdd, Nat.reduceMul, Nat.reduceSub, Nat.reduceLT, Nat.reduceLeDiff, Nat.reduceEqDiff, Nat.reducePow, Int.reducePow, Int.reduceLE, Int.reduceLT, Int.reduceEq, Int.reduceToNat, reduceCtorEq, RR, RB, RZ, RE, opEv, fillV, mapO, mapS, b110, hl_0, h0_0, w2, eq_false c3, w5, w7, w9, Bool.eq_false_iff.2 c10]
      exact fin_ret (by simp only [↓reduceIte, Nat.reduceAdd, Nat.reduceMul, Nat.reduceSub, Nat.reduceLT, Nat.reduceLeDiff, Nat.reduceEqDiff, Nat.reducePow, Int.reducePow, Int.reduceLE, Int.reduceLT, Int.reduceEq, Int.reduceToNat, reduceCtorEq, RR, RB, RZ, RE, fn_out, p110, Rs.ev, mapO, mapS, take_len_self, hl_0, h0_0, w2, eq_false c3, w5, w7, w9, Bool.eq_false_iff.2 c10])
/-! loop.example/g01273/spec.l08Table -/
def F93_2_S (a0 : Int) (a1 : List (List Int)) (a3 : Int) (v9_1 : Int) (v10_2 : Int) : Option ((Int) ⊕ ((Unit) ⊕ Bool)) :=
  (getI a1 v9_1).bind fun x11 =>
if v10_2 < (x11.length : Int) then
  (getI x11 v10_2).bind fun x14 =>
  (chk (a0 - 1)).bind fun x16 =>
  (F54 x14 0 x16).bind fun x17 =>
  if x17 = true then
    (chk (v10_2 + 1)).bind fun x19 =>
    some (.inl x19)
  else
    some (.inr (.inr false))
else
  some (.inr (.inl ()))
def F93_1_B (a0 : Int) (a1 : List (List Int)) (a3 : Int) (v9_1 : Int) (s : Unit) : Option ((Unit) ⊕ ((Unit) ⊕ Bool)) :=
  (getI a1 v9_1).bind fun x5 =>
if (x5.length : Int) = a3 then
  (loopW (F93_2_S a0 a1 a3 v9_1) 0).bind fun t20 => match t20 with
    | .inl _ =>
      some (.inl ())
    | .inr r21 => some (.inr (.inr r21))
else
  some (.inr (.inr false))
def F93_1_D (a0 : Int) (a1 : List (List Int)) (a3 : Int) (v9_1 : Int) (s : Unit) : Option ((Unit) ⊕ Bool) :=
  some (.inl ())
def F93 (a0 : Int) (a1 : List (List Int)) (a2 : Int) (a3 : Int) : Option Bool :=
  if (a1.length : Int) = a2 then
    (forR 0 (a1.length : Int) (F93_1_B a0 a1 a3) (F93_1_D a0 a1 a3) ()).bind fun t22 => match t22 with
      | .inl _ =>
        some true
      | .inr r23 => some r23
  else
    some false
def I93_2 (a0 : Int) (a1 : List (List Int)) (a3 : Int) (v9_1 : Int)  (v10_2 : Int) (e : Env) (h : Heap) : Prop :=
  ∃ k9 : Nat, h = ⟨[], k9⟩ ∧ e.length = 48 ∧ e.at 0 = V.int .i64 a0 ∧ e.at 1 = V.isl (List.map Enc.enc a1) ∧ e.at 3 = V.int .i64 a3 ∧ e.at 9 = V.int .i64 v9_1 ∧ e.at 10 = V.int .i64 v10_2
def P93_2 (a0 : Int) (a1 : List (List Int)) (a3 : Int) (v9_1 : Int)  (t : (Unit) ⊕ Bool) (x : Ex) (e : Env) (h : Heap) : Prop :=
  match t with
  | .inl _ => x = .normal ∧ ∃ k9 : Nat, h = ⟨[], k9⟩ ∧ e.length = 48 ∧ e.at 0 = V.int .i64 a0 ∧ e.at 1 = V.isl (List.map Enc.enc a1) ∧ e.at 3 = V.int .i64 a3 ∧ e.at 9 = V.int .i64 v9_1
  | .inr r => x = .ret ∧ Fin p93 (Enc.enc r) .ret e h
theorem l93_2 (a0 : Int) (a1 : List (List Int)) (a3 : Int) (v9_1 : Int)   {s : Int} {t : (Unit) ⊕ Bool} (hF : loopW (F93_2_S a0 a1 a3 v9_1) s = some t) {e : Env} {h : Heap} (hI : I93_2 a0 a1 a3 v9_1  s e h) : W A c93_2 e h (P93_2 a0 a1 a3 v9_1  t) := by
  show W A (.block 2 (.loop false b93_2)) e h _
  rw [W_block]
  refine W_loop hF 0 (by obtain ⟨_, rfl, _⟩ := hI; rfl) (I93_2 a0 a1 a3 v9_1 ) hI ?_
  · rintro v10_2 e h ⟨k9, rfl, hl_8, h0_8, h1_8, h3_8, h9_8, h10_8⟩ o ho
    unfold F93_2_S at ho
    obtain ⟨x11, gx11, ho⟩ := bS ho
    obtain ⟨w12a, w12b⟩ := getI_w gx11
    by_cases c13 : v10_2 < (x11.length : Int)
    · rw [if_pos c13] at ho
      obtain ⟨x14, gx14, ho⟩ := bS ho
      obtain ⟨w15a, w15b⟩ := getI_w gx14
      obtain ⟨x16, gx16, ho⟩ := bS ho
      have wx16 := chk_w gx16
      obtain ⟨x17, gx17, ho⟩ := bS ho
      have w18 : ans A 54 [V.int .i64 x14, V.int .i64 0, V.int .i64 x16] = some (V.bool x17) := s54 x14 0 x16  gx17
      cases x17 with
      | true =>
        rw [if_pos rfl] at ho
        obtain ⟨x19, gx19, ho⟩ := bS ho
        have wx19 := chk_w gx19
        have hE := Option.some.inj ho; subst hE
        simp only [↓reduceIte, Nat.reduceAdd, Nat.reduceMul, Nat.reduceSub, Nat.reduceLT, Nat.reduceLeDiff, Nat.reduceEqDiff, Nat.reducePow, Int.reducePow, Int.reduceLE, Int.reduceLT, Int.reduceEq, Int.reduceToNat, reduceCtorEq, RR, RB, RZ, RE, opEv, fillV, mapO, mapS, b93_2, hl_8, h0_8, h1_8, h3_8, h9_8, h10_8, w12a, w12b, eq_true c13, w15a, w15b, wx16, w18, wx19]
        refine And.intro rfl (Exists.intro _ ( And.intro rfl ?_))
        simp only [↓reduceIte, Nat.reduceAdd, Nat.reduceMul, Nat.reduceSub, Nat.reduceLT, Nat.reduceLeDiff, Nat.reduceEqDiff, Nat.reducePow, Int.reducePow, Int.reduceLE, Int.reduceLT, Int.reduceEq, Int.reduceToNat, reduceCtorEq, RR, RB, RZ, RE, hl_8, h0_8, h1_8, h3_8, h9_8, h10_8, w12a, w12b, eq_true c13, w15a, w15b, wx16, w18, wx19]
      | false =>
        rw [if_neg Bool.false_ne_true] at ho
        have hE := Option.some.inj ho; subst hE
        simp only [↓reduceIte, Nat.reduceAdd, Nat.reduceMul, Nat.reduceSub, Nat.reduceLT, Nat.reduceLeDiff, Nat.reduceEqDiff, Nat.reducePow, Int.reducePow, Int.reduceLE, Int.reduceLT, Int.reduceEq, Int.reduceToNat, reduceCtorEq, RR, RB, RZ, RE, opEv, fillV, mapO, mapS, b93_2, hl_8, h0_8, h1_8, h3_8, h9_8, h10_8, w12a, w12b, eq_true c13, w15a, w15b, wx16, w18]
        intro ht; subst ht
        simp only [↓reduceIte, Nat.reduceAdd, Nat.reduceMul, Nat.reduceSub, Nat.reduceLT, Nat.reduceLeDiff, Nat.reduceEqDiff, Nat.reducePow, Int.reducePow, Int.reduceLE, Int.reduceLT, Int.reduceEq, Int.reduceToNat, reduceCtorEq, RR, RB]
        exact And.intro rfl (fin_ret (by simp only [↓reduceIte, Nat.reduceAdd, Nat.reduceMul, Nat.reduceSub, Nat.reduceLT, Nat.reduceLeDiff, Nat.reduceEqDiff, Nat.reducePow, Int.reducePow, Int.reduceLE, Int.reduceLT, Int.reduceEq, Int.reduceToNat, reduceCtorEq, RR, RB, RZ, RE, fn_out, p93, Rs.ev, mapO, mapS, take_len_self, hl_8, h0_8, h1_8, h3_8, h9_8, h10_8, w12a, w12b, eq_true c13, w15a, w15b, wx16, w18]))
    · rw [if_neg c13] at ho
      have hE := Option.some.inj ho; subst hE
      simp only [↓reduceIte, Nat.reduceAdd, Nat.reduceMul, Nat.reduceSub, Nat.reduceLT, Nat.reduceLeDiff, Nat.reduceEqDiff, Nat.reducePow, Int.reducePow, Int.reduceLE, Int.reduceLT, Int.reduceEq, Int.reduceToNat, reduceCtorEq, RR, RB, RZ, RE, opEv, fillV, mapO, mapS, b93_2, hl_8, h0_8, h1_8, h3_8, h9_8, h10_8, w12a, w12b, eq_false c13]
      intro ht; subst ht
      simp only [↓reduceIte, Nat.reduceAdd, Nat.reduceMul, Nat.reduceSub, Nat.reduceLT, Nat.reduceLeDiff, Nat.reduceEqDiff, Nat.reducePow, Int.reducePow, Int.reduceLE, Int.reduceLT, Int.reduceEq, Int.reduceToNat, reduceCtorEq, RR, RB]
      refine And.intro rfl (Exists.intro _ ( And.intro rfl ?_))
      simp only [↓reduceIte, Nat.reduceAdd, Nat.reduceMul, Nat.reduceSub, Nat.reduceLT, Nat.reduceLeDiff, Nat.reduceEqDiff, Nat.reducePow, Int.reducePow, Int.reduceLE, Int.reduceLT, Int.reduceEq, Int.reduceToNat, reduceCtorEq, RR, RB, RZ, RE, hl_8, h0_8, h1_8, h3_8, h9_8, h10_8, w12a, w12b, eq_false c13]
def I93_1 (a0 : Int) (a1 : List (List Int)) (a3 : Int)  (v9_1 : Int) (s : Unit) (e : Env) (h : Heap) : Prop :=
  ∃ k3 : Nat, h = ⟨[], k3⟩ ∧ e.length = 48 ∧ e.at 0 = V.int .i64 a0 ∧ e.at 1 = V.isl (List.map Enc.enc a1) ∧ e.at 3 = V.int .i64 a3 ∧ e.at 9 = V.int .i64 v9_1
def P93_1 (a0 : Int) (a1 : List (List Int)) (a3 : Int)  (t : (Unit) ⊕ Bool) (x : Ex) (e : Env) (h : Heap) : Prop :=
  match t with
  | .inl _ => x = .normal ∧ ∃ k3 : Nat, h = ⟨[], k3⟩ ∧ e.length = 48
  | .inr r => x = .ret ∧ Fin p93 (Enc.enc r) .ret e h
theorem l93_1 (a0 : Int) (a1 : List (List Int)) (a3 : Int)   {lo : Int} {s : Unit} {t : (Unit) ⊕ Bool} (hF : forR lo (a1.length : Int) (F93_1_B a0 a1 a3) (F93_1_D a0 a1 a3) s = some t) {e : Env} {h : Heap} (hI : I93_1 a0 a1 a3  lo s e h) : W A c93_1 e h (P93_1 a0 a1 a3  t) := by
  show W A (.block 0 (.loop false b93_1)) e h _
  rw [W_block]
  refine W_forR hF 0 (by obtain ⟨_, rfl, _⟩ := hI; rfl) (I93_1 a0 a1 a3 ) hI ?_ ?_
  · rintro v9_1 _ e h ⟨k3, rfl, hl_2, h0_2, h1_2, h3_2, h9_2⟩ hlt hw o ho
    unfold F93_1_B at ho
    obtain ⟨x5, gx5, ho⟩ := bS ho
    obtain ⟨w6a, w6b⟩ := getI_w gx5
    by_cases c7 : (x5.length : Int) = a3
    · rw [if_pos c7] at ho
      obtain ⟨t20, gt20, ho⟩ := bS ho
      rcases t20 with _ | r21
      · dsimp only at ho
        simp only [↓reduceIte, Nat.reduceAdd, Nat.reduceMul, Nat.reduceSub, Nat.reduceLT, Nat.reduceLeDiff, Nat.reduceEqDiff, Nat.reducePow, Int.reducePow, Int.reduceLE, Int.reduceLT, Int.reduceEq, Int.reduceToNat, reduceCtorEq, RR, RB, RZ, RE, opEv, fillV, mapO, mapS, b93_1, hl_2, h0_2, h1_2, h3_2, h9_2, eq_true hlt, hw, w6a, w6b, eq_true c7]
        refine W.mono (l93_2 a0 a1 a3 v9_1   gt20 (Exists.intro _ ( And.intro rfl ?_))) ?_
        · simp only [↓reduceIte, Nat.reduceAdd, Nat.reduceMul, Nat.reduceSub, Nat.reduceLT, Nat.reduceLeDiff, Nat.reduceEqDiff, Nat.reducePow, Int.reducePow, Int.reduceLE, Int.reduceLT, Int.reduceEq, Int.reduceToNat, reduceCtorEq, RR, RB, RZ, RE, hl_2, h0_2, h1_2, h3_2, h9_2, eq_true hlt, hw, w6a, w6b, eq_true c7]
        rintro _ e _ ⟨rfl, k9, rfl, hl_10, h0_10, h1_10, h3_10, h9_10⟩
        have hE := Option.some.inj ho; subst hE
        simp only [↓reduceIte, Nat.reduceAdd, Nat.reduceMul, Nat.reduceSub, Nat.reduceLT, Nat.reduceLeDiff, Nat.reduceEqDiff, Nat.reducePow, Int.reducePow, Int.reduceLE, Int.reduceLT, Int.reduceEq, Int.reduceToNat, reduceCtorEq, RR, RB, RZ, RE, opEv, fillV, mapO, mapS, hl_10, h0_10, h1_10, h3_10, h9_10, eq_true hlt, hw, eq_true c7]
        refine And.intro rfl (Exists.intro _ ( And.intro rfl ?_))
        simp only [↓reduceIte, Nat.reduceAdd, Nat.reduceMul, Nat.reduceSub, Nat.reduceLT, Nat.reduceLeDiff, Nat.reduceEqDiff, Nat.reducePow, Int.reducePow, Int.reduceLE, Int.reduceLT, Int.reduceEq, Int.reduceToNat, reduceCtorEq, RR, RB, RZ, RE, hl_10, h0_10, h1_10, h3_10, h9_10, eq_true hlt, hw, eq_true c7]
      · dsimp only at ho
        have hE := Option.some.inj ho; subst hE
        simp only [↓reduceIte, Nat.reduceAdd, Nat.reduceMul, Nat.reduceSub, Nat.reduceLT, Nat.reduceLeDiff, Nat.reduceEqDiff, Nat.reducePow, Int.reducePow, Int.reduceLE, Int.reduceLT, Int.reduceEq, Int.reduceToNat, reduceCtorEq, RR, RB, RZ, RE, opEv, fillV, mapO, mapS, b93_1, hl_2, h0_2, h1_2, h3_2, h9_2, eq_true hlt, hw, w6a, w6b, eq_true c7]
        refine W.mono (l93_2 a0 a1 a3 v9_1   gt20 (Exists.intro _ ( And.intro rfl ?_))) ?_
        · simp only [↓reduceIte, Nat.reduceAdd, Nat.reduceMul, Nat.reduceSub, Nat.reduceLT, Nat.reduceLeDiff, Nat.reduceEqDiff, Nat.reducePow, Int.reducePow, Int.reduceLE, Int.reduceLT, Int.reduceEq, Int.reduceToNat, reduceCtorEq, RR, RB, RZ, RE, hl_2, h0_2, h1_2, h3_2, h9_2, eq_true hlt, hw, w6a, w6b, eq_true c7]
        rintro _ e h ⟨rfl, hq⟩
        simp only [↓reduceIte, Nat.reduceAdd, Nat.reduceMul, Nat.reduceSub, Nat.reduceLT, Nat.reduceLeDiff, Nat.reduceEqDiff, Nat.reducePow, Int.reducePow, Int.reduceLE, Int.reduceLT, Int.reduceEq, Int.reduceToNat, reduceCtorEq, RR, RB]
        intro ht; subst ht
        simp only [↓reduceIte, Nat.reduceAdd, Nat.reduceMul, Nat.reduceSub, Nat.reduceLT, Nat.reduceLeDiff, Nat.reduceEqDiff, Nat.reducePow, Int.reducePow, Int.reduceLE, Int.reduceLT, Int.reduceEq, Int.reduceToNat, reduceCtorEq, RR, RB]
        exact And.intro rfl hq
    · rw [if_neg c7] at ho
      have hE := Option.some.inj ho; subst hE
      simp only [↓reduceIte, Nat.reduceAdd, Nat.reduceMul, Nat.reduceSub, Nat.reduceLT, Nat.reduceLeDiff, Nat.reduceEqDiff, Nat.reducePow, Int.reducePow, Int.reduceLE, Int.reduceLT, Int.reduceEq, Int.reduceToNat, reduceCtorEq, RR, RB, RZ, RE, opEv, fillV, mapO, mapS, b93_1, hl_2, h0_2, h1_2, h3_2, h9_2, eq_true hlt, hw, w6a, w6b, eq_false c7]
      intro ht; subst ht
      simp only [↓reduceIte, Nat.reduceAdd, Nat.reduceMul, Nat.reduceSub, Nat.reduceLT, Nat.reduceLeDiff, Nat.reduceEqDiff, Nat.reducePow, Int.reducePow, Int.reduceLE, Int.reduceLT, Int.reduceEq, Int.reduceToNat, reduceCtorEq, RR, RB]
      exact And.intro rfl (fin_ret (by simp only [↓reduceIte, Nat.reduceAdd, Nat.reduceMul, Nat.reduceSub, Nat.reduceLT, Nat.reduceLeDiff, Nat.reduceEqDiff, Nat.reducePow, Int.reducePow, Int.reduceLE, Int.reduceLT, Int.reduceEq, Int.reduceToNat, reduceCtorEq, RR, RB, RZ, RE, fn_out, p93, Rs.ev, mapO, mapS, take_len_self, hl_2, h0_2, h1_2, h3_2, h9_2, eq_true hlt, hw, w6a, w6b, eq_false c7]))
  · rintro v9_1 _ e h ⟨k3, rfl, hl_2, h0_2, h1_2, h3_2, h9_2⟩ hge t1 ho
    unfold F93_1_D at ho
    have hE := Option.some.inj ho; subst hE
    simp only [↓reduceIte, Nat.reduceAdd, Nat.reduceMul, Nat.reduceSub, Nat.reduceLT, Nat.reduceLeDiff, Nat.reduceEqDiff, Nat.reducePow, Int.reducePow, Int.reduceLE, Int.reduceLT, Int.reduceEq, Int.reduceToNat, reduceCtorEq, RR, RB, RZ, RE, opEv, fillV, mapO, mapS, b93_1, hl_2, h0_2, h1_2, h3_2, h9_2, eq_false hge]
    intro ht; subst ht
    refine And.intro rfl (Exists.intro _ ( And.intro rfl ?_))
    simp only [↓reduceIte, Nat.reduceAdd, Nat.reduceMul, Nat.reduceSub, Nat.reduceLT, Nat.reduceLeDiff, Nat.reduceEqDiff, Nat.reducePow, Int.reducePow, Int.reduceLE, Int.reduceLT, Int.reduceEq, Int.reduceToNat, reduceCtorEq, RR, RB, RZ, RE, hl_2, h0_2, h1_2, h3_2, h9_2, eq_false hge]
theorem s93 (a0 : Int) (a1 : List (List Int)) (a2 : Int) (a3 : Int)   {r : Bool} (hF : F93 a0 a1 a2 a3 = some r) : ans A 93 [V.int .i64 a0, V.isl (List.map Enc.enc a1), V.int .i64 a2, V.int .i64 a3] = some (Enc.enc r) := by
  refine ans_of (f := p93) rfl rfl rfl fun e hl he => ?_
  have h0_0 : e.at 0 = V.int .i64 a0 := he 0 _ rfl
  have h1_0 : e.at 1 = V.isl (List.map Enc.enc a1) := he 1 _ rfl
  have h2_0 : e.at 2 = V.int .i64 a2 := he 2 _ rfl
  have h3_0 : e.at 3 = V.int .i64 a3 := he 3 _ rfl
  have hl_0 : e.length = 48 := hl
  clear he hl
  show W A b93 e ⟨[], 0⟩ _
  unfold F93 at hF
  by_cases c1 : (a1.length : Int) = a2
  · rw [if_pos c1] at hF
    obtain ⟨t22, gt22, hF⟩ := bS hF
    rcases t22 with _ | r23
    · dsimp only at hF
      simp only [↓reduceIte, Nat.reduceAdd, Nat.reduceMul, Nat.reduceSub, Nat.reduceLT, Nat.reduceLeDiff, Nat.reduceEqDiff, Nat.reducePow, Int.reducePow, Int.reduceLE, Int.reduceLT, Int.reduceEq, Int.reduceToNat, reduceCtorEq, RR, RB, RZ, RE, opEv, fillV, mapO, mapS, b93, hl_0, h0_0, h1_0, h2_0, h3_0, eq_true c1]
      refine W.mono (l93_1 a0 a1 a3   gt22 (Exists.intro _ ( And.intro rfl ?_))) ?_
      · simp only [↓reduceIte, Nat.reduceAdd, Nat.reduceMul, Nat.reduceSub, Nat.reduceLT, Nat.reduceLeDiff, Nat.reduceEqDiff, Nat.reducePow, Int.reducePow, Int.reduceLE, Int.reduceLT, Int.reduceEq, Int.reduceToNat, reduceCtorEq, RR, RB, RZ, RE, hl_0, h0_0, h1_0, h2_0, h3_0, eq_true c1]
      rintro _ e _ ⟨rfl, k3, rfl, hl_4⟩
      have hE := Option.some.inj hF; subst hE
      simp only [↓reduceIte, Nat.reduceAdd, Nat.reduceMul, Nat.reduceSub, Nat.reduceLT, Nat.reduceLeDiff, Nat.reduceEqDiff, Nat.reducePow, Int.reducePow, Int.reduceLE, Int.reduceLT, Int.reduceEq, Int.reduceToNat, reduceCtorEq, RR, RB, RZ, RE, opEv, fillV, mapO, mapS, hl_4, eq_true c1]
      exact fin_ret (by simp only [↓reduceIte, Nat.reduceAdd, Nat.reduceMul, Nat.reduceSub, Nat.reduceLT, Nat.reduceLeDiff, Nat.reduceEqDiff, Nat.reducePow, Int.reducePow, Int.reduceLE, Int.reduceLT, Int.reduceEq, Int.reduceToNat, reduceCtorEq, RR, RB, RZ, RE, fn_out, p93, Rs.ev, mapO, mapS, take_len_self, hl_4, eq_true c1])
    · dsimp only at hF
      have hE := Option.some.inj hF; subst hE
      simp only [↓reduceIte, Nat.reduceAdd, Nat.reduceMul, Nat.reduceSub, Nat.reduceLT, Nat.reduceLeDiff, Nat.reduceEqDiff, Nat.reducePow, Int.reducePow, Int.reduceLE, Int.reduceLT, Int.reduceEq, Int.reduceToNat, reduceCtorEq, RR, RB, RZ, RE, opEv, fillV, mapO, mapS, b93, hl_0, h0_0, h1_0, h2_0, h3_0, eq_true c1]
      refine W.mono (l93_1 a0 a1 a3   gt22 (Exists.intro _ ( And.intro rfl ?_))) ?_
      · simp only [↓reduceIte, Nat.reduceAdd, Nat.reduceMul, Nat.reduceSub, Nat.reduceLT, Nat.reduceLeDiff, Nat.reduceEqDiff, Nat.reducePow, Int.reducePow, Int.reduceLE, Int.reduceLT, Int.reduceEq, Int.reduceToNat, reduceCtorEq, RR, RB, RZ, RE, hl_0, h0_0, h1_0, h2_0, h3_0, eq_true c1]
      rintro _ e h ⟨rfl, hq⟩
      simp only [↓reduceIte, Nat.reduceAdd, Nat.reduceMul, Nat.reduceSub, Nat.reduceLT, Nat.reduceLeDiff, Nat.reduceEqDiff, Nat.reducePow, Int.reducePow, Int.reduceLE, Int.reduceLT, Int.reduceEq, Int.reduceToNat, reduceCtorEq, RR, RB]
      exact hq
  · rw [if_neg c1] at hF
    have hE := Option.some.inj hF; subst hE
    simp only [↓reduceIte, Nat.reduceAdd, Nat.reduceMul, Nat.reduceSub, Nat.reduceLT, Nat.reduceLeDiff, Nat.reduceEqDiff, Nat.reducePow, Int.reducePow, Int.reduceLE, Int.reduceLT, Int.reduceEq, Int.reduceToNat, reduceCtorEq, RR, RB, RZ, RE, opEv, fillV, mapO, mapS, b93, hl_0, h0_0, h1_0, h2_0, h3_0, eq_false c1]
    exact fin_ret (by simp only [↓reduceIte, Nat.reduceAdd, Nat.reduceMul, Nat.reduceSub, Nat.reduceLT, Nat.reduceLeDiff, Nat.reduceEqDiff, Nat.reducePow, Int.reducePow, Int.reduceLE, Int.reduceLT, Int.reduceEq, Int.reduceToNat, reduceCtorEq, RR, RB, RZ, RE, fn_out, p93, Rs.ev, mapO, mapS, take_len_self, hl_0, h0_0, h1_0, h2_0, h3_0, eq_false c1])
/-! loop.example/g01273/spec.l08Maps -/
def F45_1_B (a0 : GComplex) (a1 : List (List (List Int))) (v5_1 : Int) (s : Unit) : Option ((Unit) ⊕ ((Unit) ⊕ Int)) :=
  (getI a1 v5_1).bind fun x7 =>
(getI a0.Dims (v5_1 + 1)).bind fun x9 =>
(getI a0.Dims v5_1).bind fun x11 =>
(F93 a0.Prime x7 x9 x11).bind fun x13 =>
if x13 = true then
  some (.inl ())
else
  some (.inr (.inr 2))
def F45_1_D (a0 : GComplex) (a1 : List (List (List Int))) (v5_1 : Int) (s : Unit) : Option ((Unit) ⊕ Int) :=
  some (.inl ())
def F45 (a0 : GComplex) (a1 : List (List (List Int))) : Option Int :=
  (F39 a0).bind fun x1 =>
  if x1 = true then
    if (a1.length : Int) = (a0.Maps.length : Int) then
      (forR 0 (a1.length : Int) (F45_1_B a0 a1) (F45_1_D a0 a1) ()).bind fun t15 => match t15 with
        | .inl _ =>
          some 0
        | .inr r16 => some r16
    else
      some 2
  else
    some 1
def I45_1 (a0 : GComplex) (a1 : List (List (List Int)))  (v5_1 : Int) (s : Unit) (e : Env) (h : Heap) : Prop :=
  ∃ k5 : Nat, h = ⟨[(0, none)], k5⟩ ∧ e.length = 40 ∧ e.at 1 = V.isl (List.map Enc.enc a1) ∧ e.at 2 = V.iptr [V.int .i64 a0.Prime, V.isl (List.map Enc.enc a0.Dims), V.isl (List.map Enc.enc a0.Maps)] ∧ e.at 5 = V.int .i64 v5_1
def P45_1 (a0 : GComplex) (a1 : List (List (List Int)))  (t : (Unit) ⊕ Int) (x : Ex) (e : Env) (h : Heap) : Prop :=
  match t with
  | .inl _ => x = .normal ∧ ∃ k5 : Nat, h = ⟨[(0, none)], k5⟩ ∧ e.length = 40
  | .inr r => x = .ret ∧ Fin p45 (Enc.enc r) .ret e h
theorem l45_1 (a0 : GComplex) (a1 : List (List (List Int)))   {lo : Int} {s : Unit} {t : (Unit) ⊕ Int} (hF : forR lo (a1.length : Int) (F45_1_B a0 a1) (F45_1_D a0 a1) s = some t) {e : Env} {h : Heap} (hI : I45_1 a0 a1  lo s e h) : W A c45_1 e h (P45_1 a0 a1  t) := by
  show W A (.block 0 (.loop false b45_1)) e h _
  rw [W_block]
  refine W_forR hF 1 (by obtain ⟨_, rfl, _⟩ := hI; rfl) (I45_1 a0 a1 ) hI ?_ ?_
  · rintro v5_1 _ e h ⟨k5, rfl, hl_4, h1_4, h2_4, h5_4⟩ hlt hw o ho
    unfold F45_1_B at ho
    obtain ⟨x7, gx7, ho⟩ := bS ho
    obtain ⟨w8a, w8b⟩ := getI_w gx7
    obtain ⟨x9, gx9, ho⟩ := bS ho
    obtain ⟨w10a, w10b⟩ := getI_w gx9
    obtain ⟨x11, gx11, ho⟩ := bS ho
    obtain ⟨w12a, w12b⟩ := getI_w gx11
    obtain ⟨x13, gx13, ho⟩ := bS ho
    have w14 : ans A 93 [V.int .i64 a0.Prime, V.isl (List.map Enc.enc x7), V.int .i64 x9, V.int .i64 x11] = some (V.bool x13) := s93 a0.Prime x7 x9 x11  gx13
    cases x13 with
    | true =>
      rw [if_pos rfl] at ho
      have hE := Option.some.inj ho; subst hE
      simp only [↓reduceIte, Nat.reduceAdd, Nat.reduceMul, Nat.reduceSub, Nat.reduceLT, Nat.reduceLeDiff, Nat.reduceEqDiff, Nat.reducePow, Int.reducePow, Int.reduceLE, Int.reduceLT, Int.reduceEq, Int.reduceToNat, reduceCtorEq, RR, RB, RZ, RE, opEv, fillV, mapO, mapS, b45_1, hl_4, h1_4, h2_4, h5_4, eq_true hlt, hw, w8a, w8b, w10a, w10b, w12a, w12b, w14]
      refine And.intro rfl (Exists.intro _ ( And.intro rfl ?_))
      simp only [↓reduceIte, Nat.reduceAdd, Nat.reduceMul, Nat.reduceSub, Nat.reduceLT, Nat.reduceLeDiff, Nat.reduceEqDiff, Nat.reducePow, Int.reducePow, Int.reduceLE, Int.reduceLT, Int.reduceEq, Int.reduceToNat, reduceCtorEq, RR, RB, RZ, RE, hl_4, h1_4, h2_4, h5_4, eq_true hlt, hw, w8a, w8b, w10a, w10b, w12a, w12b, w14]
    | false =>
      rw [if_neg Bool.false_ne_true] at ho
      have hE := Option.some.inj ho; subst hE
      simp only [↓reduceIte, Nat.reduceAdd, Nat.reduceMul, Nat.reduceSub, Nat.reduceLT, Nat.reduceLeDiff, Nat.reduceEqDiff, Nat.reducePow, Int.reducePow, Int.reduceLE, Int.reduceLT, Int.reduceEq, Int.reduceToNat, reduceCtorEq, RR, RB, RZ, RE, opEv, fillV, mapO, mapS, b45_1, hl_4, h1_4, h2_4, h5_4, eq_true hlt, hw, w8a, w8b, w10a, w10b, w12a, w12b, w14]
      intro ht; subst ht
      simp only [↓reduceIte, Nat.reduceAdd, Nat.reduceMul, Nat.reduceSub, Nat.reduceLT, Nat.reduceLeDiff, Nat.reduceEqDiff, Nat.reducePow, Int.reducePow, Int.reduceLE, Int.reduceLT, Int.reduceEq, Int.reduceToNat, reduceCtorEq, RR, RB]
      exact And.intro rfl (fin_ret (by simp only [↓reduceIte, Nat.reduceAdd, Nat.reduceMul, Nat.reduceSub, Nat.reduceLT, Nat.reduceLeDiff, Nat.reduceEqDiff, Nat.reducePow, Int.reducePow, Int.reduceLE, Int.reduceLT, Int.reduceEq, Int.reduceToNat, reduceCtorEq, RR, RB, RZ, RE, fn_out, p45, Rs.ev, mapO, mapS, take_len_self, hl_4, h1_4, h2_4, h5_4, eq_true hlt, hw, w8a, w8b, w10a, w10b, w12a, w12b, w14]))
  · rintro v5_1 _ e h ⟨k5, rfl, hl_4, h1_4, h2_4, h5_4⟩ hge t1 ho
    unfold F45_1_D at ho
    have hE := Option.some.inj ho; subst hE
    simp only [↓reduceIte, Nat.reduceAdd, Nat.reduceMul, Nat.reduceSub, Nat.reduceLT, Nat.reduceLeDiff, Nat.reduceEqDiff, Nat.reducePow, Int.reducePow, Int.reduceLE, Int.reduceLT, Int.reduceEq, Int.reduceToNat, reduceCtorEq, RR, RB, RZ, RE, opEv, fillV, mapO, mapS, b45_1, hl_4, h1_4, h2_4, h5_4, eq_false hge]
    intro ht; subst ht
    refine And.intro rfl (Exists.intro _ ( And.intro rfl ?_))
    simp only [↓reduceIte, Nat.reduceAdd, Nat.reduceMul, Nat.reduceSub, Nat.reduceLT, Nat.reduceLeDiff, Nat.reduceEqDiff, Nat.reducePow, Int.reducePow, Int.reduceLE, Int.reduceLT, Int.reduceEq, Int.reduceToNat, reduceCtorEq, RR, RB, RZ, RE, hl_4, h1_4, h2_4, h5_4, eq_false hge]
theorem s45 (a0 : GComplex) (a1 : List (List (List Int)))   {r : Int} (hF : F45 a0 a1 = some r) : ans A 45 [V.agg [V.int .i64 a0.Prime, V.isl (List.map Enc.enc a0.Dims), V.isl (List.map Enc.enc a0.Maps)], V.isl (List.map Enc.enc a1)] = some (Enc.enc r) := by
  refine ans_of (f := p45) rfl rfl rfl fun e hl he => ?_
  have h0_0 : e.at 0 = V.agg [V.int .i64 a0.Prime, V.isl (List.map Enc.enc a0.Dims), V.isl (List.map Enc.enc a0.Maps)] := he 0 _ rfl
  have h1_0 : e.at 1 = V.isl (List.map Enc.enc a1) := he 1 _ rfl
  have hl_0 : e.length = 40 := hl
  clear he hl
  show W A b45 e ⟨[], 0⟩ _
  unfold F45 at hF
  obtain ⟨x1, gx1, hF⟩ := bS hF
  have w2 : ans A 39 [V.agg [V.int .i64 a0.Prime, V.isl (List.map Enc.enc a0.Dims), V.isl (List.map Enc.enc a0.Maps)]] = some (V.bool x1) := s39 a0  gx1
  cases x1 with
  | true =>
    rw [if_pos rfl] at hF
    by_cases c3 : (a1.length : Int) = (a0.Maps.length : Int)
    · rw [if_pos c3] at hF
      obtain ⟨t15, gt15, hF⟩ := bS hF
      rcases t15 with _ | r16
      · dsimp only at hF
        simp only [↓reduceIte, Nat.reduceAdd, Nat.reduceMul, Nat.reduceSub, Nat.reduceLT, Nat.reduceLeDiff, Nat.reduceEqDiff, Nat.reducePow, Int.reducePow, Int.reduceLE, Int.reduceLT, Int.reduceEq, Int.reduceToNat, reduceCtorEq, RR, RB, RZ, RE, opEv, fillV, mapO, mapS, b45, hl_0, h0_0, h1_0, w2, eq_true c3]
        refine W.mono (l45_1 a0 a1   gt15 (Exists.intro _ ( And.intro rfl ?_))) ?_
        · simp only [↓reduceIte, Nat.reduceAdd, Nat.reduceMul, Nat.reduceSub, Nat.reduceLT, Nat.reduceLeDiff, Nat.reduceEqDiff, Nat.reducePow, Int.reducePow, Int.reduceLE, Int.reduceLT, Int.reduceEq, Int.reduceToNat, reduceCtorEq, RR, RB, RZ, RE, hl_0, h0_0, h1_0, w2, eq_true c3]
        rintro _ e _ ⟨rfl, k5, rfl, hl_6⟩
        have hE := Option.some.inj hF; subst hE
        simp only [↓reduceIte, Nat.reduceAdd, Nat.reduceMul, Nat.reduceSub, Nat.reduceLT, Nat.reduceLeDiff, Nat.reduceEqDiff, Nat.reducePow, Int.reducePow, Int.reduceLE, Int.reduceLT, Int.reduceEq, Int.reduceToNat, reduceCtorEq, RR, RB, RZ, RE, opEv, fillV, mapO, mapS, hl_6, eq_true c3]
        exact fin_ret (by simp only [↓reduceIte, Nat.reduceAdd, Nat.reduceMul, Nat.reduceSub, Nat.reduceLT, Nat.reduceLeDiff, Nat.reduceEqDiff, Nat.reducePow, Int.reducePow, Int.reduceLE, Int.reduceLT, Int.reduceEq, Int.reduceToNat, reduceCtorEq, RR, RB, RZ, RE, fn_out, p45, Rs.ev, mapO, mapS, take_len_self, hl_6, eq_true c3])
      · dsimp only at hF
        have hE := Option.some.inj hF; subst hE
        simp only [↓reduceIte, Nat.reduceAdd, Nat.reduceMul, Nat.reduceSub, Nat.reduceLT, Nat.reduceLeDiff, Nat.reduceEqDiff, Nat.reducePow, Int.reducePow, Int.reduceLE, Int.reduceLT, Int.reduceEq, Int.reduceToNat, reduceCtorEq, RR, RB, RZ, RE, opEv, fillV, mapO, mapS, b45, hl_0, h0_0, h1_0, w2, eq_true c3]
        refine W.mono (l45_1 a0 a1   gt15 (Exists.intro _ ( And.intro rfl ?_))) ?_
        · simp only [↓reduceIte, Nat.reduceAdd, Nat.reduceMul, Nat.reduceSub, Nat.reduceLT, Nat.reduceLeDiff, Nat.reduceEqDiff, Nat.reducePow, Int.reducePow, Int.reduceLE, Int.reduceLT, Int.reduceEq, Int.reduceToNat, reduceCtorEq, RR, RB, RZ, RE, hl_0, h0_0, h1_0, w2, eq_true c3]
        rintro _ e h ⟨rfl, hq⟩
        simp only [↓reduceIte, Nat.reduceAdd, Nat.reduceMul, Nat.reduceSub, Nat.reduceLT, Nat.reduceLeDiff, Nat.reduceEqDiff, Nat.reducePow, Int.reducePow, Int.reduceLE, Int.reduceLT, Int.reduceEq, Int.reduceToNat, reduceCtorEq, RR, RB]
        exact hq
    · rw [if_neg c3] at hF
      have hE := Option.some.inj hF; subst hE
      simp only [↓reduceIte, Nat.reduceAdd, Nat.reduceMul, Nat.reduceSub, Nat.reduceLT, Nat.reduceLeDiff, Nat.reduceEqDiff, Nat.reducePow, Int.reducePow, Int.reduceLE, Int.reduceLT, Int.reduceEq, Int.reduceToNat, reduceCtorEq, RR, RB, RZ, RE, opEv, fillV, mapO, mapS, b45, hl_0, h0_0, h1_0, w2, eq_false c3]
      exact fin_ret (by simp only [↓reduceIte, Nat.reduceAdd, Nat.reduceMul, Nat.reduceSub, Nat.reduceLT, Nat.reduceLeDiff, Nat.reduceEqDiff, Nat.reducePow, Int.reducePow, Int.reduceLE, Int.reduceLT, Int.reduceEq, Int.reduceToNat, reduceCtorEq, RR, RB, RZ, RE, fn_out, p45, Rs.ev, mapO, mapS, take_len_self, hl_0, h0_0, h1_0, w2, eq_false c3])
  | false =>
    rw [if_neg Bool.false_ne_true] at hF
    have hE := Option.some.inj hF; subst hE
    simp only [↓reduceIte, Nat.reduceAdd, Nat.reduceMul, Nat.reduceSub, Nat.reduceLT, Nat.reduceLeDiff, Nat.reduceEqDiff, Nat.reducePow, Int.reducePow, Int.reduceLE, Int.reduceLT, Int.reduceEq, Int.reduceToNat, reduceCtorEq, RR, RB, RZ, RE, opEv, fillV, mapO, mapS, b45, hl_0, h0_0, h1_0, w2]
    exact fin_ret (by simp only [↓reduceIte, Nat.reduceAdd, Nat.reduceMul, Nat.reduceSub, Nat.reduceLT, Nat.reduceLeDiff, Nat.reduceEqDiff, Nat.reducePow, Int.reducePow, Int.reduceLE, Int.reduceLT, Int.reduceEq, Int.reduceToNat, reduceCtorEq, RR, RB, RZ, RE, fn_out, p45, Rs.ev, mapO, mapS, take_len_self, hl_0, h0_0, h1_0, w2])
/-! loop.example/g01273/spec.l01Own -/
def F94 (a0 : List Int) : Option (List Int) :=
  (app 8 ([] : List Int) a0).bind fun l2 =>
  some l2
theorem s94 (a0 : List Int)   {r : List Int} (hF : F94 a0 = some r) : ans A 94 [V.isl (List.map Enc.enc a0)] = some (Enc.enc r) := by
  refine ans_of (f := p94) rfl rfl rfl fun e hl he => ?_
  have h0_0 : e.at 0 = V.isl (List.map Enc.enc a0) := he 0 _ rfl
  have hl_0 : e.length = 6 := hl
  clear he hl
  show W A b94 e ⟨[], 0⟩ _
  unfold F94 at hF
  obtain ⟨l2, gl2, hF⟩ := bS hF
  have w1 := fun ents key uid clk he => appendV_w (α := Int) (n := 0) (m := a0.length) (ds := List.map Enc.enc a0) gl2 (by first | rfl | simp only [List.length_nil]) (by first | rfl | simp only [List.length_nil]) rfl ents key uid clk he
  have w1l := app_len gl2
  have hE := Option.some.inj hF; subst hE
  simp only [↓reduceIte, Nat.reduceAdd, Nat.reduceMul, Nat.reduceSub, Nat.reduceLT, Nat.reduceLeDiff, Nat.reduceEqDiff, Nat.reducePow, Int.reducePow, Int.reduceLE, Int.reduceLT, Int.reduceEq, Int.reduceToNat, reduceCtorEq, RR, RB, RZ, RE, opEv, fillV, mapO, mapS, b94, hl_0, h0_0, w1]
  exact fin_ret (by simp only [↓reduceIte, Nat.reduceAdd, Nat.reduceMul, Nat.reduceSub, Nat.reduceLT, Nat.reduceLeDiff, Nat.reduceEqDiff, Nat.reducePow, Int.reducePow, Int.reduceLE, Int.reduceLT, Int.reduceEq, Int.reduceToNat, reduceCtorEq, RR, RB, RZ, RE, fn_out, p94, Rs.ev, mapO, mapS, take_len_self, hl_0, h0_0, w1, frzs (α := Int) l2, takes (α := Int) l2])
theorem t94 (a0 : List Int)   {r : List Int} (hF : F94 a0 = some r) : tans A 94 [1] [V.isl (List.map Enc.enc a0)] = some (Enc.enc r) := by
  refine tans_of (f := p94) rfl rfl rfl fun e hl he => ?_
  have h0_0 : e.at 0 = V.isl (List.map Enc.enc a0) := he 0 _ rfl
  have hl_0 : e.length = 6 := hl
  clear he hl
  show W A b94 e ⟨[], 0⟩ _
  unfold F94 at hF
  obtain ⟨l2, gl2, hF⟩ := bS hF
  have w1 := fun ents key uid clk he => appendV_w (α := Int) (n := 0) (m := a0.length) (ds := List.map Enc.enc a0) gl2 (by first | rfl | simp only [List.length_nil]) (by first | rfl | simp only [List.length_nil]) rfl ents key uid clk he
  have w1l := app_len gl2
  have hE := Option.some.inj hF; subst hE
  simp only [↓reduceIte, Nat.reduceAdd, Nat.reduceMul, Nat.reduceSub, Nat.reduceLT, Nat.reduceLeDiff, Nat.reduceEqDiff, Nat.reducePow, Int.reducePow, Int.reduceLE, Int.reduceLT, Int.reduceEq, Int.reduceToNat, reduceCtorEq, RR, RB, RZ, RE, opEv, fillV, mapO, mapS, b94, hl_0, h0_0, w1]
  exact tfin_ret (by simp only [↓reduceIte, Nat.reduceAdd, Nat.reduceMul, Nat.reduceSub, Nat.reduceLT, Nat.reduceLeDiff, Nat.reduceEqDiff, Nat.reducePow, Int.reducePow, Int.reduceLE, Int.reduceLT, Int.reduceEq, Int.reduceToNat, reduceCtorEq, RR, RB, RZ, RE, fn_out, p94, Rs.ev, mapO, mapS, take_len_self, hl_0, h0_0, w1, frzs (α := Int) l2, takes (α := Int) l2])
/-! loop.example/g01273/spec.l01Rows -/
def F95_1_B (a0 : List (List Int)) (v4_1 : Int) (o0_1 : (List (List Int))) : Option (((List (List Int))) ⊕ ((List (List Int)))) :=
  (getI a0 v4_1).bind fun x5 =>
(F94 x5).bind fun x7 =>
(app 24 o0_1 [x7]).bind fun l10 =>
some (.inl l10)
def F95_1_D (a0 : List (List Int)) (v4_1 : Int) (o0_1 : (List (List Int))) : Option ((List (List Int))) :=
  some o0_1
def F95 (a0 : List (List Int)) : Option (List (List Int)) :=
  (forR 0 (a0.length : Int) (F95_1_B a0) (F95_1_D a0) ([] : (List (List Int)))).bind fun zo0_1 =>
  some zo0_1
theorem d95 (a0 : List (List Int)) {r : List (List Int)} (hF : F95 a0 = some r) : ∃ v h', res A 95 [V.isl (List.map Enc.enc a0)] Heap.empty = some (v, h') ∧ ∃ K, Deep.rep h' v r K := by
  refine res_dp (f := p95) rfl rfl rfl fun e hl he => ?_
  have h0_0 : e.at 0 = V.isl (List.map Enc.enc a0) := he 0 _ rfl
  have hl_0 : e.length = 21 := hl
  clear he hl
  show W A b95 e ⟨[], 0⟩ _
  unfold F95 at hF
  obtain ⟨zo0_1, gt11, hF⟩ := bS hF
  have hE := Option.some.inj hF; subst hE
  simp only [↓reduceIte, Nat.reduceAdd, Nat.reduceMul, Nat.reduceSub, Nat.reduceLT, Nat.reduceLeDiff, Nat.reduceEqDiff, Nat.reducePow, Int.reducePow, Int.reduceLE, Int.reduceLT, Int.reduceEq, Int.reduceToNat, reduceCtorEq, RR, RB, RZ, opEv, fillV, mapO, mapS, b95, hl_0, h0_0]
  show W A (.block 0 (.loop true b95_1)) _ _ _
  rw [W_block]
  refine W_forR gt11 _ rfl (fun i l e h => ∃ u vs K, h.ents[0]? = some (u, some vs) ∧ reps h vs l K ∧ ¬ K 0 ∧ e.length = 21 ∧ e.at 0 = V.isl (List.map Enc.enc a0) ∧ e.at 3 = V.sl 0 u 0 l.length 1 ∧ e.at 4 = V.int .i64 i) ?_ ?_ ?_
  · refine ⟨0, [], fun _ => False, rfl, fun _ x => x, fun x => x, ?_⟩
    simp only [↓reduceIte, Nat.reduceAdd, Nat.reduceMul, Nat.reduceSub, Nat.reduceLT, Nat.reduceLeDiff, Nat.reduceEqDiff, Nat.reducePow, Int.reducePow, Int.reduceLE, Int.reduceLT, Int.reduceEq, Int.reduceToNat, reduceCtorEq, RR, RB, RZ, hl_0, h0_0]
  · rintro i l e ⟨E, c⟩ ⟨u, vs, K, g1, g2, g3, hl_1, h0_1, h3_1, h4_1⟩ hlt hw o ho
    unfold F95_1_B at ho
    obtain ⟨x5, gx5, ho⟩ := bS ho
    obtain ⟨w6a, w6b⟩ := getI_w gx5
    obtain ⟨x7, gx7, ho⟩ := bS ho
    have w8 := t94 x5 gx7
    obtain ⟨l10, gl10, ho⟩ := bS ho
    obtain ⟨q1, q2, rfl⟩ := app_w gl10
    have hE := Option.some.inj ho; subst hE
    have hln := g2.len
    have hE0 : 0 < E.length := (List.getElem?_eq_some_iff.1 g1).1
    have w9 : ∀ x y c', appendV 1 24 (.sl 0 u 0 l.length 1) 1 [V.sl E.length c 0 x7.length 1] ⟨E ++ [x] ++ [y], c'⟩ = _ := fun x y c' => appendV_deep (E := E ++ [x] ++ [y]) (vs := vs) (by rw [List.getElem?_append_left (by simp), List.getElem?_append_left hE0]; exact g1) hln (by simpa using q1) (by simpa using q2)
    simp only [↓reduceIte, Nat.reduceAdd, Nat.reduceMul, Nat.reduceSub, Nat.reduceLT, Nat.reduceLeDiff, Nat.reduceEqDiff, Nat.reducePow, Int.reducePow, Int.reduceLE, Int.reduceLT, Int.reduceEq, Int.reduceToNat, reduceCtorEq, RR, RB, RZ, opEv, fillV, mapO, mapS, b95_1, hl_1, h0_1, h3_1, h4_1, eq_true hlt, hw, w6a, w6b, w8, callM_tans, thaw_one, get_last, w9]
    have r1 := deep_round (h := ⟨E, c⟩) (h1 := ⟨E ++ [(c, some (List.map Enc.enc x7))], c + 1⟩) (h2 := ⟨(E ++ [(c, some (List.map Enc.enc x7))] ++ [(c + 1, some [V.sl E.length c 0 x7.length 1])]).set 0 (c + 1 + 1, some (vs ++ [V.sl E.length c 0 x7.length 1])), c + 1 + 1 + 1⟩) g2
      (int_row (l := x7) (K := fun k => k = E.length) (get_last _ _) fun k => Iff.rfl) (fun k q => by show E.length ≤ k; omega) (fun k q => List.getElem?_append_left q) (fun k p q => set_app_new (fun e => by subst e; exact q.elim g3 (fun q => by omega)) p) (by simp)
    refine And.intro rfl ⟨_, _, _, set_app_key (by simp), r1, fun q => q.elim g3 (fun q => by omega), ?_⟩
    simp only [↓reduceIte, Nat.reduceAdd, Nat.reduceMul, Nat.reduceSub, Nat.reduceLT, Nat.reduceLeDiff, Nat.reduceEqDiff, Nat.reducePow, Int.reducePow, Int.reduceLE, Int.reduceLT, Int.reduceEq, Int.reduceToNat, reduceCtorEq, RR, RB, RZ, hl_1, h0_1, h3_1, h4_1, eq_true hlt, hw, w6a, w6b, w8, List.length_append]
  · rintro i l e ⟨E, c⟩ ⟨u, vs, K, g1, g2, g3, hl_1, h0_1, h3_1, h4_1⟩ hge t1 ho
    unfold F95_1_D at ho
    have hE := Option.some.inj ho; subst hE
    simp only [↓reduceIte, Nat.reduceAdd, Nat.reduceMul, Nat.reduceSub, Nat.reduceLT, Nat.reduceLeDiff, Nat.reduceEqDiff, Nat.reducePow, Int.reducePow, Int.reduceLE, Int.reduceLT, Int.reduceEq, Int.reduceToNat, reduceCtorEq, RR, RB, RZ, opEv, fillV, mapO, mapS, b95_1, hl_1, h0_1, h3_1, h4_1, eq_false hge]
    intro ht; subst ht
    refine And.intro (fun _ => trivial) ⟨_, by simp only [↓reduceIte, Nat.reduceAdd, Nat.reduceMul, Nat.reduceSub, Nat.reduceLT, Nat.reduceLeDiff, Nat.reduceEqDiff, Nat.reducePow, Int.reducePow, Int.reduceLE, Int.reduceLT, Int.reduceEq, Int.reduceToNat, reduceCtorEq, RR, RB, RZ, fn_out, p95, Rs.ev, mapO, mapS, hl_1], fun k => k = 0 ∨ K k, .inr ⟨0, u, vs, K, rfl, g1, g2, g3, fun k => Iff.rfl⟩⟩
theorem s95 (a0 : List (List Int)) {r : List (List Int)} (hF : F95 a0 = some r) : ans A 95 [V.isl (List.map Enc.enc a0)] = some (Enc.enc r) := ans_of_deep (by decide) (d95 a0 hF)
theorem x95 (a0 : List (List Int)) {r : List (List Int)} (hF : F95 a0 = some r) : tans A 95 [1, 1] [V.isl (List.map Enc.enc a0)] = some (Enc.enc r) := tans_of_deep (α := List (List Int)) (by decide) (d95 a0 hF)
/-! loop.example/g01273/spec.l01Copy -/
def F55_1_B (a0 : GComplex) (v4_1 : Int) (s : (List (List (List Int))) × Int × (List Int)) : Option (((List (List (List Int))) × Int × (List Int)) ⊕ ((List (List (List Int))) × Int × (List Int))) :=
  match s with
  | (o2_1, q3_0_1, q3_1_1) =>
    (getI a0.Maps v4_1).bind fun x7 =>
    (F95 x7).bind fun x9 =>
    (app 24 o2_1 [x9]).bind fun l12 =>
    some (.inl (l12, q3_0_1, q3_1_1))
def F55_1_D (a0 : GComplex) (v4_1 : Int) (s : (List (List (List Int))) × Int × (List Int)) : Option ((List (List (List Int))) × Int × (List Int)) :=
  match s with
  | (o2_1, q3_0_1, q3_1_1) =>
    some (o2_1, q3_0_1, q3_1_1)
def F55 (a0 : GComplex) : Option GComplex :=
  (F94 a0.Dims).bind fun x1 =>
  (forR 0 (a0.Maps.length : Int) (F55_1_B a0) (F55_1_D a0) ([], a0.Prime, x1)).bind fun t13 => match t13 with
    | (zo2_1, zq3_0_1, zq3_1_1) =>
      some ⟨zq3_0_1, zq3_1_1, zo2_1⟩
theorem d55 (x : GComplex) {r : GComplex} (hF : F55 x = some r) : ∃ v h', res A 55 [V.agg [V.int .i64 x.Prime, V.isl (List.map Enc.enc x.Dims), V.isl (List.map Enc.enc x.Maps)]] Heap.empty = some (v, h') ∧ ∃ m K, v = V.agg [V.int .i64 r.Prime, V.isl (List.map Enc.enc r.Dims), m] ∧ Deep.rep h' m r.Maps K := by
  refine res_dp (f := p55) rfl rfl rfl fun e hl he => ?_
  have h0_0 : e.at 0 = V.agg [V.int .i64 x.Prime, V.isl (List.map Enc.enc x.Dims), V.isl (List.map Enc.enc x.Maps)] := he 0 _ rfl
  have hl_0 : e.length = 31 := hl
  clear he hl
  show W A b55 e ⟨[], 0⟩ _
  unfold F55 at hF
  obtain ⟨x1, gx1, hF⟩ := bS hF
  have w1 : ans A 94 [V.isl (List.map Enc.enc x.Dims)] = some (V.isl (List.map Enc.enc x1)) := s94 x.Dims gx1
  obtain ⟨t13, gt13, hF⟩ := bS hF
  simp only [↓reduceIte, Nat.reduceAdd, Nat.reduceMul, Nat.reduceSub, Nat.reduceLT, Nat.reduceLeDiff, Nat.reduceEqDiff, Nat.reducePow, Int.reducePow, Int.reduceLE, Int.reduceLT, Int.reduceEq, Int.reduceToNat, reduceCtorEq, RR, RB, RZ, RE, opEv, fillV, mapO, mapS, b55, hl_0, h0_0, w1]
  show W A (.block 0 (.loop true b55_1)) _ _ _
  rw [W_block]
  refine W_forR gt13 _ rfl (fun i s e h => s.2 = (x.Prime, x1) ∧ ∃ u vs K, h.ents[1]? = some (1, some [V.int .i64 0, V.nils, V.nils]) ∧ h.ents[2]? = some (u, some vs) ∧ h.ents[3]? = some (3, some [V.int .i64 x.Prime, V.isl (List.map Enc.enc x1), V.sl 2 u 0 s.1.length 1]) ∧ reps h vs s.1 K ∧ (∀ k, K k → 4 ≤ k) ∧ e.length = 31 ∧ e.at 1 = V.iptr [V.int .i64 x.Prime, V.isl (List.map Enc.enc x.Dims), V.isl (List.map Enc.enc x.Maps)] ∧ e.at 2 = V.ptr 1 1 0 ∧ e.at 3 = V.ptr 3 3 0 ∧ e.at 4 = V.int .i64 i) ?_ ?_ ?_
  · refine ⟨rfl, 2, [], fun _ => False, rfl, rfl, rfl, fun _ x => x, fun _ x => x.elim, ?_⟩
    simp only [↓reduceIte, Nat.reduceAdd, Nat.reduceMul, Nat.reduceSub, Nat.reduceLT, Nat.reduceLeDiff, Nat.reduceEqDiff, Nat.reducePow, Int.reducePow, Int.reduceLE, Int.reduceLT, Int.reduceEq, Int.reduceToNat, reduceCtorEq, RR, RB, RZ, RE, hl_0, h0_0]
  · rintro i ⟨l, q⟩ e ⟨E, c⟩ ⟨rfl, u, vs, K, g1, g2, g3, g4, g5, hl_1, h1_1, h2_1, h3_1, h4_1⟩ hlt hw o ho
    unfold F55_1_B at ho
    simp only at ho g3
    obtain ⟨x5, gx5, ho⟩ := bS ho
    obtain ⟨w6a, w6b⟩ := getI_w gx5
    obtain ⟨x7, gx7, ho⟩ := bS ho
    have w8 := x95 x5 gx7
    obtain ⟨l10, gl10, ho⟩ := bS ho
    obtain ⟨q1, q2, rfl⟩ := app_w gl10
    have hE := Option.some.inj ho; subst hE
    have hln := g4.len
    have hE0 : 3 < E.length := (List.getElem?_eq_some_iff.1 g3).1
    obtain ⟨v, ⟨E1, c1⟩, t1, t2, t3, t4⟩ := thaw_deep (α := List (List Int)) (by decide) x7 ⟨E, c⟩
    have t1' : thaw 16 [1, 1] (V.isl (List.map Enc.enc x7)) ⟨E, c⟩ = some (v, ⟨E1, c1⟩) := t1
    simp only at t2 t3 t4 g1 g2 g3
    have m1 := (t4 1 (by omega)).trans g1
    have m2 := (t4 2 (by omega)).trans g2
    have m3 := (t4 3 (by omega)).trans g3
    have n1 : ∀ y z, (((E1 ++ [y]).set 2 z))[1]? = _ := fun y z => (set_app_new (by decide) (by omega)).trans m1
    have n3 : ∀ y z, (((E1 ++ [y]).set 2 z))[3]? = _ := fun y z => (set_app_new (by decide) (by omega)).trans m3
    obtain ⟨v1, v2⟩ := rep_one t2
    have w9 : ∀ y c', appendV 1 24 (.sl 2 u 0 l.length 1) 1 [v] ⟨E1 ++ [y], c'⟩ = _ := fun y c' => appendV_deep (E := E1 ++ [y]) (vs := vs) (by rw [List.getElem?_append_left (by omega)]; exact m2) hln (by simpa using q1) (by simpa using q2)
    simp only [↓reduceIte, Nat.reduceAdd, Nat.reduceMul, Nat.reduceSub, Nat.reduceLT, Nat.reduceLeDiff, Nat.reduceEqDiff, Nat.reducePow, Int.reducePow, Int.reduceLE, Int.reduceLT, Int.reduceEq, Int.reduceToNat, reduceCtorEq, RR, RB, RZ, RE, opEv, fillV, mapO, mapS, b55_1, hl_1, h1_1, h2_1, h3_1, h4_1, eq_true hlt, hw, w6a, w6b, w8, callM_tans, t1', v1, v2, m1, m2, m3, get_last, w9, n1, n3, g1, g2, g3]
    have r1 := deep_round (h := ⟨E, c⟩) (h1 := ⟨E1, c1⟩) (h2 := ⟨((E1 ++ [(c1, some [v])]).set 2 (c1 + 1, some (vs ++ [v]))).set 3 (3, some [V.int .i64 x.Prime, V.isl (List.map Enc.enc x1), V.sl 2 (c1 + 1) 0 (l.length + 1) 1]), c1 + 1 + 1⟩) (K := K) g4
      t2 (fun k q => q.1) t4 (fun k p q => by
        have hk : 4 ≤ k := q.elim (g5 _) (fun q => by omega)
        rw [set_ne (by omega)]
        exact set_app_new (by omega) p) t3
    refine And.intro rfl (And.intro rfl ⟨c1 + 1, vs ++ [v], fun k => K k ∨ (E.length ≤ k ∧ k < E1.length), ?_, ?_, ?_, r1, fun k q => q.elim (g5 _) (fun q => by omega), ?_⟩)
    rotate_left
    · exact (set_ne (by decide)).trans (set_app_key (by simp; omega))
    · simp only [List.length_append, List.length_cons, List.length_nil, Nat.zero_add]
      exact set_app_key (by simp; omega)
    · simp only [↓reduceIte, Nat.reduceAdd, Nat.reduceMul, Nat.reduceSub, Nat.reduceLT, Nat.reduceLeDiff, Nat.reduceEqDiff, Nat.reducePow, Int.reducePow, Int.reduceLE, Int.reduceLT, Int.reduceEq, Int.reduceToNat, reduceCtorEq, RR, RB, RZ, RE, hl_1, h1_1, h2_1, h3_1, h4_1, eq_true hlt, hw, w6a, w6b, w8]
    · exact (set_ne (by decide)).trans (n1 _ _)
  · rintro i ⟨l, q⟩ e ⟨E, c⟩ ⟨rfl, u, vs, K, g1, g2, g3, g4, g5, hl_1, h1_1, h2_1, h3_1, h4_1⟩ hge t1 ho
    unfold F55_1_D at ho
    have hE := Option.some.inj ho; subst hE
    simp only at hF g1 g2 g3
    simp only [↓reduceIte, Nat.reduceAdd, Nat.reduceMul, Nat.reduceSub, Nat.reduceLT, Nat.reduceLeDiff, Nat.reduceEqDiff, Nat.reducePow, Int.reducePow, Int.reduceLE, Int.reduceLT, Int.reduceEq, Int.reduceToNat, reduceCtorEq, RR, RB, RZ, RE, opEv, fillV, mapO, mapS, b55_1, hl_1, h1_1, h2_1, h3_1, h4_1, eq_false hge, g1, g2, g3]
    intro ht; subst ht
    have hE := Option.some.inj hF; subst hE
    have hE0 : 3 < E.length := (List.getElem?_eq_some_iff.1 g3).1
    refine And.intro (fun _ => trivial) ⟨_, by simp only [↓reduceIte, Nat.reduceAdd, Nat.reduceMul, Nat.reduceSub, Nat.reduceLT, Nat.reduceLeDiff, Nat.reduceEqDiff, Nat.reducePow, Int.reducePow, Int.reduceLE, Int.reduceLT, Int.reduceEq, Int.reduceToNat, reduceCtorEq, RR, RB, RZ, RE, fn_out, p55, Rs.ev, mapO, mapS, hl_1, h2_1, set_app_key (show 1 < E.length by omega)]; rfl, _, _, rfl, rep_at (α := List (List Int)) (K := K) ?_ (g4.frame fun k q => set_ne (by have := g5 k q; omega)) (fun q => by have := g5 _ q; omega)⟩
    exact (set_ne (by decide)).trans g2
theorem fz55 (x : GComplex) {r : GComplex} (hF : F55 x = some r) : ans A 55 [V.agg [V.int .i64 x.Prime, V.isl (List.map Enc.enc x.Dims), V.isl (List.map Enc.enc x.Maps)]] = some (Enc.enc r) := by
  obtain ⟨v, h', h1, m, K, rfl, h2⟩ := d55 x hF
  exact ans_agg h1 h2
theorem s55 (x : GComplex) {r : GComplex} (hF : F55 x = some r) : ans A 55 [V.agg [V.int .i64 x.Prime, V.isl (List.map Enc.enc x.Dims), V.isl (List.map Enc.enc x.Maps)]] = some (Enc.enc r) := fz55 x hF
theorem x55 (x : GComplex) {r : GComplex} (hF : F55 x = some r) : tans A 55 [1, 1, 1] [V.agg [V.int .i64 x.Prime, V.isl (List.map Enc.enc x.Dims), V.isl (List.map Enc.enc x.Maps)]] = some (V.agg [V.int .i64 r.Prime, V.iptr [V.isl (List.map Enc.enc r.Dims)], V.isl (List.map Enc.enc r.Maps)]) := by
  obtain ⟨v, h', h1, m, K, rfl, h2⟩ := d55 x hF
  exact tans_agg h1 h2
/-! loop.example/g01273/spec.l08Perturbed -/
def F46_3_B (p : Int) (ws : List Int) (j : Int) (row : List Int) : Option (List Int ⊕ List Int) :=
  (getI row j).bind fun v => (getI ws j).bind fun w => (chk (v + w)).bind fun q => (remI q p).bind fun z => (setI row j z).bind fun r => some (.inl r)
def F46_3_D (j : Int) (row : List Int) : Option (List Int) := some row
def F46_2_B (p : Int) (k : Int) (mk : List (List Int)) (i : Int) (ms : List (List (List Int))) : Option (List (List (List Int)) ⊕ List (List (List Int))) :=
  (getI ms k).bind fun t => (getI t i).bind fun row => (getI mk i).bind fun ws => (forR 0 (row.length : Int) (F46_3_B p ws) F46_3_D row).bind fun r =>
  (setI t i r).bind fun t' => (setI ms k t').bind fun ms' => some (.inl ms')
def F46_2_D (i : Int) (ms : List (List (List Int))) : Option (List (List (List Int))) := some ms
def F46_1_B (p : Int) (maps : List (List (List Int))) (k : Int) (ms : List (List (List Int))) : Option (List (List (List Int)) ⊕ List (List (List Int))) :=
  (getI maps k).bind fun mk => (forR 0 (mk.length : Int) (F46_2_B p k mk) F46_2_D ms).bind fun ms' => some (.inl ms')
def F46_1_D (k : Int) (ms : List (List (List Int))) : Option (List (List (List Int))) := some ms
def F46 (x : GComplex) (maps : List (List (List Int))) : Option GComplex :=
  (F55 x).bind fun o => (forR 0 (maps.length : Int) (F46_1_B x.Prime maps) F46_1_D o.Maps).bind fun ms => some ⟨o.Prime, o.Dims, ms⟩
theorem d46 (x : GComplex) (maps : List (List (List Int))) {r : GComplex} (hF : F46 x maps = some r) : ∃ v h', res A 46 [V.agg [V.int .i64 x.Prime, V.isl (List.map Enc.enc x.Dims), V.isl (List.map Enc.enc x.Maps)], V.isl (List.map Enc.enc maps)] Heap.empty = some (v, h') ∧ ∃ m K, v = V.agg [V.int .i64 r.Prime, V.isl (List.map Enc.enc r.Dims), m] ∧ Deep.rep h' m r.Maps K := by
  refine res_dp (f := p46) rfl rfl rfl fun e hl he => ?_
  have h0_0 : e.at 0 = V.agg [V.int .i64 x.Prime, V.isl (List.map Enc.enc x.Dims), V.isl (List.map Enc.enc x.Maps)] := he 0 _ rfl
  have h1_0 : e.at 1 = V.isl (List.map Enc.enc maps) := he 1 _ rfl
  have hl_0 : e.length = 63 := hl
  clear he hl
  show W A b46 e ⟨[], 0⟩ _
  unfold F46 at hF
  obtain ⟨o, go, hF⟩ := bS hF
  obtain ⟨ms, gt, hF⟩ := bS hF
  have hE := Option.some.inj hF; subst hE
  have w1 := x55 x go
  obtain ⟨m, ⟨E1, c1⟩, t1, t2, t3, t4⟩ := thaw_agg o.Prime o.Dims o.Maps ⟨[(0, none), (1, some [V.int .i64 0, V.nils, V.nils])], 2⟩
  simp only [↓reduceIte, Nat.reduceAdd, Nat.reduceMul, Nat.reduceSub, Nat.reduceLT, Nat.reduceLeDiff, Nat.reduceEqDiff, Nat.reducePow, Int.reducePow, Int.reduceLE, Int.reduceLT, Int.reduceEq, Int.reduceToNat, reduceCtorEq, RR, RB, RZ, RE, opEv, fillV, mapO, mapS, b46, hl_0, h0_0, h1_0, w1, callM_tans, t1, get_last, set_last]
  simp only [List.length_cons, List.length_nil, Nat.zero_add, Nat.reduceAdd] at t2 t3 t4
  have m1 : E1[1]? = some (1, some [V.int .i64 0, V.nils, V.nils]) := t4 1 (by decide)
  show W A (.block 0 (.loop true b46_1)) _ _ _
  rw [W_block]
  refine W_forR gt _ rfl (fun k ms e h => h.ents[1]? = some (1, some [V.int .i64 0, V.nils, V.nils]) ∧ h.ents[E1.length]? = some (c1, some [V.int .i64 o.Prime, V.isl (List.map Enc.enc o.Dims), m]) ∧ Deep.rep h m ms (fun k => 2 ≤ k ∧ k < E1.length) ∧ e.length = 63 ∧ e.at 1 = V.isl (List.map Enc.enc maps) ∧ e.at 2 = V.iptr [V.int .i64 x.Prime, V.isl (List.map Enc.enc x.Dims), V.isl (List.map Enc.enc x.Maps)] ∧ e.at 4 = V.ptr 1 1 0 ∧ e.at 5 = V.ptr E1.length c1 0 ∧ e.at 6 = V.int .i64 k) ?_ ?_ ?_
  · refine ⟨by rw [List.getElem?_append_left (by omega)]; exact m1, get_last _ _, Deep.frame t2 fun k q => List.getElem?_append_left q.2, ?_⟩
    simp only [↓reduceIte, Nat.reduceAdd, Nat.reduceMul, Nat.reduceSub, Nat.reduceLT, Nat.reduceLeDiff, Nat.reduceEqDiff, Nat.reducePow, Int.reducePow, Int.reduceLE, Int.reduceLT, Int.reduceEq, Int.reduceToNat, reduceCtorEq, RR, RB, RZ, RE, hl_0, h0_0, h1_0]
  · clear t1 t2 t4 m1 hl_0 h0_0 h1_0 w1 gt
    rintro k ms e ⟨E, c⟩ ⟨g1, g2, g3, hl_1, h1_1, h2_1, h4_1, h5_1, h6_1⟩ hlt hw oo ho
    unfold F46_1_B at ho
    obtain ⟨mk, gk, ho⟩ := bS ho
    obtain ⟨ka, kb⟩ := getI_w gk
    obtain ⟨ms', gt2, ho⟩ := bS ho
    have hE := Option.some.inj ho; subst hE
    simp only at g1 g2
    simp only [↓reduceIte, Nat.reduceAdd, Nat.reduceMul, Nat.reduceSub, Nat.reduceLT, Nat.reduceLeDiff, Nat.reduceEqDiff, Nat.reducePow, Int.reducePow, Int.reduceLE, Int.reduceLT, Int.reduceEq, Int.reduceToNat, reduceCtorEq, RR, RB, RZ, RE, opEv, fillV, mapO, mapS, b46_1, hl_1, h1_1, h2_1, h4_1, h5_1, h6_1, eq_true hlt, hw]
    refine W.mono (Q := fun x' e h => x' = .normal ∧ h.ents[1]? = some (1, some [V.int .i64 0, V.nils, V.nils]) ∧ h.ents[E1.length]? = some (c1, some [V.int .i64 o.Prime, V.isl (List.map Enc.enc o.Dims), m]) ∧ Deep.rep h m ms' (fun k => 2 ≤ k ∧ k < E1.length) ∧ e.length = 63 ∧ e.at 1 = V.isl (List.map Enc.enc maps) ∧ e.at 2 = V.iptr [V.int .i64 x.Prime, V.isl (List.map Enc.enc x.Dims), V.isl (List.map Enc.enc x.Maps)] ∧ e.at 4 = V.ptr 1 1 0 ∧ e.at 5 = V.ptr E1.length c1 0 ∧ e.at 6 = V.int .i64 k) ?_ ?_
    rotate_left
    · rintro _ e ⟨E2, c2⟩ ⟨rfl, q1, q2, q3, hl_2, h1_2, h2_2, h4_2, h5_2, h6_2⟩
      simp only [↓reduceIte, Nat.reduceAdd, Nat.reduceMul, Nat.reduceSub, Nat.reduceLT, Nat.reduceLeDiff, Nat.reduceEqDiff, Nat.reducePow, Int.reducePow, Int.reduceLE, Int.reduceLT, Int.reduceEq, Int.reduceToNat, reduceCtorEq, RR, RB, RZ, RE, opEv, fillV, mapO, mapS, hl_2, h1_2, h2_2, h4_2, h5_2, h6_2, hw]
      refine And.intro rfl ⟨q1, q2, q3, ?_⟩
      simp only [↓reduceIte, Nat.reduceAdd, Nat.reduceMul, Nat.reduceSub, Nat.reduceLT, Nat.reduceLeDiff, Nat.reduceEqDiff, Nat.reducePow, Int.reducePow, Int.reduceLE, Int.reduceLT, Int.reduceEq, Int.reduceToNat, reduceCtorEq, RR, RB, RZ, RE, hl_2, h1_2, h2_2, h4_2, h5_2, h6_2, hw]
    show W A (.block 2 (.loop true b46_2)) _ _ _
    rw [W_block]
    refine W_forR gt2 _ rfl (fun i ms e h => h.ents[1]? = some (1, some [V.int .i64 0, V.nils, V.nils]) ∧ h.ents[E1.length]? = some (c1, some [V.int .i64 o.Prime, V.isl (List.map Enc.enc o.Dims), m]) ∧ Deep.rep h m ms (fun k => 2 ≤ k ∧ k < E1.length) ∧ e.length = 63 ∧ e.at 1 = V.isl (List.map Enc.enc maps) ∧ e.at 2 = V.iptr [V.int .i64 x.Prime, V.isl (List.map Enc.enc x.Dims), V.isl (List.map Enc.enc x.Maps)] ∧ e.at 4 = V.ptr 1 1 0 ∧ e.at 5 = V.ptr E1.length c1 0 ∧ e.at 6 = V.int .i64 k ∧ e.at 7 = V.int .i64 i) ?_ ?_ ?_
    · refine ⟨g1, g2, g3, ?_⟩
      simp only [↓reduceIte, Nat.reduceAdd, Nat.reduceMul, Nat.reduceSub, Nat.reduceLT, Nat.reduceLeDiff, Nat.reduceEqDiff, Nat.reducePow, Int.reducePow, Int.reduceLE, Int.reduceLT, Int.reduceEq, Int.reduceToNat, reduceCtorEq, RR, RB, RZ, RE, hl_1, h1_1, h2_1, h4_1, h5_1, h6_1]
    · clear g1 g2 g3 hl_1 h1_1 h2_1 h4_1 h5_1 h6_1 gt2
      rintro i ms e ⟨E, c⟩ ⟨g1, g2, g3, hl_1, h1_1, h2_1, h4_1, h5_1, h6_1, h7_1⟩ hlt2 hw2 oo ho
      unfold F46_2_B at ho
      obtain ⟨t, gt, ho⟩ := bS ho
      obtain ⟨ta, tb⟩ := getI_w gt
      have tc := getI_lt gt
      obtain ⟨row, gr, ho⟩ := bS ho
      obtain ⟨ra, rb⟩ := getI_w gr
      have rc := getI_lt gr
      obtain ⟨ws, gw, ho⟩ := bS ho
      obtain ⟨wa, wb⟩ := getI_w gw
      obtain ⟨row', gl, ho⟩ := bS ho
      obtain ⟨t', gt', ho⟩ := bS ho
      obtain ⟨ms2, gm', ho⟩ := bS ho
      have hE := Option.some.inj ho; subst hE
      obtain ⟨key, uid, vs, x1, K1, hm, a1, a2, a3, a4, a5, a6⟩ := rep_focus g3 tb
      obtain ⟨key2, uid2, vs2, x2, K2, hx1, b1, b2, b3, b4, b5, b6⟩ := rep_focus a4 rb
      have o1 := ofCells_drop a2
      have o2 := ofCells_drop b2
      simp only at g1 g2 a1 b1
      simp only [↓reduceIte, Nat.reduceAdd, Nat.reduceMul, Nat.reduceSub, Nat.reduceLT, Nat.reduceLeDiff, Nat.reduceEqDiff, Nat.reducePow, Int.reducePow, Int.reduceLE, Int.reduceLT, Int.reduceEq, Int.reduceToNat, reduceCtorEq, RR, RB, RZ, RE, opEv, fillV, mapO, mapS, b46_2, hl_1, h1_1, h2_1, h4_1, h5_1, h6_1, h7_1, eq_true hlt2, hw2, ka, kb, g2, hm, eq_true tc, a1, o1, hx1, ra, eq_true rc, b1, o2]
      have n1 : ¬ K2 1 := fun q => by have := a5 _ (b5 _ q); omega
      have nN : ¬ K2 E1.length := fun q => by have := a5 _ (b5 _ q); omega
      have st : t' = t.set i.toNat row' := setI_eq gt'
      have sm : ms2 = ms.set k.toNat t' := setI_eq gm'
      refine W.mono (Q := fun x' e h => x' = .normal ∧ Deep.rep h x2 row' K2 ∧ (∀ k, ¬ K2 k → h.ents[k]? = E[k]?) ∧ e.length = 63 ∧ e.at 1 = V.isl (List.map Enc.enc maps) ∧ e.at 2 = V.iptr [V.int .i64 x.Prime, V.isl (List.map Enc.enc x.Dims), V.isl (List.map Enc.enc x.Maps)] ∧ e.at 4 = V.ptr 1 1 0 ∧ e.at 5 = V.ptr E1.length c1 0 ∧ e.at 6 = V.int .i64 k ∧ e.at 7 = V.int .i64 i) ?_ ?_
      rotate_left
      · rintro _ e ⟨E2, c2⟩ ⟨rfl, q1, q2, hl_2, h1_2, h2_2, h4_2, h5_2, h6_2, h7_2⟩
        simp only at q2
        have r1 : Deep.rep ⟨E2, c2⟩ x1 t' K1 := by rw [st]; exact b6 _ _ q1 fun k _ nk => q2 k nk
        have r2 : Deep.rep ⟨E2, c2⟩ m ms2 (fun k => 2 ≤ k ∧ k < E1.length) := by rw [sm]; exact a6 _ _ r1 fun k _ nk => q2 k fun p => nk (b5 k p)
        simp only [↓reduceIte, Nat.reduceAdd, Nat.reduceMul, Nat.reduceSub, Nat.reduceLT, Nat.reduceLeDiff, Nat.reduceEqDiff, Nat.reducePow, Int.reducePow, Int.reduceLE, Int.reduceLT, Int.reduceEq, Int.reduceToNat, reduceCtorEq, RR, RB, RZ, RE, opEv, fillV, mapO, mapS, hl_2, h1_2, h2_2, h4_2, h5_2, h6_2, h7_2, hw2]
        rw [← hm]
        refine And.intro rfl ⟨(q2 1 n1).trans g1, (q2 _ nN).trans g2, r2, ?_⟩
        simp only [↓reduceIte, Nat.reduceAdd, Nat.reduceMul, Nat.reduceSub, Nat.reduceLT, Nat.reduceLeDiff, Nat.reduceEqDiff, Nat.reducePow, Int.reducePow, Int.reduceLE, Int.reduceLT, Int.reduceEq, Int.reduceToNat, reduceCtorEq, RR, RB, RZ, RE, hl_2, h1_2, h2_2, h4_2, h5_2, h6_2, h7_2, hw2]
      show W A (.block 4 (.loop true b46_3)) _ _ _
      rw [W_block]
      refine W_forR gl _ rfl (fun j rw e h => Deep.rep h x2 rw K2 ∧ (∀ k, ¬ K2 k → h.ents[k]? = E[k]?) ∧ rw.length = row.length ∧ e.length = 63 ∧ e.at 1 = V.isl (List.map Enc.enc maps) ∧ e.at 2 = V.iptr [V.int .i64 x.Prime, V.isl (List.map Enc.enc x.Dims), V.isl (List.map Enc.enc x.Maps)] ∧ e.at 4 = V.ptr 1 1 0 ∧ e.at 5 = V.ptr E1.length c1 0 ∧ e.at 6 = V.int .i64 k ∧ e.at 7 = V.int .i64 i ∧ e.at 8 = x2 ∧ e.at 9 = V.int .i64 j) ?_ ?_ ?_
      · refine ⟨b4, fun _ _ => rfl, rfl, ?_⟩
        simp only [↓reduceIte, Nat.reduceAdd, Nat.reduceMul, Nat.reduceSub, Nat.reduceLT, Nat.reduceLeDiff, Nat.reduceEqDiff, Nat.reducePow, Int.reducePow, Int.reduceLE, Int.reduceLT, Int.reduceEq, Int.reduceToNat, reduceCtorEq, RR, RB, RZ, RE, hl_1, h1_1, h2_1, h4_1, h5_1, h6_1, h7_1]
      · clear hl_1 h1_1 h2_1 h4_1 h5_1 h6_1 h7_1
        rintro j rw' e ⟨E3, c3⟩ ⟨q1, q2, q3, hl_1, h1_1, h2_1, h4_1, h5_1, h6_1, h7_1, h8_1, h9_1⟩ hlt3 hw3 oo ho
        unfold F46_3_B at ho
        obtain ⟨v, gv, ho⟩ := bS ho
        obtain ⟨va, vb⟩ := getI_w gv
        obtain ⟨w, gww, ho⟩ := bS ho
        obtain ⟨wwa, wwb⟩ := getI_w gww
        obtain ⟨q, gq, ho⟩ := bS ho
        have wq := chk_w gq
        obtain ⟨z, gz, ho⟩ := bS ho
        obtain ⟨wz0, wz⟩ := rem_w gz
        obtain ⟨rw2, gs, ho⟩ := bS ho
        obtain ⟨s1, s2, s3, s4, s5⟩ := setI_w gs
        have hE := Option.some.inj ho; subst hE
        rcases row_int q1 with ⟨_, rfl, _⟩ | ⟨key3, uid3, hx2, d1, d2⟩
        · exact absurd vb (by simp)
        simp only at d1 q2
        have o3 : ofCells none (List.drop j.toNat (List.map Enc.enc rw')) = some (V.int .i64 v) := ofCells_drop (by rw [List.getElem?_map, vb]; rfl)
        have s5' : List.take j.toNat (List.map Enc.enc rw') ++ [V.int .i64 z] ++ List.drop (j.toNat + 1) (List.map Enc.enc rw') = List.map Enc.enc rw2 := s5
        rw [q3] at s3
        simp only [↓reduceIte, Nat.reduceAdd, Nat.reduceMul, Nat.reduceSub, Nat.reduceLT, Nat.reduceLeDiff, Nat.reduceEqDiff, Nat.reducePow, Int.reducePow, Int.reduceLE, Int.reduceLT, Int.reduceEq, Int.reduceToNat, reduceCtorEq, RR, RB, RZ, RE, opEv, fillV, mapO, mapS, b46_3, hl_1, h1_1, h2_1, h4_1, h5_1, h6_1, h7_1, h8_1, h9_1, eq_true hlt3, hw3, hx2, q3, d1, va, vb, ka, kb, wa, wb, wwa, wwb, wq, wz0, wz, o3, s3, s5']
        have hk3 : key3 < E3.length := (List.getElem?_eq_some_iff.1 d1).1
        have hsl : rw2.length = row.length := by rw [s4]; exact q3
        refine And.intro rfl ⟨?_, fun k nk => ?_, hsl, ?_⟩
        · rw [← hsl]; exact int_row (set_app_key hk3) d2
        · exact (set_ne (fun e => nk ((d2 k).2 e))).trans (q2 k nk)
        · simp only [↓reduceIte, Nat.reduceAdd, Nat.reduceMul, Nat.reduceSub, Nat.reduceLT, Nat.reduceLeDiff, Nat.reduceEqDiff, Nat.reducePow, Int.reducePow, Int.reduceLE, Int.reduceLT, Int.reduceEq, Int.reduceToNat, reduceCtorEq, RR, RB, RZ, RE, hl_1, h1_1, h2_1, h4_1, h5_1, h6_1, h7_1, h8_1, h9_1, hw3, hx2, q3]
      · clear hl_1 h1_1 h2_1 h4_1 h5_1 h6_1 h7_1
        rintro j rw' e ⟨E3, c3⟩ ⟨q1, q2, q3, hl_1, h1_1, h2_1, h4_1, h5_1, h6_1, h7_1, h8_1, h9_1⟩ hge t1 ho
        have hE := Option.some.inj ho; subst hE
        have hlen := rep_len q1
        simp only [↓reduceIte, Nat.reduceAdd, Nat.reduceMul, Nat.reduceSub, Nat.reduceLT, Nat.reduceLeDiff, Nat.reduceEqDiff, Nat.reducePow, Int.reducePow, Int.reduceLE, Int.reduceLT, Int.reduceEq, Int.reduceToNat, reduceCtorEq, RR, RB, RZ, RE, opEv, fillV, mapO, mapS, b46_3, hl_1, h1_1, h2_1, h4_1, h5_1, h6_1, h7_1, h8_1, h9_1, hlen, q3, eq_false hge]
        intro ht; subst ht
        exact ⟨q1, q2⟩
    · clear g1 g2 g3 hl_1 h1_1 h2_1 h4_1 h5_1 h6_1
      rintro i ms e ⟨E, c⟩ ⟨g1, g2, g3, hl_1, h1_1, h2_1, h4_1, h5_1, h6_1, h7_1⟩ hge t1 ho
      have hE := Option.some.inj ho; subst hE
      simp only [↓reduceIte, Nat.reduceAdd, Nat.reduceMul, Nat.reduceSub, Nat.reduceLT, Nat.reduceLeDiff, Nat.reduceEqDiff, Nat.reducePow, Int.reducePow, Int.reduceLE, Int.reduceLT, Int.reduceEq, Int.reduceToNat, reduceCtorEq, RR, RB, RZ, RE, opEv, fillV, mapO, mapS, b46_2, hl_1, h1_1, h2_1, h4_1, h5_1, h6_1, h7_1, eq_false hge, ka, kb]
      intro ht; subst ht
      exact ⟨g1, g2, g3⟩
  · clear t1 t2 t4 m1 hl_0 h0_0 h1_0 w1
    rintro k ms e ⟨E, c⟩ ⟨g1, g2, g3, hl_1, h1_1, h2_1, h4_1, h5_1, h6_1⟩ hge t1 ho
    have hE := Option.some.inj ho; subst hE
    simp only at g1 g2
    simp only [↓reduceIte, Nat.reduceAdd, Nat.reduceMul, Nat.reduceSub, Nat.reduceLT, Nat.reduceLeDiff, Nat.reduceEqDiff, Nat.reducePow, Int.reducePow, Int.reduceLE, Int.reduceLT, Int.reduceEq, Int.reduceToNat, reduceCtorEq, RR, RB, RZ, RE, opEv, fillV, mapO, mapS, b46_1, hl_1, h1_1, h2_1, h4_1, h5_1, h6_1, eq_false hge, g1, g2]
    intro ht; subst ht
    have hE0 : 1 < E.length := (List.getElem?_eq_some_iff.1 g1).1
    refine And.intro (fun _ => trivial) ⟨_, by simp only [↓reduceIte, Nat.reduceAdd, Nat.reduceMul, Nat.reduceSub, Nat.reduceLT, Nat.reduceLeDiff, Nat.reduceEqDiff, Nat.reducePow, Int.reducePow, Int.reduceLE, Int.reduceLT, Int.reduceEq, Int.reduceToNat, reduceCtorEq, RR, RB, RZ, RE, fn_out, p46, Rs.ev, mapO, mapS, hl_1, h4_1, set_app_key hE0], _, _, rfl, Deep.frame g3 fun k q => set_ne (by omega)⟩
theorem s46 (x : GComplex) (maps : List (List (List Int))) {r : GComplex} (hF : F46 x maps = some r) : ans A 46 [V.agg [V.int .i64 x.Prime, V.isl (List.map Enc.enc x.Dims), V.isl (List.map Enc.enc x.Maps)], V.isl (List.map Enc.enc maps)] = some (Enc.enc r) := by
  obtain ⟨v, h', h1, m, K, rfl, h2⟩ := d46 x maps hF
  exact ans_agg h1 h2
/-! loop.example/g01273/spec.IsPerturbation -/
def F14 (a0 : GComplex) (a1 : List (List (List Int))) : Option (T2 Bool Int) :=
  (F45 a0 a1).bind fun x1 =>
  if x1 = 0 then
    (F46 a0 a1).bind fun x4 =>
    (F39 x4).bind fun x6 =>
    some ⟨x6, 0⟩
  else
    some ⟨false, x1⟩
theorem s14 (a0 : GComplex) (a1 : List (List (List Int)))   {r : T2 Bool Int} (hF : F14 a0 a1 = some r) : ans A 14 [V.agg [V.int .i64 a0.Prime, V.isl (List.map Enc.enc a0.Dims), V.isl (List.map Enc.enc a0.Maps)], V.isl (List.map Enc.enc a1)] = some (EncR.enc r) := by
  refine ans_of (f := p14) rfl rfl rfl fun e hl he => ?_
  have h0_0 : e.at 0 = V.agg [V.int .i64 a0.Prime, V.isl (List.map Enc.enc a0.Dims), V.isl (List.map Enc.enc a0.Maps)] := he 0 _ rfl
  have h1_0 : e.at 1 = V.isl (List.map Enc.enc a1) := he 1 _ rfl
  have hl_0 : e.length = 17 := hl
  clear he hl
  show W A b14 e ⟨[], 0⟩ _
  unfold F14 at hF
  obtain ⟨x1, gx1, hF⟩ := bS hF
  have w2 : ans A 45 [V.agg [V.int .i64 a0.Prime, V.isl (List.map Enc.enc a0.Dims), V.isl (List.map Enc.enc a0.Maps)], V.isl (List.map Enc.enc a1)] = some (V.int .i64 x1) := s45 a0 a1  gx1
  by_cases c3 : x1 = 0
  · rw [if_pos c3] at hF
    obtain ⟨x4, gx4, hF⟩ := bS hF
    have w5 : ans A 46 [V.agg [V.int .i64 a0.Prime, V.isl (List.map Enc.enc a0.Dims), V.isl (List.map Enc.enc a0.Maps)], V.isl (List.map Enc.enc a1)] = some (V.agg [V.int .i64 x4.Prime, V.isl (List.map Enc.enc x4.Dims), V.isl (List.map Enc.enc x4.Maps)]) := s46 a0 a1  gx4
    obtain ⟨x6, gx6, hF⟩ := bS hF
    have w7 : ans A 39 [V.agg [V.int .i64 x4.Prime, V.isl (List.map Enc.enc x4.Dims), V.isl (List.map Enc.enc x4.Maps)]] = some (V.bool x6) := s39 x4  gx6
    have hE := Option.some.inj hF; subst hE
    simp only [↓reduceIte, Nat.reduceAdd, Nat.reduceMul, Nat.reduceSub, Nat.reduceLT, Nat.reduceLeDiff, Nat.reduceEqDiff, Nat.reducePow, Int.reducePow, Int.reduceLE, Int.reduceLT, Int.reduceEq, Int.reduceToNat, reduceCtorEq, RR, RB, RZ, RE, opEv, fillV, mapO, mapS, b14, hl_0, h0_0, h1_0, w2, eq_true c3, w5, w7]
    exact fin_ret (by simp only [↓reduceIte, Nat.reduceAdd, Nat.reduceMul, Nat.reduceSub, Nat.reduceLT, Nat.reduceLeDiff, Nat.reduceEqDiff, Nat.reducePow, Int.reducePow, Int.reduceLE, Int.reduceLT, Int.reduceEq, Int.reduceToNat, reduceCtorEq, RR, RB, RZ, RE, fn_out, p14, Rs.ev, mapO, mapS, take_len_self, hl_0, h0_0, h1_0, w2, eq_true c3, w5, w7])
  · rw [if_neg c3] at hF
    have hE := Option.some.inj hF; subst hE
    simp only [↓reduceIte, Nat.reduceAdd, Nat.reduceMul, Nat.reduceSub, Nat.reduceLT, Nat.reduceLeDiff, Nat.reduceEqDiff, Nat.reducePow, Int.reducePow, Int.reduceLE, Int.reduceLT, Int.reduceEq, Int.reduceToNat, reduceCtorEq, RR, RB, RZ, RE, opEv, fillV, mapO, mapS, b14, hl_0, h0_0, h1_0, w2, eq_false c3]
    exact fin_ret (by simp only [↓reduceIte, Nat.reduceAdd, Nat.reduceMul, Nat.reduceSub, Nat.reduceLT, Nat.reduceLeDiff, Nat.reduceEqDiff, Nat.reducePow, Int.reducePow, Int.reduceLE, Int.reduceLT, Int.reduceEq, Int.reduceToNat, reduceCtorEq, RR, RB, RZ, RE, fn_out, p14, Rs.ev, mapO, mapS, take_len_self, hl_0, h0_0, h1_0, w2, eq_false c3])
/-! loop.example/g01273/impl.mapsCode -/
def F49_1_B (a0 : GComplex) (a1 : List (List (List Int))) (v18_1 : Int) (s : Unit) : Option ((Unit) ⊕ ((Unit) ⊕ Int)) :=
  (getI a1 v18_1).bind fun x7 =>
(getI a0.Dims (v18_1 + 1)).bind fun x11 =>
if (x7.length : Int) = x11 then
  (getI a0.Dims v18_1).bind fun x14 =>
  (F90 a0.Prime x14 x7).bind fun x16 =>
  if x16 = true then
    some (.inl ())
  else
    some (.inr (.inr 2))
else
  some (.inr (.inr 2))
def F49_1_D (a0 : GComplex) (a1 : List (List (List Int))) (v18_1 : Int) (s : Unit) : Option ((Unit) ⊕ Int) :=
  some (.inl ())
def F49 (a0 : GComplex) (a1 : List (List (List Int))) : Option Int :=
  (F42 a0).bind fun x1 =>
  if x1 = true then
    if (a1.length : Int) = (a0.Maps.length : Int) then
      (forR 0 (a1.length : Int) (F49_1_B a0 a1) (F49_1_D a0 a1) ()).bind fun t18 => match t18 with
        | .inl _ =>
          some 0
        | .inr r19 => some r19
    else
      some 2
  else
    some 1
def I49_1 (a0 : GComplex) (a1 : List (List (List Int)))  (v18_1 : Int) (s : Unit) (e : Env) (h : Heap) : Prop :=
  ∃ k5 : Nat, h = ⟨[(0, none)], k5⟩ ∧ e.length = 45 ∧ e.at 2 = V.iptr [V.int .i64 a0.Prime, V.isl (List.map Enc.enc a0.Dims), V.isl (List.map Enc.enc a0.Maps)] ∧ e.at 16 = V.isl (List.map Enc.enc a1) ∧ e.at 17 = V.int .i64 (a1.length : Int) ∧ e.at 18 = V.int .i64 v18_1
def P49_1 (a0 : GComplex) (a1 : List (List (List Int)))  (t : (Unit) ⊕ Int) (x : Ex) (e : Env) (h : Heap) : Prop :=
  match t with
  | .inl _ => x = .normal ∧ ∃ k5 : Nat, h = ⟨[(0, none)], k5⟩ ∧ e.length = 45
  | .inr r => x = .ret ∧ Fin p49 (Enc.enc r) .ret e h
theorem l49_1 (a0 : GComplex) (a1 : List (List (List Int)))   {lo : Int} {s : Unit} {t : (Unit) ⊕ Int} (hF : forR lo (a1.length : Int) (F49_1_B a0 a1) (F49_1_D a0 a1) s = some t) {e : Env} {h : Heap} (hI : I49_1 a0 a1  lo s e h) : W A c49_1 e h (P49_1 a0 a1  t) := by
  show W A (.block 0 (.loop false b49_1)) e h _
  rw [W_block]
  refine W_forR hF 1 (by obtain ⟨_, rfl, _⟩ := hI; rfl) (I49_1 a0 a1 ) hI ?_ ?_
  · rintro v18_1 _ e h ⟨k5, rfl, hl_4, h2_4, h16_4, h17_4, h18_4⟩ hlt hw o ho
    unfold F49_1_B at ho
    obtain ⟨x7, gx7, ho⟩ := bS ho
    obtain ⟨w8a, w8b⟩ := getI_w gx7
    have w10 : ans A 89 [V.isl (List.map Enc.enc x7)] = some (V.int .i64 (x7.length : Int)) := s89 x7  rfl
    obtain ⟨x11, gx11, ho⟩ := bS ho
    obtain ⟨w12a, w12b⟩ := getI_w gx11
    by_cases c13 : (x7.length : Int) = x11
    · rw [if_pos c13] at ho
      obtain ⟨x14, gx14, ho⟩ := bS ho
      obtain ⟨w15a, w15b⟩ := getI_w gx14
      obtain ⟨x16, gx16, ho⟩ := bS ho
      have w17 : ans A 90 [V.int .i64 a0.Prime, V.int .i64 x14, V.isl (List.map Enc.enc x7)] = some (V.bool x16) := s90 a0.Prime x14 x7  gx16
      cases x16 with
      | true =>
        rw [if_pos rfl] at ho
        have hE := Option.some.inj ho; subst hE
        simp only [↓reduceIte, Nat.reduceAdd, Nat.reduceMul, Nat.reduceSub, Nat.reduceLT, Nat.reduceLeDiff, Nat.reduceEqDiff, Nat.reducePow, Int.reducePow, Int.reduceLE, Int.reduceLT, Int.reduceEq, Int.reduceToNat, reduceCtorEq, RR, RB, RZ, RE, opEv, fillV, mapO, mapS, b49_1, hl_4, h2_4, h16_4, h17_4, h18_4, eq_true hlt, hw, w8a, w8b, w10, w12a, w12b, eq_true c13, w15a, w15b, w17]
        refine And.intro rfl (Exists.intro _ ( And.intro rfl ?_))
        simp only [↓reduceIte, Nat.reduceAdd, Nat.reduceMul, Nat.reduceSub, Nat.reduceLT, Nat.reduceLeDiff, Nat.reduceEqDiff, Nat.reducePow, Int.reducePow, Int.reduceLE, Int.reduceLT, Int.reduceEq, Int.reduceToNat, reduceCtorEq, RR, RB, RZ, RE, hl_4, h2_4, h16_4, h17_4, h18_4, eq_true hlt, hw, w8a, w8b, w10, w12a, w12b, eq_true c13, w15a, w15b, w17]
      | false =>
        rw [if_neg Bool.false_ne_true] at ho
        have hE := Option.some.inj ho; subst hE
        simp only [↓reduceIte, Nat.reduceAdd, Nat.reduceMul, Nat.reduceSub, Nat.reduceLT, Nat.reduceLeDiff, Nat.reduceEqDiff, Nat.reducePow, Int.reducePow, Int.reduceLE, Int.reduceLT, Int.reduceEq, Int.reduceToNat, reduceCtorEq, RR, RB, RZ, RE, opEv, fillV, mapO, mapS, b49_1, hl_4, h2_4, h16_4, h17_4, h18_4, eq_true hlt, hw, w8a, w8b, w10, w12a, w12b, eq_true c13, w15a, w15b, w17]
        intro ht; subst ht
        simp only [↓reduceIte, Nat.reduceAdd, Nat.reduceMul, Nat.reduceSub, Nat.reduceLT, Nat.reduceLeDiff, Nat.reduceEqDiff, Nat.reducePow, Int.reducePow, Int.reduceLE, Int.reduceLT, Int.reduceEq, Int.reduceToNat, reduceCtorEq, RR, RB]
        exact And.intro rfl (fin_ret (by simp only [↓reduceIte, Nat.reduceAdd, Nat.reduceMul, Nat.reduceSub, Nat.reduceLT, Nat.reduceLeDiff, Nat.reduceEqDiff, Nat.reducePow, Int.reducePow, Int.reduceLE, Int.reduceLT, Int.reduceEq, Int.reduceToNat, reduceCtorEq, RR, RB, RZ, RE, fn_out, p49, Rs.ev, mapO, mapS, take_len_self, hl_4, h2_4, h16_4, h17_4, h18_4, eq_true hlt, hw, w8a, w8b, w10, w12a, w12b, eq_true c13, w15a, w15b, w17]))
    · rw [if_neg c13] at ho
      have hE := Option.some.inj ho; subst hE
      simp only [↓reduceIte, Nat.reduceAdd, Nat.reduceMul, Nat.reduceSub, Nat.reduceLT, Nat.reduceLeDiff, Nat.reduceEqDiff, Nat.reducePow, Int.reducePow, Int.reduceLE, Int.reduceLT, Int.reduceEq, Int.reduceToNat, reduceCtorEq, RR, RB, RZ, RE, opEv, fillV, mapO, mapS, b49_1, hl_4, h2_4, h16_4, h17_4, h18_4, eq_true hlt, hw, w8a, w8b, w10, w12a, w12b, eq_false c13]
      intro ht; subst ht
      simp only [↓reduceIte, Nat.reduceAdd, Nat.reduceMul, Nat.reduceSub, Nat.reduceLT, Nat.reduceLeDiff, Nat.reduceEqDiff, Nat.reducePow, Int.reducePow, Int.reduceLE, Int.reduceLT, Int.reduceEq, Int.reduceToNat, reduceCtorEq, RR, RB]
      exact And.intro rfl (fin_ret (by simp only [↓reduceIte, Nat.reduceAdd, Nat.reduceMul, Nat.reduceSub, Nat.reduceLT, Nat.reduceLeDiff, Nat.reduceEqDiff, Nat.reducePow, Int.reducePow, Int.reduceLE, Int.reduceLT, Int.reduceEq, Int.reduceToNat, reduceCtorEq, RR, RB, RZ, RE, fn_out, p49, Rs.ev, mapO, mapS, take_len_self, hl_4, h2_4, h16_4, h17_4, h18_4, eq_true hlt, hw, w8a, w8b, w10, w12a, w12b, eq_false c13]))
  · rintro v18_1 _ e h ⟨k5, rfl, hl_4, h2_4, h16_4, h17_4, h18_4⟩ hge t1 ho
    unfold F49_1_D at ho
    have hE := Option.some.inj ho; subst hE
    simp only [↓reduceIte, Nat.reduceAdd, Nat.reduceMul, Nat.reduceSub, Nat.reduceLT, Nat.reduceLeDiff, Nat.reduceEqDiff, Nat.reducePow, Int.reducePow, Int.reduceLE, Int.reduceLT, Int.reduceEq, Int.reduceToNat, reduceCtorEq, RR, RB, RZ, RE, opEv, fillV, mapO, mapS, b49_1, hl_4, h2_4, h16_4, h17_4, h18_4, eq_false hge]
    intro ht; subst ht
    refine And.intro rfl (Exists.intro _ ( And.intro rfl ?_))
    simp only [↓reduceIte, Nat.reduceAdd, Nat.reduceMul, Nat.reduceSub, Nat.reduceLT, Nat.reduceLeDiff, Nat.reduceEqDiff, Nat.reducePow, Int.reducePow, Int.reduceLE, Int.reduceLT, Int.reduceEq, Int.reduceToNat, reduceCtorEq, RR, RB, RZ, RE, hl_4, h2_4, h16_4, h17_4, h18_4, eq_false hge]
theorem s49 (a0 : GComplex) (a1 : List (List (List Int)))   {r : Int} (hF : F49 a0 a1 = some r) : ans A 49 [V.agg [V.int .i64 a0.Prime, V.isl (List.map Enc.enc a0.Dims), V.isl (List.map Enc.enc a0.Maps)], V.isl (List.map Enc.enc a1)] = some (Enc.enc r) := by
  refine ans_of (f := p49) rfl rfl rfl fun e hl he => ?_
  have h0_0 : e.at 0 = V.agg [V.int .i64 a0.Prime, V.isl (List.map Enc.enc a0.Dims), V.isl (List.map Enc.enc a0.Maps)] := he 0 _ rfl
  have h1_0 : e.at 1 = V.isl (List.map Enc.enc a1) := he 1 _ rfl
  have hl_0 : e.length = 45 := hl
  clear he hl
  show W A b49 e ⟨[], 0⟩ _
  unfold F49 at hF
  obtain ⟨x1, gx1, hF⟩ := bS hF
  have w2 : ans A 42 [V.agg [V.int .i64 a0.Prime, V.isl (List.map Enc.enc a0.Dims), V.isl (List.map Enc.enc a0.Maps)]] = some (V.bool x1) := s42 a0  gx1
  cases x1 with
  | true =>
    rw [if_pos rfl] at hF
    by_cases c3 : (a1.length : Int) = (a0.Maps.length : Int)
    · rw [if_pos c3] at hF
      obtain ⟨t18, gt18, hF⟩ := bS hF
      rcases t18 with _ | r19
      · dsimp only at hF
        simp only [↓reduceIte, Nat.reduceAdd, Nat.reduceMul, Nat.reduceSub, Nat.reduceLT, Nat.reduceLeDiff, Nat.reduceEqDiff, Nat.reducePow, Int.reducePow, Int.reduceLE, Int.reduceLT, Int.reduceEq, Int.reduceToNat, reduceCtorEq, RR, RB, RZ, RE, opEv, fillV, mapO, mapS, b49, hl_0, h0_0, h1_0, w2, eq_true c3]
        refine W.mono (l49_1 a0 a1   gt18 (Exists.intro _ ( And.intro rfl ?_))) ?_
        · simp only [↓reduceIte, Nat.reduceAdd, Nat.reduceMul, Nat.reduceSub, Nat.reduceLT, Nat.reduceLeDiff, Nat.reduceEqDiff, Nat.reducePow, Int.reducePow, Int.reduceLE, Int.reduceLT, Int.reduceEq, Int.reduceToNat, reduceCtorEq, RR, RB, RZ, RE, hl_0, h0_0, h1_0, w2, eq_true c3]
        rintro _ e _ ⟨rfl, k5, rfl, hl_6⟩
        have hE := Option.some.inj hF; subst hE
        simp only [↓reduceIte, Nat.reduceAdd, Nat.reduceMul, Nat.reduceSub, Nat.reduceLT, Nat.reduceLeDiff, Nat.reduceEqDiff, Nat.reducePow, Int.reducePow, Int.reduceLE, Int.reduceLT, Int.reduceEq, Int.reduceToNat, reduceCtorEq, RR, RB, RZ, RE, opEv, fillV, mapO, mapS, hl_6, eq_true c3]
        exact fin_ret (by simp only [↓reduceIte, Nat.reduceAdd, Nat.reduceMul, Nat.reduceSub, Nat.reduceLT, Nat.reduceLeDiff, Nat.reduceEqDiff, Nat.reducePow, Int.reducePow, Int.reduceLE, Int.reduceLT, Int.reduceEq, Int.reduceToNat, reduceCtorEq, RR, RB, RZ, RE, fn_out, p49, Rs.ev, mapO, mapS, take_len_self, hl_6, eq_true c3])
      · dsimp only at hF
        have hE := Option.some.inj hF; subst hE
        simp only [↓reduceIte, Nat.reduceAdd, Nat.reduceMul, Nat.reduceSub, Nat.reduceLT, Nat.reduceLeDiff, Nat.reduceEqDiff, Nat.reducePow, Int.reducePow, Int.reduceLE, Int.reduceLT, Int.reduceEq, Int.reduceToNat, reduceCtorEq, RR, RB, RZ, RE, opEv, fillV, mapO, mapS, b49, hl_0, h0_0, h1_0, w2, eq_true c3]
        refine W.mono (l49_1 a0 a1   gt18 (Exists.intro _ ( And.intro rfl ?_))) ?_
        · simp only [↓reduceIte, Nat.reduceAdd, Nat.reduceMul, Nat.reduceSub, Nat.reduceLT, Nat.reduceLeDiff, Nat.reduceEqDiff, Nat.reducePow, Int.reducePow, Int.reduceLE, Int.reduceLT, Int.reduceEq, Int.reduceToNat, reduceCtorEq, RR, RB, RZ, RE, hl_0, h0_0, h1_0, w2, eq_true c3]
        rintro _ e h ⟨rfl, hq⟩
        simp only [↓reduceIte, Nat.reduceAdd, Nat.reduceMul, Nat.reduceSub, Nat.reduceLT, Nat.reduceLeDiff, Nat.reduceEqDiff, Nat.reducePow, Int.reducePow, Int.reduceLE, Int.reduceLT, Int.reduceEq, Int.reduceToNat, reduceCtorEq, RR, RB]
        exact hq
    · rw [if_neg c3] at hF
      have hE := Option.some.inj hF; subst hE
      simp only [↓reduceIte, Nat.reduceAdd, Nat.reduceMul, Nat.reduceSub, Nat.reduceLT, Nat.reduceLeDiff, Nat.reduceEqDiff, Nat.reducePow, Int.reducePow, Int.reduceLE, Int.reduceLT, Int.reduceEq, Int.reduceToNat, reduceCtorEq, RR, RB, RZ, RE, opEv, fillV, mapO, mapS, b49, hl_0, h0_0, h1_0, w2, eq_false c3]
      exact fin_ret (by simp only [↓reduceIte, Nat.reduceAdd, Nat.reduceMul, Nat.reduceSub, Nat.reduceLT, Nat.reduceLeDiff, Nat.reduceEqDiff, Nat.reducePow, Int.reducePow, Int.reduceLE, Int.reduceLT, Int.reduceEq, Int.reduceToNat, reduceCtorEq, RR, RB, RZ, RE, fn_out, p49, Rs.ev, mapO, mapS, take_len_self, hl_0, h0_0, h1_0, w2, eq_false c3])
  | false =>
    rw [if_neg Bool.false_ne_true] at hF
    have hE := Option.some.inj hF; subst hE
    simp only [↓reduceIte, Nat.reduceAdd, Nat.reduceMul, Nat.reduceSub, Nat.reduceLT, Nat.reduceLeDiff, Nat.reduceEqDiff, Nat.reducePow, Int.reducePow, Int.reduceLE, Int.reduceLT, Int.reduceEq, Int.reduceToNat, reduceCtorEq, RR, RB, RZ, RE, opEv, fillV, mapO, mapS, b49, hl_0, h0_0, h1_0, w2]
    exact fin_ret (by simp only [↓reduceIte, Nat.reduceAdd, Nat.reduceMul, Nat.reduceSub, Nat.reduceLT, Nat.reduceLeDiff, Nat.reduceEqDiff, Nat.reducePow, Int.reducePow, Int.reduceLE, Int.reduceLT, Int.reduceEq, Int.reduceToNat, reduceCtorEq, RR, RB, RZ, RE, fn_out, p49, Rs.ev, mapO, mapS, take_len_self, hl_0, h0_0, h1_0, w2])
/-! loop.example/g01273/impl.blank -/
def F74_2_B (a1 : List Int) (o1_1 : List (List (List Int))) (q2_0_1 : Int) (q2_1_1 : List Int) (v6_1 : Int) (x7 : Int) (v22_2 : Int) (o3_2 : (List (List Int))) : Option (((List (List Int))) ⊕ ((List (List Int)))) :=
  (chk (v6_1 - 1)).bind fun x13 =>
(getI a1 x13).bind fun x14 =>
(mkL 8 x14 0).bind fun l16 =>
(app 24 o3_2 [l16]).bind fun l19 =>
some (.inl l19)
def F74_2_D (a1 : List Int) (o1_1 : List (List (List Int))) (q2_0_1 : Int) (q2_1_1 : List Int) (v6_1 : Int) (x7 : Int) (v22_2 : Int) (o3_2 : (List (List Int))) : Option ((List (List Int))) :=
  some o3_2
def F74_1_B (a1 : List Int) (v6_1 : Int) (s : (List (List (List Int))) × Int × (List Int)) : Option (((List (List (List Int))) × Int × (List Int)) ⊕ ((List (List (List Int))) × Int × (List Int))) :=
  match s with
  | (o1_1, q2_0_1, q2_1_1) =>
    (getI a1 v6_1).bind fun x7 =>
    (forR 0 x7 (F74_2_B a1 o1_1 q2_0_1 q2_1_1 v6_1 x7) (F74_2_D a1 o1_1 q2_0_1 q2_1_1 v6_1 x7) ([] : (List (List Int)))).bind fun zo3_2 =>
    (app 24 o1_1 [zo3_2]).bind fun l22 =>
    some (.inl (l22, q2_0_1, q2_1_1))
def F74_1_D (a1 : List Int) (v6_1 : Int) (s : (List (List (List Int))) × Int × (List Int)) : Option ((List (List (List Int))) × Int × (List Int)) :=
  match s with
  | (o1_1, q2_0_1, q2_1_1) =>
    some (o1_1, q2_0_1, q2_1_1)
def F74 (a0 : Int) (a1 : List Int) : Option GComplex :=
  (forR 1 (a1.length : Int) (F74_1_B a1) (F74_1_D a1) ([], a0, a1)).bind fun t25 => match t25 with
    | (zo1_1, zq2_0_1, zq2_1_1) =>
      some ⟨zq2_0_1, zq2_1_1, zo1_1⟩
theorem d74 (a0 : Int) (a1 : List Int) {r : GComplex} (hF : F74 a0 a1 = some r) : ∃ v h', res A 74 [V.int .i64 a0, V.isl (List.map Enc.enc a1)] Heap.empty = some (v, h') ∧ ∃ m K, v = V.agg [V.int .i64 r.Prime, V.isl (List.map Enc.enc r.Dims), m] ∧ Deep.rep h' m r.Maps K := by
  refine res_dp (f := p74) rfl rfl rfl fun e hl he => ?_
  have h0_0 : e.at 0 = V.int .i64 a0 := he 0 _ rfl
  have h1_0 : e.at 1 = V.isl (List.map Enc.enc a1) := he 1 _ rfl
  have hl_0 : e.length = 41 := hl
  clear he hl
  show W A b74 e ⟨[], 0⟩ _
  unfold F74 at hF
  obtain ⟨t13, gt13, hF⟩ := bS hF
  have ws : ans A 73 [V.isl (List.map Enc.enc a1)] = some (V.int .i64 (a1.length : Int)) := s73 a1 rfl
  simp only [↓reduceIte, Nat.reduceAdd, Nat.reduceMul, Nat.reduceSub, Nat.reduceLT, Nat.reduceLeDiff, Nat.reduceEqDiff, Nat.reducePow, Int.reducePow, Int.reduceLE, Int.reduceLT, Int.reduceEq, Int.reduceToNat, reduceCtorEq, RR, RB, RZ, RE, opEv, fillV, mapO, mapS, b74, hl_0, h0_0, h1_0]
  show W A (.block 0 (.loop true b74_1)) _ _ _
  rw [W_block]
  refine W_forR gt13 _ rfl (fun i s e h => s.2 = (a0, a1) ∧ ∃ u vs K, h.ents[0]? = some (0, some [V.int .i64 0, V.nils, V.nils]) ∧ h.ents[1]? = some (u, some vs) ∧ h.ents[2]? = some (2, some [V.int .i64 a0, V.isl (List.map Enc.enc a1), V.sl 1 u 0 s.1.length 1]) ∧ reps h vs s.1 K ∧ (∀ k, K k → 3 ≤ k) ∧ e.length = 41 ∧ e.at 1 = V.isl (List.map Enc.enc a1) ∧ e.at 4 = V.ptr 0 0 0 ∧ e.at 5 = V.ptr 2 2 0 ∧ e.at 6 = V.int .i64 i) ?_ ?_ ?_
  · refine ⟨rfl, 1, [], fun _ => False, rfl, rfl, rfl, fun _ x => x, fun _ x => x.elim, ?_⟩
    simp only [↓reduceIte, Nat.reduceAdd, Nat.reduceMul, Nat.reduceSub, Nat.reduceLT, Nat.reduceLeDiff, Nat.reduceEqDiff, Nat.reducePow, Int.reducePow, Int.reduceLE, Int.reduceLT, Int.reduceEq, Int.reduceToNat, reduceCtorEq, RR, RB, RZ, RE, hl_0, h0_0, h1_0]
  · clear hl_0 h0_0 h1_0
    rintro i ⟨l, q⟩ e ⟨E, c⟩ ⟨rfl, u, vs, K, g1, g2, g3, g4, g5, hl_1, h1_1, h4_1, h5_1, h6_1⟩ hlt hw o ho
    unfold F74_1_B at ho
    simp only at ho g1 g2 g3 g4
    obtain ⟨x7, gx7, ho⟩ := bS ho
    obtain ⟨w8a, w8b⟩ := getI_w gx7
    obtain ⟨rows, gt20, ho⟩ := bS ho
    obtain ⟨l22, gl22, ho⟩ := bS ho
    obtain ⟨q1, q2, rfl⟩ := app_w gl22
    have hE := Option.some.inj ho; subst hE
    have hE0 : 2 < E.length := (List.getElem?_eq_some_iff.1 g3).1
    simp only [↓reduceIte, Nat.reduceAdd, Nat.reduceMul, Nat.reduceSub, Nat.reduceLT, Nat.reduceLeDiff, Nat.reduceEqDiff, Nat.reducePow, Int.reducePow, Int.reduceLE, Int.reduceLT, Int.reduceEq, Int.reduceToNat, reduceCtorEq, RR, RB, RZ, RE, opEv, fillV, mapO, mapS, b74_1, hl_1, h1_1, h4_1, h5_1, h6_1, eq_true hlt, hw, ws, w8a, w8b]
    refine W.mono (Q := fun x' e h => x' = .normal ∧ ∃ u' vs' K', h.ents[E.length]? = some (u', some vs') ∧ reps h vs' rows K' ∧ (∀ k, K' k → E.length + 1 ≤ k) ∧ (∀ k, k < E.length → h.ents[k]? = E[k]?) ∧ e.length = 41 ∧ e.at 1 = V.isl (List.map Enc.enc a1) ∧ e.at 4 = V.ptr 0 0 0 ∧ e.at 5 = V.ptr 2 2 0 ∧ e.at 6 = V.int .i64 i ∧ e.at 7 = V.sl E.length u' 0 rows.length 1) ?_ ?_
    rotate_left
    · rintro _ e ⟨E1, c1⟩ ⟨rfl, u', vs', K', f1, f2, f3, f4, hl_2, h1_2, h4_2, h5_2, h6_2, h7_2⟩
      simp only at f1 f4
      have hln := g4.len
      have hE1 : E.length < E1.length := (List.getElem?_eq_some_iff.1 f1).1
      have m0 := (f4 0 (by omega)).trans g1
      have m1 := (f4 1 (by omega)).trans g2
      have m2 := (f4 2 (by omega)).trans g3
      have n2 : ∀ y, (E1 ++ [y])[2]? = _ := fun y => (List.getElem?_append_left (by omega)).trans m2
      have n2' : ∀ y z, ((E1 ++ [y]).set 1 z)[2]? = _ := fun y z => (set_app_new (by decide) (by omega)).trans m2
      have w9 : ∀ y c', appendV 1 24 (.sl 1 u 0 l.length 1) 1 [V.sl E.length u' 0 rows.length 1] ⟨E1 ++ [y], c'⟩ = _ := fun y c' => appendV_deep (E := E1 ++ [y]) (vs := vs) (by rw [List.getElem?_append_left (by omega)]; exact m1) hln (by simpa using q1) (by simpa using q2)
      simp only [↓reduceIte, Nat.reduceAdd, Nat.reduceMul, Nat.reduceSub, Nat.reduceLT, Nat.reduceLeDiff, Nat.reduceEqDiff, Nat.reducePow, Int.reducePow, Int.reduceLE, Int.reduceLT, Int.reduceEq, Int.reduceToNat, reduceCtorEq, RR, RB, RZ, RE, opEv, fillV, mapO, mapS, hl_2, h1_2, h4_2, h5_2, h6_2, h7_2, hw, m2, n2, n2', get_last, w9]
      have r0 : Deep.rep ⟨E1, c1⟩ (V.sl E.length u' 0 rows.length 1) rows (fun k => k = E.length ∨ K' k) := rep_at f1 f2 (fun q => by have := f3 _ q; omega)
      have hk : ∀ k, K k ∨ (k = E.length ∨ K' k) → 3 ≤ k := fun k q => q.elim (g5 k) (fun q => q.elim (fun q => by omega) (fun q => by have := f3 k q; omega))
      have r1 := deep_round (h := ⟨E, c⟩) (h1 := ⟨E1, c1⟩) (h2 := ⟨((E1 ++ [(c1, some [V.sl E.length u' 0 rows.length 1])]).set 1 (c1 + 1, some (vs ++ [V.sl E.length u' 0 rows.length 1]))).set 2 (2, some [V.int .i64 a0, V.isl (List.map Enc.enc a1), V.sl 1 (c1 + 1) 0 (l.length + 1) 1]), c1 + 1 + 1⟩) (K := K) g4
        r0 (fun k q => q.elim (fun q => by show E.length ≤ k; omega) (fun q => by have := f3 k q; show E.length ≤ k; omega)) f4 (fun k p q => by
          have := hk k q
          rw [set_ne (by omega)]
          exact set_app_new (by omega) p) (by show E.length ≤ E1.length; omega)
      refine And.intro rfl (And.intro rfl ⟨c1 + 1, vs ++ [V.sl E.length u' 0 rows.length 1], _, ?_, ?_, ?_, r1, hk, ?_⟩)
      · exact (set_ne (by decide)).trans ((set_app_new (by decide) (by omega)).trans m0)
      · exact (set_ne (by decide)).trans (set_app_key (by simp; omega))
      · simp only [List.length_append, List.length_cons, List.length_nil, Nat.zero_add]
        exact set_app_key (by simp; omega)
      · simp only [↓reduceIte, Nat.reduceAdd, Nat.reduceMul, Nat.reduceSub, Nat.reduceLT, Nat.reduceLeDiff, Nat.reduceEqDiff, Nat.reducePow, Int.reducePow, Int.reduceLE, Int.reduceLT, Int.reduceEq, Int.reduceToNat, reduceCtorEq, RR, RB, RZ, RE, hl_2, h1_2, h4_2, h5_2, h6_2, h7_2, hw]
    show W A (.block 2 (.loop true b74_2)) _ _ _
    rw [W_block]
    refine W_forR gt20 _ rfl (fun j rs e h => ∃ u' vs' K', h.ents[E.length]? = some (u', some vs') ∧ reps h vs' rs K' ∧ (∀ k, K' k → E.length + 1 ≤ k) ∧ (∀ k, k < E.length → h.ents[k]? = E[k]?) ∧ e.length = 41 ∧ e.at 1 = V.isl (List.map Enc.enc a1) ∧ e.at 4 = V.ptr 0 0 0 ∧ e.at 5 = V.ptr 2 2 0 ∧ e.at 6 = V.int .i64 i ∧ e.at 7 = V.sl E.length u' 0 rs.length 1 ∧ e.at 21 = V.int .i64 x7 ∧ e.at 22 = V.int .i64 j) ?_ ?_ ?_
    · refine ⟨c, [], fun _ => False, get_last _ _, fun _ x => x, fun _ x => x.elim, fun k q => List.getElem?_append_left q, ?_⟩
      simp only [↓reduceIte, Nat.reduceAdd, Nat.reduceMul, Nat.reduceSub, Nat.reduceLT, Nat.reduceLeDiff, Nat.reduceEqDiff, Nat.reducePow, Int.reducePow, Int.reduceLE, Int.reduceLT, Int.reduceEq, Int.reduceToNat, reduceCtorEq, RR, RB, RZ, RE, hl_1, h1_1, h4_1, h5_1, h6_1]
    · clear hl_1 h1_1 h4_1 h5_1 h6_1
      rintro j rs e ⟨E1, c1⟩ ⟨u', vs', K', f1, f2, f3, f4, hl_1, h1_1, h4_1, h5_1, h6_1, h7_1, h21_1, h22_1⟩ hlt2 hw2 o ho
      unfold F74_2_B at ho
      obtain ⟨x13, gx13, ho⟩ := bS ho
      have wx13 := chk_w gx13
      obtain ⟨x14, gx14, ho⟩ := bS ho
      obtain ⟨w15a, w15b⟩ := getI_w gx14
      obtain ⟨l16, gl16, ho⟩ := bS ho
      obtain ⟨w17a, w17b, w17c, w17d, w17e⟩ := mkL_w gl16
      replace w17e : (List.replicate (Int.toNat x14) [V.int .i64 0]).flatten = List.map Enc.enc l16 := w17e
      obtain ⟨l19, gl19, ho⟩ := bS ho
      obtain ⟨q1, q2, rfl⟩ := app_w gl19
      have hE := Option.some.inj ho; subst hE
      simp only at f1 f4
      have hln := f2.len
      have hE1 : E.length < E1.length := (List.getElem?_eq_some_iff.1 f1).1
      have w9 : ∀ x y c', appendV 1 24 (.sl E.length u' 0 rs.length 1) 1 [V.sl E1.length c1 0 (Int.toNat x14) 1] ⟨E1 ++ [x] ++ [y], c'⟩ = _ := fun x y c' => appendV_deep (E := E1 ++ [x] ++ [y]) (vs := vs') (by rw [List.getElem?_append_left (by simp; omega), List.getElem?_append_left hE1]; exact f1) hln (by simpa using q1) (by simpa using q2)
      simp only [↓reduceIte, Nat.reduceAdd, Nat.reduceMul, Nat.reduceSub, Nat.reduceLT, Nat.reduceLeDiff, Nat.reduceEqDiff, Nat.reducePow, Int.reducePow, Int.reduceLE, Int.reduceLT, Int.reduceEq, Int.reduceToNat, reduceCtorEq, RR, RB, RZ, RE, opEv, fillV, mapO, mapS, b74_2, hl_1, h1_1, h4_1, h5_1, h6_1, h7_1, h21_1, h22_1, eq_true hlt2, hw2, wx13, w15a, w15b, w17a, w17b, w17c, w17e, get_last, w9]
      have r0 : Deep.rep ⟨E1 ++ [(c1, some (List.map Enc.enc l16))], c1 + 1⟩ (V.sl E1.length c1 0 (Int.toNat x14) 1) l16 (fun k => k = E1.length) := by
        rw [← w17d]; exact int_row (get_last _ _) fun k => Iff.rfl
      have r1 := deep_round (h := ⟨E1, c1⟩) (h1 := ⟨E1 ++ [(c1, some (List.map Enc.enc l16))], c1 + 1⟩) (h2 := ⟨(E1 ++ [(c1, some (List.map Enc.enc l16))] ++ [(c1 + 1, some [V.sl E1.length c1 0 (Int.toNat x14) 1])]).set E.length (c1 + 1 + 1, some (vs' ++ [V.sl E1.length c1 0 (Int.toNat x14) 1])), c1 + 1 + 1 + 1⟩) f2
        r0 (fun k q => by show E1.length ≤ k; omega) (fun k q => List.getElem?_append_left q) (fun k p q => set_app_new (fun e => by subst e; exact q.elim (fun q => by have := f3 _ q; omega) (fun q => by omega)) p) (by simp)
      refine And.intro rfl ⟨_, _, _, set_app_key (by simp; omega), r1, fun k q => q.elim (f3 k) (fun q => by omega), fun k q => ?_, ?_⟩
      · refine (set_app_new (by omega) (by simp; omega)).trans ((List.getElem?_append_left (by omega)).trans (f4 k q))
      · simp only [↓reduceIte, Nat.reduceAdd, Nat.reduceMul, Nat.reduceSub, Nat.reduceLT, Nat.reduceLeDiff, Nat.reduceEqDiff, Nat.reducePow, Int.reducePow, Int.reduceLE, Int.reduceLT, Int.reduceEq, Int.reduceToNat, reduceCtorEq, RR, RB, RZ, RE, hl_1, h1_1, h4_1, h5_1, h6_1, h7_1, h21_1, h22_1, hw2, List.length_append]
    · clear hl_1 h1_1 h4_1 h5_1 h6_1
      rintro j rs e ⟨E1, c1⟩ ⟨u', vs', K', f1, f2, f3, f4, hl_1, h1_1, h4_1, h5_1, h6_1, h7_1, h21_1, h22_1⟩ hge t1 ho
      have hE := Option.some.inj ho; subst hE
      simp only [↓reduceIte, Nat.reduceAdd, Nat.reduceMul, Nat.reduceSub, Nat.reduceLT, Nat.reduceLeDiff, Nat.reduceEqDiff, Nat.reducePow, Int.reducePow, Int.reduceLE, Int.reduceLT, Int.reduceEq, Int.reduceToNat, reduceCtorEq, RR, RB, RZ, RE, opEv, fillV, mapO, mapS, b74_2, hl_1, h1_1, h4_1, h5_1, h6_1, h7_1, h21_1, h22_1, eq_false hge]
      intro ht; subst ht
      exact ⟨u', vs', K', f1, f2, f3, f4, rfl⟩
  · rintro i ⟨l, q⟩ e ⟨E, c⟩ ⟨rfl, u, vs, K, g1, g2, g3, g4, g5, hl_1, h1_1, h4_1, h5_1, h6_1⟩ hge t1 ho
    unfold F74_1_D at ho
    have hE := Option.some.inj ho; subst hE
    simp only at hF g1 g2 g3 g4
    simp only [↓reduceIte, Nat.reduceAdd, Nat.reduceMul, Nat.reduceSub, Nat.reduceLT, Nat.reduceLeDiff, Nat.reduceEqDiff, Nat.reducePow, Int.reducePow, Int.reduceLE, Int.reduceLT, Int.reduceEq, Int.reduceToNat, reduceCtorEq, RR, RB, RZ, RE, opEv, fillV, mapO, mapS, b74_1, hl_1, h1_1, h4_1, h5_1, h6_1, eq_false hge, ws, g1, g2, g3]
    intro ht; subst ht
    have hE := Option.some.inj hF; subst hE
    have hE0 : 2 < E.length := (List.getElem?_eq_some_iff.1 g3).1
    refine And.intro (fun _ => trivial) ⟨_, by simp only [↓reduceIte, Nat.reduceAdd, Nat.reduceMul, Nat.reduceSub, Nat.reduceLT, Nat.reduceLeDiff, Nat.reduceEqDiff, Nat.reducePow, Int.reducePow, Int.reduceLE, Int.reduceLT, Int.reduceEq, Int.reduceToNat, reduceCtorEq, RR, RB, RZ, RE, fn_out, p74, Rs.ev, mapO, mapS, hl_1, h4_1, set_app_key (show 0 < E.length by omega)]; rfl, _, _, rfl, rep_at (α := List (List Int)) (K := K) ?_ (g4.frame fun k q => set_ne (by have := g5 k q; omega)) (fun q => by have := g5 _ q; omega)⟩
    exact (set_ne (by decide)).trans g2
theorem x74 (a0 : Int) (a1 : List Int) {r : GComplex} (hF : F74 a0 a1 = some r) : tans A 74 [1, 1, 1] [V.int .i64 a0, V.isl (List.map Enc.enc a1)] = some (V.agg [V.int .i64 r.Prime, V.iptr [V.isl (List.map Enc.enc r.Dims)], V.isl (List.map Enc.enc r.Maps)]) := by
  obtain ⟨v, h', h1, m, K, rfl, h2⟩ := d74 a0 a1 hF
  exact tans_agg h1 h2
theorem s74 (a0 : Int) (a1 : List Int) {r : GComplex} (hF : F74 a0 a1 = some r) : ans A 74 [V.int .i64 a0, V.isl (List.map Enc.enc a1)] = some (Enc.enc r) := by
  obtain ⟨v, h', h1, m, K, rfl, h2⟩ := d74 a0 a1 hF
  exact ans_agg h1 h2
/-! (loop.example/g01273/impl.Complex).addAt -/
def F75 (p : Int) (n r pl v : Int) (s : List (List (List Int))) : Option (List (List (List Int))) :=
  (chk (n - 1)).bind fun i => (getI s i).bind fun t => (getI t r).bind fun row => (getI row pl).bind fun old => (chk (old + v)).bind fun a => (remI a p).bind fun b => (chk (b + p)).bind fun d => (remI d p).bind fun z =>
  (setI row pl z).bind fun row' => (setI t r row').bind fun t' => setI s i t'
theorem d75 {p n r pl v : Int} {dims : List Int} {s s' : List (List (List Int))} (hF : F75 p n r pl v s = some s') (E : List (Nat × Option (List V))) (c : Nat) {m : V} {K : Ks} (hr : Deep.rep ⟨E, c⟩ m s K) :
    ∃ h', res A 75 [V.agg [V.int .i64 p, V.isl (List.map Enc.enc dims), m], V.int .i64 n, V.int .i64 r, V.int .i64 pl, V.int .i64 v] ⟨E, c⟩ = some (V.undef, h') ∧ Deep.rep h' m s' K ∧ (∀ k, k < E.length → ¬ K k → h'.ents[k]? = E[k]?) ∧ E.length ≤ h'.ents.length := by
  refine res_ex (f := p75) rfl rfl rfl fun e hl he => ?_
  have h0 : e.at 0 = V.agg [V.int .i64 p, V.isl (List.map Enc.enc dims), m] := he 0 _ rfl
  have h1 : e.at 1 = V.int .i64 n := he 1 _ rfl
  have h2 : e.at 2 = V.int .i64 r := he 2 _ rfl
  have h3 : e.at 3 = V.int .i64 pl := he 3 _ rfl
  have h4 : e.at 4 = V.int .i64 v := he 4 _ rfl
  have hl_0 : e.length = 38 := hl
  clear he hl
  show W A b75 e ⟨E, c⟩ _
  unfold F75 at hF
  obtain ⟨i, gi, hF⟩ := bS hF
  have wi := chk_w gi
  obtain ⟨t, gt, hF⟩ := bS hF
  obtain ⟨ta, tb⟩ := getI_w gt
  have tc := getI_lt gt
  obtain ⟨row, gr, hF⟩ := bS hF
  obtain ⟨ra, rb⟩ := getI_w gr
  have rc := getI_lt gr
  obtain ⟨old, go, hF⟩ := bS hF
  obtain ⟨oa, ob⟩ := getI_w go
  have oc := getI_lt go
  obtain ⟨a, ga, hF⟩ := bS hF
  have wa := chk_w ga
  obtain ⟨b, gb, hF⟩ := bS hF
  obtain ⟨wb0, wb⟩ := rem_w gb
  obtain ⟨d, gd, hF⟩ := bS hF
  have wd := chk_w gd
  obtain ⟨z, gz, hF⟩ := bS hF
  obtain ⟨_, wz⟩ := rem_w gz
  obtain ⟨row', gs, hF⟩ := bS hF
  obtain ⟨s1, s2, s3, s4, s5⟩ := setI_w gs
  obtain ⟨t', gt', hF⟩ := bS hF
  have st : t' = t.set r.toNat row' := setI_eq gt'
  have sm : s' = s.set i.toNat t' := setI_eq hF
  obtain ⟨key, uid, vs, x1, K1, hm, a1, a2, a3, a4, a5, a6⟩ := rep_focus hr tb
  obtain ⟨key2, uid2, vs2, x2, K2, hx1, b1, b2, b3, b4, b5, b6⟩ := rep_focus a4 rb
  rcases row_int b4 with ⟨_, rfl, _⟩ | ⟨key3, uid3, hx2, d1, d2⟩
  · exact absurd ob (by simp)
  have o1 := ofCells_drop a2
  have o2 := ofCells_drop b2
  have o3 : ofCells none (List.drop pl.toNat (List.map Enc.enc row)) = some (V.int .i64 old) := ofCells_drop (by rw [List.getElem?_map, ob]; rfl)
  have s5' : List.take pl.toNat (List.map Enc.enc row) ++ [V.int .i64 z] ++ List.drop (pl.toNat + 1) (List.map Enc.enc row) = List.map Enc.enc row' := s5
  simp only at a1 b1 d1
  have k1 : key < E.length := (List.getElem?_eq_some_iff.1 a1).1
  have k2 : key2 < E.length := (List.getElem?_eq_some_iff.1 b1).1
  have k3 : key3 < E.length := (List.getElem?_eq_some_iff.1 d1).1
  have p1 : ∀ x, (E ++ [x])[key]? = some (uid, some vs) := fun x => (List.getElem?_append_left k1).trans a1
  have p2 : ∀ x, (E ++ [x])[key2]? = some (uid2, some vs2) := fun x => (List.getElem?_append_left k2).trans b1
  have p3 : ∀ x, (E ++ [x])[key3]? = some (uid3, some (List.map Enc.enc row)) := fun x => (List.getElem?_append_left k3).trans d1
  simp only [↓reduceIte, Nat.reduceAdd, Nat.reduceMul, Nat.reduceSub, Nat.reduceLT, Nat.reduceLeDiff, Nat.reduceEqDiff, Nat.reducePow, Int.reducePow, Int.reduceLE, Int.reduceLT, Int.reduceEq, Int.reduceToNat, reduceCtorEq, RR, RB, RZ, RE, opEv, fillV, mapO, mapS, b75, hl_0, h0, h1, h2, h3, h4, get_last, hm, wi, ta, eq_true tc, p1, o1, hx1, ra, eq_true rc, p2, o2, hx2, oa, eq_true oc, p3, o3, wa, wb0, wb, wd, wz, s3, s5']
  rw [← hm]
  have q : ∀ k, k ≠ key3 → k < E.length → ((E ++ [(c, some [V.int .i64 p, V.isl (List.map Enc.enc dims), m])]).set key3 (uid3, some (List.map Enc.enc row')))[k]? = E[k]? := fun k h1 h2 => set_app_new h1 h2
  have r0 : Deep.rep ⟨(E ++ [(c, some [V.int .i64 p, V.isl (List.map Enc.enc dims), m])]).set key3 (uid3, some (List.map Enc.enc row')), c + 1⟩ x2 row' K2 := by
    rw [hx2, ← s4]; exact int_row (set_app_key (by simp; omega)) d2
  have r1 := b6 _ _ r0 (fun k hk nk => q k (fun e => nk ((d2 k).2 e)) (Deep.bd a4 hk))
  rw [← st] at r1
  have r2 := a6 _ _ r1 (fun k hk nk => q k (fun e => nk (b5 k ((d2 k).2 e))) (Deep.bd hr hk))
  rw [← sm] at r2
  refine And.intro (fun _ => trivial) ⟨?_, r2, fun k hk nk => q k (fun e => nk (a5 k (b5 k ((d2 k).2 e)))) hk, by simp⟩
  simp only [↓reduceIte, Nat.reduceAdd, Nat.reduceMul, Nat.reduceSub, Nat.reduceLT, Nat.reduceLeDiff, Nat.reduceEqDiff, Nat.reducePow, Int.reducePow, Int.reduceLE, Int.reduceLT, Int.reduceEq, Int.reduceToNat, reduceCtorEq, RR, RB, RZ, fn_out, p75, mapO]
  rfl
/-! slices.Clone(()int64,int64) -/
def F96 (a0 : List Int) : Option (List Int) := app 8 [] a0
theorem s96 (a0 : List Int) {r : List Int} (hF : F96 a0 = some r) : ans A 96 [V.isl (List.map Enc.enc a0)] = some (Enc.enc r) := clone_ans rfl hF
/-! (loop.example/g01273/impl.Complex).copied -/
def F57 (x : GComplex) : Option GComplex :=
  (F96 x.Dims).bind fun d => (F74 x.Prime d).bind fun b => (F85 x.Maps (fun n r pl v s => F75 b.Prime n r pl v s) b.Maps).bind fun ms => some ⟨b.Prime, b.Dims, ms⟩
abbrev S57 (p : Int) (dims : List Int) (m : V) (N c1 : Nat) (s : List (List (List Int))) (E : List (Nat × Option (List V))) : Prop :=
  Deep.rep ⟨E, 0⟩ m s (fun k => 2 ≤ k ∧ k < N) ∧ E[1]? = some (1, some [V.int .i64 0, V.nils, V.nils]) ∧ E[N]? = some (c1, some [V.int .i64 p, V.isl (List.map Enc.enc dims), m])
theorem st57 (p : Int) (dims : List Int) (m : V) (N c1 : Nat) : Step4 75 [V.agg [V.int .i64 p, V.isl (List.map Enc.enc dims), m]] [] (S57 p dims m N c1) (fun n r pl v s => F75 p n r pl v s) where
  call := by
    rintro n r pl v s s' hF E c ⟨h1, h2, h3⟩
    have r1 : Deep.rep ⟨E, c⟩ m s (fun k => 2 ≤ k ∧ k < N) := Deep.frame h1 fun _ _ => rfl
    obtain ⟨⟨E', c'⟩, q1, q2, q3, q4⟩ := d75 (dims := dims) hF E c r1
    exact ⟨E', c', q1, Deep.frame q2 fun _ _ => rfl, (q3 1 (List.getElem?_eq_some_iff.1 h2).1 (fun q => by omega)).trans h2, (q3 N (List.getElem?_eq_some_iff.1 h3).1 (fun q => by omega)).trans h3⟩
  pad := by
    rintro s E x ⟨h1, h2, h3⟩
    exact ⟨Deep.frame h1 fun k q => List.getElem?_append_left (Deep.bd h1 q), (List.getElem?_append_left (List.getElem?_eq_some_iff.1 h2).1).trans h2, (List.getElem?_append_left (List.getElem?_eq_some_iff.1 h3).1).trans h3⟩
theorem d57 (x : GComplex) {r : GComplex} (hF : F57 x = some r) : ∃ v h', res A 57 [V.agg [V.int .i64 x.Prime, V.isl (List.map Enc.enc x.Dims), V.isl (List.map Enc.enc x.Maps)]] Heap.empty = some (v, h') ∧ ∃ m K, v = V.agg [V.int .i64 r.Prime, V.isl (List.map Enc.enc r.Dims), m] ∧ Deep.rep h' m r.Maps K := by
  refine res_dp (f := p57) rfl rfl rfl fun e hl he => ?_
  have h0_0 : e.at 0 = V.agg [V.int .i64 x.Prime, V.isl (List.map Enc.enc x.Dims), V.isl (List.map Enc.enc x.Maps)] := he 0 _ rfl
  have hl_0 : e.length = 15 := hl
  clear he hl
  show W A b57 e ⟨[], 0⟩ _
  unfold F57 at hF
  obtain ⟨d, gd, hF⟩ := bS hF
  have wd : ans A 96 [V.isl (List.map Enc.enc x.Dims)] = some (V.isl (List.map Enc.enc d)) := s96 x.Dims gd
  obtain ⟨o, go, hF⟩ := bS hF
  obtain ⟨ms, gt, hF⟩ := bS hF
  have hE := Option.some.inj hF; subst hE
  have w1 := x74 x.Prime d go
  obtain ⟨m, ⟨E1, c1⟩, t1, t2, t3, t4⟩ := thaw_agg o.Prime o.Dims o.Maps ⟨[(0, none), (1, some [V.int .i64 0, V.nils, V.nils])], 2⟩
  simp only [List.length_cons, List.length_nil, Nat.zero_add, Nat.reduceAdd] at t2 t3 t4
  have m1 : E1[1]? = some (1, some [V.int .i64 0, V.nils, V.nils]) := t4 1 (by decide)
  obtain ⟨⟨E2, c2⟩, w2, q1, q2, q3⟩ := e85 (st57 o.Prime o.Dims m E1.length c1) x gt (E1 ++ [(c1, some [V.int .i64 o.Prime, V.isl (List.map Enc.enc o.Dims), m])]) (c1 + 1) ⟨Deep.frame t2 fun k q => List.getElem?_append_left q.2, by rw [List.getElem?_append_left (by omega)]; exact m1, get_last _ _⟩
  simp only at q2 q3
  simp only [↓reduceIte, Nat.reduceAdd, Nat.reduceMul, Nat.reduceSub, Nat.reduceLT, Nat.reduceLeDiff, Nat.reduceEqDiff, Nat.reducePow, Int.reducePow, Int.reduceLE, Int.reduceLT, Int.reduceEq, Int.reduceToNat, reduceCtorEq, RR, RB, RZ, RE, opEv, fillV, mapO, mapS, b57, hl_0, h0_0, wd, w1, callM_tans, t1, get_last, set_last, callM_plain_eq, w2, q2, q3]
  have hE0 : 1 < E2.length := (List.getElem?_eq_some_iff.1 q2).1
  refine And.intro (fun _ => trivial) ⟨_, by simp only [↓reduceIte, Nat.reduceAdd, Nat.reduceMul, Nat.reduceSub, Nat.reduceLT, Nat.reduceLeDiff, Nat.reduceEqDiff, Nat.reducePow, Int.reducePow, Int.reduceLE, Int.reduceLT, Int.reduceEq, Int.reduceToNat, reduceCtorEq, RR, RB, RZ, RE, fn_out, p57, Rs.ev, mapO, mapS, hl_0, set_app_key hE0], _, _, rfl, Deep.frame q1 fun k q => set_ne (by omega)⟩
theorem x57 (x : GComplex) {r : GComplex} (hF : F57 x = some r) : tans A 57 [1, 1, 1] [V.agg [V.int .i64 x.Prime, V.isl (List.map Enc.enc x.Dims), V.isl (List.map Enc.enc x.Maps)]] = some (V.agg [V.int .i64 r.Prime, V.iptr [V.isl (List.map Enc.enc r.Dims)], V.isl (List.map Enc.enc r.Maps)]) := by
  obtain ⟨v, h', h1, m, K, rfl, h2⟩ := d57 x hF
  exact tans_agg h1 h2
theorem s57 (x : GComplex) {r : GComplex} (hF : F57 x = some r) : ans A 57 [V.agg [V.int .i64 x.Prime, V.isl (List.map Enc.enc x.Dims), V.isl (List.map Enc.enc x.Maps)]] = some (Enc.enc r) := by
  obtain ⟨v, h', h1, m, K, rfl, h2⟩ := d57 x hF
  exact ans_agg h1 h2
/-! (loop.example/g01273/impl.Complex).perturbed -/
def F50 (x : GComplex) (maps : List (List (List Int))) : Option GComplex :=
  (F57 x).bind fun b => (F85 maps (fun n r pl v s => F75 b.Prime n r pl v s) b.Maps).bind fun ms => some ⟨b.Prime, b.Dims, ms⟩
theorem d50 (x : GComplex) (maps : List (List (List Int))) {r : GComplex} (hF : F50 x maps = some r) : ∃ v h', res A 50 [V.agg [V.int .i64 x.Prime, V.isl (List.map Enc.enc x.Dims), V.isl (List.map Enc.enc x.Maps)], V.isl (List.map Enc.enc maps)] Heap.empty = some (v, h') ∧ ∃ m K, v = V.agg [V.int .i64 r.Prime, V.isl (List.map Enc.enc r.Dims), m] ∧ Deep.rep h' m r.Maps K := by
  refine res_dp (f := p50) rfl rfl rfl fun e hl he => ?_
  have h0_0 : e.at 0 = V.agg [V.int .i64 x.Prime, V.isl (List.map Enc.enc x.Dims), V.isl (List.map Enc.enc x.Maps)] := he 0 _ rfl
  have h1_0 : e.at 1 = V.isl (List.map Enc.enc maps) := he 1 _ rfl
  have hl_0 : e.length = 14 := hl
  clear he hl
  show W A b50 e ⟨[], 0⟩ _
  unfold F50 at hF
  obtain ⟨o, go, hF⟩ := bS hF
  obtain ⟨ms, gt, hF⟩ := bS hF
  have hE := Option.some.inj hF; subst hE
  have w1 := x57 x go
  obtain ⟨m, ⟨E1, c1⟩, t1, t2, t3, t4⟩ := thaw_agg o.Prime o.Dims o.Maps ⟨[(0, none), (1, some [V.int .i64 0, V.nils, V.nils])], 2⟩
  simp only [List.length_cons, List.length_nil, Nat.zero_add, Nat.reduceAdd] at t2 t3 t4
  have m1 : E1[1]? = some (1, some [V.int .i64 0, V.nils, V.nils]) := t4 1 (by decide)
  obtain ⟨⟨E2, c2⟩, w2, q1, q2, q3⟩ := e85 (st57 o.Prime o.Dims m E1.length c1) ⟨0, [], maps⟩ gt (E1 ++ [(c1, some [V.int .i64 o.Prime, V.isl (List.map Enc.enc o.Dims), m])]) (c1 + 1) ⟨Deep.frame t2 fun k q => List.getElem?_append_left q.2, by rw [List.getElem?_append_left (by omega)]; exact m1, get_last _ _⟩
  simp only [List.map_nil] at q2 q3 w2
  simp only [↓reduceIte, Nat.reduceAdd, Nat.reduceMul, Nat.reduceSub, Nat.reduceLT, Nat.reduceLeDiff, Nat.reduceEqDiff, Nat.reducePow, Int.reducePow, Int.reduceLE, Int.reduceLT, Int.reduceEq, Int.reduceToNat, reduceCtorEq, RR, RB, RZ, RE, opEv, fillV, mapO, mapS, b50, hl_0, h0_0, h1_0, w1, callM_tans, t1, get_last, set_last, callM_plain_eq, w2, q2, q3]
  have hE0 : 1 < E2.length := (List.getElem?_eq_some_iff.1 q2).1
  refine And.intro (fun _ => trivial) ⟨_, by simp only [↓reduceIte, Nat.reduceAdd, Nat.reduceMul, Nat.reduceSub, Nat.reduceLT, Nat.reduceLeDiff, Nat.reduceEqDiff, Nat.reducePow, Int.reducePow, Int.reduceLE, Int.reduceLT, Int.reduceEq, Int.reduceToNat, reduceCtorEq, RR, RB, RZ, RE, fn_out, p50, Rs.ev, mapO, mapS, hl_0, set_app_key hE0], _, _, rfl, Deep.frame q1 fun k q => set_ne (by omega)⟩
theorem s50 (x : GComplex) (maps : List (List (List Int))) {r : GComplex} (hF : F50 x maps = some r) : ans A 50 [V.agg [V.int .i64 x.Prime, V.isl (List.map Enc.enc x.Dims), V.isl (List.map Enc.enc x.Maps)], V.isl (List.map Enc.enc maps)] = some (Enc.enc r) := by
  obtain ⟨v, h', h1, m, K, rfl, h2⟩ := d50 x maps hF
  exact ans_agg h1 h2
/-! loop.example/g01273/impl.IsPerturbation -/
def F15 (a0 : GComplex) (a1 : List (List (List Int))) : Option (T2 Bool Int) :=
  (F49 a0 a1).bind fun x1 =>
  if x1 = 0 then
    (F50 a0 a1).bind fun x4 =>
    (F42 x4).bind fun x6 =>
    some ⟨x6, 0⟩
  else
    some ⟨false, x1⟩
theorem s15 (a0 : GComplex) (a1 : List (List (List Int)))   {r : T2 Bool Int} (hF : F15 a0 a1 = some r) : ans A 15 [V.agg [V.int .i64 a0.Prime, V.isl (List.map Enc.enc a0.Dims), V.isl (List.map Enc.enc a0.Maps)], V.isl (List.map Enc.enc a1)] = some (EncR.enc r) := by
  refine ans_of (f := p15) rfl rfl rfl fun e hl he => ?_
  have h0_0 : e.at 0 = V.agg [V.int .i64 a0.Prime, V.isl (List.map Enc.enc a0.Dims), V.isl (List.map Enc.enc a0.Maps)] := he 0 _ rfl
  have h1_0 : e.at 1 = V.isl (List.map Enc.enc a1) := he 1 _ rfl
  have hl_0 : e.length = 17 := hl
  clear he hl
  show W A b15 e ⟨[], 0⟩ _
  unfold F15 at hF
  obtain ⟨x1, gx1, hF⟩ := bS hF
  have w2 : ans A 49 [V.agg [V.int .i64 a0.Prime, V.isl (List.map Enc.enc a0.Dims), V.isl (List.map Enc.enc a0.Maps)], V.isl (List.map Enc.enc a1)] = some (V.int .i64 x1) := s49 a0 a1  gx1
  by_cases c3 : x1 = 0
  · rw [if_pos c3] at hF
    obtain ⟨x4, gx4, hF⟩ := bS hF
    have w5 : ans A 50 [V.agg [V.int .i64 a0.Prime, V.isl (List.map Enc.enc a0.Dims), V.isl (List.map Enc.enc a0.Maps)], V.isl (List.map Enc.enc a1)] = some (V.agg [V.int .i64 x4.Prime, V.isl (List.map Enc.enc x4.Dims), V.isl (List.map Enc.enc x4.Maps)]) := s50 a0 a1  gx4
    obtain ⟨x6, gx6, hF⟩ := bS hF
    have w7 : ans A 42 [V.agg [V.int .i64 x4.Prime, V.isl (List.map Enc.enc x4.Dims), V.isl (List.map Enc.enc x4.Maps)]] = some (V.bool x6) := s42 x4  gx6
    have hE := Option.some.inj hF; subst hE
    simp only [↓reduceIte, Nat.reduceAdd, Nat.reduceMul, Nat.reduceSub, Nat.reduceLT, Nat.reduceLeDiff, Nat.reduceEqDiff, Nat.reducePow, Int.reducePow, Int.reduceLE, Int.reduceLT, Int.reduceEq, Int.reduceToNat, reduceCtorEq, RR, RB, RZ, RE, opEv, fillV, mapO, mapS, b15, hl_0, h0_0, h1_0, w2, eq_true c3, w5, w7]
    exact fin_ret (by simp only [↓reduceIte, Nat.reduceAdd, Nat.reduceMul, Nat.reduceSub, Nat.reduceLT, Nat.reduceLeDiff, Nat.reduceEqDiff, Nat.reducePow, Int.reducePow, Int.reduceLE, Int.reduceLT, Int.reduceEq, Int.reduceToNat, reduceCtorEq, RR, RB, RZ, RE, fn_out, p15, Rs.ev, mapO, mapS, take_len_self, hl_0, h0_0, h1_0, w2, eq_true c3, w5, w7])
  · rw [if_neg c3] at hF
    have hE := Option.some.inj hF; subst hE
    simp only [↓reduceIte, Nat.reduceAdd, Nat.reduceMul, Nat.reduceSub, Nat.reduceLT, Nat.reduceLeDiff, Nat.reduceEqDiff, Nat.reducePow, Int.reducePow, Int.reduceLE, Int.reduceLT, Int.reduceEq, Int.reduceToNat, reduceCtorEq, RR, RB, RZ, RE, opEv, fillV, mapO, mapS, b15, hl_0, h0_0, h1_0, w2, eq_false c3]
    exact fin_ret (by simp only [↓reduceIte, Nat.reduceAdd, Nat.reduceMul, Nat.reduceSub, Nat.reduceLT, Nat.reduceLeDiff, Nat.reduceEqDiff, Nat.reducePow, Int.reducePow, Int.reduceLE, Int.reduceLT, Int.reduceEq, Int.reduceToNat, reduceCtorEq, RR, RB, RZ, RE, fn_out, p15, Rs.ev, mapO, mapS, take_len_self, hl_0, h0_0, h1_0, w2, eq_false c3])
/-! loop.example/g01273/laws.FnExactIsPerturbation -/
def F111 (a0 : GComplex) (a1 : List (List (List Int))) : Option Bool :=
  (F10 a0 1048576).bind fun x1 =>
  if x1 < 0 then
    some true
  else
    (F11 a1 x1).bind fun x4 =>
    if x4 < 0 then
      some true
    else
      (F12 a0).bind fun x7 =>
      (F13 a1).bind fun x9 =>
      (F14 x7 x9).bind fun x11 =>
      (F15 x7 x9).bind fun x13 =>
      if (x13.a == x11.a) = true then
        if x13.b = x11.b then
          (F16 x7 x7).bind fun x17 =>
          if x17 = true then
            (F17 x9 x9).bind fun x19 =>
            if x19 = true then
              some true
            else
              some false
          else
            some false
        else
          some false
      else
        some false
theorem s111 (a0 : GComplex) (a1 : List (List (List Int)))   {r : Bool} (hF : F111 a0 a1 = some r) : ans A 111 [V.agg [V.int .i64 a0.Prime, V.isl (List.map Enc.enc a0.Dims), V.isl (List.map Enc.enc a0.Maps)], V.isl (List.map Enc.enc a1)] = some (Enc.enc r) := by
  refine ans_of (f := p111) rfl rfl rfl fun e hl he => ?_
  have h0_0 : e.at 0 = V.agg [V.int .i64 a0.Prime, V.isl (List.map Enc.enc a0.Dims), V.isl (List.map Enc.enc a0.Maps)] := he 0 _ rfl
  have h1_0 : e.at 1 = V.isl (List.map Enc.enc a1) := he 1 _ rfl
  have hl_0 : e.length = 58 := hl
  clear he hl
  show W A b111 e ⟨[], 0⟩ _
  unfold F111 at hF
  obtain ⟨x1, gx1, hF⟩ := bS hF
  have w2 : ans A 10 [V.agg [V.int .i64 a0.Prime, V.isl (List.map Enc.enc a0.Dims), V.isl (List.map Enc.enc a0.Maps)], V.int .i64 1048576] = some (V.int .i64 x1) := s10 a0 1048576  gx1
  by_cases c3 : x1 < 0
  · rw [if_pos c3] at hF
    have hE := Option.some.inj hF; subst hE
    simp only [↓reduceIte, Nat.reduceAdd, Nat.reduceMul, Nat.reduceSub, Nat.reduceLT, Nat.reduceLeDiff, Nat.reduceEqDiff, Nat.reducePow, Int.reducePow, Int.reduceLE, Int.reduceLT, Int.reduceEq, Int.reduceToNat, reduceCtorEq, RR, RB, RZ, RE, opEv, fillV, mapO, mapS, b111, hl_0, h0_0, h1_0, w2, eq_true c3]
    exact fin_ret (by simp only [↓reduceIte, Nat.reduceAdd, Nat.reduceMul, Nat.reduceSub, Nat.reduceLT, Nat.reduceLeDiff, Nat.reduceEqDiff, Nat.reducePow, Int.reducePow, Int.reduceLE, Int.reduceLT, Int.reduceEq, Int.reduceToNat, reduceCtorEq, RR, RB, RZ, RE, fn_out, p111, Rs.ev, mapO, mapS, take_len_self, hl_0, h0_0, h1_0, w2, eq_true c3])
  · rw [if_neg c3] at hF
    obtain ⟨x4, gx4, hF⟩ := bS hF
    have w5 : ans A 11 [V.isl (List.map Enc.enc a1), V.int .i64 x1] = some (V.int .i64 x4) := s11 a1 x1  gx4
    by_cases c6 : x4 < 0
    · rw [if_pos c6] at hF
      have hE := Option.some.inj hF; subst hE
      simp only [↓reduceIte, Nat.reduceAdd, Nat.reduceMul, Nat.reduceSub, Nat.reduceLT, Nat.reduceLeDiff, Nat.reduceEqDiff, Nat.reducePow, Int.reducePow, Int.reduceLE, Int.reduceLT, Int.reduceEq, Int.reduceToNat, reduceCtorEq, RR, RB, RZ, RE, opEv, fillV, mapO, mapS, b111, hl_0, h0_0, h1_0, w2, eq_false c3, w5, eq_true c6]
      exact fin_ret (by simp only [↓reduceIte, Nat.reduceAdd, Nat.reduceMul, Nat.reduceSub, Nat.reduceLT, Nat.reduceLeDiff, Nat.reduceEqDiff, Nat.reducePow, Int.reducePow, Int.reduceLE, Int.reduceLT, Int.reduceEq, Int.reduceToNat, reduceCtorEq, RR, RB, RZ, RE, fn_out, p111, Rs.ev, mapO, mapS, take_len_self, hl_0, h0_0, h1_0, w2, eq_false c3, w5, eq_true c6])
    · rw [if_neg c6] at hF
      obtain ⟨x7, gx7, hF⟩ := bS hF
      have w8 : ans A 12 [V.agg [V.int .i64 a0.Prime, V.isl (List.map Enc.enc a0.Dims), V.isl (List.map Enc.enc a0.Maps)]] = some (V.agg [V.int .i64 x7.Prime, V.isl (List.map Enc.enc x7.Dims), V.isl (List.map Enc.enc x7.Maps)]) := s12 a0  gx7
      obtain ⟨x9, gx9, hF⟩ := bS hF
      have w10 : ans A 13 [V.isl (List.map Enc.enc a1)] = some (V.isl (List.map Enc.enc x9)) := s13 a1  gx9
      obtain ⟨x11, gx11, hF⟩ := bS hF
      have w12 : ans A 14 [V.agg [V.int .i64 x7.Prime, V.isl (List.map Enc.enc x7.Dims), V.isl (List.map Enc.enc x7.Maps)], V.isl (List.map Enc.enc x9)] = some (V.tup [V.bool x11.a, V.int .i64 x11.b]) := s14 x7 x9  gx11
      obtain ⟨x13, gx13, hF⟩ := bS hF
      have w14 : ans A 15 [V.agg [V.int .i64 x7.Prime, V.isl (List.map Enc.enc x7.Dims), V.isl (List.map Enc.enc x7.Maps)], V.isl (List.map Enc.enc x9)] = some (V.tup [V.bool x13.a, V.int .i64 x13.b]) := s15 x7 x9  gx13
      by_cases c15 : (x13.a == x11.a) = true
      · rw [if_pos c15] at hF
        by_cases c16 : x13.b = x11.b
        · rw [if_pos c16] at hF
          obtain ⟨x17, gx17, hF⟩ := bS hF
          have w18 : ans A 16 [V.agg [V.int .i64 x7.Prime, V.isl (List.map Enc.enc x7.Dims), V.isl (List.map Enc.enc x7.Maps)], V.agg [V.int .i64 x7.Prime, V.isl (List.map Enc.enc x7.Dims), V.isl (List.map Enc.enc x7.Maps)]] = some (V.bool x17) := s16 x7 x7  gx17
          cases x17 with
          | true =>
            rw [if_pos rfl] at hF
            obtain ⟨x19, gx19, hF⟩ := bS hF
            have w20 : ans A 17 [V.isl (List.map Enc.enc x9), V.isl (List.map Enc.enc x9)] = some (V.bool x19) := s17 x9 x9  gx19
            cases x19 with
            | true =>
              rw [if_pos rfl] at hF
              have hE := Option.some.inj hF; subst hE
              simp only [↓reduceIte, Nat.reduceAdd, Nat.reduceMul, Nat.reduceSub, Nat.reduceLT, Nat.reduceLeDiff, Nat.reduceEqDiff, Nat.reducePow, Int.reducePow, Int.reduceLE, Int.reduceLT, Int.reduceEq, Int.reduceToNat, reduceCtorEq, RR, RB, RZ, RE, opEv, fillV, mapO, mapS, b111, hl_0, h0_0, h1_0, w2, eq_false c3, w5, eq_false c6, w8, w10, w12, w14, c15, eq_true c16, w18, w20]
              exact fin_ret (by simp only [↓reduceIte, Nat.reduceAdd, Nat.reduceMul, Nat.reduceSub, Nat.reduceLT, Nat.reduceLeDiff, Nat.reduceEqDiff, Nat.reducePow, Int.reducePow, Int.reduceLE, Int.reduceLT, Int.reduceEq, Int.reduceToNat, reduceCtorEq, RR, RB, RZ, RE, fn_out, p111, Rs.ev, mapO, mapS, take_len_self, hl_0, h0_0, h1_0, w2, eq_false c3, w5, eq_false c6, w8, w10, w12, w14, c15, eq_true c16, w18, w20])
            | false =>
              rw [if_neg Bool.false_ne_true] at hF
              have hE := Option.some.inj hF; subst hE
              simp only [↓reduceIte, Nat.reduceAdd, Nat.reduceMul, Nat.reduceSub, Nat.reduceLT, Nat.reduceLeDiff, Nat.reduceEqDiff, Nat.reducePow, Int.reducePow, Int.reduceLE, Int.reduceLT, Int.reduceEq, Int.reduceToNat, reduceCtorEq, RR, RB, RZ, RE, opEv, fillV, mapO, mapS, b111, hl_0, h0_0, h1_0, w2, eq_false c3, w5, eq_false c6, w8, w10, w12, w14, c15, eq_true c16, w18, w20]
              exact fin_ret (by simp only [↓reduceIte, Nat.reduceAdd, Nat.reduceMul, Nat.reduceSub, Nat.reduceLT, Nat.reduceLeDiff, Nat.reduceEqDiff, Nat.reducePow, Int.reducePow, Int.reduceLE, Int.reduceLT, Int.reduceEq, Int.reduceToNat, reduceCtorEq, RR, RB, RZ, RE, fn_out, p111, Rs.ev, mapO, mapS, take_len_self, hl_0, h0_0, h1_0, w2, eq_false c3, w5, eq_false c6, w8, w10, w12, w14, c15, eq_true c16, w18, w20])
          | false =>
            rw [if_neg Bool.false_ne_true] at hF
            have hE := Option.some.inj hF; subst hE
            simp only [↓reduceIte, Nat.reduceAdd, Nat.reduceMul, Nat.reduceSub, Nat.reduceLT, Nat.reduceLeDiff, Nat.reduceEqDiff, Nat.reducePow, Int.reducePow, Int.reduceLE, Int.reduceLT, Int.reduceEq, Int.reduceToNat, reduceCtorEq, RR, RB, RZ, RE, opEv, fillV, mapO, mapS, b111, hl_0, h0_0, h1_0, w2, eq_false c3, w5, eq_false c6, w8, w10, w12, w14, c15, eq_true c16, w18]
            exact fin_ret (by simp only [↓reduceIte, Nat.reduceAdd, Nat.reduceMul, Nat.reduceSub, Nat.reduceLT, Nat.reduceLeDiff, Nat.reduceEqDiff, Nat.reducePow, Int.reducePow, Int.reduceLE, Int.reduceLT, Int.reduceEq, Int.reduceToNat, reduceCtorEq, RR, RB, RZ, RE, fn_out, p111, Rs.ev, mapO, mapS, take_len_self, hl_0, h0_0, h1_0, w2, eq_false c3, w5, eq_false c6, w8, w10, w12, w14, c15, eq_true c16, w18])
        · rw [if_neg c16] at hF
          have hE := Option.some.inj hF; subst hE
          simp only [↓reduceIte, Nat.reduceAdd, Nat.reduceMul, Nat.reduceSub, Nat.reduceLT, Nat.reduceLeDiff, Nat.reduceEqDiff, Nat.reducePow, Int.reducePow, Int.reduceLE, Int.reduceLT, Int.reduceEq, Int.reduceToNat, reduceCtorEq, RR, RB, RZ, RE, opEv, fillV, mapO, mapS, b111, hl_0, h0_0, h1_0, w2, eq_false c3, w5, eq_false c6, w8, w10, w12, w14, c15, eq_false c16]
          exact fin_ret (by simp only [↓reduceIte, Nat.reduceAdd, Nat.reduceMul, Nat.reduceSub, Nat.reduceLT, Nat.reduceLeDiff, Nat.reduceEqDiff, Nat.reducePow, Int.reducePow, Int.reduceLE, Int.reduceLT, Int.reduceEq, Int.reduceToNat, reduceCtorEq, RR, RB, RZ, RE, fn_out, p111, Rs.ev, mapO, mapS, take_len_self, hl_0, h0_0, h1_0, w2, eq_false c3, w5, eq_false c6, w8, w10, w12, w14, c15, eq_false c16])
      · rw [if_neg c15] at hF
        have hE := Option.some.inj hF; subst hE
        simp only [↓reduceIte, Nat.reduceAdd, Nat.reduceMul, Nat.reduceSub, Nat.reduceLT, Nat.reduceLeDiff, Nat.reduceEqDiff, Nat.reducePow, Int.reducePow, Int.reduceLE, Int.reduceLT, Int.reduceEq, Int.reduceToNat, reduceCtorEq, RR, RB, RZ, RE, opEv, fillV, mapO, mapS, b111, hl_0, h0_0, h1_0, w2, eq_false c3, w5, eq_false c6, w8, w10, w12, w14, Bool.eq_false_iff.2 c15]
        exact fin_ret (by simp only [↓reduceIte, Nat.reduceAdd, Nat.reduceMul, Nat.reduceSub, Nat.reduceLT, Nat.reduceLeDiff, Nat.reduceEqDiff, Nat.reducePow, Int.reducePow, Int.reduceLE, Int.reduceLT, Int.reduceEq, Int.reduceToNat, reduceCtorEq, RR, RB, RZ, RE, fn_out, p111, Rs.ev, mapO, mapS, take_len_self, hl_0, h0_0, h1_0, w2, eq_false c3, w5, eq_false c6, w8, w10, w12, w14, Bool.eq_false_iff.2 c15])

end
end Rv
