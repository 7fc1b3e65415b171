/- What the abstract code answers: typed functions, part 2. -/
import Derived.Test.YthdaojcekpelgaaFfs0
namespace Rv
set_option linter.unusedVariables false
set_option linter.unusedSimpArgs false
set_option maxRecDepth 100000
noncomputable section

/-! loop.example/g01273/impl.IsComplex -/
def F42_1_B (a0 : GComplex) (v34_1 : Int) (s : Unit) : Option ((Unit) ⊕ ((Unit) ⊕ Bool)) :=
  (getI a0.Maps v34_1).bind fun x15 =>
(getI a0.Dims (v34_1 + 1)).bind fun x19 =>
if (x15.length : Int) = x19 then
  (getI a0.Dims v34_1).bind fun x22 =>
  (F90 a0.Prime x22 x15).bind fun x24 =>
  if x24 = true then
    some (.inl ())
  else
    some (.inr (.inr false))
else
  some (.inr (.inr false))
def F42_1_D (a0 : GComplex) (v34_1 : Int) (s : Unit) : Option ((Unit) ⊕ Bool) :=
  some (.inl ())
def F42_3_B (a0 : GComplex) (v5_2 : Int) (x34 : List (List Int)) (v74_3 : Int) (s : Unit) : Option ((Unit) ⊕ ((Unit) ⊕ Bool)) :=
  (getI x34 v74_3).bind fun x39 =>
(chk (v5_2 - 1)).bind fun x41 =>
(F91 a0 x41 x39).bind fun x42 =>
(F92 x42).bind fun x44 =>
if x44 = true then
  some (.inl ())
else
  some (.inr (.inr false))
def F42_3_D (a0 : GComplex) (v5_2 : Int) (x34 : List (List Int)) (v74_3 : Int) (s : Unit) : Option ((Unit) ⊕ Bool) :=
  some (.inl ())
def F42_2_S (a0 : GComplex) (v5_2 : Int) : Option ((Int) ⊕ ((Unit) ⊕ Bool)) :=
  (F86 a0).bind fun x30 =>
if v5_2 ≤ x30 then
  (chk (v5_2 - 1)).bind fun x33 =>
  (getI a0.Maps x33).bind fun x34 =>
  (forR 0 (x34.length : Int) (F42_3_B a0 v5_2 x34) (F42_3_D a0 v5_2 x34) ()).bind fun t46 => match t46 with
    | .inl _ =>
      (chk (v5_2 + 1)).bind fun x47 =>
      some (.inl x47)
    | .inr r48 => some (.inr (.inr r48))
else
  some (.inr (.inl ()))
def F42 (a0 : GComplex) : Option Bool :=
  (F67 a0.Prime).bind fun x1 =>
  if x1 = true then
    (F86 a0).bind fun x3 =>
    (F56 x3 0 5).bind fun x5 =>
    if x5 = true then
      if (a0.Maps.length : Int) = x3 then
        (F82 a0.Dims (fun x => F88 x)).bind fun x10 =>
        if x10 = true then
          some false
        else
          (forR 0 (a0.Maps.length : Int) (F42_1_B a0) (F42_1_D a0) ()).bind fun t26 => match t26 with
            | .inl _ =>
              (loopW (F42_2_S a0) 2).bind fun t49 => match t49 with
                | .inl _ =>
                  some true
                | .inr r50 => some r50
            | .inr r51 => some r51
      else
        some false
    else
      some false
  else
    some false
def I42_1 (a0 : GComplex)  (v34_1 : Int) (s : Unit) (e : Env) (h : Heap) : Prop :=
  ∃ k13 : Nat, h = ⟨[(0, none)], k13⟩ ∧ e.length = 86 ∧ e.at 1 = V.iptr [V.int .i64 a0.Prime, V.isl (List.map Enc.enc a0.Dims), V.isl (List.map Enc.enc a0.Maps)] ∧ e.at 32 = V.isl (List.map Enc.enc a0.Maps) ∧ e.at 33 = V.int .i64 (a0.Maps.length : Int) ∧ e.at 34 = V.int .i64 v34_1
def P42_1 (a0 : GComplex)  (t : (Unit) ⊕ Bool) (x : Ex) (e : Env) (h : Heap) : Prop :=
  match t with
  | .inl _ => x = .normal ∧ ∃ k13 : Nat, h = ⟨[(0, none)], k13⟩ ∧ e.length = 86 ∧ e.at 1 = V.iptr [V.int .i64 a0.Prime, V.isl (List.map Enc.enc a0.Dims), V.isl (List.map Enc.enc a0.Maps)]
  | .inr r => x = .ret ∧ Fin p42 (Enc.enc r) .ret e h
theorem l42_1 (a0 : GComplex)   {lo : Int} {s : Unit} {t : (Unit) ⊕ Bool} (hF : forR lo (a0.Maps.length : Int) (F42_1_B a0) (F42_1_D a0) s = some t) {e : Env} {h : Heap} (hI : I42_1 a0  lo s e h) : W A c42_1 e h (P42_1 a0  t) := by
  show W A (.block 0 (.loop false b42_1)) e h _
  rw [W_block]
  refine W_forR hF 1 (by obtain ⟨_, rfl, _⟩ := hI; rfl) (I42_1 a0 ) hI ?_ ?_
  · rintro v34_1 _ e h ⟨k13, rfl, hl_12, h1_12, h32_12, h33_12, h34_12⟩ hlt hw o ho
    unfold F42_1_B at ho
    obtain ⟨x15, gx15, ho⟩ := bS ho
    obtain ⟨w16a, w16b⟩ := getI_w gx15
    have w18 : ans A 89 [V.isl (List.map Enc.enc x15)] = some (V.int .i64 (x15.length : Int)) := s89 x15  rfl
    obtain ⟨x19, gx19, ho⟩ := bS ho
    obtain ⟨w20a, w20b⟩ := getI_w gx19
    by_cases c21 : (x15.length : Int) = x19
    · rw [if_pos c21] at ho
      obtain ⟨x22, gx22, ho⟩ := bS ho
      obtain ⟨w23a, w23b⟩ := getI_w gx22
      obtain ⟨x24, gx24, ho⟩ := bS ho
      have w25 : ans A 90 [V.int .i64 a0.Prime, V.int .i64 x22, V.isl (List.map Enc.enc x15)] = some (V.bool x24) := s90 a0.Prime x22 x15  gx24
      cases x24 with
      | true =>
        rw [if_pos rfl] at ho
        have hE := Option.some.inj ho; subst hE
        simp only [↓reduceIte, Nat.reduceAdd, Nat.reduceMul, Nat.reduceSub, Nat.reduceLT, Nat.reduceLeDiff, Nat.reduceEqDiff, Nat.reducePow, Int.reducePow, Int.reduceLE, Int.reduceLT, Int.reduceEq, Int.reduceToNat, reduceCtorEq, RR, RB, RZ, RE, opEv, fillV, mapO, mapS, b42_1, hl_12, h1_12, h32_12, h33_12, h34_12, eq_true hlt, hw, w16a, w16b, w18, w20a, w20b, eq_true c21, w23a, w23b, w25]
        refine And.intro rfl (Exists.intro _ ( And.intro rfl ?_))
        simp only [↓reduceIte, Nat.reduceAdd, Nat.reduceMul, Nat.reduceSub, Nat.reduceLT, Nat.reduceLeDiff, Nat.reduceEqDiff, Nat.reducePow, Int.reducePow, Int.reduceLE, Int.reduceLT, Int.reduceEq, Int.reduceToNat, reduceCtorEq, RR, RB, RZ, RE, hl_12, h1_12, h32_12, h33_12, h34_12, eq_true hlt, hw, w16a, w16b, w18, w20a, w20b, eq_true c21, w23a, w23b, w25]
      | false =>
        rw [if_neg Bool.false_ne_true] at ho
        have hE := Option.some.inj ho; subst hE
        simp only [↓reduceIte, Nat.reduceAdd, Nat.reduceMul, Nat.reduceSub, Nat.reduceLT, Nat.reduceLeDiff, Nat.reduceEqDiff, Nat.reducePow, Int.reducePow, Int.reduceLE, Int.reduceLT, Int.reduceEq, Int.reduceToNat, reduceCtorEq, RR, RB, RZ, RE, opEv, fillV, mapO, mapS, b42_1, hl_12, h1_12, h32_12, h33_12, h34_12, eq_true hlt, hw, w16a, w16b, w18, w20a, w20b, eq_true c21, w23a, w23b, w25]
        intro ht; subst ht
        simp only [↓reduceIte, Nat.reduceAdd, Nat.reduceMul, Nat.reduceSub, Nat.reduceLT, Nat.reduceLeDiff, Nat.reduceEqDiff, Nat.reducePow, Int.reducePow, Int.reduceLE, Int.reduceLT, Int.reduceEq, Int.reduceToNat, reduceCtorEq, RR, RB]
        exact And.intro rfl (fin_ret (by simp only [↓reduceIte, Nat.reduceAdd, Nat.reduceMul, Nat.reduceSub, Nat.reduceLT, Nat.reduceLeDiff, Nat.reduceEqDiff, Nat.reducePow, Int.reducePow, Int.reduceLE, Int.reduceLT, Int.reduceEq, Int.reduceToNat, reduceCtorEq, RR, RB, RZ, RE, fn_out, p42, Rs.ev, mapO, mapS, take_len_self, hl_12, h1_12, h32_12, h33_12, h34_12, eq_true hlt, hw, w16a, w16b, w18, w20a, w20b, eq_true c21, w23a, w23b, w25]))
    · rw [if_neg c21] at ho
      have hE := Option.some.inj ho; subst hE
      simp only [↓reduceIte, Nat.reduceAdd, Nat.reduceMul, Nat.reduceSub, Nat.reduceLT, Nat.reduceLeDiff, Nat.reduceEqDiff, Nat.reducePow, Int.reducePow, Int.reduceLE, Int.reduceLT, Int.reduceEq, Int.reduceToNat, reduceCtorEq, RR, RB, RZ, RE, opEv, fillV, mapO, mapS, b42_1, hl_12, h1_12, h32_12, h33_12, h34_12, eq_true hlt, hw, w16a, w16b, w18, w20a, w20b, eq_false c21]
      intro ht; subst ht
      simp only [↓reduceIte, Nat.reduceAdd, Nat.reduceMul, Nat.reduceSub, Nat.reduceLT, Nat.reduceLeDiff, Nat.reduceEqDiff, Nat.reducePow, Int.reducePow, Int.reduceLE, Int.reduceLT, Int.reduceEq, Int.reduceToNat, reduceCtorEq, RR, RB]
      exact And.intro rfl (fin_ret (by simp only [↓reduceIte, Nat.reduceAdd, Nat.reduceMul, Nat.reduceSub, Nat.reduceLT, Nat.reduceLeDiff, Nat.reduceEqDiff, Nat.reducePow, Int.reducePow, Int.reduceLE, Int.reduceLT, Int.reduceEq, Int.reduceToNat, reduceCtorEq, RR, RB, RZ, RE, fn_out, p42, Rs.ev, mapO, mapS, take_len_self, hl_12, h1_12, h32_12, h33_12, h34_12, eq_true hlt, hw, w16a, w16b, w18, w20a, w20b, eq_false c21]))
  · rintro v34_1 _ e h ⟨k13, rfl, hl_12, h1_12, h32_12, h33_12, h34_12⟩ hge t1 ho
    unfold F42_1_D at ho
    have hE := Option.some.inj ho; subst hE
    simp only [↓reduceIte, Nat.reduceAdd, Nat.reduceMul, Nat.reduceSub, Nat.reduceLT, Nat.reduceLeDiff, Nat.reduceEqDiff, Nat.reducePow, Int.reducePow, Int.reduceLE, Int.reduceLT, Int.reduceEq, Int.reduceToNat, reduceCtorEq, RR, RB, RZ, RE, opEv, fillV, mapO, mapS, b42_1, hl_12, h1_12, h32_12, h33_12, h34_12, eq_false hge]
    intro ht; subst ht
    refine And.intro rfl (Exists.intro _ ( And.intro rfl ?_))
    simp only [↓reduceIte, Nat.reduceAdd, Nat.reduceMul, Nat.reduceSub, Nat.reduceLT, Nat.reduceLeDiff, Nat.reduceEqDiff, Nat.reducePow, Int.reducePow, Int.reduceLE, Int.reduceLT, Int.reduceEq, Int.reduceToNat, reduceCtorEq, RR, RB, RZ, RE, hl_12, h1_12, h32_12, h33_12, h34_12, eq_false hge]
def I42_3 (a0 : GComplex) (v5_2 : Int) (x34 : List (List Int))  (v74_3 : Int) (s : Unit) (e : Env) (h : Heap) : Prop :=
  ∃ k37 : Nat, h = ⟨[(0, none)], k37⟩ ∧ e.length = 86 ∧ e.at 1 = V.iptr [V.int .i64 a0.Prime, V.isl (List.map Enc.enc a0.Dims), V.isl (List.map Enc.enc a0.Maps)] ∧ e.at 5 = V.int .i64 v5_2 ∧ e.at 72 = V.isl (List.map Enc.enc x34) ∧ e.at 73 = V.int .i64 (x34.length : Int) ∧ e.at 74 = V.int .i64 v74_3
def P42_3 (a0 : GComplex) (v5_2 : Int) (x34 : List (List Int))  (t : (Unit) ⊕ Bool) (x : Ex) (e : Env) (h : Heap) : Prop :=
  match t with
  | .inl _ => x = .normal ∧ ∃ k37 : Nat, h = ⟨[(0, none)], k37⟩ ∧ e.length = 86 ∧ e.at 1 = V.iptr [V.int .i64 a0.Prime, V.isl (List.map Enc.enc a0.Dims), V.isl (List.map Enc.enc a0.Maps)] ∧ e.at 5 = V.int .i64 v5_2
  | .inr r => x = .ret ∧ Fin p42 (Enc.enc r) .ret e h
theorem l42_3 (a0 : GComplex) (v5_2 : Int) (x34 : List (List Int))   {lo : Int} {s : Unit} {t : (Unit) ⊕ Bool} (hF : forR lo (x34.length : Int) (F42_3_B a0 v5_2 x34) (F42_3_D a0 v5_2 x34) s = some t) {e : Env} {h : Heap} (hI : I42_3 a0 v5_2 x34  lo s e h) : W A c42_3 e h (P42_3 a0 v5_2 x34  t) := by
  show W A (.block 4 (.loop false b42_3)) e h _
  rw [W_block]
  refine W_forR hF 1 (by obtain ⟨_, rfl, _⟩ := hI; rfl) (I42_3 a0 v5_2 x34 ) hI ?_ ?_
  · rintro v74_3 _ e h ⟨k37, rfl, hl_36, h1_36, h5_36, h72_36, h73_36, h74_36⟩ hlt hw o ho
    unfold F42_3_B at ho
    obtain ⟨x39, gx39, ho⟩ := bS ho
    obtain ⟨w40a, w40b⟩ := getI_w gx39
    obtain ⟨x41, gx41, ho⟩ := bS ho
    have wx41 := chk_w gx41
    obtain ⟨x42, gx42, ho⟩ := bS ho
    have w43 : ans A 91 [V.agg [V.int .i64 a0.Prime, V.isl (List.map Enc.enc a0.Dims), V.isl (List.map Enc.enc a0.Maps)], V.int .i64 x41, V.isl (List.map Enc.enc x39)] = some (V.isl (List.map Enc.enc x42)) := s91 a0 x41 x39  gx42
    obtain ⟨x44, gx44, ho⟩ := bS ho
    have w45 : ans A 92 [V.isl (List.map Enc.enc x42)] = some (V.bool x44) := s92 x42  gx44
    cases x44 with
    | true =>
      rw [if_pos rfl] at ho
      have hE := Option.some.inj ho; subst hE
      simp only [↓reduceIte, Nat.reduceAdd, Nat.reduceMul, Nat.reduceSub, Nat.reduceLT, Nat.reduceLeDiff, Nat.reduceEqDiff, Nat.reducePow, Int.reducePow, Int.reduceLE, Int.reduceLT, Int.reduceEq, Int.reduceToNat, reduceCtorEq, RR, RB, RZ, RE, opEv, fillV, mapO, mapS, b42_3, hl_36, h1_36, h5_36, h72_36, h73_36, h74_36, eq_true hlt, hw, w40a, w40b, wx41, w43, w45]
      refine And.intro rfl (Exists.intro _ ( And.intro rfl ?_))
      simp only [↓reduceIte, Nat.reduceAdd, Nat.reduceMul, Nat.reduceSub, Nat.reduceLT, Nat.reduceLeDiff, Nat.reduceEqDiff, Nat.reducePow, Int.reducePow, Int.reduceLE, Int.reduceLT, Int.reduceEq, Int.reduceToNat, reduceCtorEq, RR, RB, RZ, RE, hl_36, h1_36, h5_36, h72_36, h73_36, h74_36, eq_true hlt, hw, w40a, w40b, wx41, w43, w45]
    | false =>
      rw [if_neg Bool.false_ne_true] at ho
      have hE := Option.some.inj ho; subst hE
      simp only [↓reduceIte, Nat.reduceAdd, Nat.reduceMul, Nat.reduceSub, Nat.reduceLT, Nat.reduceLeDiff, Nat.reduceEqDiff, Nat.reducePow, Int.reducePow, Int.reduceLE, Int.reduceLT, Int.reduceEq, Int.reduceToNat, reduceCtorEq, RR, RB, RZ, RE, opEv, fillV, mapO, mapS, b42_3, hl_36, h1_36, h5_36, h72_36, h73_36, h74_36, eq_true hlt, hw, w40a, w40b, wx41, w43, w45]
      intro ht; subst ht
      simp only [↓reduceIte, Nat.reduceAdd, Nat.reduceMul, Nat.reduceSub, Nat.reduceLT, Nat.reduceLeDiff, Nat.reduceEqDiff, Nat.reducePow, Int.reducePow, Int.reduceLE, Int.reduceLT, Int.reduceEq, Int.reduceToNat, reduceCtorEq, RR, RB]
      exact And.intro rfl (fin_ret (by simp only [↓reduceIte, Nat.reduceAdd, Nat.reduceMul, Nat.reduceSub, Nat.reduceLT, Nat.reduceLeDiff, Nat.reduceEqDiff, Nat.reducePow, Int.reducePow, Int.reduceLE, Int.reduceLT, Int.reduceEq, Int.reduceToNat, reduceCtorEq, RR, RB, RZ, RE, fn_out, p42, Rs.ev, mapO, mapS, take_len_self, hl_36, h1_36, h5_36, h72_36, h73_36, h74_36, eq_true hlt, hw, w40a, w40b, wx41, w43, w45]))
  · rintro v74_3 _ e h ⟨k37, rfl, hl_36, h1_36, h5_36, h72_36, h73_36, h74_36⟩ hge t1 ho
    unfold F42_3_D at ho
    have hE := Option.some.inj ho; subst hE
    simp only [↓reduceIte, Nat.reduceAdd, Nat.reduceMul, Nat.reduceSub, Nat.reduceLT, Nat.reduceLeDiff, Nat.reduceEqDiff, Nat.reducePow, Int.reducePow, Int.reduceLE, Int.reduceLT, Int.reduceEq, Int.reduceToNat, reduceCtorEq, RR, RB, RZ, RE, opEv, fillV, mapO, mapS, b42_3, hl_36, h1_36, h5_36, h72_36, h73_36, h74_36, eq_false hge]
    intro ht; subst ht
    refine And.intro rfl (Exists.intro _ ( And.intro rfl ?_))
    simp only [↓reduceIte, Nat.reduceAdd, Nat.reduceMul, Nat.reduceSub, Nat.reduceLT, Nat.reduceLeDiff, Nat.reduceEqDiff, Nat.reducePow, Int.reducePow, Int.reduceLE, Int.reduceLT, Int.reduceEq, Int.reduceToNat, reduceCtorEq, RR, RB, RZ, RE, hl_36, h1_36, h5_36, h72_36, h73_36, h74_36, eq_false hge]
def I42_2 (a0 : GComplex)  (v5_2 : Int) (e : Env) (h : Heap) : Prop :=
  ∃ k28 : Nat, h = ⟨[(0, none)], k28⟩ ∧ e.length = 86 ∧ e.at 1 = V.iptr [V.int .i64 a0.Prime, V.isl (List.map Enc.enc a0.Dims), V.isl (List.map Enc.enc a0.Maps)] ∧ e.at 5 = V.int .i64 v5_2
def P42_2 (a0 : GComplex)  (t : (Unit) ⊕ Bool) (x : Ex) (e : Env) (h : Heap) : Prop :=
  match t with
  | .inl _ => x = .normal ∧ ∃ k28 : Nat, h = ⟨[(0, none)], k28⟩ ∧ e.length = 86
  | .inr r => x = .ret ∧ Fin p42 (Enc.enc r) .ret e h
theorem l42_2 (a0 : GComplex)   {s : Int} {t : (Unit) ⊕ Bool} (hF : loopW (F42_2_S a0) s = some t) {e : Env} {h : Heap} (hI : I42_2 a0  s e h) : W A c42_2 e h (P42_2 a0  t) := by
  show W A (.block 2 (.loop false b42_2)) e h _
  rw [W_block]
  refine W_loop hF 1 (by obtain ⟨_, rfl, _⟩ := hI; rfl) (I42_2 a0 ) hI ?_
  · rintro v5_2 e h ⟨k28, rfl, hl_27, h1_27, h5_27⟩ o ho
    unfold F42_2_S at ho
    obtain ⟨x30, gx30, ho⟩ := bS ho
    have w31 : ans A 86 [V.agg [V.int .i64 a0.Prime, V.isl (List.map Enc.enc a0.Dims), V.isl (List.map Enc.enc a0.Maps)]] = some (V.int .i64 x30) := s86 a0  gx30
    by_cases c32 : v5_2 ≤ x30
    · rw [if_pos c32] at ho
      obtain ⟨x33, gx33, ho⟩ := bS ho
      have wx33 := chk_w gx33
      obtain ⟨x34, gx34, ho⟩ := bS ho
      obtain ⟨w35a, w35b⟩ := getI_w gx34
      obtain ⟨t46, gt46, ho⟩ := bS ho
      rcases t46 with _ | r48
      · dsimp only at ho
        simp only [↓reduceIte, Nat.reduceAdd, Nat.reduceMul, Nat.reduceSub, Nat.reduceLT, Nat.reduceLeDiff, Nat.reduceEqDiff, Nat.reducePow, Int.reducePow, Int.reduceLE, Int.reduceLT, Int.reduceEq, Int.reduceToNat, reduceCtorEq, RR, RB, RZ, RE, opEv, fillV, mapO, mapS, b42_2, hl_27, h1_27, h5_27, w31, eq_true c32, wx33, w35a, w35b]
        refine W.mono (l42_3 a0 v5_2 x34   gt46 (Exists.intro _ ( And.intro rfl ?_))) ?_
        · simp only [↓reduceIte, Nat.reduceAdd, Nat.reduceMul, Nat.reduceSub, Nat.reduceLT, Nat.reduceLeDiff, Nat.reduceEqDiff, Nat.reducePow, Int.reducePow, Int.reduceLE, Int.reduceLT, Int.reduceEq, Int.reduceToNat, reduceCtorEq, RR, RB, RZ, RE, hl_27, h1_27, h5_27, w31, eq_true c32, wx33, w35a, w35b]
        rintro _ e _ ⟨rfl, k37, rfl, hl_38, h1_38, h5_38⟩
        obtain ⟨x47, gx47, ho⟩ := bS ho
        have wx47 := chk_w gx47
        have hE := Option.some.inj ho; subst hE
        simp only [↓reduceIte, Nat.reduceAdd, Nat.reduceMul, Nat.reduceSub, Nat.reduceLT, Nat.reduceLeDiff, Nat.reduceEqDiff, Nat.reducePow, Int.reducePow, Int.reduceLE, Int.reduceLT, Int.reduceEq, Int.reduceToNat, reduceCtorEq, RR, RB, RZ, RE, opEv, fillV, mapO, mapS, hl_38, h1_38, h5_38, eq_true c32, wx47]
        refine And.intro rfl (Exists.intro _ ( And.intro rfl ?_))
        simp only [↓reduceIte, Nat.reduceAdd, Nat.reduceMul, Nat.reduceSub, Nat.reduceLT, Nat.reduceLeDiff, Nat.reduceEqDiff, Nat.reducePow, Int.reducePow, Int.reduceLE, Int.reduceLT, Int.reduceEq, Int.reduceToNat, reduceCtorEq, RR, RB, RZ, RE, hl_38, h1_38, h5_38, eq_true c32, wx47]
      · dsimp only at ho
        have hE := Option.some.inj ho; subst hE
        simp only [↓reduceIte, Nat.reduceAdd, Nat.reduceMul, Nat.reduceSub, Nat.reduceLT, Nat.reduceLeDiff, Nat.reduceEqDiff, Nat.reducePow, Int.reducePow, Int.reduceLE, Int.reduceLT, Int.reduceEq, Int.reduceToNat, reduceCtorEq, RR, RB, RZ, RE, opEv, fillV, mapO, mapS, b42_2, hl_27, h1_27, h5_27, w31, eq_true c32, wx33, w35a, w35b]
        refine W.mono (l42_3 a0 v5_2 x34   gt46 (Exists.intro _ ( And.intro rfl ?_))) ?_
        · simp only [↓reduceIte, Nat.reduceAdd, Nat.reduceMul, Nat.reduceSub, Nat.reduceLT, Nat.reduceLeDiff, Nat.reduceEqDiff, Nat.reducePow, Int.reducePow, Int.reduceLE, Int.reduceLT, Int.reduceEq, Int.reduceToNat, reduceCtorEq, RR, RB, RZ, RE, hl_27, h1_27, h5_27, w31, eq_true c32, wx33, w35a, w35b]
        rintro _ e h ⟨rfl, hq⟩
        simp only [↓reduceIte, Nat.reduceAdd, Nat.reduceMul, Nat.reduceSub, Nat.reduceLT, Nat.reduceLeDiff, Nat.reduceEqDiff, Nat.reducePow, Int.reducePow, Int.reduceLE, Int.reduceLT, Int.reduceEq, Int.reduceToNat, reduceCtorEq, RR, RB]
        intro ht; subst ht
        simp only [↓reduceIte, Nat.reduceAdd, Nat.reduceMul, Nat.reduceSub, Nat.reduceLT, Nat.reduceLeDiff, Nat.reduceEqDiff, Nat.reducePow, Int.reducePow, Int.reduceLE, Int.reduceLT, Int.reduceEq, Int.reduceToNat, reduceCtorEq, RR, RB]
        exact And.intro rfl hq
    · rw [if_neg c32] at ho
      have hE := Option.some.inj ho; subst hE
      simp only [↓reduceIte, Nat.reduceAdd, Nat.reduceMul, Nat.reduceSub, Nat.reduceLT, Nat.reduceLeDiff, Nat.reduceEqDiff, Nat.reducePow, Int.reducePow, Int.reduceLE, Int.reduceLT, Int.reduceEq, Int.reduceToNat, reduceCtorEq, RR, RB, RZ, RE, opEv, fillV, mapO, mapS, b42_2, hl_27, h1_27, h5_27, w31, eq_false c32]
      intro ht; subst ht
      simp only [↓reduceIte, Nat.reduceAdd, Nat.reduceMul, Nat.reduceSub, Nat.reduceLT, Nat.reduceLeDiff, Nat.reduceEqDiff, Nat.reducePow, Int.reducePow, Int.reduceLE, Int.reduceLT, Int.reduceEq, Int.reduceToNat, reduceCtorEq, RR, RB]
      refine And.intro rfl (Exists.intro _ ( And.intro rfl ?_))
      simp only [↓reduceIte, Nat.reduceAdd, Nat.reduceMul, Nat.reduceSub, Nat.reduceLT, Nat.reduceLeDiff, Nat.reduceEqDiff, Nat.reducePow, Int.reducePow, Int.reduceLE, Int.reduceLT, Int.reduceEq, Int.reduceToNat, reduceCtorEq, RR, RB, RZ, RE, hl_27, h1_27, h5_27, w31, eq_false c32]
theorem s42 (a0 : GComplex)   {r : Bool} (hF : F42 a0 = some r) : ans A 42 [V.agg [V.int .i64 a0.Prime, V.isl (List.map Enc.enc a0.Dims), V.isl (List.map Enc.enc a0.Maps)]] = some (Enc.enc r) := by
  refine ans_of (f := p42) rfl rfl rfl fun e hl he => ?_
  have h0_0 : e.at 0 = V.agg [V.int .i64 a0.Prime, V.isl (List.map Enc.enc a0.Dims), V.isl (List.map Enc.enc a0.Maps)] := he 0 _ rfl
  have hl_0 : e.length = 86 := hl
  clear he hl
  show W A b42 e ⟨[], 0⟩ _
  unfold F42 at hF
  obtain ⟨x1, gx1, hF⟩ := bS hF
  have w2 : ans A 67 [V.int .i64 a0.Prime] = some (V.bool x1) := s67 a0.Prime  gx1
  cases x1 with
  | true =>
    rw [if_pos rfl] at hF
    obtain ⟨x3, gx3, hF⟩ := bS hF
    have w4 : ans A 86 [V.agg [V.int .i64 a0.Prime, V.isl (List.map Enc.enc a0.Dims), V.isl (List.map Enc.enc a0.Maps)]] = some (V.int .i64 x3) := s86 a0  gx3
    obtain ⟨x5, gx5, hF⟩ := bS hF
    have w6 : ans A 56 [V.int .i64 x3, V.int .i64 0, V.int .i64 5] = some (V.bool x5) := s56 x3 0 5  gx5
    cases x5 with
    | true =>
      rw [if_pos rfl] at hF
      have w8 : ans A 87 [V.isl (List.map Enc.enc a0.Maps)] = some (V.int .i64 (a0.Maps.length : Int)) := s87 a0.Maps  rfl
      by_cases c9 : (a0.Maps.length : Int) = x3
      · rw [if_pos c9] at hF
        obtain ⟨x10, gx10, hF⟩ := bS hF
        have w11 : ans A 82 [V.isl (List.map Enc.enc a0.Dims), V.fn 88 [] []] = some (V.bool x10) := s82 a0.Dims (fun x => F88 x) (Clo1.of (by intro h f; simp only [RZ, mapO]) (by intro h f; simp only [RZ, mapO]) (by intro f; simp only [RZ, RB]) (by intro f; simp only [RZ, RB]) (fun x _ hr => s88 x hr)) gx10
        cases x10 with
        | true =>
          rw [if_pos rfl] at hF
          have hE := Option.some.inj hF; subst hE
          simp only [↓reduceIte, Nat.reduceAdd, Nat.reduceMul, Nat.reduceSub, Nat.reduceLT, Nat.reduceLeDiff, Nat.reduceEqDiff, Nat.reducePow, Int.reducePow, Int.reduceLE, Int.reduceLT, Int.reduceEq, Int.reduceToNat, reduceCtorEq, RR, RB, RZ, RE, opEv, fillV, mapO, mapS, b42, hl_0, h0_0, w2, w4, w6, w8, eq_true c9, w11]
          exact fin_ret (by simp only [↓reduceIte, Nat.reduceAdd, Nat.reduceMul, Nat.reduceSub, Nat.reduceLT, Nat.reduceLeDiff, Nat.reduceEqDiff, Nat.reducePow, Int.reducePow, Int.reduceLE, Int.reduceLT, Int.reduceEq, Int.reduceToNat, reduceCtorEq, RR, RB, RZ, RE, fn_out, p42, Rs.ev, mapO, mapS, take_len_self, hl_0, h0_0, w2, w4, w6, w8, eq_true c9, w11])
        | false =>
          rw [if_neg Bool.false_ne_true] at hF
          obtain ⟨t26, gt26, hF⟩ := bS hF
          rcases t26 with _ | r51
          · dsimp only at hF
            simp only [↓reduceIte, Nat.reduceAdd, Nat.reduceMul, Nat.reduceSub, Nat.reduceLT, Nat.reduceLeDiff, Nat.reduceEqDiff, Nat.reducePow, Int.reducePow, Int.reduceLE, Int.reduceLT, Int.reduceEq, Int.reduceToNat, reduceCtorEq, RR, RB, RZ, RE, opEv, fillV, mapO, mapS, b42, hl_0, h0_0, w2, w4, w6, w8, eq_true c9, w11]
            refine W.mono (l42_1 a0   gt26 (Exists.intro _ ( And.intro rfl ?_))) ?_
            · simp only [↓reduceIte, Nat.reduceAdd, Nat.reduceMul, Nat.reduceSub, Nat.reduceLT, Nat.reduceLeDiff, Nat.reduceEqDiff, Nat.reducePow, Int.reducePow, Int.reduceLE, Int.reduceLT, Int.reduceEq, Int.reduceToNat, reduceCtorEq, RR, RB, RZ, RE, hl_0, h0_0, w2, w4, w6, w8, eq_true c9, w11]
            rintro _ e _ ⟨rfl, k13, rfl, hl_14, h1_14⟩
            obtain ⟨t49, gt49, hF⟩ := bS hF
            rcases t49 with _ | r50
            · dsimp only at hF
              simp only [↓reduceIte, Nat.reduceAdd, Nat.reduceMul, Nat.reduceSub, Nat.reduceLT, Nat.reduceLeDiff, Nat.reduceEqDiff, Nat.reducePow, Int.reducePow, Int.reduceLE, Int.reduceLT, Int.reduceEq, Int.reduceToNat, reduceCtorEq, RR, RB, RZ, RE, opEv, fillV, mapO, mapS, hl_14, h1_14, eq_true c9]
              refine W.mono (l42_2 a0   gt49 (Exists.intro _ ( And.intro rfl ?_))) ?_
              · simp only [↓reduceIte, Nat.reduceAdd, Nat.reduceMul, Nat.reduceSub, Nat.reduceLT, Nat.reduceLeDiff, Nat.reduceEqDiff, Nat.reducePow, Int.reducePow, Int.reduceLE, Int.reduceLT, Int.reduceEq, Int.reduceToNat, reduceCtorEq, RR, RB, RZ, RE, hl_14, h1_14, eq_true c9]
              rintro _ e _ ⟨rfl, k28, rfl, hl_29⟩
              have hE := Option.some.inj hF; subst hE
              simp only [↓reduceIte, Nat.reduceAdd, Nat.reduceMul, Nat.reduceSub, Nat.reduceLT, Nat.reduceLeDiff, Nat.reduceEqDiff, Nat.reducePow, Int.reducePow, Int.reduceLE, Int.reduceLT, Int.reduceEq, Int.reduceToNat, reduceCtorEq, RR, RB, RZ, RE, opEv, fillV, mapO, mapS, hl_29, eq_true c9]
              exact fin_ret (by simp only [↓reduceIte, Nat.reduceAdd, Nat.reduceMul, Nat.reduceSub, Nat.reduceLT, Nat.reduceLeDiff, Nat.reduceEqDiff, Nat.reducePow, Int.reducePow, Int.reduceLE, Int.reduceLT, Int.reduceEq, Int.reduceToNat, reduceCtorEq, RR, RB, RZ, RE, fn_out, p42, Rs.ev, mapO, mapS, take_len_self, hl_29, eq_true c9])
            · dsimp only at hF
              have hE := Option.some.inj hF; subst hE
              simp only [↓reduceIte, Nat.reduceAdd, Nat.reduceMul, Nat.reduceSub, Nat.reduceLT, Nat.reduceLeDiff, Nat.reduceEqDiff, Nat.reducePow, Int.reducePow, Int.reduceLE, Int.reduceLT, Int.reduceEq, Int.reduceToNat, reduceCtorEq, RR, RB, RZ, RE, opEv, fillV, mapO, mapS, hl_14, h1_14, eq_true c9]
              refine W.mono (l42_2 a0   gt49 (Exists.intro _ ( And.intro rfl ?_))) ?_
              · simp only [↓reduceIte, Nat.reduceAdd, Nat.reduceMul, Nat.reduceSub, Nat.reduceLT, Nat.reduceLeDiff, Nat.reduceEqDiff, Nat.reducePow, Int.reducePow, Int.reduceLE, Int.reduceLT, Int.reduceEq, Int.reduceToNat, reduceCtorEq, RR, RB, RZ, RE, hl_14, h1_14, eq_true c9]
              rintro _ e h ⟨rfl, hq⟩
              simp only [↓reduceIte, Nat.reduceAdd, Nat.reduceMul, Nat.reduceSub, Nat.reduceLT, Nat.reduceLeDiff, Nat.reduceEqDiff, Nat.reducePow, Int.reducePow, Int.reduceLE, Int.reduceLT, Int.reduceEq, Int.reduceToNat, reduceCtorEq, RR, RB]
              exact hq
          · dsimp only at hF
            have hE := Option.some.inj hF; subst hE
            simp only [↓reduceIte, Nat.reduceAdd, Nat.reduceMul, Nat.reduceSub, Nat.reduceLT, Nat.reduceLeDiff, Nat.reduceEqDiff, Nat.reducePow, Int.reducePow, Int.reduceLE, Int.reduceLT, Int.reduceEq, Int.reduceToNat, reduceCtorEq, RR, RB, RZ, RE, opEv, fillV, mapO, mapS, b42, hl_0, h0_0, w2, w4, w6, w8, eq_true c9, w11]
            refine W.mono (l42_1 a0   gt26 (Exists.intro _ ( And.intro rfl ?_))) ?_
            · simp only [↓reduceIte, Nat.reduceAdd, Nat.reduceMul, Nat.reduceSub, Nat.reduceLT, Nat.reduceLeDiff, Nat.reduceEqDiff, Nat.reducePow, Int.reducePow, Int.reduceLE, Int.reduceLT, Int.reduceEq, Int.reduceToNat, reduceCtorEq, RR, RB, RZ, RE, hl_0, h0_0, w2, w4, w6, w8, eq_true c9, w11]
            rintro _ e h ⟨rfl, hq⟩
            simp only [↓reduceIte, Nat.reduceAdd, Nat.reduceMul, Nat.reduceSub, Nat.reduceLT, Nat.reduceLeDiff, Nat.reduceEqDiff, Nat.reducePow, Int.reducePow, Int.reduceLE, Int.reduceLT, Int.reduceEq, Int.reduceToNat, reduceCtorEq, RR, RB]
            exact hq
      · rw [if_neg c9] at hF
        have hE := Option.some.inj hF; subst hE
        simp only [↓reduceIte, Nat.reduceAdd, Nat.reduceMul, Nat.reduceSub, Nat.reduceLT, Nat.reduceLeDiff, Nat.reduceEqDiff, Nat.reducePow, Int.reducePow, Int.reduceLE, Int.reduceLT, Int.reduceEq, Int.reduceToNat, reduceCtorEq, RR, RB, RZ, RE, opEv, fillV, mapO, mapS, b42, hl_0, h0_0, w2, w4, w6, w8, eq_false c9]
        exact fin_ret (by simp only [↓reduceIte, Nat.reduceAdd, Nat.reduceMul, Nat.reduceSub, Nat.reduceLT, Nat.reduceLeDiff, Nat.reduceEqDiff, Nat.reducePow, Int.reducePow, Int.reduceLE, Int.reduceLT, Int.reduceEq, Int.reduceToNat, reduceCtorEq, RR, RB, RZ, RE, fn_out, p42, Rs.ev, mapO, mapS, take_len_self, hl_0, h0_0, w2, w4, w6, w8, eq_false c9])
    | false =>
      rw [if_neg Bool.false_ne_true] at hF
      have hE := Option.some.inj hF; subst hE
      simp only [↓reduceIte, Nat.reduceAdd, Nat.reduceMul, Nat.reduceSub, Nat.reduceLT, Nat.reduceLeDiff, Nat.reduceEqDiff, Nat.reducePow, Int.reducePow, Int.reduceLE, Int.reduceLT, Int.reduceEq, Int.reduceToNat, reduceCtorEq, RR, RB, RZ, RE, opEv, fillV, mapO, mapS, b42, hl_0, h0_0, w2, w4, w6]
      exact fin_ret (by simp only [↓reduceIte, Nat.reduceAdd, Nat.reduceMul, Nat.reduceSub, Nat.reduceLT, Nat.reduceLeDiff, Nat.reduceEqDiff, Nat.reducePow, Int.reducePow, Int.reduceLE, Int.reduceLT, Int.reduceEq, Int.reduceToNat, reduceCtorEq, RR, RB, RZ, RE, fn_out, p42, Rs.ev, mapO, mapS, take_len_self, hl_0, h0_0, w2, w4, w6])
  | false =>
    rw [if_neg Bool.false_ne_true] at hF
    have hE := Option.some.inj hF; subst hE
    simp only [↓reduceIte, Nat.reduceAdd, Nat.reduceMul, Nat.reduceSub, Nat.reduceLT, Nat.reduceLeDiff, Nat.reduceEqDiff, Nat.reducePow, Int.reducePow, Int.reduceLE, Int.reduceLT, Int.reduceEq, Int.reduceToNat, reduceCtorEq, RR, RB, RZ, RE, opEv, fillV, mapO, mapS, b42, hl_0, h0_0, w2]
    exact fin_ret (by simp only [↓reduceIte, Nat.reduceAdd, Nat.reduceMul, Nat.reduceSub, Nat.reduceLT, Nat.reduceLeDiff, Nat.reduceEqDiff, Nat.reducePow, Int.reducePow, Int.reduceLE, Int.reduceLT, Int.reduceEq, Int.reduceToNat, reduceCtorEq, RR, RB, RZ, RE, fn_out, p42, Rs.ev, mapO, mapS, take_len_self, hl_0, h0_0, w2])
/-! loop.example/g01273/impl.blank -/
def F74_2_B (a1 : List Int) (o1_1 : List (List (List Int))) (q2_0_1 : Int) (q2_1_1 : List Int) (v6_1 : Int) (x7 : Int) (v22_2 : Int) (o3_2 : (List (List Int))) : Option (((List (List Int))) ⊕ ((List (List Int)))) :=
  (chk (v6_1 - 1)).bind fun x13 =>
(getI a1 x13).bind fun x14 =>
(mkL 8 x14 0).bind fun l16 =>
(app 24 o3_2 [l16]).bind fun l19 =>
some (.inl l19)
def F74_2_D (a1 : List Int) (o1_1 : List (List (List Int))) (q2_0_1 : Int) (q2_1_1 : List Int) (v6_1 : Int) (x7 : Int) (v22_2 : Int) (o3_2 : (List (List Int))) : Option ((List (List Int))) :=
  some o3_2
def F74_1_B (a1 : List Int) (v6_1 : Int) (s : (List (List (List Int))) × Int × (List Int)) : Option (((List (List (List Int))) × Int × (List Int)) ⊕ ((List (List (List Int))) × Int × (List Int))) :=
  match s with
  | (o1_1, q2_0_1, q2_1_1) =>
    (getI a1 v6_1).bind fun x7 =>
    (forR 0 x7 (F74_2_B a1 o1_1 q2_0_1 q2_1_1 v6_1 x7) (F74_2_D a1 o1_1 q2_0_1 q2_1_1 v6_1 x7) ([] : (List (List Int)))).bind fun zo3_2 =>
    (app 24 o1_1 [zo3_2]).bind fun l22 =>
    some (.inl (l22, q2_0_1, q2_1_1))
def F74_1_D (a1 : List Int) (v6_1 : Int) (s : (List (List (List Int))) × Int × (List Int)) : Option ((List (List (List Int))) × Int × (List Int)) :=
  match s with
  | (o1_1, q2_0_1, q2_1_1) =>
    some (o1_1, q2_0_1, q2_1_1)
def F74 (a0 : Int) (a1 : List Int) : Option GComplex :=
  (forR 1 (a1.length : Int) (F74_1_B a1) (F74_1_D a1) ([], a0, a1)).bind fun t25 => match t25 with
    | (zo1_1, zq2_0_1, zq2_1_1) =>
      some ⟨zq2_0_1, zq2_1_1, zo1_1⟩
theorem d74 (a0 : Int) (a1 : List Int) {r : GComplex} (hF : F74 a0 a1 = some r) (E0 : List (Nat × Option (List V))) (c0 : Nat) {dk du : Nat} (hd0 : E0[dk]? = some (du, some (List.map Enc.enc a1))) : ∃ v h', res A 74 [V.int .i64 a0, V.sl dk du 0 a1.length 1] ⟨E0, c0⟩ = some (v, h') ∧ r.Prime = a0 ∧ r.Dims = a1 ∧ ∃ m K, v = V.agg [V.int .i64 r.Prime, V.sl dk du 0 a1.length 1, m] ∧ Deep.rep h' m r.Maps K ∧ (∀ k, K k → E0.length ≤ k) ∧ (∀ k, k < E0.length → h'.ents[k]? = E0[k]?) ∧ E0.length ≤ h'.ents.length := by
  have hdk : dk < E0.length := (List.getElem?_eq_some_iff.1 hd0).1
  refine res_dp (f := p74) rfl rfl rfl fun e hl he => ?_
  have h0_0 : e.at 0 = V.int .i64 a0 := he 0 _ rfl
  have h1_0 : e.at 1 = V.sl dk du 0 a1.length 1 := he 1 _ rfl
  have hl_0 : e.length = 41 := hl
  clear he hl
  show W A b74 e ⟨E0, c0⟩ _
  unfold F74 at hF
  obtain ⟨t13, gt13, hF⟩ := bS hF
  have ws : ans A 73 [V.isl (List.map Enc.enc a1)] = some (V.int .i64 (a1.length : Int)) := s73 a1 rfl
  simp only [↓reduceIte, Nat.reduceAdd, Nat.reduceMul, Nat.reduceSub, Nat.reduceLT, Nat.reduceLeDiff, Nat.reduceEqDiff, Nat.reducePow, Int.reducePow, Int.reduceLE, Int.reduceLT, Int.reduceEq, Int.reduceToNat, reduceCtorEq, RR, RB, RZ, RE, opEv, fillV, mapO, mapS, b74, hl_0, h0_0, h1_0, le1, get_last, ge2a, ge2b, ge3a, ge3b, ge3c, se2a, se2b, se3a, se3b, se3c, set_last]
  show W A (.block 0 (.loop true b74_1)) _ _ _
  rw [W_block]
  refine W_forR gt13 _ rfl (fun i s e h => s.2 = (a0, a1) ∧ ∃ u vs K, h.ents[E0.length]? = some (c0, some [V.int .i64 0, V.nils, V.nils]) ∧ h.ents[E0.length + 1]? = some (u, some vs) ∧ h.ents[E0.length + 2]? = some (c0 + 2, some [V.int .i64 a0, V.sl dk du 0 a1.length 1, V.sl (E0.length + 1) u 0 s.1.length 1]) ∧ reps h vs s.1 K ∧ (∀ k, K k → E0.length + 3 ≤ k) ∧ (∀ k, k < E0.length → h.ents[k]? = E0[k]?) ∧ e.length = 41 ∧ e.at 1 = V.sl dk du 0 a1.length 1 ∧ e.at 4 = V.ptr E0.length c0 0 ∧ e.at 5 = V.ptr (E0.length + 2) (c0 + 2) 0 ∧ e.at 6 = V.int .i64 i) ?_ ?_ ?_
  · refine ⟨rfl, c0 + 1, [], fun _ => False, ge3a .., ge3b .., ge3c .., fun _ x => x, fun _ x => x.elim, fun k q => ?_, ?_⟩
    · rw [List.append_assoc, List.append_assoc]; exact List.getElem?_append_left q
    simp only [↓reduceIte, Nat.reduceAdd, Nat.reduceMul, Nat.reduceSub, Nat.reduceLT, Nat.reduceLeDiff, Nat.reduceEqDiff, Nat.reducePow, Int.reducePow, Int.reduceLE, Int.reduceLT, Int.reduceEq, Int.reduceToNat, reduceCtorEq, RR, RB, RZ, RE, hl_0, h0_0, h1_0]
  · clear hl_0 h0_0 h1_0
    rintro i ⟨l, q⟩ e ⟨E, c⟩ ⟨rfl, u, vs, K, g1, g2, g3, g4, g5, g6, hl_1, h1_1, h4_1, h5_1, h6_1⟩ hlt hw o ho
    unfold F74_1_B at ho
    simp only at ho g1 g2 g3 g4 g6
    have hDd : E[dk]? = some (du, some (List.map Enc.enc a1)) := (g6 dk hdk).trans hd0
    have wfz : frz ⟨E, c⟩ 16 (V.sl dk du 0 a1.length 1) = _ := frz_row hDd
    obtain ⟨x7, gx7, ho⟩ := bS ho
    obtain ⟨w8a, w8b⟩ := getI_w gx7
    have w8c := getI_lt gx7
    have w8d : ofCells none (List.drop (Int.toNat i) (List.map Enc.enc a1)) = some (V.int .i64 x7) := ofCells_drop (by rw [List.getElem?_map, w8b]; rfl)
    have hDx : ∀ x, (E ++ [x])[dk]? = some (du, some (List.map Enc.enc a1)) := fun x => (List.getElem?_append_left (List.getElem?_eq_some_iff.1 hDd).1).trans hDd
    obtain ⟨rows, gt20, ho⟩ := bS ho
    obtain ⟨l22, gl22, ho⟩ := bS ho
    obtain ⟨q1, q2, rfl⟩ := app_w gl22
    have hE := Option.some.inj ho; subst hE
    have hE0 : E0.length + 2 < E.length := (List.getElem?_eq_some_iff.1 g3).1
    simp only [↓reduceIte, Nat.reduceAdd, Nat.reduceMul, Nat.reduceSub, Nat.reduceLT, Nat.reduceLeDiff, Nat.reduceEqDiff, Nat.reducePow, Int.reducePow, Int.reduceLE, Int.reduceLT, Int.reduceEq, Int.reduceToNat, reduceCtorEq, RR, RB, RZ, RE, opEv, fillV, mapO, mapS, b74_1, hl_1, h1_1, h4_1, h5_1, h6_1, eq_true hlt, hw, ws, wfz, w8a, eq_true w8c, w8d, hDd, hDx]
    refine W.mono (Q := fun x' e h => x' = .normal ∧ ∃ u' vs' K', h.ents[E.length]? = some (u', some vs') ∧ reps h vs' rows K' ∧ (∀ k, K' k → E.length + 1 ≤ k) ∧ (∀ k, k < E.length → h.ents[k]? = E[k]?) ∧ e.length = 41 ∧ e.at 1 = V.sl dk du 0 a1.length 1 ∧ e.at 4 = V.ptr E0.length c0 0 ∧ e.at 5 = V.ptr (E0.length + 2) (c0 + 2) 0 ∧ e.at 6 = V.int .i64 i ∧ e.at 7 = V.sl E.length u' 0 rows.length 1) ?_ ?_
    rotate_left
    · rintro _ e ⟨E1, c1⟩ ⟨rfl, u', vs', K', f1, f2, f3, f4, hl_2, h1_2, h4_2, h5_2, h6_2, h7_2⟩
      simp only at f1 f4
      have hln := g4.len
      have hE1 : E.length < E1.length := (List.getElem?_eq_some_iff.1 f1).1
      have m0 := (f4 E0.length (by omega)).trans g1
      have m1 := (f4 (E0.length + 1) (by omega)).trans g2
      have m2 := (f4 (E0.length + 2) (by omega)).trans g3
      have n2 : ∀ y, (E1 ++ [y])[E0.length + 2]? = _ := fun y => (List.getElem?_append_left (by omega)).trans m2
      have n2' : ∀ y z, ((E1 ++ [y]).set (E0.length + 1) z)[E0.length + 2]? = _ := fun y z => (set_app_new (by omega) (by omega)).trans m2
      have w9 : ∀ y c', appendV 1 24 (.sl (E0.length + 1) u 0 l.length 1) 1 [V.sl E.length u' 0 rows.length 1] ⟨E1 ++ [y], c'⟩ = _ := fun y c' => appendV_deep (E := E1 ++ [y]) (vs := vs) (by rw [List.getElem?_append_left (by omega)]; exact m1) hln (by simpa using q1) (by simpa using q2)
      simp only [↓reduceIte, Nat.reduceAdd, Nat.reduceMul, Nat.reduceSub, Nat.reduceLT, Nat.reduceLeDiff, Nat.reduceEqDiff, Nat.reducePow, Int.reducePow, Int.reduceLE, Int.reduceLT, Int.reduceEq, Int.reduceToNat, reduceCtorEq, RR, RB, RZ, RE, opEv, fillV, mapO, mapS, hl_2, h1_2, h4_2, h5_2, h6_2, h7_2, hw, m2, n2, n2', get_last, w9]
      have r0 : Deep.rep ⟨E1, c1⟩ (V.sl E.length u' 0 rows.length 1) rows (fun k => k = E.length ∨ K' k) := rep_at f1 f2 (fun q => by have := f3 _ q; omega)
      have hk : ∀ k, K k ∨ (k = E.length ∨ K' k) → E0.length + 3 ≤ k := fun k q => q.elim (g5 k) (fun q => q.elim (fun q => by omega) (fun q => by have := f3 k q; omega))
      have r1 := deep_round (h := ⟨E, c⟩) (h1 := ⟨E1, c1⟩) (h2 := ⟨((E1 ++ [(c1, some [V.sl E.length u' 0 rows.length 1])]).set (E0.length + 1) (c1 + 1, some (vs ++ [V.sl E.length u' 0 rows.length 1]))).set (E0.length + 2) (c0 + 2, some [V.int .i64 a0, V.sl dk du 0 a1.length 1, V.sl (E0.length + 1) (c1 + 1) 0 (l.length + 1) 1]), c1 + 1 + 1⟩) (K := K) g4
        r0 (fun k q => q.elim (fun q => by show E.length ≤ k; omega) (fun q => by have := f3 k q; show E.length ≤ k; omega)) f4 (fun k p q => by
          have := hk k q
          rw [set_ne (by omega)]
          exact set_app_new (by omega) p) (by show E.length ≤ E1.length; omega)
      refine And.intro rfl (And.intro rfl ⟨c1 + 1, vs ++ [V.sl E.length u' 0 rows.length 1], _, ?_, ?_, ?_, r1, hk, fun k q => ?_, ?_⟩)
      · exact (set_ne (by omega)).trans ((set_app_new (by omega) (by omega)).trans m0)
      · exact (set_ne (by omega)).trans (set_app_key (by simp; omega))
      · simp only [List.length_append, List.length_cons, List.length_nil, Nat.zero_add]
        exact set_app_key (by simp; omega)
      · exact (set_ne (by omega)).trans ((set_app_new (by omega) (by omega)).trans ((f4 k (by omega)).trans (g6 k q)))
      · simp only [↓reduceIte, Nat.reduceAdd, Nat.reduceMul, Nat.reduceSub, Nat.reduceLT, Nat.reduceLeDiff, Nat.reduceEqDiff, Nat.reducePow, Int.reducePow, Int.reduceLE, Int.reduceLT, Int.reduceEq, Int.reduceToNat, reduceCtorEq, RR, RB, RZ, RE, hl_2, h1_2, h4_2, h5_2, h6_2, h7_2, hw]
    show W A (.block 2 (.loop true b74_2)) _ _ _
    rw [W_block]
    refine W_forR gt20 _ rfl (fun j rs e h => ∃ u' vs' K', h.ents[E.length]? = some (u', some vs') ∧ reps h vs' rs K' ∧ (∀ k, K' k → E.length + 1 ≤ k) ∧ (∀ k, k < E.length → h.ents[k]? = E[k]?) ∧ e.length = 41 ∧ e.at 1 = V.sl dk du 0 a1.length 1 ∧ e.at 4 = V.ptr E0.length c0 0 ∧ e.at 5 = V.ptr (E0.length + 2) (c0 + 2) 0 ∧ e.at 6 = V.int .i64 i ∧ e.at 7 = V.sl E.length u' 0 rs.length 1 ∧ e.at 21 = V.int .i64 x7 ∧ e.at 22 = V.int .i64 j) ?_ ?_ ?_
    · refine ⟨c, [], fun _ => False, get_last _ _, fun _ x => x, fun _ x => x.elim, fun k q => List.getElem?_append_left q, ?_⟩
      simp only [↓reduceIte, Nat.reduceAdd, Nat.reduceMul, Nat.reduceSub, Nat.reduceLT, Nat.reduceLeDiff, Nat.reduceEqDiff, Nat.reducePow, Int.reducePow, Int.reduceLE, Int.reduceLT, Int.reduceEq, Int.reduceToNat, reduceCtorEq, RR, RB, RZ, RE, hl_1, h1_1, h4_1, h5_1, h6_1]
    · clear hl_1 h1_1 h4_1 h5_1 h6_1
      rintro j rs e ⟨E1, c1⟩ ⟨u', vs', K', f1, f2, f3, f4, hl_1, h1_1, h4_1, h5_1, h6_1, h7_1, h21_1, h22_1⟩ hlt2 hw2 o ho
      unfold F74_2_B at ho
      obtain ⟨x13, gx13, ho⟩ := bS ho
      have wx13 := chk_w gx13
      obtain ⟨x14, gx14, ho⟩ := bS ho
      obtain ⟨w15a, w15b⟩ := getI_w gx14
      have w15c := getI_lt gx14
      have w15d : ofCells none (List.drop (Int.toNat x13) (List.map Enc.enc a1)) = some (V.int .i64 x14) := ofCells_drop (by rw [List.getElem?_map, w15b]; rfl)
      obtain ⟨l16, gl16, ho⟩ := bS ho
      obtain ⟨w17a, w17b, w17c, w17d, w17e⟩ := mkL_w gl16
      replace w17e : (List.replicate (Int.toNat x14) [V.int .i64 0]).flatten = List.map Enc.enc l16 := w17e
      obtain ⟨l19, gl19, ho⟩ := bS ho
      obtain ⟨q1, q2, rfl⟩ := app_w gl19
      have hE := Option.some.inj ho; subst hE
      simp only at f1 f4
      have hln := f2.len
      have hE1 : E.length < E1.length := (List.getElem?_eq_some_iff.1 f1).1
      have hD1 : E1[dk]? = some (du, some (List.map Enc.enc a1)) := (f4 dk (by omega)).trans hDd
      have w9 : ∀ x y c', appendV 1 24 (.sl E.length u' 0 rs.length 1) 1 [V.sl E1.length c1 0 (Int.toNat x14) 1] ⟨E1 ++ [x] ++ [y], c'⟩ = _ := fun x y c' => appendV_deep (E := E1 ++ [x] ++ [y]) (vs := vs') (by rw [List.getElem?_append_left (by simp; omega), List.getElem?_append_left hE1]; exact f1) hln (by simpa using q1) (by simpa using q2)
      simp only [↓reduceIte, Nat.reduceAdd, Nat.reduceMul, Nat.reduceSub, Nat.reduceLT, Nat.reduceLeDiff, Nat.reduceEqDiff, Nat.reducePow, Int.reducePow, Int.reduceLE, Int.reduceLT, Int.reduceEq, Int.reduceToNat, reduceCtorEq, RR, RB, RZ, RE, opEv, fillV, mapO, mapS, b74_2, hl_1, h1_1, h4_1, h5_1, h6_1, h7_1, h21_1, h22_1, eq_true hlt2, hw2, wx13, w15a, eq_true w15c, w15d, hD1, w17a, w17b, w17c, w17e, get_last, w9]
      have r0 : Deep.rep ⟨E1 ++ [(c1, some (List.map Enc.enc l16))], c1 + 1⟩ (V.sl E1.length c1 0 (Int.toNat x14) 1) l16 (fun k => k = E1.length) := by
        rw [← w17d]; exact int_row (get_last _ _) fun k => Iff.rfl
      have r1 := deep_round (h := ⟨E1, c1⟩) (h1 := ⟨E1 ++ [(c1, some (List.map Enc.enc l16))], c1 + 1⟩) (h2 := ⟨(E1 ++ [(c1, some (List.map Enc.enc l16))] ++ [(c1 + 1, some [V.sl E1.length c1 0 (Int.toNat x14) 1])]).set E.length (c1 + 1 + 1, some (vs' ++ [V.sl E1.length c1 0 (Int.toNat x14) 1])), c1 + 1 + 1 + 1⟩) f2
        r0 (fun k q => by show E1.length ≤ k; omega) (fun k q => List.getElem?_append_left q) (fun k p q => set_app_new (fun e => by subst e; exact q.elim (fun q => by have := f3 _ q; omega) (fun q => by omega)) p) (by simp)
      refine And.intro rfl ⟨_, _, _, set_app_key (by simp; omega), r1, fun k q => q.elim (f3 k) (fun q => by omega), fun k q => ?_, ?_⟩
      · refine (set_app_new (by omega) (by simp; omega)).trans ((List.getElem?_append_left (by omega)).trans (f4 k q))
      · simp only [↓reduceIte, Nat.reduceAdd, Nat.reduceMul, Nat.reduceSub, Nat.reduceLT, Nat.reduceLeDiff, Nat.reduceEqDiff, Nat.reducePow, Int.reducePow, Int.reduceLE, Int.reduceLT, Int.reduceEq, Int.reduceToNat, reduceCtorEq, RR, RB, RZ, RE, hl_1, h1_1, h4_1, h5_1, h6_1, h7_1, h21_1, h22_1, hw2, List.length_append]
    · clear hl_1 h1_1 h4_1 h5_1 h6_1
      rintro j rs e ⟨E1, c1⟩ ⟨u', vs', K', f1, f2, f3, f4, hl_1, h1_1, h4_1, h5_1, h6_1, h7_1, h21_1, h22_1⟩ hge t1 ho
      have hE := Option.some.inj ho; subst hE
      simp only [↓reduceIte, Nat.reduceAdd, Nat.reduceMul, Nat.reduceSub, Nat.reduceLT, Nat.reduceLeDiff, Nat.reduceEqDiff, Nat.reducePow, Int.reducePow, Int.reduceLE, Int.reduceLT, Int.reduceEq, Int.reduceToNat, reduceCtorEq, RR, RB, RZ, RE, opEv, fillV, mapO, mapS, b74_2, hl_1, h1_1, h4_1, h5_1, h6_1, h7_1, h21_1, h22_1, eq_false hge]
      intro ht; subst ht
      exact ⟨u', vs', K', f1, f2, f3, f4, rfl⟩
  · rintro i ⟨l, q⟩ e ⟨E, c⟩ ⟨rfl, u, vs, K, g1, g2, g3, g4, g5, g6, hl_1, h1_1, h4_1, h5_1, h6_1⟩ hge t1 ho
    unfold F74_1_D at ho
    have hE := Option.some.inj ho; subst hE
    simp only at hF g1 g2 g3 g4 g6
    have hDd : E[dk]? = some (du, some (List.map Enc.enc a1)) := (g6 dk hdk).trans hd0
    have wfz : frz ⟨E, c⟩ 16 (V.sl dk du 0 a1.length 1) = _ := frz_row hDd
    simp only [↓reduceIte, Nat.reduceAdd, Nat.reduceMul, Nat.reduceSub, Nat.reduceLT, Nat.reduceLeDiff, Nat.reduceEqDiff, Nat.reducePow, Int.reducePow, Int.reduceLE, Int.reduceLT, Int.reduceEq, Int.reduceToNat, reduceCtorEq, RR, RB, RZ, RE, opEv, fillV, mapO, mapS, b74_1, hl_1, h1_1, h4_1, h5_1, h6_1, eq_false hge, ws, wfz, g1, g2, g3]
    intro ht; subst ht
    have hE := Option.some.inj hF; subst hE
    have hE0 : E0.length + 2 < E.length := (List.getElem?_eq_some_iff.1 g3).1
    refine And.intro (fun _ => trivial) ⟨_, by simp only [↓reduceIte, Nat.reduceAdd, Nat.reduceMul, Nat.reduceSub, Nat.reduceLT, Nat.reduceLeDiff, Nat.reduceEqDiff, Nat.reducePow, Int.reducePow, Int.reduceLE, Int.reduceLT, Int.reduceEq, Int.reduceToNat, reduceCtorEq, RR, RB, RZ, RE, fn_out, p74, Rs.ev, mapO, mapS, hl_1, h4_1, set_app_key (show E0.length < E.length by omega)]; rfl, rfl, rfl, _, _, rfl, rep_at (α := List (List Int)) (K := K) ?_ (g4.frame fun k q => set_ne (by have := g5 k q; omega)) (fun q => by have := g5 _ q; omega), fun k q => q.elim (fun q => by omega) (fun q => by have := g5 k q; omega), fun k q => (set_ne (by omega)).trans (g6 k q), by simp; omega⟩
    exact (set_ne (by omega)).trans g2
/-! (loop.example/g01273/impl.Complex).addAt -/
def F75 (p : Int) (n r pl v : Int) (s : List (List (List Int))) : Option (List (List (List Int))) :=
  (chk (n - 1)).bind fun i => (getI s i).bind fun t => (getI t r).bind fun row => (getI row pl).bind fun old => (chk (old + v)).bind fun a => (remI a p).bind fun b => (chk (b + p)).bind fun d => (remI d p).bind fun z =>
  (setI row pl z).bind fun row' => (setI t r row').bind fun t' => setI s i t'
theorem d75 {p n r pl v : Int} {dv : V} {s s' : List (List (List Int))} (hF : F75 p n r pl v s = some s') (E : List (Nat × Option (List V))) (c : Nat) {m : V} {K : Ks} (hr : Deep.rep ⟨E, c⟩ m s K) :
    ∃ h', res A 75 [V.agg [V.int .i64 p, dv, m], V.int .i64 n, V.int .i64 r, V.int .i64 pl, V.int .i64 v] ⟨E, c⟩ = some (V.undef, h') ∧ Deep.rep h' m s' K ∧ (∀ k, k < E.length → ¬ K k → h'.ents[k]? = E[k]?) ∧ E.length ≤ h'.ents.length := by
  refine res_ex (f := p75) rfl rfl rfl fun e hl he => ?_
  have h0 : e.at 0 = V.agg [V.int .i64 p, dv, m] := he 0 _ rfl
  have h1 : e.at 1 = V.int .i64 n := he 1 _ rfl
  have h2 : e.at 2 = V.int .i64 r := he 2 _ rfl
  have h3 : e.at 3 = V.int .i64 pl := he 3 _ rfl
  have h4 : e.at 4 = V.int .i64 v := he 4 _ rfl
  have hl_0 : e.length = 38 := hl
  clear he hl
  show W A b75 e ⟨E, c⟩ _
  unfold F75 at hF
  obtain ⟨i, gi, hF⟩ := bS hF
  have wi := chk_w gi
  obtain ⟨t, gt, hF⟩ := bS hF
  obtain ⟨ta, tb⟩ := getI_w gt
  have tc := getI_lt gt
  obtain ⟨row, gr, hF⟩ := bS hF
  obtain ⟨ra, rb⟩ := getI_w gr
  have rc := getI_lt gr
  obtain ⟨old, go, hF⟩ := bS hF
  obtain ⟨oa, ob⟩ := getI_w go
  have oc := getI_lt go
  obtain ⟨a, ga, hF⟩ := bS hF
  have wa := chk_w ga
  obtain ⟨b, gb, hF⟩ := bS hF
  obtain ⟨wb0, wb⟩ := rem_w gb
  obtain ⟨d, gd, hF⟩ := bS hF
  have wd := chk_w gd
  obtain ⟨z, gz, hF⟩ := bS hF
  obtain ⟨_, wz⟩ := rem_w gz
  obtain ⟨row', gs, hF⟩ := bS hF
  obtain ⟨s1, s2, s3, s4, s5⟩ := setI_w gs
  obtain ⟨t', gt', hF⟩ := bS hF
  have st : t' = t.set r.toNat row' := setI_eq gt'
  have sm : s' = s.set i.toNat t' := setI_eq hF
  obtain ⟨key, uid, vs, x1, K1, hm, a1, a2, a3, a4, a5, a6⟩ := rep_focus hr tb
  obtain ⟨key2, uid2, vs2, x2, K2, hx1, b1, b2, b3, b4, b5, b6⟩ := rep_focus a4 rb
  rcases row_int b4 with ⟨_, rfl, _⟩ | ⟨key3, uid3, hx2, d1, d2⟩
  · exact absurd ob (by simp)
  have o1 := ofCells_drop a2
  have o2 := ofCells_drop b2
  have o3 : ofCells none (List.drop pl.toNat (List.map Enc.enc row)) = some (V.int .i64 old) := ofCells_drop (by rw [List.getElem?_map, ob]; rfl)
  have s5' : List.take pl.toNat (List.map Enc.enc row) ++ [V.int .i64 z] ++ List.drop (pl.toNat + 1) (List.map Enc.enc row) = List.map Enc.enc row' := s5
  simp only at a1 b1 d1
  have k1 : key < E.length := (List.getElem?_eq_some_iff.1 a1).1
  have k2 : key2 < E.length := (List.getElem?_eq_some_iff.1 b1).1
  have k3 : key3 < E.length := (List.getElem?_eq_some_iff.1 d1).1
  have p1 : ∀ x, (E ++ [x])[key]? = some (uid, some vs) := fun x => (List.getElem?_append_left k1).trans a1
  have p2 : ∀ x, (E ++ [x])[key2]? = some (uid2, some vs2) := fun x => (List.getElem?_append_left k2).trans b1
  have p3 : ∀ x, (E ++ [x])[key3]? = some (uid3, some (List.map Enc.enc row)) := fun x => (List.getElem?_append_left k3).trans d1
  simp only [↓reduceIte, Nat.reduceAdd, Nat.reduceMul, Nat.reduceSub, Nat.reduceLT, Nat.reduceLeDiff, Nat.reduceEqDiff, Nat.reducePow, Int.reducePow, Int.reduceLE, Int.reduceLT, Int.reduceEq, Int.reduceToNat, reduceCtorEq, RR, RB, RZ, RE, opEv, fillV, mapO, mapS, b75, hl_0, h0, h1, h2, h3, h4, get_last, hm, wi, ta, eq_true tc, p1, o1, hx1, ra, eq_true rc, p2, o2, hx2, oa, eq_true oc, p3, o3, wa, wb0, wb, wd, wz, s3, s5']
  rw [← hm]
  have q : ∀ k, k ≠ key3 → k < E.length → ((E ++ [(c, some [V.int .i64 p, dv, m])]).set key3 (uid3, some (List.map Enc.enc row')))[k]? = E[k]? := fun k h1 h2 => set_app_new h1 h2
  have r0 : Deep.rep ⟨(E ++ [(c, some [V.int .i64 p, dv, m])]).set key3 (uid3, some (List.map Enc.enc row')), c + 1⟩ x2 row' K2 := by
    rw [hx2, ← s4]; exact int_row (set_app_key (by simp; omega)) d2
  have r1 := b6 _ _ r0 (fun k hk nk => q k (fun e => nk ((d2 k).2 e)) (Deep.bd a4 hk))
  rw [← st] at r1
  have r2 := a6 _ _ r1 (fun k hk nk => q k (fun e => nk (b5 k ((d2 k).2 e))) (Deep.bd hr hk))
  rw [← sm] at r2
  refine And.intro (fun _ => trivial) ⟨?_, r2, fun k hk nk => q k (fun e => nk (a5 k (b5 k ((d2 k).2 e)))) hk, by simp⟩
  simp only [↓reduceIte, Nat.reduceAdd, Nat.reduceMul, Nat.reduceSub, Nat.reduceLT, Nat.reduceLeDiff, Nat.reduceEqDiff, Nat.reducePow, Int.reducePow, Int.reduceLE, Int.reduceLT, Int.reduceEq, Int.reduceToNat, reduceCtorEq, RR, RB, RZ, fn_out, p75, mapO]
  rfl
/-! (loop.example/g01273/impl.Complex).eachNumber -/
def F85 {σ : Type} (ms : List (List (List Int))) (f : Int → Int → Int → Int → σ → Option σ) (s : σ) : Option σ :=
  forR 0 (ms.length : Int) (fun k s => (getI ms k).bind fun rows => (forR 0 (rows.length : Int) (fun i s => (getI rows i).bind fun row =>
    (forR 0 (row.length : Int) (fun j s => (getI row j).bind fun v => (chk (k + 1)).bind fun n => (f n i j v s).bind fun s' => some (.inl s')) (fun _ s => some s) s).bind fun s' => some (.inl s')) (fun _ s => some s) s).bind fun s' => some (.inl s')) (fun _ s => some s) s
structure Step4 (g : Nat) (fs cs : List V) {σ : Type} (S : σ → List (Nat × Option (List V)) → Prop) (f : Int → Int → Int → Int → σ → Option σ) : Prop where
  call : ∀ n r p v s s', f n r p v s = some s' → ∀ E c, S s E → ∃ E' c', res A g (fs ++ [V.int .i64 n, V.int .i64 r, V.int .i64 p, V.int .i64 v] ++ cs) ⟨E, c⟩ = some (V.undef, ⟨E', c'⟩) ∧ S s' E'
  pad : ∀ s E x, S s E → S s (E ++ [x])

theorem e85 {g : Nat} {fs cs : List V} {σ : Type} {S : σ → List (Nat × Option (List V)) → Prop} {f : Int → Int → Int → Int → σ → Option σ} (st : Step4 g fs cs S f) (x : GComplex) {s s' : σ} (hF : F85 x.Maps f s = some s') (E : List (Nat × Option (List V))) (c : Nat) (hS : S s E) :
    ∃ h', res A 85 [V.agg [V.int .i64 x.Prime, V.isl (List.map Enc.enc x.Dims), V.isl (List.map Enc.enc x.Maps)], V.fn g fs cs] ⟨E, c⟩ = some (V.undef, h') ∧ S s' h'.ents := by
  refine res_ex (f := p85) rfl rfl rfl fun e hl he => ?_
  have h0 : e.at 0 = V.agg [V.int .i64 x.Prime, V.isl (List.map Enc.enc x.Dims), V.isl (List.map Enc.enc x.Maps)] := he 0 _ rfl
  have h1 : e.at 1 = V.fn g fs cs := he 1 _ rfl
  have hl_0 : e.length = 42 := hl
  clear he hl
  show W A b85 e ⟨E, c⟩ _
  unfold F85 at hF
  simp only [↓reduceIte, Nat.reduceAdd, Nat.reduceMul, Nat.reduceSub, Nat.reduceLT, Nat.reduceLeDiff, Nat.reduceEqDiff, Nat.reducePow, Int.reducePow, Int.reduceLE, Int.reduceLT, Int.reduceEq, Int.reduceToNat, reduceCtorEq, RR, RB, RZ, RE, opEv, fillV, mapO, mapS, b85, hl_0, h0, h1, get_last, set_last]
  show W A (.block 0 (.loop true b85_1)) _ _ _
  rw [W_block]
  refine W_forR hF _ rfl (fun i s e h => S s h.ents ∧ e.length = 42 ∧ e.at 1 = V.fn g fs cs ∧ e.at 11 = V.isl (List.map Enc.enc x.Maps) ∧ e.at 12 = V.int .i64 (x.Maps.length : Int) ∧ e.at 13 = V.int .i64 i) ?_ ?_ ?_
  · refine And.intro (st.pad _ _ _ hS) ?_
    simp only [↓reduceIte, Nat.reduceAdd, Nat.reduceMul, Nat.reduceSub, Nat.reduceLT, Nat.reduceLeDiff, Nat.reduceEqDiff, Nat.reducePow, Int.reducePow, Int.reduceLE, Int.reduceLT, Int.reduceEq, Int.reduceToNat, reduceCtorEq, RR, RB, RZ, RE, hl_0, h0, h1]
  · rintro i s e ⟨E, c⟩ ⟨hS, hl_1, h1_1, h11_1, h12_1, h13_1⟩ hlt hw o ho
    obtain ⟨rows, g1, ho⟩ := bS ho
    obtain ⟨w1a, w1b⟩ := getI_w g1
    obtain ⟨z, g2, ho⟩ := bS ho
    have hE := Option.some.inj ho; subst hE
    simp only [↓reduceIte, Nat.reduceAdd, Nat.reduceMul, Nat.reduceSub, Nat.reduceLT, Nat.reduceLeDiff, Nat.reduceEqDiff, Nat.reducePow, Int.reducePow, Int.reduceLE, Int.reduceLT, Int.reduceEq, Int.reduceToNat, reduceCtorEq, RR, RB, RZ, RE, opEv, fillV, mapO, mapS, b85_1, hl_1, h1_1, h11_1, h12_1, h13_1, eq_true hlt, hw, w1a, w1b]
    refine W.mono (Q := fun x' e h => x' = .normal ∧ S z h.ents ∧ e.length = 42 ∧ e.at 1 = V.fn g fs cs ∧ e.at 11 = V.isl (List.map Enc.enc x.Maps) ∧ e.at 12 = V.int .i64 (x.Maps.length : Int) ∧ e.at 13 = V.int .i64 i) ?_ ?_
    rotate_left
    · rintro _ e ⟨E2, c2⟩ ⟨rfl, hS2, hl_2, h1_2, h11_2, h12_2, h13_2⟩
      simp only [↓reduceIte, Nat.reduceAdd, Nat.reduceMul, Nat.reduceSub, Nat.reduceLT, Nat.reduceLeDiff, Nat.reduceEqDiff, Nat.reducePow, Int.reducePow, Int.reduceLE, Int.reduceLT, Int.reduceEq, Int.reduceToNat, reduceCtorEq, RR, RB, RZ, RE, opEv, fillV, mapO, mapS, hl_2, h1_2, h11_2, h12_2, h13_2, hw]
      refine And.intro rfl (And.intro hS2 ?_)
      simp only [↓reduceIte, Nat.reduceAdd, Nat.reduceMul, Nat.reduceSub, Nat.reduceLT, Nat.reduceLeDiff, Nat.reduceEqDiff, Nat.reducePow, Int.reducePow, Int.reduceLE, Int.reduceLT, Int.reduceEq, Int.reduceToNat, reduceCtorEq, RR, RB, RZ, RE, hl_2, h1_2, h11_2, h12_2, h13_2, hw]
    show W A (.block 2 (.loop true b85_2)) _ _ _
    rw [W_block]
    refine W_forR g2 _ rfl (fun j s e h => S s h.ents ∧ e.length = 42 ∧ e.at 1 = V.fn g fs cs ∧ e.at 11 = V.isl (List.map Enc.enc x.Maps) ∧ e.at 12 = V.int .i64 (x.Maps.length : Int) ∧ e.at 13 = V.int .i64 i ∧ e.at 4 = V.int .i64 i ∧ e.at 18 = V.isl (List.map Enc.enc rows) ∧ e.at 19 = V.int .i64 (rows.length : Int) ∧ e.at 20 = V.int .i64 j) ?_ ?_ ?_
    · refine And.intro hS ?_
      simp only [↓reduceIte, Nat.reduceAdd, Nat.reduceMul, Nat.reduceSub, Nat.reduceLT, Nat.reduceLeDiff, Nat.reduceEqDiff, Nat.reducePow, Int.reducePow, Int.reduceLE, Int.reduceLT, Int.reduceEq, Int.reduceToNat, reduceCtorEq, RR, RB, RZ, RE, hl_1, h1_1, h11_1, h12_1, h13_1]
    · clear hl_1 h1_1 h11_1 h12_1 h13_1
      rintro j s e ⟨E, c⟩ ⟨hS, hl_1, h1_1, h11_1, h12_1, h13_1, h4_1, h18_1, h19_1, h20_1⟩ hlt2 hw2 o ho
      obtain ⟨row, g3, ho⟩ := bS ho
      obtain ⟨w3a, w3b⟩ := getI_w g3
      obtain ⟨z2, g4, ho⟩ := bS ho
      have hE := Option.some.inj ho; subst hE
      simp only [↓reduceIte, Nat.reduceAdd, Nat.reduceMul, Nat.reduceSub, Nat.reduceLT, Nat.reduceLeDiff, Nat.reduceEqDiff, Nat.reducePow, Int.reducePow, Int.reduceLE, Int.reduceLT, Int.reduceEq, Int.reduceToNat, reduceCtorEq, RR, RB, RZ, RE, opEv, fillV, mapO, mapS, b85_2, hl_1, h1_1, h11_1, h12_1, h13_1, h4_1, h18_1, h19_1, h20_1, eq_true hlt2, hw2, w3a, w3b]
      refine W.mono (Q := fun x' e h => x' = .normal ∧ S z2 h.ents ∧ e.length = 42 ∧ e.at 1 = V.fn g fs cs ∧ e.at 11 = V.isl (List.map Enc.enc x.Maps) ∧ e.at 12 = V.int .i64 (x.Maps.length : Int) ∧ e.at 13 = V.int .i64 i ∧ e.at 4 = V.int .i64 i ∧ e.at 18 = V.isl (List.map Enc.enc rows) ∧ e.at 19 = V.int .i64 (rows.length : Int) ∧ e.at 20 = V.int .i64 j) ?_ ?_
      rotate_left
      · rintro _ e ⟨E2, c2⟩ ⟨rfl, hS2, hl_2, h1_2, h11_2, h12_2, h13_2, h4_2, h18_2, h19_2, h20_2⟩
        simp only [↓reduceIte, Nat.reduceAdd, Nat.reduceMul, Nat.reduceSub, Nat.reduceLT, Nat.reduceLeDiff, Nat.reduceEqDiff, Nat.reducePow, Int.reducePow, Int.reduceLE, Int.reduceLT, Int.reduceEq, Int.reduceToNat, reduceCtorEq, RR, RB, RZ, RE, opEv, fillV, mapO, mapS, hl_2, h1_2, h11_2, h12_2, h13_2, h4_2, h18_2, h19_2, h20_2, hw2]
        refine And.intro rfl (And.intro hS2 ?_)
        simp only [↓reduceIte, Nat.reduceAdd, Nat.reduceMul, Nat.reduceSub, Nat.reduceLT, Nat.reduceLeDiff, Nat.reduceEqDiff, Nat.reducePow, Int.reducePow, Int.reduceLE, Int.reduceLT, Int.reduceEq, Int.reduceToNat, reduceCtorEq, RR, RB, RZ, RE, hl_2, h1_2, h11_2, h12_2, h13_2, h4_2, h18_2, h19_2, h20_2, hw2]
      show W A (.block 4 (.loop true b85_3)) _ _ _
      rw [W_block]
      refine W_forR g4 _ rfl (fun k s e h => S s h.ents ∧ e.length = 42 ∧ e.at 1 = V.fn g fs cs ∧ e.at 11 = V.isl (List.map Enc.enc x.Maps) ∧ e.at 12 = V.int .i64 (x.Maps.length : Int) ∧ e.at 13 = V.int .i64 i ∧ e.at 4 = V.int .i64 i ∧ e.at 18 = V.isl (List.map Enc.enc rows) ∧ e.at 19 = V.int .i64 (rows.length : Int) ∧ e.at 20 = V.int .i64 j ∧ e.at 6 = V.int .i64 j ∧ e.at 25 = V.isl (List.map Enc.enc row) ∧ e.at 26 = V.int .i64 (row.length : Int) ∧ e.at 27 = V.int .i64 k) ?_ ?_ ?_
      · refine And.intro hS ?_
        simp only [↓reduceIte, Nat.reduceAdd, Nat.reduceMul, Nat.reduceSub, Nat.reduceLT, Nat.reduceLeDiff, Nat.reduceEqDiff, Nat.reducePow, Int.reducePow, Int.reduceLE, Int.reduceLT, Int.reduceEq, Int.reduceToNat, reduceCtorEq, RR, RB, RZ, RE, hl_1, h1_1, h11_1, h12_1, h13_1, h4_1, h18_1, h19_1, h20_1]
      · clear hl_1 h1_1 h11_1 h12_1 h13_1 h4_1 h18_1 h19_1 h20_1
        rintro k s e ⟨E, c⟩ ⟨hS, hl_1, h1_1, h11_1, h12_1, h13_1, h4_1, h18_1, h19_1, h20_1, h6_1, h25_1, h26_1, h27_1⟩ hlt3 hw3 o ho
        obtain ⟨v, g5, ho⟩ := bS ho
        obtain ⟨w5a, w5b⟩ := getI_w g5
        obtain ⟨n, g6, ho⟩ := bS ho
        have w6 := chk_w g6
        obtain ⟨s2, g7, ho⟩ := bS ho
        have hE := Option.some.inj ho; subst hE
        obtain ⟨E2, c2, hr, hS2⟩ := st.call _ _ _ _ _ _ g7 E c hS
        simp only [↓reduceIte, Nat.reduceAdd, Nat.reduceMul, Nat.reduceSub, Nat.reduceLT, Nat.reduceLeDiff, Nat.reduceEqDiff, Nat.reducePow, Int.reducePow, Int.reduceLE, Int.reduceLT, Int.reduceEq, Int.reduceToNat, reduceCtorEq, RR, RB, RZ, RE, opEv, fillV, mapO, mapS, b85_3, hl_1, h1_1, h11_1, h12_1, h13_1, h4_1, h18_1, h19_1, h20_1, h6_1, h25_1, h26_1, h27_1, eq_true hlt3, hw3, w5a, w5b, w6, callM_plain_eq, List.append_assoc] at hr ⊢
        simp only [↓reduceIte, Nat.reduceAdd, Nat.reduceMul, Nat.reduceSub, Nat.reduceLT, Nat.reduceLeDiff, Nat.reduceEqDiff, Nat.reducePow, Int.reducePow, Int.reduceLE, Int.reduceLT, Int.reduceEq, Int.reduceToNat, reduceCtorEq, RR, RB, RZ, RE, opEv, fillV, mapO, mapS, hr, hl_1, h1_1, h11_1, h12_1, h13_1, h4_1, h18_1, h19_1, h20_1, h6_1, h25_1, h26_1, h27_1, eq_true hlt3, hw3]
        refine And.intro rfl (And.intro hS2 ?_)
        simp only [↓reduceIte, Nat.reduceAdd, Nat.reduceMul, Nat.reduceSub, Nat.reduceLT, Nat.reduceLeDiff, Nat.reduceEqDiff, Nat.reducePow, Int.reducePow, Int.reduceLE, Int.reduceLT, Int.reduceEq, Int.reduceToNat, reduceCtorEq, RR, RB, RZ, RE, hl_1, h1_1, h11_1, h12_1, h13_1, h4_1, h18_1, h19_1, h20_1, h6_1, h25_1, h26_1, h27_1, hw3]
      · clear hl_1 h1_1 h11_1 h12_1 h13_1 h4_1 h18_1 h19_1 h20_1
        rintro k s e ⟨E, c⟩ ⟨hS, hl_1, h1_1, h11_1, h12_1, h13_1, h4_1, h18_1, h19_1, h20_1, h6_1, h25_1, h26_1, h27_1⟩ hge t1 ho
        have hE := Option.some.inj ho; subst hE
        simp only [↓reduceIte, Nat.reduceAdd, Nat.reduceMul, Nat.reduceSub, Nat.reduceLT, Nat.reduceLeDiff, Nat.reduceEqDiff, Nat.reducePow, Int.reducePow, Int.reduceLE, Int.reduceLT, Int.reduceEq, Int.reduceToNat, reduceCtorEq, RR, RB, RZ, RE, opEv, fillV, mapO, mapS, b85_3, hl_1, h1_1, h11_1, h12_1, h13_1, h4_1, h18_1, h19_1, h20_1, h6_1, h25_1, h26_1, h27_1, eq_false hge]
        intro ht; subst ht
        exact hS
    · clear hl_1 h1_1 h11_1 h12_1 h13_1
      rintro j s e ⟨E, c⟩ ⟨hS, hl_1, h1_1, h11_1, h12_1, h13_1, h4_1, h18_1, h19_1, h20_1⟩ hge t1 ho
      have hE := Option.some.inj ho; subst hE
      simp only [↓reduceIte, Nat.reduceAdd, Nat.reduceMul, Nat.reduceSub, Nat.reduceLT, Nat.reduceLeDiff, Nat.reduceEqDiff, Nat.reducePow, Int.reducePow, Int.reduceLE, Int.reduceLT, Int.reduceEq, Int.reduceToNat, reduceCtorEq, RR, RB, RZ, RE, opEv, fillV, mapO, mapS, b85_2, hl_1, h1_1, h11_1, h12_1, h13_1, h4_1, h18_1, h19_1, h20_1, eq_false hge]
      intro ht; subst ht
      exact hS
  · rintro i s e ⟨E, c⟩ ⟨hS, hl_1, h1_1, h11_1, h12_1, h13_1⟩ hge t1 ho
    have hE := Option.some.inj ho; subst hE
    simp only [↓reduceIte, Nat.reduceAdd, Nat.reduceMul, Nat.reduceSub, Nat.reduceLT, Nat.reduceLeDiff, Nat.reduceEqDiff, Nat.reducePow, Int.reducePow, Int.reduceLE, Int.reduceLT, Int.reduceEq, Int.reduceToNat, reduceCtorEq, RR, RB, RZ, RE, opEv, fillV, mapO, mapS, b85_1, hl_1, h1_1, h11_1, h12_1, h13_1, eq_false hge]
    intro ht; subst ht
    refine And.intro (fun i => by simp only [ne_eq, reduceCtorEq, not_false_eq_true]) (And.intro ?_ hS)
    simp only [↓reduceIte, Nat.reduceAdd, Nat.reduceMul, Nat.reduceSub, Nat.reduceLT, Nat.reduceLeDiff, Nat.reduceEqDiff, Nat.reducePow, Int.reducePow, Int.reduceLE, Int.reduceLT, Int.reduceEq, Int.reduceToNat, reduceCtorEq, RR, RB, RZ, fn_out, p85, mapO]
    rfl
/-! slices.Clone(()int64,int64) -/
def F96 (a0 : List Int) : Option (List Int) := app 8 [] a0
theorem s96 (a0 : List Int) {r : List Int} (hF : F96 a0 = some r) : ans A 96 [V.isl (List.map Enc.enc a0)] = some (Enc.enc r) := clone_ans rfl hF
theorem t96 (a0 : List Int) {r : List Int} (hF : F96 a0 = some r) : tans A 96 [1] [V.isl (List.map Enc.enc a0)] = some (Enc.enc r) := clone_tans rfl hF
/-! (loop.example/g01273/impl.Complex).copied -/
def F57 (x : GComplex) : Option GComplex :=
  (F96 x.Dims).bind fun d => (F74 x.Prime d).bind fun b => (F85 x.Maps (fun n r pl v s => F75 b.Prime n r pl v s) b.Maps).bind fun ms => some ⟨b.Prime, b.Dims, ms⟩
def S57 (p : Int) (dv m : V) (N c1 : Nat) (K : Ks) (R : List (Nat × Option (List V)) → Prop) (s : List (List (List Int))) (E : List (Nat × Option (List V))) : Prop :=
  Deep.rep ⟨E, 0⟩ m s K ∧ R E ∧ E[N]? = some (c1, some [V.int .i64 p, dv, m])
theorem st57 (p : Int) (dv m : V) (N c1 : Nat) (K : Ks) (R : List (Nat × Option (List V)) → Prop) (hN : ¬ K N) (hR : ∀ E E', R E → (∀ k, k < E.length → ¬ K k → E'[k]? = E[k]?) → R E') : Step4 75 [V.agg [V.int .i64 p, dv, m]] [] (S57 p dv m N c1 K R) (fun n r pl v s => F75 p n r pl v s) where
  call := by
    rintro n r pl v s s' hF E c ⟨h1, h2, h3⟩
    have r1 : Deep.rep ⟨E, c⟩ m s K := Deep.frame h1 fun _ _ => rfl
    obtain ⟨⟨E', c'⟩, q1, q2, q3, q4⟩ := d75 (dv := dv) hF E c r1
    exact ⟨E', c', q1, Deep.frame q2 fun _ _ => rfl, hR E E' h2 q3, (q3 N (List.getElem?_eq_some_iff.1 h3).1 hN).trans h3⟩
  pad := by
    rintro s E x ⟨h1, h2, h3⟩
    exact ⟨Deep.frame h1 fun k q => List.getElem?_append_left (Deep.bd h1 q), hR E _ h2 fun k q _ => List.getElem?_append_left q, (List.getElem?_append_left (List.getElem?_eq_some_iff.1 h3).1).trans h3⟩
theorem d57 (x : GComplex) {r : GComplex} (hF : F57 x = some r) : ∃ v h', res A 57 [V.agg [V.int .i64 x.Prime, V.isl (List.map Enc.enc x.Dims), V.isl (List.map Enc.enc x.Maps)]] Heap.empty = some (v, h') ∧ ∃ K, Deep.rep h' v r K := by
  refine res_dp (f := p57) rfl rfl rfl fun e hl he => ?_
  have h0_0 : e.at 0 = V.agg [V.int .i64 x.Prime, V.isl (List.map Enc.enc x.Dims), V.isl (List.map Enc.enc x.Maps)] := he 0 _ rfl
  have hl_0 : e.length = 15 := hl
  clear he hl
  show W A b57 e ⟨[], 0⟩ _
  unfold F57 at hF
  obtain ⟨d, gd, hF⟩ := bS hF
  have wd := t96 x.Dims gd
  obtain ⟨o, go, hF⟩ := bS hF
  obtain ⟨ms, gt, hF⟩ := bS hF
  have hE := Option.some.inj hF; subst hE
  obtain ⟨_, ⟨E1, c1⟩, w1, e1, e2, m, K, rfl, t1, t2, t3, t4⟩ := d74 x.Prime d go [(0, none), (1, some [V.int .i64 0, V.nils, V.nils]), (2, some (List.map Enc.enc d))] 3 (dk := 2) (du := 2) rfl
  simp only [List.length_cons, List.length_nil, Nat.zero_add, Nat.reduceAdd] at t2 t3 t4
  have m1 : E1[1]? = some (1, some [V.int .i64 0, V.nils, V.nils]) := t3 1 (by decide)
  have m2 : E1[2]? = some (2, some (List.map Enc.enc d)) := t3 2 (by decide)
  obtain ⟨⟨E2, c2⟩, w2, q1, q2, q3⟩ := e85 (st57 o.Prime (V.sl 2 2 0 d.length 1) m E1.length c1 K (fun E => E[1]? = some (1, some [V.int .i64 0, V.nils, V.nils]) ∧ E[2]? = some (2, some (List.map Enc.enc d))) (fun q => by have := Deep.bd t1 q; simp at this)
    (fun E E' h hk => ⟨(hk 1 (List.getElem?_eq_some_iff.1 h.1).1 (fun q => by have := t2 _ q; omega)).trans h.1, (hk 2 (List.getElem?_eq_some_iff.1 h.2).1 (fun q => by have := t2 _ q; omega)).trans h.2⟩)) x gt (E1 ++ [(c1, some [V.int .i64 o.Prime, V.sl 2 2 0 d.length 1, m])]) (c1 + 1) ⟨Deep.frame t1 fun k q => List.getElem?_append_left (Deep.bd t1 q), ⟨by rw [List.getElem?_append_left (by omega)]; exact m1, by rw [List.getElem?_append_left (by omega)]; exact m2⟩, get_last _ _⟩
  obtain ⟨q2, q4⟩ := q2
  simp only at q2 q3 q4
  simp only [↓reduceIte, Nat.reduceAdd, Nat.reduceMul, Nat.reduceSub, Nat.reduceLT, Nat.reduceLeDiff, Nat.reduceEqDiff, Nat.reducePow, Int.reducePow, Int.reduceLE, Int.reduceLT, Int.reduceEq, Int.reduceToNat, reduceCtorEq, RR, RB, RZ, RE, opEv, fillV, mapO, mapS, b57, hl_0, h0_0, wd, w1, thaw_one, get_last, set_last, callM_plain_eq, w2, q2, q3]
  have hE0 : 1 < E2.length := (List.getElem?_eq_some_iff.1 q2).1
  refine And.intro (fun _ => trivial) ⟨V.agg [V.int .i64 o.Prime, V.sl 2 2 0 d.length 1, m], by simp only [↓reduceIte, Nat.reduceAdd, Nat.reduceMul, Nat.reduceSub, Nat.reduceLT, Nat.reduceLeDiff, Nat.reduceEqDiff, Nat.reducePow, Int.reducePow, Int.reduceLE, Int.reduceLT, Int.reduceEq, Int.reduceToNat, reduceCtorEq, RR, RB, RZ, RE, fn_out, p57, Rs.ev, mapO, mapS, hl_0, set_app_key hE0], _, _, rfl, rec3 (K1 := fun k => k = 2) (K2 := K) ?_ (Deep.frame q1 fun k q => set_ne (by have := t2 _ q; omega)) (fun k p q => by have := t2 _ q; omega)⟩
  have hq : (E2.set 1 (1, some [V.int .i64 o.Prime, V.sl 2 2 0 d.length 1, m]))[2]? = some (2, some (List.map Enc.enc d)) := (set_ne (by decide)).trans q4
  show Deep.rep _ _ o.Dims _
  rw [e2]
  exact int_row hq fun k => Iff.rfl
theorem x57 (x : GComplex) {r : GComplex} (hF : F57 x = some r) : tans A 57 [1, 1, 1] [V.agg [V.int .i64 x.Prime, V.isl (List.map Enc.enc x.Dims), V.isl (List.map Enc.enc x.Maps)]] = some (Enc.enc r) := tans_of_deep (α := GComplex) (by decide) (d57 x hF)
theorem s57 (x : GComplex) {r : GComplex} (hF : F57 x = some r) : ans A 57 [V.agg [V.int .i64 x.Prime, V.isl (List.map Enc.enc x.Dims), V.isl (List.map Enc.enc x.Maps)]] = some (Enc.enc r) := ans_of_deep (α := GComplex) (by decide) (d57 x hF)
/-! math/bits.Mul32 -/

/-! math/bits.Mul64 -/

/-! math/bits.Mul -/

/-! slices.Repeat(()int64,int64) -/
/-- One number, so many times. -/
def F58 (l : List Int) (n : Int) : Option (List Int) := match l with
  | [q] => if 0 ≤ n ∧ n ≤ 8 then some (List.replicate n.toNat q) else none
  | _ => none
theorem r58 {l : List Int} {n : Int} {r : List Int} (hF : F58 l n = some r) : ∃ (q : Int) (m : Nat), m < 9 ∧ l = [q] ∧ n = m ∧ r = List.replicate m q := by
  unfold F58 at hF
  split at hF
  · rename_i q
    split at hF
    · rename_i hn; cases hF
      exact ⟨q, n.toNat, by omega, rfl, by omega, rfl⟩
    · cases hF
  · cases hF
theorem t58 (l : List Int) (n : Int) {r : List Int} (hF : F58 l n = some r) : tans A 58 [1] [V.isl (List.map Enc.enc l), V.int .i64 n] = some (Enc.enc r) := by
  obtain ⟨q, m, hm, rfl, rfl, rfl⟩ := r58 hF
  refine tans_run 20 ?_
  match m, hm with
  | 0, _ => show _ = some _; kernel_rfl
  | 1, _ => show _ = some _; kernel_rfl
  | 2, _ => show _ = some _; kernel_rfl
  | 3, _ => show _ = some _; kernel_rfl
  | 4, _ => show _ = some _; kernel_rfl
  | 5, _ => show _ = some _; kernel_rfl
  | 6, _ => show _ = some _; kernel_rfl
  | 7, _ => show _ = some _; kernel_rfl
  | 8, _ => show _ = some _; kernel_rfl
theorem s58 (l : List Int) (n : Int) {r : List Int} (hF : F58 l n = some r) : ans A 58 [V.isl (List.map Enc.enc l), V.int .i64 n] = some (Enc.enc r) := by
  obtain ⟨q, m, hm, rfl, rfl, rfl⟩ := r58 hF
  refine ans_run 20 ?_
  match m, hm with
  | 0, _ => show _ = some _; kernel_rfl
  | 1, _ => show _ = some _; kernel_rfl
  | 2, _ => show _ = some _; kernel_rfl
  | 3, _ => show _ = some _; kernel_rfl
  | 4, _ => show _ = some _; kernel_rfl
  | 5, _ => show _ = some _; kernel_rfl
  | 6, _ => show _ = some _; kernel_rfl
  | 7, _ => show _ = some _; kernel_rfl
  | 8, _ => show _ = some _; kernel_rfl
/-! loop.example/g01273/impl.FlatFiltered -/
def F24_1_B (a0 : GComplex) (a1 : Int) (i : Int) (s : List (List Int)) : Option (List (List Int) ⊕ List (List Int)) := (getI a0.Dims i).bind fun d => (F58 [a1] d).bind fun r => (app 24 s [r]).bind fun l => some (.inl l)
def F24_1_D (a0 : GComplex) (a1 : Int) (i : Int) (s : List (List Int)) : Option (List (List Int)) := some s
def F24 (a0 : GComplex) (a1 : Int) : Option (T2 GFiltered Int) :=
  (F42 a0).bind fun b => if b = true then (F56 a1 0 5).bind fun c => if c = true then (F57 a0).bind fun o => (forR 0 (a0.Dims.length : Int) (F24_1_B a0 a1) (F24_1_D a0 a1) []).bind fun lv => some ⟨⟨o, lv⟩, 0⟩ else some ⟨⟨⟨0, [], []⟩, []⟩, 2⟩ else some ⟨⟨⟨0, [], []⟩, []⟩, 1⟩
theorem d24 (a0 : GComplex) (a1 : Int) {r : T2 GFiltered Int} (hF : F24 a0 a1 = some r) : ∃ v h', res A 24 [V.agg [V.int .i64 a0.Prime, V.isl (List.map Enc.enc a0.Dims), V.isl (List.map Enc.enc a0.Maps)], V.int .i64 a1] Heap.empty = some (v, h') ∧ ∃ vs K, v = V.tup vs ∧ repF h' vs [⟨r.a⟩, ⟨r.b⟩] K := by
  refine res_dp (f := p24) rfl rfl rfl fun e hl he => ?_
  have h0_0 : e.at 0 = V.agg [V.int .i64 a0.Prime, V.isl (List.map Enc.enc a0.Dims), V.isl (List.map Enc.enc a0.Maps)] := he 0 _ rfl
  have h1_0 : e.at 1 = V.int .i64 a1 := he 1 _ rfl
  have hl_0 : e.length = 40 := hl
  clear he hl
  show W A b24 e ⟨[], 0⟩ _
  unfold F24 at hF
  have zr : ∀ h, Deep.rep h (V.agg [V.int .i64 0, V.nils, V.nils, V.nils]) (⟨⟨0, [], []⟩, []⟩ : GFiltered) _ := fun h => ⟨_, rfl, rec4 (rep_nils h) (rep_nils h) (rep_nils h) (fun _ x _ => x) (fun _ x _ => x) (fun _ x _ => x)⟩
  obtain ⟨b, gb, hF⟩ := bS hF
  have wb : ans A 42 [V.agg [V.int .i64 a0.Prime, V.isl (List.map Enc.enc a0.Dims), V.isl (List.map Enc.enc a0.Maps)]] = some (V.bool b) := s42 a0 gb
  cases b with
  | false =>
    rw [if_neg Bool.false_ne_true] at hF
    have hE := Option.some.inj hF; subst hE
    simp only [↓reduceIte, Nat.reduceAdd, Nat.reduceMul, Nat.reduceSub, Nat.reduceLT, Nat.reduceLeDiff, Nat.reduceEqDiff, Nat.reducePow, Int.reducePow, Int.reduceLE, Int.reduceLT, Int.reduceEq, Int.reduceToNat, reduceCtorEq, RR, RB, RZ, RE, opEv, fillV, mapO, mapS, b24, hl_0, h0_0, h1_0, wb]
    refine And.intro (fun _ => trivial) ⟨V.tup [V.agg [V.int .i64 0, V.nils, V.nils, V.nils], V.int .i64 1], ?_, _, _, rfl, pair_rep (α := GFiltered) (zr _) _⟩
    simp only [↓reduceIte, Nat.reduceAdd, Nat.reduceMul, Nat.reduceSub, Nat.reduceLT, Nat.reduceLeDiff, Nat.reduceEqDiff, Nat.reducePow, Int.reducePow, Int.reduceLE, Int.reduceLT, Int.reduceEq, Int.reduceToNat, reduceCtorEq, RR, RB, RZ, RE, fn_out, p24, Rs.ev, mapO, mapS, hl_0]
  | true =>
    rw [if_pos rfl] at hF
    obtain ⟨b2, gb2, hF⟩ := bS hF
    have wb2 : ans A 56 [V.int .i64 a1, V.int .i64 0, V.int .i64 5] = some (V.bool b2) := s56 a1 0 5 gb2
    cases b2 with
    | false =>
      rw [if_neg Bool.false_ne_true] at hF
      have hE := Option.some.inj hF; subst hE
      simp only [↓reduceIte, Nat.reduceAdd, Nat.reduceMul, Nat.reduceSub, Nat.reduceLT, Nat.reduceLeDiff, Nat.reduceEqDiff, Nat.reducePow, Int.reducePow, Int.reduceLE, Int.reduceLT, Int.reduceEq, Int.reduceToNat, reduceCtorEq, RR, RB, RZ, RE, opEv, fillV, mapO, mapS, b24, hl_0, h0_0, h1_0, wb, wb2]
      refine And.intro (fun _ => trivial) ⟨V.tup [V.agg [V.int .i64 0, V.nils, V.nils, V.nils], V.int .i64 2], ?_, _, _, rfl, pair_rep (α := GFiltered) (zr _) _⟩
      simp only [↓reduceIte, Nat.reduceAdd, Nat.reduceMul, Nat.reduceSub, Nat.reduceLT, Nat.reduceLeDiff, Nat.reduceEqDiff, Nat.reducePow, Int.reducePow, Int.reduceLE, Int.reduceLT, Int.reduceEq, Int.reduceToNat, reduceCtorEq, RR, RB, RZ, RE, fn_out, p24, Rs.ev, mapO, mapS, hl_0]
    | true =>
      rw [if_pos rfl] at hF
      obtain ⟨o, go, hF⟩ := bS hF
      obtain ⟨lv, gt, hF⟩ := bS hF
      have hE := Option.some.inj hF; subst hE
      have wo := x57 a0 go
      obtain ⟨_, ⟨E1, c1⟩, t1, ⟨_, rfl, t2⟩, t3, t4⟩ := thaw_deep (α := GComplex) (by decide) o ⟨[(0, none), (1, some [V.int .i64 0, V.nils, V.nils, V.nils])], 2⟩
      obtain ⟨dv, m, K1, K2, rfl, t5, t6, t7, t8⟩ := rec3_un t2
      simp only [List.length_cons, List.length_nil, Nat.zero_add, Nat.reduceAdd] at t3 t4 t8
      have t1' : thaw 16 [1, 1, 1] (V.agg [V.int .i64 o.Prime, V.isl (List.map Enc.enc o.Dims), V.isl (List.map Enc.enc o.Maps)]) ⟨[(0, none), (1, some [V.int .i64 0, V.nils, V.nils, V.nils])], 2⟩ = some (V.agg [V.int .i64 o.Prime, dv, m], ⟨E1, c1⟩) := t1
      have b1 : ∀ k, K1 k → 2 ≤ k ∧ k < E1.length := fun k q => (t8 k).2 (.inl q)
      have b2 : ∀ k, K2 k → 2 ≤ k ∧ k < E1.length := fun k q => (t8 k).2 (.inr q)
      have m1 : E1[1]? = some (1, some [V.int .i64 0, V.nils, V.nils, V.nils]) := t4 1 (by decide)
      simp only [↓reduceIte, Nat.reduceAdd, Nat.reduceMul, Nat.reduceSub, Nat.reduceLT, Nat.reduceLeDiff, Nat.reduceEqDiff, Nat.reducePow, Int.reducePow, Int.reduceLE, Int.reduceLT, Int.reduceEq, Int.reduceToNat, reduceCtorEq, RR, RB, RZ, RE, opEv, fillV, mapO, mapS, b24, hl_0, h0_0, h1_0, wb, wb2, wo, callM_tans, t1', get_last, set_last]
      show W A (.block 1 (.loop true b24_1)) _ _ _
      rw [W_block]
      refine W_forR gt _ rfl (fun i s e h => ∃ w, ∃ K : Ks, Deep.rep h w s K ∧ h.ents[E1.length]? = some (c1, some [V.int .i64 o.Prime, dv, m, w]) ∧ (∀ k, K k → E1.length + 1 ≤ k) ∧ (∀ k, k < E1.length → h.ents[k]? = E1[k]?) ∧ e.length = 40 ∧ e.at 1 = V.int .i64 a1 ∧ e.at 4 = V.ptr 1 1 0 ∧ e.at 6 = V.ptr E1.length c1 0 ∧ e.at 23 = V.isl (List.map Enc.enc a0.Dims) ∧ e.at 24 = V.int .i64 (a0.Dims.length : Int) ∧ e.at 25 = V.int .i64 i) ?_ ?_ ?_
      · refine ⟨V.nils, fun _ => False, rep_nils _, get_last _ _, fun _ x => x.elim, fun k q => List.getElem?_append_left q, ?_⟩
        simp only [↓reduceIte, Nat.reduceAdd, Nat.reduceMul, Nat.reduceSub, Nat.reduceLT, Nat.reduceLeDiff, Nat.reduceEqDiff, Nat.reducePow, Int.reducePow, Int.reduceLE, Int.reduceLT, Int.reduceEq, Int.reduceToNat, reduceCtorEq, RR, RB, RZ, RE, hl_0, h0_0, h1_0]
      · clear hl_0 h0_0 h1_0
        rintro i s e ⟨E, c⟩ ⟨w, K, g1, g2, g3, g4, hl_1, h1_1, h4_1, h6_1, h23_1, h24_1, h25_1⟩ hlt hw s' ho
        unfold F24_1_B at ho
        simp only at g2 g4
        obtain ⟨d, gd, ho⟩ := bS ho
        obtain ⟨wd1, wd2⟩ := getI_w gd
        obtain ⟨rr, gr, ho⟩ := bS ho
        obtain ⟨l, gl, ho⟩ := bS ho
        have hE := Option.some.inj ho; subst hE
        have hN : E1.length < E.length := (List.getElem?_eq_some_iff.1 g2).1
        have wr : tans A 58 [1] [V.isl [V.int .i64 a1], V.int .i64 d] = some (V.isl (List.map Enc.enc rr)) := t58 [a1] d gr
        have wfz : frz ⟨E ++ [(c, some [V.int .i64 a1])], c + 1⟩ 16 (V.sl E.length c 0 1 1) = some (V.isl [V.int .i64 a1]) := frz_row (l := [a1]) (get_last _ _)
        have wbr := bare_one (α := Int) rr
        have pre : ∀ x y z k, k < E.length → (E ++ [x] ++ [y] ++ [z])[k]? = E[k]? := fun x y z k q => by rw [List.append_assoc, List.append_assoc]; exact List.getElem?_append_left q
        have pre1 : ∀ x, (E ++ [x])[E1.length]? = some (c1, some [V.int .i64 o.Prime, dv, m, w]) := fun x => (List.getElem?_append_left hN).trans g2
        obtain ⟨w', E', c', K', p1, p2, p3, p4, p5⟩ := append_rep (E := E ++ [(c, some [V.int .i64 a1])] ++ [(c + 1, some (List.map Enc.enc rr))] ++ [(c + 1 + 1, some [V.sl (E.length + 1) (c + 1) 0 rr.length 1])]) (c := c + 1 + 1 + 1) (Deep.frame g1 fun k q => pre _ _ _ k (Deep.bd g1 q)) (int_row (l := rr) (K := fun k => k = E.length + 1) (ge3b ..) (fun k => Iff.rfl)) (fun k q e => by have := Deep.bd g1 q; simp only at this; omega) gl
        have hl3 : ∀ x y z : Nat × Option (List V), (E ++ [x] ++ [y] ++ [z]).length = E.length + 3 := fun x y z => by simp
        rw [hl3] at p3 p4 p5
        obtain ⟨v1, v2⟩ := rep_one p2
        have m6 : E'[E1.length]? = some (c1, some [V.int .i64 o.Prime, dv, m, w]) := (p4 _ (by omega) (fun q => by have := g3 _ q; omega)).trans ((pre _ _ _ _ hN).trans g2)
        simp only [↓reduceIte, Nat.reduceAdd, Nat.reduceMul, Nat.reduceSub, Nat.reduceLT, Nat.reduceLeDiff, Nat.reduceEqDiff, Nat.reducePow, Int.reducePow, Int.reduceLE, Int.reduceLT, Int.reduceEq, Int.reduceToNat, reduceCtorEq, RR, RB, RZ, RE, opEv, fillV, mapO, mapS, b24_1, hl_1, h1_1, h4_1, h6_1, h23_1, h24_1, h25_1, eq_true hlt, hw, wd1, wd2, g2, pre1, wfz, wr, wbr, callM_tans, thaw_one, le1, get_last, ge2a, ge2b, ge3a, ge3b, ge3c, p1, m6, v1, v2]
        refine And.intro rfl ⟨w', K', Deep.frame p2 fun k q => set_ne ?_, set_app_key (by omega), ?_, fun k q => ?_, ?_⟩
        · rcases p3 k q with q | q | q
          · have := g3 k q; omega
          · omega
          · omega
        · intro k q
          rcases p3 k q with q | q | q
          · exact g3 k q
          · omega
          · omega
        · exact (set_ne (by omega)).trans ((p4 k (by omega) (fun q2 => by have := g3 k q2; omega)).trans ((pre _ _ _ k (by omega)).trans (g4 k q)))
        · simp only [↓reduceIte, Nat.reduceAdd, Nat.reduceMul, Nat.reduceSub, Nat.reduceLT, Nat.reduceLeDiff, Nat.reduceEqDiff, Nat.reducePow, Int.reducePow, Int.reduceLE, Int.reduceLT, Int.reduceEq, Int.reduceToNat, reduceCtorEq, RR, RB, RZ, RE, hl_1, h1_1, h4_1, h6_1, h23_1, h24_1, h25_1, hw]
      · clear hl_0 h0_0 h1_0
        rintro i s e ⟨E, c⟩ ⟨w, K, g1, g2, g3, g4, hl_1, h1_1, h4_1, h6_1, h23_1, h24_1, h25_1⟩ hge t1 ho
        unfold F24_1_D at ho
        have hE := Option.some.inj ho; subst hE
        simp only at g2 g4
        have hN : E1.length < E.length := (List.getElem?_eq_some_iff.1 g2).1
        have m4 : E[1]? = some (1, some [V.int .i64 0, V.nils, V.nils, V.nils]) := (g4 1 (by omega)).trans m1
        simp only [↓reduceIte, Nat.reduceAdd, Nat.reduceMul, Nat.reduceSub, Nat.reduceLT, Nat.reduceLeDiff, Nat.reduceEqDiff, Nat.reducePow, Int.reducePow, Int.reduceLE, Int.reduceLT, Int.reduceEq, Int.reduceToNat, reduceCtorEq, RR, RB, RZ, RE, opEv, fillV, mapO, mapS, b24_1, hl_1, h1_1, h4_1, h6_1, h23_1, h24_1, h25_1, eq_false hge, g2, m4]
        intro ht; subst ht
        have fin : ∀ z, Deep.rep ⟨E.set 1 z, c⟩ (V.agg [V.int .i64 o.Prime, dv, m, w]) (⟨o, s⟩ : GFiltered) (fun k => K1 k ∨ K2 k ∨ K k) := fun z => ⟨_, rfl, rec4 (Deep.frame t5 fun k q => (set_ne (by have := b1 k q; omega)).trans (g4 k (b1 k q).2)) (Deep.frame t6 fun k q => (set_ne (by have := b2 k q; omega)).trans (g4 k (b2 k q).2)) (Deep.frame g1 fun k q => set_ne (by have := g3 k q; omega)) t7 (fun k y z => by have := b1 k y; have := g3 k z; omega) (fun k y z => by have := b2 k y; have := g3 k z; omega)⟩
        refine And.intro (fun _ => trivial) ⟨V.tup [V.agg [V.int .i64 o.Prime, dv, m, w], V.int .i64 0], ?_, _, _, rfl, pair_rep (fin _) _⟩
        simp only [↓reduceIte, Nat.reduceAdd, Nat.reduceMul, Nat.reduceSub, Nat.reduceLT, Nat.reduceLeDiff, Nat.reduceEqDiff, Nat.reducePow, Int.reducePow, Int.reduceLE, Int.reduceLT, Int.reduceEq, Int.reduceToNat, reduceCtorEq, RR, RB, RZ, RE, fn_out, p24, Rs.ev, mapO, mapS, hl_1, h4_1, set_app_key (show 1 < E.length by omega)]
theorem x24 (a0 : GComplex) (a1 : Int) {r : T2 GFiltered Int} (hF : F24 a0 a1 = some r) : tans A 24 [1, 1, 1] [V.agg [V.int .i64 a0.Prime, V.isl (List.map Enc.enc a0.Dims), V.isl (List.map Enc.enc a0.Maps)], V.int .i64 a1] = some (V.tup [Enc.enc r.a, V.int .i64 r.b]) := by
  obtain ⟨_, h', h1, vs, K, rfl, h2⟩ := d24 a0 a1 hF
  exact tans_tup (fits_pair rfl (by decide)) h1 h2
theorem s24 (a0 : GComplex) (a1 : Int) {r : T2 GFiltered Int} (hF : F24 a0 a1 = some r) : ans A 24 [V.agg [V.int .i64 a0.Prime, V.isl (List.map Enc.enc a0.Dims), V.isl (List.map Enc.enc a0.Maps)], V.int .i64 a1] = some (EncR.enc r) := by
  obtain ⟨_, h', h1, vs, K, rfl, h2⟩ := d24 a0 a1 hF
  exact ans_tup (ss := [1, 1, 1]) (fits_pair rfl (by decide)) h1 h2
/-! loop.example/g01273/laws.eqFiltered -/
def F25 (a0 : GFiltered) (a1 : GFiltered) : Option Bool :=
  (F16 a0.Complex a1.Complex).bind fun x1 =>
  if x1 = true then
    (F51 a0.Levels a1.Levels).bind fun x3 =>
    if x3 = true then
      some true
    else
      some false
  else
    some false
theorem s25 (a0 : GFiltered) (a1 : GFiltered)   {r : Bool} (hF : F25 a0 a1 = some r) : ans A 25 [V.agg [V.int .i64 a0.Complex.Prime, V.isl (List.map Enc.enc a0.Complex.Dims), V.isl (List.map Enc.enc a0.Complex.Maps), V.isl (List.map Enc.enc a0.Levels)], V.agg [V.int .i64 a1.Complex.Prime, V.isl (List.map Enc.enc a1.Complex.Dims), V.isl (List.map Enc.enc a1.Complex.Maps), V.isl (List.map Enc.enc a1.Levels)]] = some (Enc.enc r) := by
  refine ans_of (f := p25) rfl rfl rfl fun e hl he => ?_
  have h0_0 : e.at 0 = V.agg [V.int .i64 a0.Complex.Prime, V.isl (List.map Enc.enc a0.Complex.Dims), V.isl (List.map Enc.enc a0.Complex.Maps), V.isl (List.map Enc.enc a0.Levels)] := he 0 _ rfl
  have h1_0 : e.at 1 = V.agg [V.int .i64 a1.Complex.Prime, V.isl (List.map Enc.enc a1.Complex.Dims), V.isl (List.map Enc.enc a1.Complex.Maps), V.isl (List.map Enc.enc a1.Levels)] := he 1 _ rfl
  have hl_0 : e.length = 17 := hl
  clear he hl
  show W A b25 e ⟨[], 0⟩ _
  unfold F25 at hF
  obtain ⟨x1, gx1, hF⟩ := bS hF
  have w2 : ans A 16 [V.agg [V.int .i64 a0.Complex.Prime, V.isl (List.map Enc.enc a0.Complex.Dims), V.isl (List.map Enc.enc a0.Complex.Maps)], V.agg [V.int .i64 a1.Complex.Prime, V.isl (List.map Enc.enc a1.Complex.Dims), V.isl (List.map Enc.enc a1.Complex.Maps)]] = some (V.bool x1) := s16 a0.Complex a1.Complex  gx1
  cases x1 with
  | true =>
    rw [if_pos rfl] at hF
    obtain ⟨x3, gx3, hF⟩ := bS hF
    have w4 : ans A 51 [V.isl (List.map Enc.enc a0.Levels), V.isl (List.map Enc.enc a1.Levels)] = some (V.bool x3) := s51 a0.Levels a1.Levels  gx3
    cases x3 with
    | true =>
      rw [if_pos rfl] at hF
      have hE := Option.some.inj hF; subst hE
      simp only [↓reduceIte, Nat.reduceAdd, Nat.reduceMul, Nat.reduceSub, Nat.reduceLT, Nat.reduceLeDiff, Nat.reduceEqDiff, Nat.reducePow, Int.reducePow, Int.reduceLE, Int.reduceLT, Int.reduceEq, Int.reduceToNat, reduceCtorEq, RR, RB, RZ, RE, opEv, fillV, mapO, mapS, b25, hl_0, h0_0, h1_0, w2, w4]
      exact fin_ret (by simp only [↓reduceIte, Nat.reduceAdd, Nat.reduceMul, Nat.reduceSub, Nat.reduceLT, Nat.reduceLeDiff, Nat.reduceEqDiff, Nat.reducePow, Int.reducePow, Int.reduceLE, Int.reduceLT, Int.reduceEq, Int.reduceToNat, reduceCtorEq, RR, RB, RZ, RE, fn_out, p25, Rs.ev, mapO, mapS, take_len_self, hl_0, h0_0, h1_0, w2, w4])
    | false =>
      rw [if_neg Bool.false_ne_true] at hF
      have hE := Option.some.inj hF; subst hE
      simp only [↓reduceIte, Nat.reduceAdd, Nat.reduceMul, Nat.reduceSub, Nat.reduceLT, Nat.reduceLeDiff, Nat.reduceEqDiff, Nat.reducePow, Int.reducePow, Int.reduceLE, Int.reduceLT, Int.reduceEq, Int.reduceToNat, reduceCtorEq, RR, RB, RZ, RE, opEv, fillV, mapO, mapS, b25, hl_0, h0_0, h1_0, w2, w4]
      exact fin_ret (by simp only [↓reduceIte, Nat.reduceAdd, Nat.reduceMul, Nat.reduceSub, Nat.reduceLT, Nat.reduceLeDiff, Nat.reduceEqDiff, Nat.reducePow, Int.reducePow, Int.reduceLE, Int.reduceLT, Int.reduceEq, Int.reduceToNat, reduceCtorEq, RR, RB, RZ, RE, fn_out, p25, Rs.ev, mapO, mapS, take_len_self, hl_0, h0_0, h1_0, w2, w4])
  | false =>
    rw [if_neg Bool.false_ne_true] at hF
    have hE := Option.some.inj hF; subst hE
    simp only [↓reduceIte, Nat.reduceAdd, Nat.reduceMul, Nat.reduceSub, Nat.reduceLT, Nat.reduceLeDiff, Nat.reduceEqDiff, Nat.reducePow, Int.reducePow, Int.reduceLE, Int.reduceLT, Int.reduceEq, Int.reduceToNat, reduceCtorEq, RR, RB, RZ, RE, opEv, fillV, mapO, mapS, b25, hl_0, h0_0, h1_0, w2]
    exact fin_ret (by simp only [↓reduceIte, Nat.reduceAdd, Nat.reduceMul, Nat.reduceSub, Nat.reduceLT, Nat.reduceLeDiff, Nat.reduceEqDiff, Nat.reducePow, Int.reducePow, Int.reduceLE, Int.reduceLT, Int.reduceEq, Int.reduceToNat, reduceCtorEq, RR, RB, RZ, RE, fn_out, p25, Rs.ev, mapO, mapS, take_len_self, hl_0, h0_0, h1_0, w2])
/-! loop.example/g01273/laws.markFiltered -/
def FM26 (x : GFiltered) (k : Int) : Option (GFiltered × Int) := (FM20 x.Complex k).bind fun t => (FM52 x.Levels t.2).bind fun u => some (⟨t.1, u.1⟩, u.2)
theorem dm26 {x : GFiltered} {k : Int} {r : GFiltered × Int} (hF : FM26 x k = some r) (h : Heap) {v : V} {K : Ks} (hr : Deep.rep h v x K) : ∃ h', res A 26 [v, V.int .i64 k] h = some (V.int .i64 r.2, h') ∧ Deep.rep h' v r.1 K ∧ (∀ k, k < h.ents.length → ¬ K k → h'.ents[k]? = h.ents[k]?) ∧ h.ents.length ≤ h'.ents.length := by
  obtain ⟨vs, rfl, r0⟩ := hr
  obtain ⟨dv, mv, lv, K1, K2, K3, rfl, g1, g2, g3, d1, d2, d3, hK⟩ := rec4_un r0
  refine res_ex (f := p26) rfl rfl rfl fun e hl he => ?_
  have h0_0 : e.at 0 = V.agg [V.int .i64 x.Complex.Prime, dv, mv, lv] := he 0 _ rfl
  have h1_0 : e.at 1 = V.int .i64 k := he 1 _ rfl
  have hl_0 : e.length = 14 := hl
  clear he hl
  show W A b26 e h _
  unfold FM26 at hF
  obtain ⟨t, gt, hF⟩ := bS hF
  obtain ⟨u, gu, hF⟩ := bS hF
  have hE := Option.some.inj hF; subst hE
  obtain ⟨E, c⟩ := h
  have pre : ∀ (x : Nat × Option (List V)) k, k < E.length → (E ++ [x])[k]? = E[k]? := fun x k hk => List.getElem?_append_left hk
  have hc : Deep.rep ⟨E ++ [(c, some [V.int .i64 x.Complex.Prime, dv, mv, lv])], c + 1⟩ (V.agg [V.int .i64 x.Complex.Prime, dv, mv]) x.Complex (fun k => K1 k ∨ K2 k) :=
    ⟨_, rfl, rec3 (Deep.frame g1 fun k hk => pre _ k (Deep.bd g1 hk)) (Deep.frame g2 fun k hk => pre _ k (Deep.bd g2 hk)) d1⟩
  obtain ⟨⟨E3, c3⟩, w1, a1, a2, a3⟩ := dm20 gt _ hc
  simp only [le1] at a2 a3
  have n1 : ¬ (K1 E.length ∨ K2 E.length) := fun q => q.elim (fun x => by have := Deep.bd g1 x; simp at this) (fun x => by have := Deep.bd g2 x; simp at this)
  have n3 : ¬ K3 E.length := fun x => by have := Deep.bd g3 x; simp at this
  have m1 : E3[E.length]? = some (c, some [V.int .i64 x.Complex.Prime, dv, mv, lv]) := (a2 _ (by omega) n1).trans (get_last _ _)
  have g3' : Deep.rep ⟨E3, c3⟩ lv x.Levels K3 := Deep.frame g3 fun k hk => (a2 k (by have := Deep.bd g3 hk; simp only at this; omega) (fun q => q.elim (fun q => d2 k q hk) (fun q => d3 k q hk))).trans (pre _ k (Deep.bd g3 hk))
  obtain ⟨⟨E4, c4⟩, w2, b1, b2, b3⟩ := dm52 gu _ g3'
  simp only at b2 b3
  simp only [↓reduceIte, Nat.reduceAdd, Nat.reduceMul, Nat.reduceSub, Nat.reduceLT, Nat.reduceLeDiff, Nat.reduceEqDiff, Nat.reducePow, Int.reducePow, Int.reduceLE, Int.reduceLT, Int.reduceEq, Int.reduceToNat, reduceCtorEq, RR, RB, RZ, opEv, fillV, mapO, mapS, b26, hl_0, h0_0, h1_0, get_last, callM_plain_eq, w1, m1, w2]
  have a1' : Deep.rep ⟨E4, c4⟩ (V.agg [V.int .i64 x.Complex.Prime, dv, mv]) t.1 (fun k => K1 k ∨ K2 k) := Deep.frame a1 fun k q => b2 k (Deep.bd a1 q) (fun y => q.elim (fun q => d2 k q y) (fun q => d3 k q y))
  obtain ⟨vs, e1, r1⟩ := a1'
  obtain ⟨v1, v2, J1, J2, rfl, q1, q2, q3, q4⟩ := rec3_un r1
  simp only [V.agg.injEq, List.cons.injEq, V.int.injEq, true_and, and_true] at e1
  obtain ⟨e0, rfl, rfl⟩ := e1
  refine And.intro (fun _ => trivial) ⟨?_, ⟨_, by rw [e0], (rec4 q1 q2 b1 q3 (fun k y z => (((q4 k).2 (.inl y)).elim (fun y => d2 k y z) (fun y => d3 k y z))) (fun k y z => (((q4 k).2 (.inr y)).elim (fun y => d2 k y z) (fun y => d3 k y z)))).to fun k => by rw [hK, ← or_assoc, q4, or_assoc]⟩, fun k hk nk => ?_, by omega⟩
  · simp only [↓reduceIte, Nat.reduceAdd, Nat.reduceMul, Nat.reduceSub, Nat.reduceLT, Nat.reduceLeDiff, Nat.reduceEqDiff, Nat.reducePow, Int.reducePow, Int.reduceLE, Int.reduceLT, Int.reduceEq, Int.reduceToNat, reduceCtorEq, RR, RB, RZ, fn_out, p26, Rs.ev, mapO, hl_0]
  · rw [hK] at nk
    exact (b2 k (by omega) (fun y => nk (.inr (.inr y)))).trans ((a2 k (by omega) (fun y => nk (y.elim .inl fun y => .inr (.inl y)))).trans (pre _ k hk))
/-! loop.example/g01273/laws.heldInt64S -/
def F32_1_B (a0 : List Int) (v5_1 : Int) (v1_1 : Int) : Option ((Int) ⊕ ((Int) ⊕ Int)) :=
  (getI a0 v5_1).bind fun x4 =>
if x4 = v1_1 then
  (chk (v1_1 + 1)).bind fun x7 =>
  some (.inl x7)
else
  some (.inr (.inr (-1)))
def F32_1_D (a0 : List Int) (v5_1 : Int) (v1_1 : Int) : Option ((Int) ⊕ Int) :=
  some (.inl v1_1)
def F32 (a0 : List Int) (a1 : Int) : Option Int :=
  (forR 0 (a0.length : Int) (F32_1_B a0) (F32_1_D a0) a1).bind fun t8 => match t8 with
    | .inl zv1_1 =>
      some zv1_1
    | .inr r9 => some r9
def I32_1 (a0 : List Int)  (v5_1 : Int) (v1_1 : Int) (e : Env) (h : Heap) : Prop :=
  ∃ k2 : Nat, h = ⟨[], k2⟩ ∧ e.length = 21 ∧ e.at 0 = V.isl (List.map Enc.enc a0) ∧ e.at 1 = V.int .i64 v1_1 ∧ e.at 5 = V.int .i64 v5_1
def P32_1 (a0 : List Int)  (t : (Int) ⊕ Int) (x : Ex) (e : Env) (h : Heap) : Prop :=
  match t with
  | .inl zv1_1 => x = .normal ∧ ∃ k2 : Nat, h = ⟨[], k2⟩ ∧ e.length = 21 ∧ e.at 1 = V.int .i64 zv1_1
  | .inr r => x = .ret ∧ Fin p32 (Enc.enc r) .ret e h
theorem l32_1 (a0 : List Int)   {lo : Int} {s : Int} {t : (Int) ⊕ Int} (hF : forR lo (a0.length : Int) (F32_1_B a0) (F32_1_D a0) s = some t) {e : Env} {h : Heap} (hI : I32_1 a0  lo s e h) : W A c32_1 e h (P32_1 a0  t) := by
  show W A (.block 0 (.loop false b32_1)) e h _
  rw [W_block]
  refine W_forR hF 0 (by obtain ⟨_, rfl, _⟩ := hI; rfl) (I32_1 a0 ) hI ?_ ?_
  · rintro v5_1 v1_1 e h ⟨k2, rfl, hl_1, h0_1, h1_1, h5_1⟩ hlt hw o ho
    unfold F32_1_B at ho
    obtain ⟨x4, gx4, ho⟩ := bS ho
    obtain ⟨w5a, w5b⟩ := getI_w gx4
    by_cases c6 : x4 = v1_1
    · rw [if_pos c6] at ho
      obtain ⟨x7, gx7, ho⟩ := bS ho
      have wx7 := chk_w gx7
      have hE := Option.some.inj ho; subst hE
      simp only [↓reduceIte, Nat.reduceAdd, Nat.reduceMul, Nat.reduceSub, Nat.reduceLT, Nat.reduceLeDiff, Nat.reduceEqDiff, Nat.reducePow, Int.reducePow, Int.reduceLE, Int.reduceLT, Int.reduceEq, Int.reduceToNat, reduceCtorEq, RR, RB, RZ, RE, opEv, fillV, mapO, mapS, b32_1, hl_1, h0_1, h1_1, h5_1, eq_true hlt, hw, w5a, w5b, eq_true c6, wx7]
      refine And.intro rfl (Exists.intro _ ( And.intro rfl ?_))
      simp only [↓reduceIte, Nat.reduceAdd, Nat.reduceMul, Nat.reduceSub, Nat.reduceLT, Nat.reduceLeDiff, Nat.reduceEqDiff, Nat.reducePow, Int.reducePow, Int.reduceLE, Int.reduceLT, Int.reduceEq, Int.reduceToNat, reduceCtorEq, RR, RB, RZ, RE, hl_1, h0_1, h1_1, h5_1, eq_true hlt, hw, w5a, w5b, eq_true c6, wx7]
    · rw [if_neg c6] at ho
      have hE := Option.some.inj ho; subst hE
      simp only [↓reduceIte, Nat.reduceAdd, Nat.reduceMul, Nat.reduceSub, Nat.reduceLT, Nat.reduceLeDiff, Nat.reduceEqDiff, Nat.reducePow, Int.reducePow, Int.reduceLE, Int.reduceLT, Int.reduceEq, Int.reduceToNat, reduceCtorEq, RR, RB, RZ, RE, opEv, fillV, mapO, mapS, b32_1, hl_1, h0_1, h1_1, h5_1, eq_true hlt, hw, w5a, w5b, eq_false c6]
      intro ht; subst ht
      simp only [↓reduceIte, Nat.reduceAdd, Nat.reduceMul, Nat.reduceSub, Nat.reduceLT, Nat.reduceLeDiff, Nat.reduceEqDiff, Nat.reducePow, Int.reducePow, Int.reduceLE, Int.reduceLT, Int.reduceEq, Int.reduceToNat, reduceCtorEq, RR, RB]
      exact And.intro rfl (fin_ret (by simp only [↓reduceIte, Nat.reduceAdd, Nat.reduceMul, Nat.reduceSub, Nat.reduceLT, Nat.reduceLeDiff, Nat.reduceEqDiff, Nat.reducePow, Int.reducePow, Int.reduceLE, Int.reduceLT, Int.reduceEq, Int.reduceToNat, reduceCtorEq, RR, RB, RZ, RE, fn_out, p32, Rs.ev, mapO, mapS, take_len_self, hl_1, h0_1, h1_1, h5_1, eq_true hlt, hw, w5a, w5b, eq_false c6]))
  · rintro v5_1 v1_1 e h ⟨k2, rfl, hl_1, h0_1, h1_1, h5_1⟩ hge t1 ho
    unfold F32_1_D at ho
    have hE := Option.some.inj ho; subst hE
    simp only [↓reduceIte, Nat.reduceAdd, Nat.reduceMul, Nat.reduceSub, Nat.reduceLT, Nat.reduceLeDiff, Nat.reduceEqDiff, Nat.reducePow, Int.reducePow, Int.reduceLE, Int.reduceLT, Int.reduceEq, Int.reduceToNat, reduceCtorEq, RR, RB, RZ, RE, opEv, fillV, mapO, mapS, b32_1, hl_1, h0_1, h1_1, h5_1, eq_false hge]
    intro ht; subst ht
    refine And.intro rfl (Exists.intro _ ( And.intro rfl ?_))
    simp only [↓reduceIte, Nat.reduceAdd, Nat.reduceMul, Nat.reduceSub, Nat.reduceLT, Nat.reduceLeDiff, Nat.reduceEqDiff, Nat.reducePow, Int.reducePow, Int.reduceLE, Int.reduceLT, Int.reduceEq, Int.reduceToNat, reduceCtorEq, RR, RB, RZ, RE, hl_1, h0_1, h1_1, h5_1, eq_false hge]
theorem s32 (a0 : List Int) (a1 : Int)   {r : Int} (hF : F32 a0 a1 = some r) : ans A 32 [V.isl (List.map Enc.enc a0), V.int .i64 a1] = some (Enc.enc r) := by
  refine ans_of (f := p32) rfl rfl rfl fun e hl he => ?_
  have h0_0 : e.at 0 = V.isl (List.map Enc.enc a0) := he 0 _ rfl
  have h1_0 : e.at 1 = V.int .i64 a1 := he 1 _ rfl
  have hl_0 : e.length = 21 := hl
  clear he hl
  show W A b32 e ⟨[], 0⟩ _
  unfold F32 at hF
  obtain ⟨t8, gt8, hF⟩ := bS hF
  rcases t8 with zv1_1 | r9
  · dsimp only at hF
    simp only [↓reduceIte, Nat.reduceAdd, Nat.reduceMul, Nat.reduceSub, Nat.reduceLT, Nat.reduceLeDiff, Nat.reduceEqDiff, Nat.reducePow, Int.reducePow, Int.reduceLE, Int.reduceLT, Int.reduceEq, Int.reduceToNat, reduceCtorEq, RR, RB, RZ, RE, opEv, fillV, mapO, mapS, b32, hl_0, h0_0, h1_0]
    refine W.mono (l32_1 a0   gt8 (Exists.intro _ ( And.intro rfl ?_))) ?_
    · simp only [↓reduceIte, Nat.reduceAdd, Nat.reduceMul, Nat.reduceSub, Nat.reduceLT, Nat.reduceLeDiff, Nat.reduceEqDiff, Nat.reducePow, Int.reducePow, Int.reduceLE, Int.reduceLT, Int.reduceEq, Int.reduceToNat, reduceCtorEq, RR, RB, RZ, RE, hl_0, h0_0, h1_0]
    rintro _ e _ ⟨rfl, k2, rfl, hl_3, h1_3⟩
    have hE := Option.some.inj hF; subst hE
    simp only [↓reduceIte, Nat.reduceAdd, Nat.reduceMul, Nat.reduceSub, Nat.reduceLT, Nat.reduceLeDiff, Nat.reduceEqDiff, Nat.reducePow, Int.reducePow, Int.reduceLE, Int.reduceLT, Int.reduceEq, Int.reduceToNat, reduceCtorEq, RR, RB, RZ, RE, opEv, fillV, mapO, mapS, hl_3, h1_3]
    exact fin_ret (by simp only [↓reduceIte, Nat.reduceAdd, Nat.reduceMul, Nat.reduceSub, Nat.reduceLT, Nat.reduceLeDiff, Nat.reduceEqDiff, Nat.reducePow, Int.reducePow, Int.reduceLE, Int.reduceLT, Int.reduceEq, Int.reduceToNat, reduceCtorEq, RR, RB, RZ, RE, fn_out, p32, Rs.ev, mapO, mapS, take_len_self, hl_3, h1_3])
  · dsimp only at hF
    have hE := Option.some.inj hF; subst hE
    simp only [↓reduceIte, Nat.reduceAdd, Nat.reduceMul, Nat.reduceSub, Nat.reduceLT, Nat.reduceLeDiff, Nat.reduceEqDiff, Nat.reducePow, Int.reducePow, Int.reduceLE, Int.reduceLT, Int.reduceEq, Int.reduceToNat, reduceCtorEq, RR, RB, RZ, RE, opEv, fillV, mapO, mapS, b32, hl_0, h0_0, h1_0]
    refine W.mono (l32_1 a0   gt8 (Exists.intro _ ( And.intro rfl ?_))) ?_
    · simp only [↓reduceIte, Nat.reduceAdd, Nat.reduceMul, Nat.reduceSub, Nat.reduceLT, Nat.reduceLeDiff, Nat.reduceEqDiff, Nat.reducePow, Int.reducePow, Int.reduceLE, Int.reduceLT, Int.reduceEq, Int.reduceToNat, reduceCtorEq, RR, RB, RZ, RE, hl_0, h0_0, h1_0]
    rintro _ e h ⟨rfl, hq⟩
    simp only [↓reduceIte, Nat.reduceAdd, Nat.reduceMul, Nat.reduceSub, Nat.reduceLT, Nat.reduceLeDiff, Nat.reduceEqDiff, Nat.reducePow, Int.reducePow, Int.reduceLE, Int.reduceLT, Int.reduceEq, Int.reduceToNat, reduceCtorEq, RR, RB]
    exact hq
/-! loop.example/g01273/laws.heldInt64SS -/
def F59_1_B (a0 : List (List Int)) (v5_1 : Int) (v1_1 : Int) : Option ((Int) ⊕ ((Int) ⊕ Int)) :=
  (getI a0 v5_1).bind fun x4 =>
(F32 x4 v1_1).bind fun x6 =>
if x6 < 0 then
  some (.inr (.inr (-1)))
else
  some (.inl x6)
def F59_1_D (a0 : List (List Int)) (v5_1 : Int) (v1_1 : Int) : Option ((Int) ⊕ Int) :=
  some (.inl v1_1)
def F59 (a0 : List (List Int)) (a1 : Int) : Option Int :=
  (forR 0 (a0.length : Int) (F59_1_B a0) (F59_1_D a0) a1).bind fun t9 => match t9 with
    | .inl zv1_1 =>
      some zv1_1
    | .inr r10 => some r10
def I59_1 (a0 : List (List Int))  (v5_1 : Int) (v1_1 : Int) (e : Env) (h : Heap) : Prop :=
  ∃ k2 : Nat, h = ⟨[], k2⟩ ∧ e.length = 21 ∧ e.at 0 = V.isl (List.map Enc.enc a0) ∧ e.at 1 = V.int .i64 v1_1 ∧ e.at 5 = V.int .i64 v5_1
def P59_1 (a0 : List (List Int))  (t : (Int) ⊕ Int) (x : Ex) (e : Env) (h : Heap) : Prop :=
  match t with
  | .inl zv1_1 => x = .normal ∧ ∃ k2 : Nat, h = ⟨[], k2⟩ ∧ e.length = 21 ∧ e.at 1 = V.int .i64 zv1_1
  | .inr r => x = .ret ∧ Fin p59 (Enc.enc r) .ret e h
theorem l59_1 (a0 : List (List Int))   {lo : Int} {s : Int} {t : (Int) ⊕ Int} (hF : forR lo (a0.length : Int) (F59_1_B a0) (F59_1_D a0) s = some t) {e : Env} {h : Heap} (hI : I59_1 a0  lo s e h) : W A c59_1 e h (P59_1 a0  t) := by
  show W A (.block 0 (.loop false b59_1)) e h _
  rw [W_block]
  refine W_forR hF 0 (by obtain ⟨_, rfl, _⟩ := hI; rfl) (I59_1 a0 ) hI ?_ ?_
  · rintro v5_1 v1_1 e h ⟨k2, rfl, hl_1, h0_1, h1_1, h5_1⟩ hlt hw o ho
    unfold F59_1_B at ho
    obtain ⟨x4, gx4, ho⟩ := bS ho
    obtain ⟨w5a, w5b⟩ := getI_w gx4
    obtain ⟨x6, gx6, ho⟩ := bS ho
    have w7 : ans A 32 [V.isl (List.map Enc.enc x4), V.int .i64 v1_1] = some (V.int .i64 x6) := s32 x4 v1_1  gx6
    by_cases c8 : x6 < 0
    · rw [if_pos c8] at ho
      have hE := Option.some.inj ho; subst hE
      simp only [↓reduceIte, Nat.reduceAdd, Nat.reduceMul, Nat.reduceSub, Nat.reduceLT, Nat.reduceLeDiff, Nat.reduceEqDiff, Nat.reducePow, Int.reducePow, Int.reduceLE, Int.reduceLT, Int.reduceEq, Int.reduceToNat, reduceCtorEq, RR, RB, RZ, RE, opEv, fillV, mapO, mapS, b59_1, hl_1, h0_1, h1_1, h5_1, eq_true hlt, hw, w5a, w5b, w7, eq_true c8]
      intro ht; subst ht
      simp only [↓reduceIte, Nat.reduceAdd, Nat.reduceMul, Nat.reduceSub, Nat.reduceLT, Nat.reduceLeDiff, Nat.reduceEqDiff, Nat.reducePow, Int.reducePow, Int.reduceLE, Int.reduceLT, Int.reduceEq, Int.reduceToNat, reduceCtorEq, RR, RB]
      exact And.intro rfl (fin_ret (by simp only [↓reduceIte, Nat.reduceAdd, Nat.reduceMul, Nat.reduceSub, Nat.reduceLT, Nat.reduceLeDiff, Nat.reduceEqDiff, Nat.reducePow, Int.reducePow, Int.reduceLE, Int.reduceLT, Int.reduceEq, Int.reduceToNat, reduceCtorEq, RR, RB, RZ, RE, fn_out, p59, Rs.ev, mapO, mapS, take_len_self, hl_1, h0_1, h1_1, h5_1, eq_true hlt, hw, w5a, w5b, w7, eq_true c8]))
    · rw [if_neg c8] at ho
      have hE := Option.some.inj ho; subst hE
      simp only [↓reduceIte, Nat.reduceAdd, Nat.reduceMul, Nat.reduceSub, Nat.reduceLT, Nat.reduceLeDiff, Nat.reduceEqDiff, Nat.reducePow, Int.reducePow, Int.reduceLE, Int.reduceLT, Int.reduceEq, Int.reduceToNat, reduceCtorEq, RR, RB, RZ, RE, opEv, fillV, mapO, mapS, b59_1, hl_1, h0_1, h1_1, h5_1, eq_true hlt, hw, w5a, w5b, w7, eq_false c8]
      refine And.intro rfl (Exists.intro _ ( And.intro rfl ?_))
      simp only [↓reduceIte, Nat.reduceAdd, Nat.reduceMul, Nat.reduceSub, Nat.reduceLT, Nat.reduceLeDiff, Nat.reduceEqDiff, Nat.reducePow, Int.reducePow, Int.reduceLE, Int.reduceLT, Int.reduceEq, Int.reduceToNat, reduceCtorEq, RR, RB, RZ, RE, hl_1, h0_1, h1_1, h5_1, eq_true hlt, hw, w5a, w5b, w7, eq_false c8]
  · rintro v5_1 v1_1 e h ⟨k2, rfl, hl_1, h0_1, h1_1, h5_1⟩ hge t1 ho
    unfold F59_1_D at ho
    have hE := Option.some.inj ho; subst hE
    simp only [↓reduceIte, Nat.reduceAdd, Nat.reduceMul, Nat.reduceSub, Nat.reduceLT, Nat.reduceLeDiff, Nat.reduceEqDiff, Nat.reducePow, Int.reducePow, Int.reduceLE, Int.reduceLT, Int.reduceEq, Int.reduceToNat, reduceCtorEq, RR, RB, RZ, RE, opEv, fillV, mapO, mapS, b59_1, hl_1, h0_1, h1_1, h5_1, eq_false hge]
    intro ht; subst ht
    refine And.intro rfl (Exists.intro _ ( And.intro rfl ?_))
    simp only [↓reduceIte, Nat.reduceAdd, Nat.reduceMul, Nat.reduceSub, Nat.reduceLT, Nat.reduceLeDiff, Nat.reduceEqDiff, Nat.reducePow, Int.reducePow, Int.reduceLE, Int.reduceLT, Int.reduceEq, Int.reduceToNat, reduceCtorEq, RR, RB, RZ, RE, hl_1, h0_1, h1_1, h5_1, eq_false hge]
theorem s59 (a0 : List (List Int)) (a1 : Int)   {r : Int} (hF : F59 a0 a1 = some r) : ans A 59 [V.isl (List.map Enc.enc a0), V.int .i64 a1] = some (Enc.enc r) := by
  refine ans_of (f := p59) rfl rfl rfl fun e hl he => ?_
  have h0_0 : e.at 0 = V.isl (List.map Enc.enc a0) := he 0 _ rfl
  have h1_0 : e.at 1 = V.int .i64 a1 := he 1 _ rfl
  have hl_0 : e.length = 21 := hl
  clear he hl
  show W A b59 e ⟨[], 0⟩ _
  unfold F59 at hF
  obtain ⟨t9, gt9, hF⟩ := bS hF
  rcases t9 with zv1_1 | r10
  · dsimp only at hF
    simp only [↓reduceIte, Nat.reduceAdd, Nat.reduceMul, Nat.reduceSub, Nat.reduceLT, Nat.reduceLeDiff, Nat.reduceEqDiff, Nat.reducePow, Int.reducePow, Int.reduceLE, Int.reduceLT, Int.reduceEq, Int.reduceToNat, reduceCtorEq, RR, RB, RZ, RE, opEv, fillV, mapO, mapS, b59, hl_0, h0_0, h1_0]
    refine W.mono (l59_1 a0   gt9 (Exists.intro _ ( And.intro rfl ?_))) ?_
    · simp only [↓reduceIte, Nat.reduceAdd, Nat.reduceMul, Nat.reduceSub, Nat.reduceLT, Nat.reduceLeDiff, Nat.reduceEqDiff, Nat.reducePow, Int.reducePow, Int.reduceLE, Int.reduceLT, Int.reduceEq, Int.reduceToNat, reduceCtorEq, RR, RB, RZ, RE, hl_0, h0_0, h1_0]
    rintro _ e _ ⟨rfl, k2, rfl, hl_3, h1_3⟩
    have hE := Option.some.inj hF; subst hE
    simp only [↓reduceIte, Nat.reduceAdd, Nat.reduceMul, Nat.reduceSub, Nat.reduceLT, Nat.reduceLeDiff, Nat.reduceEqDiff, Nat.reducePow, Int.reducePow, Int.reduceLE, Int.reduceLT, Int.reduceEq, Int.reduceToNat, reduceCtorEq, RR, RB, RZ, RE, opEv, fillV, mapO, mapS, hl_3, h1_3]
    exact fin_ret (by simp only [↓reduceIte, Nat.reduceAdd, Nat.reduceMul, Nat.reduceSub, Nat.reduceLT, Nat.reduceLeDiff, Nat.reduceEqDiff, Nat.reducePow, Int.reducePow, Int.reduceLE, Int.reduceLT, Int.reduceEq, Int.reduceToNat, reduceCtorEq, RR, RB, RZ, RE, fn_out, p59, Rs.ev, mapO, mapS, take_len_self, hl_3, h1_3])
  · dsimp only at hF
    have hE := Option.some.inj hF; subst hE
    simp only [↓reduceIte, Nat.reduceAdd, Nat.reduceMul, Nat.reduceSub, Nat.reduceLT, Nat.reduceLeDiff, Nat.reduceEqDiff, Nat.reducePow, Int.reducePow, Int.reduceLE, Int.reduceLT, Int.reduceEq, Int.reduceToNat, reduceCtorEq, RR, RB, RZ, RE, opEv, fillV, mapO, mapS, b59, hl_0, h0_0, h1_0]
    refine W.mono (l59_1 a0   gt9 (Exists.intro _ ( And.intro rfl ?_))) ?_
    · simp only [↓reduceIte, Nat.reduceAdd, Nat.reduceMul, Nat.reduceSub, Nat.reduceLT, Nat.reduceLeDiff, Nat.reduceEqDiff, Nat.reducePow, Int.reducePow, Int.reduceLE, Int.reduceLT, Int.reduceEq, Int.reduceToNat, reduceCtorEq, RR, RB, RZ, RE, hl_0, h0_0, h1_0]
    rintro _ e h ⟨rfl, hq⟩
    simp only [↓reduceIte, Nat.reduceAdd, Nat.reduceMul, Nat.reduceSub, Nat.reduceLT, Nat.reduceLeDiff, Nat.reduceEqDiff, Nat.reducePow, Int.reducePow, Int.reduceLE, Int.reduceLT, Int.reduceEq, Int.reduceToNat, reduceCtorEq, RR, RB]
    exact hq
/-! loop.example/g01273/laws.heldInt64SSS -/
def F53_1_B (a0 : List (List (List Int))) (v5_1 : Int) (v1_1 : Int) : Option ((Int) ⊕ ((Int) ⊕ Int)) :=
  (getI a0 v5_1).bind fun x4 =>
(F59 x4 v1_1).bind fun x6 =>
if x6 < 0 then
  some (.inr (.inr (-1)))
else
  some (.inl x6)
def F53_1_D (a0 : List (List (List Int))) (v5_1 : Int) (v1_1 : Int) : Option ((Int) ⊕ Int) :=
  some (.inl v1_1)
def F53 (a0 : List (List (List Int))) (a1 : Int) : Option Int :=
  (forR 0 (a0.length : Int) (F53_1_B a0) (F53_1_D a0) a1).bind fun t9 => match t9 with
    | .inl zv1_1 =>
      some zv1_1
    | .inr r10 => some r10
def I53_1 (a0 : List (List (List Int)))  (v5_1 : Int) (v1_1 : Int) (e : Env) (h : Heap) : Prop :=
  ∃ k2 : Nat, h = ⟨[], k2⟩ ∧ e.length = 21 ∧ e.at 0 = V.isl (List.map Enc.enc a0) ∧ e.at 1 = V.int .i64 v1_1 ∧ e.at 5 = V.int .i64 v5_1
def P53_1 (a0 : List (List (List Int)))  (t : (Int) ⊕ Int) (x : Ex) (e : Env) (h : Heap) : Prop :=
  match t with
  | .inl zv1_1 => x = .normal ∧ ∃ k2 : Nat, h = ⟨[], k2⟩ ∧ e.length = 21 ∧ e.at 1 = V.int .i64 zv1_1
  | .inr r => x = .ret ∧ Fin p53 (Enc.enc r) .ret e h
theorem l53_1 (a0 : List (List (List Int)))   {lo : Int} {s : Int} {t : (Int) ⊕ Int} (hF : forR lo (a0.length : Int) (F53_1_B a0) (F53_1_D a0) s = some t) {e : Env} {h : Heap} (hI : I53_1 a0  lo s e h) : W A c53_1 e h (P53_1 a0  t) := by
  show W A (.block 0 (.loop false b53_1)) e h _
  rw [W_block]
  refine W_forR hF 0 (by obtain ⟨_, rfl, _⟩ := hI; rfl) (I53_1 a0 ) hI ?_ ?_
  · rintro v5_1 v1_1 e h ⟨k2, rfl, hl_1, h0_1, h1_1, h5_1⟩ hlt hw o ho
    unfold F53_1_B at ho
    obtain ⟨x4, gx4, ho⟩ := bS ho
    obtain ⟨w5a, w5b⟩ := getI_w gx4
    obtain ⟨x6, gx6, ho⟩ := bS ho
    have w7 : ans A 59 [V.isl (List.map Enc.enc x4), V.int .i64 v1_1] = some (V.int .i64 x6) := s59 x4 v1_1  gx6
    by_cases c8 : x6 < 0
    · rw [if_pos c8] at ho
      have hE := Option.some.inj ho; subst hE
      simp only [↓reduceIte, Nat.reduceAdd, Nat.reduceMul, Nat.reduceSub, Nat.reduceLT, Nat.reduceLeDiff, Nat.reduceEqDiff, Nat.reducePow, Int.reducePow, Int.reduceLE, Int.reduceLT, Int.reduceEq, Int.reduceToNat, reduceCtorEq, RR, RB, RZ, RE, opEv, fillV, mapO, mapS, b53_1, hl_1, h0_1, h1_1, h5_1, eq_true hlt, hw, w5a, w5b, w7, eq_true c8]
      intro ht; subst ht
      simp only [↓reduceIte, Nat.reduceAdd, Nat.reduceMul, Nat.reduceSub, Nat.reduceLT, Nat.reduceLeDiff, Nat.reduceEqDiff, Nat.reducePow, Int.reducePow, Int.reduceLE, Int.reduceLT, Int.reduceEq, Int.reduceToNat, reduceCtorEq, RR, RB]
      exact And.intro rfl (fin_ret (by simp only [↓reduceIte, Nat.reduceAdd, Nat.reduceMul, Nat.reduceSub, Nat.reduceLT, Nat.reduceLeDiff, Nat.reduceEqDiff, Nat.reducePow, Int.reducePow, Int.reduceLE, Int.reduceLT, Int.reduceEq, Int.reduceToNat, reduceCtorEq, RR, RB, RZ, RE, fn_out, p53, Rs.ev, mapO, mapS, take_len_self, hl_1, h0_1, h1_1, h5_1, eq_true hlt, hw, w5a, w5b, w7, eq_true c8]))
    · rw [if_neg c8] at ho
      have hE := Option.some.inj ho; subst hE
      simp only [↓reduceIte, Nat.reduceAdd, Nat.reduceMul, Nat.reduceSub, Nat.reduceLT, Nat.reduceLeDiff, Nat.reduceEqDiff, Nat.reducePow, Int.reducePow, Int.reduceLE, Int.reduceLT, Int.reduceEq, Int.reduceToNat, reduceCtorEq, RR, RB, RZ, RE, opEv, fillV, mapO, mapS, b53_1, hl_1, h0_1, h1_1, h5_1, eq_true hlt, hw, w5a, w5b, w7, eq_false c8]
      refine And.intro rfl (Exists.intro _ ( And.intro rfl ?_))
      simp only [↓reduceIte, Nat.reduceAdd, Nat.reduceMul, Nat.reduceSub, Nat.reduceLT, Nat.reduceLeDiff, Nat.reduceEqDiff, Nat.reducePow, Int.reducePow, Int.reduceLE, Int.reduceLT, Int.reduceEq, Int.reduceToNat, reduceCtorEq, RR, RB, RZ, RE, hl_1, h0_1, h1_1, h5_1, eq_true hlt, hw, w5a, w5b, w7, eq_false c8]
  · rintro v5_1 v1_1 e h ⟨k2, rfl, hl_1, h0_1, h1_1, h5_1⟩ hge t1 ho
    unfold F53_1_D at ho
    have hE := Option.some.inj ho; subst hE
    simp only [↓reduceIte, Nat.reduceAdd, Nat.reduceMul, Nat.reduceSub, Nat.reduceLT, Nat.reduceLeDiff, Nat.reduceEqDiff, Nat.reducePow, Int.reducePow, Int.reduceLE, Int.reduceLT, Int.reduceEq, Int.reduceToNat, reduceCtorEq, RR, RB, RZ, RE, opEv, fillV, mapO, mapS, b53_1, hl_1, h0_1, h1_1, h5_1, eq_false hge]
    intro ht; subst ht
    refine And.intro rfl (Exists.intro _ ( And.intro rfl ?_))
    simp only [↓reduceIte, Nat.reduceAdd, Nat.reduceMul, Nat.reduceSub, Nat.reduceLT, Nat.reduceLeDiff, Nat.reduceEqDiff, Nat.reducePow, Int.reducePow, Int.reduceLE, Int.reduceLT, Int.reduceEq, Int.reduceToNat, reduceCtorEq, RR, RB, RZ, RE, hl_1, h0_1, h1_1, h5_1, eq_false hge]
theorem s53 (a0 : List (List (List Int))) (a1 : Int)   {r : Int} (hF : F53 a0 a1 = some r) : ans A 53 [V.isl (List.map Enc.enc a0), V.int .i64 a1] = some (Enc.enc r) := by
  refine ans_of (f := p53) rfl rfl rfl fun e hl he => ?_
  have h0_0 : e.at 0 = V.isl (List.map Enc.enc a0) := he 0 _ rfl
  have h1_0 : e.at 1 = V.int .i64 a1 := he 1 _ rfl
  have hl_0 : e.length = 21 := hl
  clear he hl
  show W A b53 e ⟨[], 0⟩ _
  unfold F53 at hF
  obtain ⟨t9, gt9, hF⟩ := bS hF
  rcases t9 with zv1_1 | r10
  · dsimp only at hF
    simp only [↓reduceIte, Nat.reduceAdd, Nat.reduceMul, Nat.reduceSub, Nat.reduceLT, Nat.reduceLeDiff, Nat.reduceEqDiff, Nat.reducePow, Int.reducePow, Int.reduceLE, Int.reduceLT, Int.reduceEq, Int.reduceToNat, reduceCtorEq, RR, RB, RZ, RE, opEv, fillV, mapO, mapS, b53, hl_0, h0_0, h1_0]
    refine W.mono (l53_1 a0   gt9 (Exists.intro _ ( And.intro rfl ?_))) ?_
    · simp only [↓reduceIte, Nat.reduceAdd, Nat.reduceMul, Nat.reduceSub, Nat.reduceLT, Nat.reduceLeDiff, Nat.reduceEqDiff, Nat.reducePow, Int.reducePow, Int.reduceLE, Int.reduceLT, Int.reduceEq, Int.reduceToNat, reduceCtorEq, RR, RB, RZ, RE, hl_0, h0_0, h1_0]
    rintro _ e _ ⟨rfl, k2, rfl, hl_3, h1_3⟩
    have hE := Option.some.inj hF; subst hE
    simp only [↓reduceIte, Nat.reduceAdd, Nat.reduceMul, Nat.reduceSub, Nat.reduceLT, Nat.reduceLeDiff, Nat.reduceEqDiff, Nat.reducePow, Int.reducePow, Int.reduceLE, Int.reduceLT, Int.reduceEq, Int.reduceToNat, reduceCtorEq, RR, RB, RZ, RE, opEv, fillV, mapO, mapS, hl_3, h1_3]
    exact fin_ret (by simp only [↓reduceIte, Nat.reduceAdd, Nat.reduceMul, Nat.reduceSub, Nat.reduceLT, Nat.reduceLeDiff, Nat.reduceEqDiff, Nat.reducePow, Int.reducePow, Int.reduceLE, Int.reduceLT, Int.reduceEq, Int.reduceToNat, reduceCtorEq, RR, RB, RZ, RE, fn_out, p53, Rs.ev, mapO, mapS, take_len_self, hl_3, h1_3])
  · dsimp only at hF
    have hE := Option.some.inj hF; subst hE
    simp only [↓reduceIte, Nat.reduceAdd, Nat.reduceMul, Nat.reduceSub, Nat.reduceLT, Nat.reduceLeDiff, Nat.reduceEqDiff, Nat.reducePow, Int.reducePow, Int.reduceLE, Int.reduceLT, Int.reduceEq, Int.reduceToNat, reduceCtorEq, RR, RB, RZ, RE, opEv, fillV, mapO, mapS, b53, hl_0, h0_0, h1_0]
    refine W.mono (l53_1 a0   gt9 (Exists.intro _ ( And.intro rfl ?_))) ?_
    · simp only [↓reduceIte, Nat.reduceAdd, Nat.reduceMul, Nat.reduceSub, Nat.reduceLT, Nat.reduceLeDiff, Nat.reduceEqDiff, Nat.reducePow, Int.reducePow, Int.reduceLE, Int.reduceLT, Int.reduceEq, Int.reduceToNat, reduceCtorEq, RR, RB, RZ, RE, hl_0, h0_0, h1_0]
    rintro _ e h ⟨rfl, hq⟩
    simp only [↓reduceIte, Nat.reduceAdd, Nat.reduceMul, Nat.reduceSub, Nat.reduceLT, Nat.reduceLeDiff, Nat.reduceEqDiff, Nat.reducePow, Int.reducePow, Int.reduceLE, Int.reduceLT, Int.reduceEq, Int.reduceToNat, reduceCtorEq, RR, RB]
    exact hq
/-! loop.example/g01273/laws.heldComplex -/
def F22 (a0 : GComplex) (a1 : Int) : Option Int :=
  (F32 a0.Dims a1).bind fun x1 =>
  if x1 < 0 then
    some (-1)
  else
    (F53 a0.Maps x1).bind fun x4 =>
    if x4 < 0 then
      some (-1)
    else
      some x4
theorem s22 (a0 : GComplex) (a1 : Int)   {r : Int} (hF : F22 a0 a1 = some r) : ans A 22 [V.agg [V.int .i64 a0.Prime, V.isl (List.map Enc.enc a0.Dims), V.isl (List.map Enc.enc a0.Maps)], V.int .i64 a1] = some (Enc.enc r) := by
  refine ans_of (f := p22) rfl rfl rfl fun e hl he => ?_
  have h0_0 : e.at 0 = V.agg [V.int .i64 a0.Prime, V.isl (List.map Enc.enc a0.Dims), V.isl (List.map Enc.enc a0.Maps)] := he 0 _ rfl
  have h1_0 : e.at 1 = V.int .i64 a1 := he 1 _ rfl
  have hl_0 : e.length = 18 := hl
  clear he hl
  show W A b22 e ⟨[], 0⟩ _
  unfold F22 at hF
  obtain ⟨x1, gx1, hF⟩ := bS hF
  have w2 : ans A 32 [V.isl (List.map Enc.enc a0.Dims), V.int .i64 a1] = some (V.int .i64 x1) := s32 a0.Dims a1  gx1
  by_cases c3 : x1 < 0
  · rw [if_pos c3] at hF
    have hE := Option.some.inj hF; subst hE
    simp only [↓reduceIte, Nat.reduceAdd, Nat.reduceMul, Nat.reduceSub, Nat.reduceLT, Nat.reduceLeDiff, Nat.reduceEqDiff, Nat.reducePow, Int.reducePow, Int.reduceLE, Int.reduceLT, Int.reduceEq, Int.reduceToNat, reduceCtorEq, RR, RB, RZ, RE, opEv, fillV, mapO, mapS, b22, hl_0, h0_0, h1_0, w2, eq_true c3]
    exact fin_ret (by simp only [↓reduceIte, Nat.reduceAdd, Nat.reduceMul, Nat.reduceSub, Nat.reduceLT, Nat.reduceLeDiff, Nat.reduceEqDiff, Nat.reducePow, Int.reducePow, Int.reduceLE, Int.reduceLT, Int.reduceEq, Int.reduceToNat, reduceCtorEq, RR, RB, RZ, RE, fn_out, p22, Rs.ev, mapO, mapS, take_len_self, hl_0, h0_0, h1_0, w2, eq_true c3])
  · rw [if_neg c3] at hF
    obtain ⟨x4, gx4, hF⟩ := bS hF
    have w5 : ans A 53 [V.isl (List.map Enc.enc a0.Maps), V.int .i64 x1] = some (V.int .i64 x4) := s53 a0.Maps x1  gx4
    by_cases c6 : x4 < 0
    · rw [if_pos c6] at hF
      have hE := Option.some.inj hF; subst hE
      simp only [↓reduceIte, Nat.reduceAdd, Nat.reduceMul, Nat.reduceSub, Nat.reduceLT, Nat.reduceLeDiff, Nat.reduceEqDiff, Nat.reducePow, Int.reducePow, Int.reduceLE, Int.reduceLT, Int.reduceEq, Int.reduceToNat, reduceCtorEq, RR, RB, RZ, RE, opEv, fillV, mapO, mapS, b22, hl_0, h0_0, h1_0, w2, eq_false c3, w5, eq_true c6]
      exact fin_ret (by simp only [↓reduceIte, Nat.reduceAdd, Nat.reduceMul, Nat.reduceSub, Nat.reduceLT, Nat.reduceLeDiff, Nat.reduceEqDiff, Nat.reducePow, Int.reducePow, Int.reduceLE, Int.reduceLT, Int.reduceEq, Int.reduceToNat, reduceCtorEq, RR, RB, RZ, RE, fn_out, p22, Rs.ev, mapO, mapS, take_len_self, hl_0, h0_0, h1_0, w2, eq_false c3, w5, eq_true c6])
    · rw [if_neg c6] at hF
      have hE := Option.some.inj hF; subst hE
      simp only [↓reduceIte, Nat.reduceAdd, Nat.reduceMul, Nat.reduceSub, Nat.reduceLT, Nat.reduceLeDiff, Nat.reduceEqDiff, Nat.reducePow, Int.reducePow, Int.reduceLE, Int.reduceLT, Int.reduceEq, Int.reduceToNat, reduceCtorEq, RR, RB, RZ, RE, opEv, fillV, mapO, mapS, b22, hl_0, h0_0, h1_0, w2, eq_false c3, w5, eq_false c6]
      exact fin_ret (by simp only [↓reduceIte, Nat.reduceAdd, Nat.reduceMul, Nat.reduceSub, Nat.reduceLT, Nat.reduceLeDiff, Nat.reduceEqDiff, Nat.reducePow, Int.reducePow, Int.reduceLE, Int.reduceLT, Int.reduceEq, Int.reduceToNat, reduceCtorEq, RR, RB, RZ, RE, fn_out, p22, Rs.ev, mapO, mapS, take_len_self, hl_0, h0_0, h1_0, w2, eq_false c3, w5, eq_false c6])
/-! loop.example/g01273/laws.heldFiltered -/
def F27 (a0 : GFiltered) (a1 : Int) : Option Int :=
  (F22 a0.Complex a1).bind fun x1 =>
  if x1 < 0 then
    some (-1)
  else
    (F59 a0.Levels x1).bind fun x4 =>
    if x4 < 0 then
      some (-1)
    else
      some x4
theorem s27 (a0 : GFiltered) (a1 : Int)   {r : Int} (hF : F27 a0 a1 = some r) : ans A 27 [V.agg [V.int .i64 a0.Complex.Prime, V.isl (List.map Enc.enc a0.Complex.Dims), V.isl (List.map Enc.enc a0.Complex.Maps), V.isl (List.map Enc.enc a0.Levels)], V.int .i64 a1] = some (Enc.enc r) := by
  refine ans_of (f := p27) rfl rfl rfl fun e hl he => ?_
  have h0_0 : e.at 0 = V.agg [V.int .i64 a0.Complex.Prime, V.isl (List.map Enc.enc a0.Complex.Dims), V.isl (List.map Enc.enc a0.Complex.Maps), V.isl (List.map Enc.enc a0.Levels)] := he 0 _ rfl
  have h1_0 : e.at 1 = V.int .i64 a1 := he 1 _ rfl
  have hl_0 : e.length = 18 := hl
  clear he hl
  show W A b27 e ⟨[], 0⟩ _
  unfold F27 at hF
  obtain ⟨x1, gx1, hF⟩ := bS hF
  have w2 : ans A 22 [V.agg [V.int .i64 a0.Complex.Prime, V.isl (List.map Enc.enc a0.Complex.Dims), V.isl (List.map Enc.enc a0.Complex.Maps)], V.int .i64 a1] = some (V.int .i64 x1) := s22 a0.Complex a1  gx1
  by_cases c3 : x1 < 0
  · rw [if_pos c3] at hF
    have hE := Option.some.inj hF; subst hE
    simp only [↓reduceIte, Nat.reduceAdd, Nat.reduceMul, Nat.reduceSub, Nat.reduceLT, Nat.reduceLeDiff, Nat.reduceEqDiff, Nat.reducePow, Int.reducePow, Int.reduceLE, Int.reduceLT, Int.reduceEq, Int.reduceToNat, reduceCtorEq, RR, RB, RZ, RE, opEv, fillV, mapO, mapS, b27, hl_0, h0_0, h1_0, w2, eq_true c3]
    exact fin_ret (by simp only [↓reduceIte, Nat.reduceAdd, Nat.reduceMul, Nat.reduceSub, Nat.reduceLT, Nat.reduceLeDiff, Nat.reduceEqDiff, Nat.reducePow, Int.reducePow, Int.reduceLE, Int.reduceLT, Int.reduceEq, Int.reduceToNat, reduceCtorEq, RR, RB, RZ, RE, fn_out, p27, Rs.ev, mapO, mapS, take_len_self, hl_0, h0_0, h1_0, w2, eq_true c3])
  · rw [if_neg c3] at hF
    obtain ⟨x4, gx4, hF⟩ := bS hF
    have w5 : ans A 59 [V.isl (List.map Enc.enc a0.Levels), V.int .i64 x1] = some (V.int .i64 x4) := s59 a0.Levels x1  gx4
    by_cases c6 : x4 < 0
    · rw [if_pos c6] at hF
      have hE := Option.some.inj hF; subst hE
      simp only [↓reduceIte, Nat.reduceAdd, Nat.reduceMul, Nat.reduceSub, Nat.reduceLT, Nat.reduceLeDiff, Nat.reduceEqDiff, Nat.reducePow, Int.reducePow, Int.reduceLE, Int.reduceLT, Int.reduceEq, Int.reduceToNat, reduceCtorEq, RR, RB, RZ, RE, opEv, fillV, mapO, mapS, b27, hl_0, h0_0, h1_0, w2, eq_false c3, w5, eq_true c6]
      exact fin_ret (by simp only [↓reduceIte, Nat.reduceAdd, Nat.reduceMul, Nat.reduceSub, Nat.reduceLT, Nat.reduceLeDiff, Nat.reduceEqDiff, Nat.reducePow, Int.reducePow, Int.reduceLE, Int.reduceLT, Int.reduceEq, Int.reduceToNat, reduceCtorEq, RR, RB, RZ, RE, fn_out, p27, Rs.ev, mapO, mapS, take_len_self, hl_0, h0_0, h1_0, w2, eq_false c3, w5, eq_true c6])
    · rw [if_neg c6] at hF
      have hE := Option.some.inj hF; subst hE
      simp only [↓reduceIte, Nat.reduceAdd, Nat.reduceMul, Nat.reduceSub, Nat.reduceLT, Nat.reduceLeDiff, Nat.reduceEqDiff, Nat.reducePow, Int.reducePow, Int.reduceLE, Int.reduceLT, Int.reduceEq, Int.reduceToNat, reduceCtorEq, RR, RB, RZ, RE, opEv, fillV, mapO, mapS, b27, hl_0, h0_0, h1_0, w2, eq_false c3, w5, eq_false c6]
      exact fin_ret (by simp only [↓reduceIte, Nat.reduceAdd, Nat.reduceMul, Nat.reduceSub, Nat.reduceLT, Nat.reduceLeDiff, Nat.reduceEqDiff, Nat.reducePow, Int.reducePow, Int.reduceLE, Int.reduceLT, Int.reduceEq, Int.reduceToNat, reduceCtorEq, RR, RB, RZ, RE, fn_out, p27, Rs.ev, mapO, mapS, take_len_self, hl_0, h0_0, h1_0, w2, eq_false c3, w5, eq_false c6])
/-! loop.example/g01273/laws.FnExactFlatFiltered -/
def L113 (a0 : GComplex) (a1 : Int) : Prop :=
  (∃ l0, F10 a0 1048576 = some l0 ∧ l0 < 0) ∨
  (∃ (l0 : Int) (s0 : GComplex) (w : GFiltered) (cd : Int) (m0 : GComplex × Int) (mg : GFiltered × Int), F10 a0 1048576 = some l0 ∧ ¬ l0 < 0 ∧ F12 a0 = some s0 ∧ F23 s0 a1 = some ⟨w, cd⟩ ∧ F24 s0 a1 = some ⟨w, cd⟩ ∧ F25 w w = some true ∧ F16 s0 s0 = some true ∧ FM20 s0 1 = some m0 ∧ ¬ m0.2 < 0 ∧ FM26 w 1 = some mg ∧ F27 mg.1 1 = some mg.2 ∧ ¬ mg.2 < 0)
theorem s113 (a0 : GComplex) (a1 : Int) (hF : L113 a0 a1) : ans A 113 [V.agg [V.int .i64 a0.Prime, V.isl (List.map Enc.enc a0.Dims), V.isl (List.map Enc.enc a0.Maps)], V.int .i64 a1] = some (V.bool true) := by
  refine ans_of (f := p113) rfl rfl rfl fun e hl he => ?_
  have h0_0 : e.at 0 = V.agg [V.int .i64 a0.Prime, V.isl (List.map Enc.enc a0.Dims), V.isl (List.map Enc.enc a0.Maps)] := he 0 _ rfl
  have h1_0 : e.at 1 = V.int .i64 a1 := he 1 _ rfl
  have hl_0 : e.length = 101 := hl
  clear he hl
  show W A b113 e ⟨[], 0⟩ _
  rcases hF with ⟨l0, g0, c0⟩ | ⟨l0, s0, w, cd, m0, mg, g0, c0, t0, gs, gi, ge, q0, k0, ck, gm, gh, cg⟩
  · have z0 := s10 a0 _ g0
    simp only [↓reduceIte, Nat.reduceAdd, Nat.reduceMul, Nat.reduceSub, Nat.reduceLT, Nat.reduceLeDiff, Nat.reduceEqDiff, Nat.reducePow, Int.reducePow, Int.reduceLE, Int.reduceLT, Int.reduceEq, Int.reduceToNat, reduceCtorEq, RR, RB, RZ, RE, opEv, fillV, mapO, mapS, b113, hl_0, h0_0, h1_0, z0, eq_true c0]
    exact fin_ret (by simp only [↓reduceIte, Nat.reduceAdd, Nat.reduceMul, Nat.reduceSub, Nat.reduceLT, Nat.reduceLeDiff, Nat.reduceEqDiff, Nat.reducePow, Int.reducePow, Int.reduceLE, Int.reduceLT, Int.reduceEq, Int.reduceToNat, reduceCtorEq, RR, RB, RZ, RE, fn_out, p113, Rs.ev, mapO, mapS, take_len_self, hl_0, z0, eq_true c0])
  · have z0 := s10 a0 _ g0
    have u0 : ans A 12 [V.agg [V.int .i64 a0.Prime, V.isl (List.map Enc.enc a0.Dims), V.isl (List.map Enc.enc a0.Maps)]] = some (V.agg [V.int .i64 s0.Prime, V.isl (List.map Enc.enc s0.Dims), V.isl (List.map Enc.enc s0.Maps)]) := s12 a0 t0
    have x0 : tans A 12 [1, 1, 1] [V.agg [V.int .i64 a0.Prime, V.isl (List.map Enc.enc a0.Dims), V.isl (List.map Enc.enc a0.Maps)]] = some (V.agg [V.int .i64 s0.Prime, V.isl (List.map Enc.enc s0.Dims), V.isl (List.map Enc.enc s0.Maps)]) := x12 a0 t0
    have us : ans A 23 [V.agg [V.int .i64 s0.Prime, V.isl (List.map Enc.enc s0.Dims), V.isl (List.map Enc.enc s0.Maps)], V.int .i64 a1] = some (V.tup [V.agg [V.int .i64 w.Complex.Prime, V.isl (List.map Enc.enc w.Complex.Dims), V.isl (List.map Enc.enc w.Complex.Maps), V.isl (List.map Enc.enc w.Levels)], V.int .i64 cd]) := s23 s0 a1 gs
    have ui : ans A 24 [V.agg [V.int .i64 s0.Prime, V.isl (List.map Enc.enc s0.Dims), V.isl (List.map Enc.enc s0.Maps)], V.int .i64 a1] = some (V.tup [V.agg [V.int .i64 w.Complex.Prime, V.isl (List.map Enc.enc w.Complex.Dims), V.isl (List.map Enc.enc w.Complex.Maps), V.isl (List.map Enc.enc w.Levels)], V.int .i64 cd]) := s24 s0 a1 gi
    have xi : tans A 24 [1, 1, 1] [V.agg [V.int .i64 s0.Prime, V.isl (List.map Enc.enc s0.Dims), V.isl (List.map Enc.enc s0.Maps)], V.int .i64 a1] = some (V.tup [V.agg [V.int .i64 w.Complex.Prime, V.isl (List.map Enc.enc w.Complex.Dims), V.isl (List.map Enc.enc w.Complex.Maps), V.isl (List.map Enc.enc w.Levels)], V.int .i64 cd]) := x24 s0 a1 gi
    have ue : ans A 25 [V.agg [V.int .i64 w.Complex.Prime, V.isl (List.map Enc.enc w.Complex.Dims), V.isl (List.map Enc.enc w.Complex.Maps), V.isl (List.map Enc.enc w.Levels)], V.agg [V.int .i64 w.Complex.Prime, V.isl (List.map Enc.enc w.Complex.Dims), V.isl (List.map Enc.enc w.Complex.Maps), V.isl (List.map Enc.enc w.Levels)]] = some (V.bool true) := s25 w w ge
    have y0 : ans A 16 [V.agg [V.int .i64 s0.Prime, V.isl (List.map Enc.enc s0.Dims), V.isl (List.map Enc.enc s0.Maps)], V.agg [V.int .i64 s0.Prime, V.isl (List.map Enc.enc s0.Dims), V.isl (List.map Enc.enc s0.Maps)]] = some (V.bool true) := s16 s0 s0 q0
    have bw : bare 16 [1, 1, 1] (V.tup [V.agg [V.int .i64 w.Complex.Prime, V.isl (List.map Enc.enc w.Complex.Dims), V.isl (List.map Enc.enc w.Complex.Maps), V.isl (List.map Enc.enc w.Levels)], V.int .i64 cd]) = true := bare_tup (l := [⟨w⟩, ⟨cd⟩]) (fits_pair rfl (by decide))
    obtain ⟨v0, ⟨E_1, c_2⟩, K_3, t_5, r_4, b_6, le_7, o_8⟩ := thawD (α := GComplex) (by decide) s0 ⟨[(0, none), (1, some [V.int .i64 w.Complex.Prime, V.isl (List.map Enc.enc w.Complex.Dims), V.isl (List.map Enc.enc w.Complex.Maps), V.isl (List.map Enc.enc w.Levels)])], 2⟩
    obtain ⟨d0_1, d0_2, rfl, -⟩ := sh_GComplex r_4
    simp only [le1, List.length_cons, List.length_nil, Nat.zero_add, Nat.reduceAdd] at b_6 le_7 o_8
    have t_5' : thaw 16 [1, 1, 1] (V.agg [V.int .i64 s0.Prime, V.isl (List.map Enc.enc s0.Dims), V.isl (List.map Enc.enc s0.Maps)]) ⟨[(0, none), (1, some [V.int .i64 w.Complex.Prime, V.isl (List.map Enc.enc w.Complex.Dims), V.isl (List.map Enc.enc w.Complex.Maps), V.isl (List.map Enc.enc w.Levels)])], 2⟩ = some (V.agg [V.int .i64 s0.Prime, d0_1, d0_2], ⟨E_1, c_2⟩) := t_5
    have f_9 : E_1[1]? = some (1, some [V.int .i64 w.Complex.Prime, V.isl (List.map Enc.enc w.Complex.Dims), V.isl (List.map Enc.enc w.Complex.Maps), V.isl (List.map Enc.enc w.Levels)]) := o_8 1 (by decide)
    have f_10 : (E_1 ++ [(c_2, some [V.int .i64 s0.Prime, d0_1, d0_2])])[1]? = some (1, some [V.int .i64 w.Complex.Prime, V.isl (List.map Enc.enc w.Complex.Dims), V.isl (List.map Enc.enc w.Complex.Maps), V.isl (List.map Enc.enc w.Levels)]) := (List.getElem?_append_left (List.getElem?_eq_some_iff.1 f_9).1).trans f_9
    have f_11 : (E_1 ++ [(c_2, some [V.int .i64 s0.Prime, d0_1, d0_2])])[E_1.length]? = some (c_2, some [V.int .i64 s0.Prime, d0_1, d0_2]) := get_last _ _
    have r_12 := Deep.frame (h' := ⟨E_1 ++ [(c_2, some [V.int .i64 s0.Prime, d0_1, d0_2])], c_2 + 1⟩) r_4 fun k q => (List.getElem?_append_left (Deep.bd r_4 q) : (E_1 ++ [(c_2, some [V.int .i64 s0.Prime, d0_1, d0_2])])[k]? = _)
    obtain ⟨z_13_e0, z_13_1, z_13_2⟩ := fz_GComplex r_12
    obtain ⟨vg, ⟨E_14, c_15⟩, K_16, t_18, r_17, b_19, le_20, o_21⟩ := thawP (α := GFiltered) (s := 1) (ss := [1, 1]) (by decide) w cd ⟨E_1 ++ [(c_2, some [V.int .i64 s0.Prime, d0_1, d0_2])], c_2 + 1⟩
    obtain ⟨dg_1, dg_2, dg_3, rfl, -⟩ := sh_GFiltered r_17
    simp only [le1, List.length_cons, List.length_nil, Nat.zero_add, Nat.reduceAdd] at b_19 le_20 o_21
    have t_18' : thaw 16 [1, 1, 1] (V.tup [V.agg [V.int .i64 w.Complex.Prime, V.isl (List.map Enc.enc w.Complex.Dims), V.isl (List.map Enc.enc w.Complex.Maps), V.isl (List.map Enc.enc w.Levels)], V.int .i64 cd]) ⟨E_1 ++ [(c_2, some [V.int .i64 s0.Prime, d0_1, d0_2])], c_2 + 1⟩ = some (V.tup [V.agg [V.int .i64 w.Complex.Prime, dg_1, dg_2, dg_3], V.int .i64 cd], ⟨E_14, c_15⟩) := t_18
    have f_22 : E_14[1]? = some (1, some [V.int .i64 w.Complex.Prime, V.isl (List.map Enc.enc w.Complex.Dims), V.isl (List.map Enc.enc w.Complex.Maps), V.isl (List.map Enc.enc w.Levels)]) := (o_21 1 (by have := (List.getElem?_eq_some_iff.1 f_10).1; (try simp only [le1] at this); omega)).trans f_10
    have f_23 : E_14[E_1.length]? = some (c_2, some [V.int .i64 s0.Prime, d0_1, d0_2]) := (o_21 E_1.length (by have := (List.getElem?_eq_some_iff.1 f_11).1; (try simp only [le1] at this); omega)).trans f_11
    have r_24 := Deep.frame (h' := ⟨E_14, c_15⟩) r_12 fun k q => o_21 k (by have := Deep.bd r_12 q; (try simp only [le1] at this); omega)
    have f_25 : (E_14 ++ [(c_15, some [V.int .i64 w.Complex.Prime, dg_1, dg_2, dg_3])])[1]? = some (1, some [V.int .i64 w.Complex.Prime, V.isl (List.map Enc.enc w.Complex.Dims), V.isl (List.map Enc.enc w.Complex.Maps), V.isl (List.map Enc.enc w.Levels)]) := (List.getElem?_append_left (List.getElem?_eq_some_iff.1 f_22).1).trans f_22
    have f_26 : (E_14 ++ [(c_15, some [V.int .i64 w.Complex.Prime, dg_1, dg_2, dg_3])])[E_1.length]? = some (c_2, some [V.int .i64 s0.Prime, d0_1, d0_2]) := (List.getElem?_append_left (List.getElem?_eq_some_iff.1 f_23).1).trans f_23
    have f_27 : (E_14 ++ [(c_15, some [V.int .i64 w.Complex.Prime, dg_1, dg_2, dg_3])])[E_14.length]? = some (c_15, some [V.int .i64 w.Complex.Prime, dg_1, dg_2, dg_3]) := get_last _ _
    have r_28 := Deep.frame (h' := ⟨E_14 ++ [(c_15, some [V.int .i64 w.Complex.Prime, dg_1, dg_2, dg_3])], c_15 + 1⟩) r_24 fun k q => (List.getElem?_append_left (Deep.bd r_24 q) : (E_14 ++ [(c_15, some [V.int .i64 w.Complex.Prime, dg_1, dg_2, dg_3])])[k]? = _)
    have r_29 := Deep.frame (h' := ⟨E_14 ++ [(c_15, some [V.int .i64 w.Complex.Prime, dg_1, dg_2, dg_3])], c_15 + 1⟩) r_17 fun k q => (List.getElem?_append_left (Deep.bd r_17 q) : (E_14 ++ [(c_15, some [V.int .i64 w.Complex.Prime, dg_1, dg_2, dg_3])])[k]? = _)
    obtain ⟨z_30_e0, z_30_1, z_30_2, z_30_3⟩ := fz_GFiltered r_29
    obtain ⟨z_31_e0, z_31_1, z_31_2⟩ := fz_GComplex r_28
    obtain ⟨⟨E_32, c_33⟩, w_34, r_35, o_37, le_36⟩ := dm20 k0 _ r_28
    try simp only [le1] at o_37 le_36
    have f_38 : E_32[1]? = some (1, some [V.int .i64 w.Complex.Prime, V.isl (List.map Enc.enc w.Complex.Dims), V.isl (List.map Enc.enc w.Complex.Maps), V.isl (List.map Enc.enc w.Levels)]) := (o_37 1 (by have := (List.getElem?_eq_some_iff.1 f_25).1; (try simp only [le1] at this); omega) (fun p => by have h1 := b_6 _ p; omega)).trans f_25
    have f_39 : E_32[E_1.length]? = some (c_2, some [V.int .i64 s0.Prime, d0_1, d0_2]) := (o_37 E_1.length (by have := (List.getElem?_eq_some_iff.1 f_26).1; (try simp only [le1] at this); omega) (fun p => by have h1 := b_6 _ p; omega)).trans f_26
    have f_40 : E_32[E_14.length]? = some (c_15, some [V.int .i64 w.Complex.Prime, dg_1, dg_2, dg_3]) := (o_37 E_14.length (by have := (List.getElem?_eq_some_iff.1 f_27).1; (try simp only [le1] at this); omega) (fun p => by have h1 := b_6 _ p; omega)).trans f_27
    have r_41 := Deep.frame (h' := ⟨E_32, c_33⟩) r_29 fun k q => o_37 k (by have := Deep.bd r_29 q; (try simp only [le1] at this); omega) (fun p => by have h1 := b_6 k p; have h2 := b_19 k q; omega)
    obtain ⟨z_42_e0, z_42_1, z_42_2, z_42_3⟩ := fz_GFiltered r_41
    obtain ⟨⟨E_43, c_44⟩, w_45, r_46, o_48, le_47⟩ := dm26 gm _ r_41
    try simp only [le1] at o_48 le_47
    have f_49 : E_43[1]? = some (1, some [V.int .i64 w.Complex.Prime, V.isl (List.map Enc.enc w.Complex.Dims), V.isl (List.map Enc.enc w.Complex.Maps), V.isl (List.map Enc.enc w.Levels)]) := (o_48 1 (by have := (List.getElem?_eq_some_iff.1 f_38).1; (try simp only [le1] at this); omega) (fun p => by have h1 := b_19 _ p; omega)).trans f_38
    have f_50 : E_43[E_1.length]? = some (c_2, some [V.int .i64 s0.Prime, d0_1, d0_2]) := (o_48 E_1.length (by have := (List.getElem?_eq_some_iff.1 f_39).1; (try simp only [le1] at this); omega) (fun p => by have h1 := b_19 _ p; omega)).trans f_39
    have f_51 : E_43[E_14.length]? = some (c_15, some [V.int .i64 w.Complex.Prime, dg_1, dg_2, dg_3]) := (o_48 E_14.length (by have := (List.getElem?_eq_some_iff.1 f_40).1; (try simp only [le1] at this); omega) (fun p => by have h1 := b_19 _ p; omega)).trans f_40
    have r_52 := Deep.frame (h' := ⟨E_43, c_44⟩) r_35 fun k q => o_48 k (by have := Deep.bd r_35 q; (try simp only [le1] at this); omega) (fun p => by have h1 := b_19 k p; have h2 := b_6 k q; omega)
    obtain ⟨z_53_e0, z_53_1, z_53_2, z_53_3⟩ := fz_GFiltered r_46
    have uh : ans A 27 [V.agg [V.int .i64 w.Complex.Prime, V.isl (List.map Enc.enc mg.1.Complex.Dims), V.isl (List.map Enc.enc mg.1.Complex.Maps), V.isl (List.map Enc.enc mg.1.Levels)], V.int .i64 1] = some (V.int .i64 mg.2) := by
      rw [← z_53_e0]; exact s27 mg.1 1 gh
    have f_54 : (E_43 ++ [(c_44, some [V.int .i64 w.Complex.Prime, V.isl (List.map Enc.enc w.Complex.Dims), V.isl (List.map Enc.enc w.Complex.Maps), V.isl (List.map Enc.enc w.Levels)])])[1]? = some (1, some [V.int .i64 w.Complex.Prime, V.isl (List.map Enc.enc w.Complex.Dims), V.isl (List.map Enc.enc w.Complex.Maps), V.isl (List.map Enc.enc w.Levels)]) := (List.getElem?_append_left (List.getElem?_eq_some_iff.1 f_49).1).trans f_49
    have f_55 : (E_43 ++ [(c_44, some [V.int .i64 w.Complex.Prime, V.isl (List.map Enc.enc w.Complex.Dims), V.isl (List.map Enc.enc w.Complex.Maps), V.isl (List.map Enc.enc w.Levels)])])[E_1.length]? = some (c_2, some [V.int .i64 s0.Prime, d0_1, d0_2]) := (List.getElem?_append_left (List.getElem?_eq_some_iff.1 f_50).1).trans f_50
    have f_56 : (E_43 ++ [(c_44, some [V.int .i64 w.Complex.Prime, V.isl (List.map Enc.enc w.Complex.Dims), V.isl (List.map Enc.enc w.Complex.Maps), V.isl (List.map Enc.enc w.Levels)])])[E_14.length]? = some (c_15, some [V.int .i64 w.Complex.Prime, dg_1, dg_2, dg_3]) := (List.getElem?_append_left (List.getElem?_eq_some_iff.1 f_51).1).trans f_51
    have f_57 : (E_43 ++ [(c_44, some [V.int .i64 w.Complex.Prime, V.isl (List.map Enc.enc w.Complex.Dims), V.isl (List.map Enc.enc w.Complex.Maps), V.isl (List.map Enc.enc w.Levels)])])[E_43.length]? = some (c_44, some [V.int .i64 w.Complex.Prime, V.isl (List.map Enc.enc w.Complex.Dims), V.isl (List.map Enc.enc w.Complex.Maps), V.isl (List.map Enc.enc w.Levels)]) := get_last _ _
    have r_58 := Deep.frame (h' := ⟨E_43 ++ [(c_44, some [V.int .i64 w.Complex.Prime, V.isl (List.map Enc.enc w.Complex.Dims), V.isl (List.map Enc.enc w.Complex.Maps), V.isl (List.map Enc.enc w.Levels)])], c_44 + 1⟩) r_52 fun k q => (List.getElem?_append_left (Deep.bd r_52 q) : (E_43 ++ [(c_44, some [V.int .i64 w.Complex.Prime, V.isl (List.map Enc.enc w.Complex.Dims), V.isl (List.map Enc.enc w.Complex.Maps), V.isl (List.map Enc.enc w.Levels)])])[k]? = _)
    have r_59 := Deep.frame (h' := ⟨E_43 ++ [(c_44, some [V.int .i64 w.Complex.Prime, V.isl (List.map Enc.enc w.Complex.Dims), V.isl (List.map Enc.enc w.Complex.Maps), V.isl (List.map Enc.enc w.Levels)])], c_44 + 1⟩) r_46 fun k q => (List.getElem?_append_left (Deep.bd r_46 q) : (E_43 ++ [(c_44, some [V.int .i64 w.Complex.Prime, V.isl (List.map Enc.enc w.Complex.Dims), V.isl (List.map Enc.enc w.Complex.Maps), V.isl (List.map Enc.enc w.Levels)])])[k]? = _)
    obtain ⟨z_60_e0, z_60_1, z_60_2, z_60_3⟩ := fz_GFiltered r_59
    simp only [↓reduceIte, Nat.reduceAdd, Nat.reduceMul, Nat.reduceSub, Nat.reduceLT, Nat.reduceLeDiff, Nat.reduceEqDiff, Nat.reducePow, Int.reducePow, Int.reduceLE, Int.reduceLT, Int.reduceEq, Int.reduceToNat, reduceCtorEq, RR, RB, RZ, RE, opEv, fillV, mapO, mapS, b113, hl_0, h0_0, h1_0, callM_tans, callM_plain_eq, get_last, set_last, le1, z0, eq_false c0, u0, x0, us, ui, xi, ue, y0, bw, t_5', f_9, f_10, f_11, z_13_1, z_13_2, t_18', f_22, f_23, f_25, f_26, f_27, z_30_1, z_30_2, z_30_3, z_31_1, z_31_2, w_34, f_38, f_39, f_40, z_42_1, z_42_2, z_42_3, eq_false ck, w_45, f_49, f_50, f_51, z_53_1, z_53_2, z_53_3, uh, eq_false cg, f_54, f_55, f_56, f_57, z_60_1, z_60_2, z_60_3]
    exact fin_ret (by simp only [↓reduceIte, Nat.reduceAdd, Nat.reduceMul, Nat.reduceSub, Nat.reduceLT, Nat.reduceLeDiff, Nat.reduceEqDiff, Nat.reducePow, Int.reducePow, Int.reduceLE, Int.reduceLT, Int.reduceEq, Int.reduceToNat, reduceCtorEq, RR, RB, RZ, RE, fn_out, p113, Rs.ev, mapO, mapS, take_len_self, hl_0])

end
end Rv
