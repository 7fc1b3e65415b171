/- What the abstract code answers: typed functions, part 2. -/
import Derived.Test.YtnioomfbbmjpaaaCos0
namespace Rv
set_option linter.unusedVariables false
set_option linter.unusedSimpArgs false
set_option maxRecDepth 100000
noncomputable section
def F42_1_B (a0 : GComplex) (v34_1 : Int) (s : Unit) : Option ((Unit) ⊕ ((Unit) ⊕ Bool)) :=
  (getI a0.Maps v34_1).bind fun x15 =>
(getI a0.Dims (v34_1 + 1)).bind fun x19 =>
if (x15.length : Int) = x19 then
  (getI a0.Dims v34_1).bind fun x22 =>
  (F90 a0.Prime x22 x15).bind fun x24 =>
  if x24 = true then
    some (.inl ())
  else
    some (.inr (.inr false))
else
  some (.inr (.inr false))
def F42_1_D (a0 : GComplex) (v34_1 : Int) (s : Unit) : Option ((Unit) ⊕ Bool) :=
  some (.inl ())
def F42_3_B (a0 : GComplex) (v5_2 : Int) (x34 : List (List Int)) (v74_3 : Int) (s : Unit) : Option ((Unit) ⊕ ((Unit) ⊕ Bool)) :=
  (getI x34 v74_3).bind fun x39 =>
(chk (v5_2 - 1)).bind fun x41 =>
(F91 a0 x41 x39).bind fun x42 =>
(F92 x42).bind fun x44 =>
if x44 = true then
  some (.inl ())
else
  some (.inr (.inr false))
def F42_3_D (a0 : GComplex) (v5_2 : Int) (x34 : List (List Int)) (v74_3 : Int) (s : Unit) : Option ((Unit) ⊕ Bool) :=
  some (.inl ())
def F42_2_S (a0 : GComplex) (v5_2 : Int) : Option ((Int) ⊕ ((Unit) ⊕ Bool)) :=
  (F86 a0).bind fun x30 =>
if v5_2 ≤ x30 then
  (chk (v5_2 - 1)).bind fun x33 =>
  (getI a0.Maps x33).bind fun x34 =>
  (forR 0 (x34.length : Int) (F42_3_B a0 v5_2 x34) (F42_3_D a0 v5_2 x34) ()).bind fun t46 => match t46 with
    | .inl _ =>
      (chk (v5_2 + 1)).bind fun x47 =>
      some (.inl x47)
    | .inr r48 => some (.inr (.inr r48))
else
  some (.inr (.inl ()))
def F42 (a0 : GComplex) : Option Bool :=
  (F67 a0.Prime).bind fun x1 =>
  if x1 = true then
    (F86 a0).bind fun x3 =>
    (F56 x3 0 5).bind fun x5 =>
    if x5 = true then
      if (a0.Maps.length : Int) = x3 then
        (F82 a0.Dims (fun x => F88 x)).bind fun x10 =>
        if x10 = true then
          some false
        else
          (forR 0 (a0.Maps.length : Int) (F42_1_B a0) (F42_1_D a0) ()).bind fun t26 => match t26 with
            | .inl _ =>
              (loopW (F42_2_S a0) 2).bind fun t49 => match t49 with
                | .inl _ =>
                  some true
                | .inr r50 => some r50
            | .inr r51 => some r51
      else
        some false
    else
      some false
  else
    some false
def I42_1 (a0 : GComplex)  (v34_1 : Int) (s : Unit) (e : Env) (h : Heap) : Prop :=
  ∃ k13 : Nat, h = ⟨[(0, none)], k13⟩ ∧ e.length = 86 ∧ e.at 1 = V.iptr [V.int .i64 a0.Prime, V.isl (a0.Dims.map Enc.enc), V.isl (a0.Maps.map Enc.enc)] ∧ e.at 32 = V.isl (a0.Maps.map Enc.enc) ∧ e.at 33 = V.int .i64 (a0.Maps.length : Int) ∧ e.at 34 = V.int .i64 v34_1
def P42_1 (a0 : GComplex)  (t : (Unit) ⊕ Bool) (x : Ex) (e : Env) (h : Heap) : Prop :=
  match t with
  | .inl _ => x = .normal ∧ ∃ k13 : Nat, h = ⟨[(0, none)], k13⟩ ∧ e.length = 86 ∧ e.at 1 = V.iptr [V.int .i64 a0.Prime, V.isl (a0.Dims.map Enc.enc), V.isl (a0.Maps.map Enc.enc)]
  | .inr r => x = .ret ∧ Fin p42 (Enc.enc r) .ret e h
theorem l42_1 (a0 : GComplex)   {lo : Int} {s : Unit} {t : (Unit) ⊕ Bool} (hF : forR lo (a0.Maps.length : Int) (F42_1_B a0) (F42_1_D a0) s = some t) {e : Env} {h : Heap} (hI : I42_1 a0  lo s e h) : W A c42_1 e h (P42_1 a0  t) := by
  show W A (.block 0 (.loop false b42_1)) e h _
  rw [W_block]
  refine W_forR hF 1 (by obtain ⟨_, rfl, _⟩ := hI; rfl) (I42_1 a0 ) hI ?_ ?_
  · rintro v34_1 _ e h ⟨k13, rfl, h_12⟩ hlt hw o ho
    unfold F42_1_B at ho
    obtain ⟨x15, gx15, ho⟩ := bS ho
    obtain ⟨w16a, w16b⟩ := getI_w gx15
    have w18 : ans A 89 [V.isl (x15.map Enc.enc)] = some (V.int .i64 (x15.length : Int)) := s89 x15  rfl
    obtain ⟨x19, gx19, ho⟩ := bS ho
    obtain ⟨w20a, w20b⟩ := getI_w gx19
    by_cases c21 : (x15.length : Int) = x19
    · rw [if_pos c21] at ho
      obtain ⟨x22, gx22, ho⟩ := bS ho
      obtain ⟨w23a, w23b⟩ := getI_w gx22
      obtain ⟨x24, gx24, ho⟩ := bS ho
      have w25 : ans A 90 [V.int .i64 a0.Prime, V.int .i64 x22, V.isl (x15.map Enc.enc)] = some (V.bool x24) := s90 a0.Prime x22 x15  gx24
      cases x24 with
      | true =>
        rw [if_pos rfl] at ho
        cases ho
        simp only [simprocAttr, R0, opEv, fillV, mapO, mapS, b42_1, h_12, eq_true hlt, hw, w16a, w16b, w18, w20a, w20b, eq_true c21, w23a, w23b, w25]
        refine And.intro rfl (Exists.intro _ ( And.intro rfl ?_))
        simp only [simprocAttr, R0, h_12, eq_true hlt, hw, w16a, w16b, w18, w20a, w20b, eq_true c21, w23a, w23b, w25]
      | false =>
        rw [if_neg Bool.false_ne_true] at ho
        cases ho
        simp only [simprocAttr, R0, opEv, fillV, mapO, mapS, b42_1, h_12, eq_true hlt, hw, w16a, w16b, w18, w20a, w20b, eq_true c21, w23a, w23b, w25]
        intro ht; subst ht
        simp only [simprocAttr, RR, RB]
        exact And.intro rfl (fin_ret (by simp only [simprocAttr, R0, fn_out, p42, Rs.ev, mapO, mapS, take_len_self, h_12, eq_true hlt, hw, w16a, w16b, w18, w20a, w20b, eq_true c21, w23a, w23b, w25]))
    · rw [if_neg c21] at ho
      cases ho
      simp only [simprocAttr, R0, opEv, fillV, mapO, mapS, b42_1, h_12, eq_true hlt, hw, w16a, w16b, w18, w20a, w20b, eq_false c21]
      intro ht; subst ht
      simp only [simprocAttr, RR, RB]
      exact And.intro rfl (fin_ret (by simp only [simprocAttr, R0, fn_out, p42, Rs.ev, mapO, mapS, take_len_self, h_12, eq_true hlt, hw, w16a, w16b, w18, w20a, w20b, eq_false c21]))
  · rintro v34_1 _ e h ⟨k13, rfl, h_12⟩ hge t1 ho
    unfold F42_1_D at ho
    cases ho
    simp only [simprocAttr, R0, opEv, fillV, mapO, mapS, b42_1, h_12, eq_false hge]
    intro ht; subst ht
    refine And.intro rfl (Exists.intro _ ( And.intro rfl ?_))
    simp only [simprocAttr, R0, h_12, eq_false hge]
def I42_3 (a0 : GComplex) (v5_2 : Int) (x34 : List (List Int))  (v74_3 : Int) (s : Unit) (e : Env) (h : Heap) : Prop :=
  ∃ k37 : Nat, h = ⟨[(0, none)], k37⟩ ∧ e.length = 86 ∧ e.at 1 = V.iptr [V.int .i64 a0.Prime, V.isl (a0.Dims.map Enc.enc), V.isl (a0.Maps.map Enc.enc)] ∧ e.at 5 = V.int .i64 v5_2 ∧ e.at 72 = V.isl (x34.map Enc.enc) ∧ e.at 73 = V.int .i64 (x34.length : Int) ∧ e.at 74 = V.int .i64 v74_3
def P42_3 (a0 : GComplex) (v5_2 : Int) (x34 : List (List Int))  (t : (Unit) ⊕ Bool) (x : Ex) (e : Env) (h : Heap) : Prop :=
  match t with
  | .inl _ => x = .normal ∧ ∃ k37 : Nat, h = ⟨[(0, none)], k37⟩ ∧ e.length = 86 ∧ e.at 1 = V.iptr [V.int .i64 a0.Prime, V.isl (a0.Dims.map Enc.enc), V.isl (a0.Maps.map Enc.enc)] ∧ e.at 5 = V.int .i64 v5_2
  | .inr r => x = .ret ∧ Fin p42 (Enc.enc r) .ret e h
theorem l42_3 (a0 : GComplex) (v5_2 : Int) (x34 : List (List Int))   {lo : Int} {s : Unit} {t : (Unit) ⊕ Bool} (hF : forR lo (x34.length : Int) (F42_3_B a0 v5_2 x34) (F42_3_D a0 v5_2 x34) s = some t) {e : Env} {h : Heap} (hI : I42_3 a0 v5_2 x34  lo s e h) : W A c42_3 e h (P42_3 a0 v5_2 x34  t) := by
  show W A (.block 4 (.loop false b42_3)) e h _
  rw [W_block]
  refine W_forR hF 1 (by obtain ⟨_, rfl, _⟩ := hI; rfl) (I42_3 a0 v5_2 x34 ) hI ?_ ?_
  · rintro v74_3 _ e h ⟨k37, rfl, h_36⟩ hlt hw o ho
    unfold F42_3_B at ho
    obtain ⟨x39, gx39, ho⟩ := bS ho
    obtain ⟨w40a, w40b⟩ := getI_w gx39
    obtain ⟨x41, gx41, ho⟩ := bS ho
    have wx41 := chk_w gx41
    obtain ⟨x42, gx42, ho⟩ := bS ho
    have w43 : ans A 91 [(eC a0), V.int .i64 x41, V.isl (x39.map Enc.enc)] = some (V.isl (x42.map Enc.enc)) := s91 a0 x41 x39  gx42
    obtain ⟨x44, gx44, ho⟩ := bS ho
    have w45 : ans A 92 [V.isl (x42.map Enc.enc)] = some (V.bool x44) := s92 x42  gx44
    cases x44 with
    | true =>
      rw [if_pos rfl] at ho
      cases ho
      simp only [simprocAttr, R0, opEv, fillV, mapO, mapS, b42_3, h_36, eq_true hlt, hw, w40a, w40b, wx41, w43, w45]
      refine And.intro rfl (Exists.intro _ ( And.intro rfl ?_))
      simp only [simprocAttr, R0, h_36, eq_true hlt, hw, w40a, w40b, wx41, w43, w45]
    | false =>
      rw [if_neg Bool.false_ne_true] at ho
      cases ho
      simp only [simprocAttr, R0, opEv, fillV, mapO, mapS, b42_3, h_36, eq_true hlt, hw, w40a, w40b, wx41, w43, w45]
      intro ht; subst ht
      simp only [simprocAttr, RR, RB]
      exact And.intro rfl (fin_ret (by simp only [simprocAttr, R0, fn_out, p42, Rs.ev, mapO, mapS, take_len_self, h_36, eq_true hlt, hw, w40a, w40b, wx41, w43, w45]))
  · rintro v74_3 _ e h ⟨k37, rfl, h_36⟩ hge t1 ho
    unfold F42_3_D at ho
    cases ho
    simp only [simprocAttr, R0, opEv, fillV, mapO, mapS, b42_3, h_36, eq_false hge]
    intro ht; subst ht
    refine And.intro rfl (Exists.intro _ ( And.intro rfl ?_))
    simp only [simprocAttr, R0, h_36, eq_false hge]
def I42_2 (a0 : GComplex)  (v5_2 : Int) (e : Env) (h : Heap) : Prop :=
  ∃ k28 : Nat, h = ⟨[(0, none)], k28⟩ ∧ e.length = 86 ∧ e.at 1 = V.iptr [V.int .i64 a0.Prime, V.isl (a0.Dims.map Enc.enc), V.isl (a0.Maps.map Enc.enc)] ∧ e.at 5 = V.int .i64 v5_2
def P42_2 (a0 : GComplex)  (t : (Unit) ⊕ Bool) (x : Ex) (e : Env) (h : Heap) : Prop :=
  match t with
  | .inl _ => x = .normal ∧ ∃ k28 : Nat, h = ⟨[(0, none)], k28⟩ ∧ e.length = 86
  | .inr r => x = .ret ∧ Fin p42 (Enc.enc r) .ret e h
theorem l42_2 (a0 : GComplex)   {s : Int} {t : (Unit) ⊕ Bool} (hF : loopW (F42_2_S a0) s = some t) {e : Env} {h : Heap} (hI : I42_2 a0  s e h) : W A c42_2 e h (P42_2 a0  t) := by
  show W A (.block 2 (.loop false b42_2)) e h _
  rw [W_block]
  refine W_loop hF 1 (by obtain ⟨_, rfl, _⟩ := hI; rfl) (I42_2 a0 ) hI ?_
  · rintro v5_2 e h ⟨k28, rfl, h_27⟩ o ho
    unfold F42_2_S at ho
    obtain ⟨x30, gx30, ho⟩ := bS ho
    have w31 : ans A 86 [(eC a0)] = some (V.int .i64 x30) := s86 a0  gx30
    by_cases c32 : v5_2 ≤ x30
    · rw [if_pos c32] at ho
      obtain ⟨x33, gx33, ho⟩ := bS ho
      have wx33 := chk_w gx33
      obtain ⟨x34, gx34, ho⟩ := bS ho
      obtain ⟨w35a, w35b⟩ := getI_w gx34
      obtain ⟨t46, gt46, ho⟩ := bS ho
      rcases t46 with _ | r48
      · dsimp only at ho
        simp only [simprocAttr, R0, opEv, fillV, mapO, mapS, b42_2, h_27, w31, eq_true c32, wx33, w35a, w35b]
        refine W.mono (l42_3 a0 v5_2 x34   gt46 (Exists.intro _ ( And.intro rfl ?_))) ?_
        · simp only [simprocAttr, R0, h_27, w31, eq_true c32, wx33, w35a, w35b]
        rintro _ e _ ⟨rfl, k37, rfl, h_38⟩
        obtain ⟨x47, gx47, ho⟩ := bS ho
        have wx47 := chk_w gx47
        cases ho
        simp only [simprocAttr, R0, opEv, fillV, mapO, mapS, h_38, eq_true c32, wx47]
        refine And.intro rfl (Exists.intro _ ( And.intro rfl ?_))
        simp only [simprocAttr, R0, h_38, eq_true c32, wx47]
      · dsimp only at ho
        cases ho
        simp only [simprocAttr, R0, opEv, fillV, mapO, mapS, b42_2, h_27, w31, eq_true c32, wx33, w35a, w35b]
        refine W.mono (l42_3 a0 v5_2 x34   gt46 (Exists.intro _ ( And.intro rfl ?_))) ?_
        · simp only [simprocAttr, R0, h_27, w31, eq_true c32, wx33, w35a, w35b]
        rintro _ e h ⟨rfl, hq⟩
        simp only [simprocAttr, RR, RB]
        intro ht; subst ht
        simp only [simprocAttr, RR, RB]
        exact And.intro rfl hq
    · rw [if_neg c32] at ho
      cases ho
      simp only [simprocAttr, R0, opEv, fillV, mapO, mapS, b42_2, h_27, w31, eq_false c32]
      intro ht; subst ht
      simp only [simprocAttr, RR, RB]
      refine And.intro rfl (Exists.intro _ ( And.intro rfl ?_))
      simp only [simprocAttr, R0, h_27, w31, eq_false c32]
theorem s42 (a0 : GComplex)   {r : Bool} (hF : F42 a0 = some r) : ans A 42 [(eC a0)] = some (Enc.enc r) := by
  refine ans_of (f := p42) rfl rfl rfl fun e hl he => ?_
  have h0_0 : e.at 0 = (eC a0) := he 0 _ rfl
  have hl_0 : e.length = 86 := hl
  clear he hl
  have h_0 := And.intro hl_0 h0_0
  show W A b42 e ⟨[], 0⟩ _
  unfold F42 at hF
  obtain ⟨x1, gx1, hF⟩ := bS hF
  have w2 : ans A 67 [V.int .i64 a0.Prime] = some (V.bool x1) := s67 a0.Prime  gx1
  cases x1 with
  | true =>
    rw [if_pos rfl] at hF
    obtain ⟨x3, gx3, hF⟩ := bS hF
    have w4 : ans A 86 [(eC a0)] = some (V.int .i64 x3) := s86 a0  gx3
    obtain ⟨x5, gx5, hF⟩ := bS hF
    have w6 : ans A 56 [V.int .i64 x3, V.int .i64 0, V.int .i64 5] = some (V.bool x5) := s56 x3 0 5  gx5
    cases x5 with
    | true =>
      rw [if_pos rfl] at hF
      have w8 : ans A 87 [V.isl (a0.Maps.map Enc.enc)] = some (V.int .i64 (a0.Maps.length : Int)) := s87 a0.Maps  rfl
      by_cases c9 : (a0.Maps.length : Int) = x3
      · rw [if_pos c9] at hF
        obtain ⟨x10, gx10, hF⟩ := bS hF
        have w11 : ans A 82 [V.isl (a0.Dims.map Enc.enc), V.fn 88 [] []] = some (V.bool x10) := s82 a0.Dims (fun x => F88 x) (Clo1.of (by intro h f; simp only [RZ, mapO]) (by intro h f; simp only [RZ, mapO]) (by intro f; simp only [RZ, RB]) (by intro f; simp only [RZ, RB]) (fun x _ hr => s88 x hr)) gx10
        cases x10 with
        | true =>
          rw [if_pos rfl] at hF
          cases hF
          simp only [simprocAttr, R0, opEv, fillV, mapO, mapS, b42, h_0, w2, w4, w6, w8, eq_true c9, w11]
          exact fin_ret (by simp only [simprocAttr, R0, fn_out, p42, Rs.ev, mapO, mapS, take_len_self, h_0, w2, w4, w6, w8, eq_true c9, w11])
        | false =>
          rw [if_neg Bool.false_ne_true] at hF
          obtain ⟨t26, gt26, hF⟩ := bS hF
          rcases t26 with _ | r51
          · dsimp only at hF
            simp only [simprocAttr, R0, opEv, fillV, mapO, mapS, b42, h_0, w2, w4, w6, w8, eq_true c9, w11]
            refine W.mono (l42_1 a0   gt26 (Exists.intro _ ( And.intro rfl ?_))) ?_
            · simp only [simprocAttr, R0, h_0, w2, w4, w6, w8, eq_true c9, w11]
            rintro _ e _ ⟨rfl, k13, rfl, h_14⟩
            obtain ⟨t49, gt49, hF⟩ := bS hF
            rcases t49 with _ | r50
            · dsimp only at hF
              simp only [simprocAttr, R0, opEv, fillV, mapO, mapS, h_14, eq_true c9]
              refine W.mono (l42_2 a0   gt49 (Exists.intro _ ( And.intro rfl ?_))) ?_
              · simp only [simprocAttr, R0, h_14, eq_true c9]
              rintro _ e _ ⟨rfl, k28, rfl, hl_29⟩
              cases hF
              simp only [simprocAttr, R0, opEv, fillV, mapO, mapS, hl_29, eq_true c9]
              exact fin_ret (by simp only [simprocAttr, R0, fn_out, p42, Rs.ev, mapO, mapS, take_len_self, hl_29, eq_true c9])
            · dsimp only at hF
              cases hF
              simp only [simprocAttr, R0, opEv, fillV, mapO, mapS, h_14, eq_true c9]
              refine W.mono (l42_2 a0   gt49 (Exists.intro _ ( And.intro rfl ?_))) ?_
              · simp only [simprocAttr, R0, h_14, eq_true c9]
              rintro _ e h ⟨rfl, hq⟩
              simp only [simprocAttr, RR, RB]
              exact hq
          · dsimp only at hF
            cases hF
            simp only [simprocAttr, R0, opEv, fillV, mapO, mapS, b42, h_0, w2, w4, w6, w8, eq_true c9, w11]
            refine W.mono (l42_1 a0   gt26 (Exists.intro _ ( And.intro rfl ?_))) ?_
            · simp only [simprocAttr, R0, h_0, w2, w4, w6, w8, eq_true c9, w11]
            rintro _ e h ⟨rfl, hq⟩
            simp only [simprocAttr, RR, RB]
            exact hq
      · rw [if_neg c9] at hF
        cases hF
        simp only [simprocAttr, R0, opEv, fillV, mapO, mapS, b42, h_0, w2, w4, w6, w8, eq_false c9]
        exact fin_ret (by simp only [simprocAttr, R0, fn_out, p42, Rs.ev, mapO, mapS, take_len_self, h_0, w2, w4, w6, w8, eq_false c9])
    | false =>
      rw [if_neg Bool.false_ne_true] at hF
      cases hF
      simp only [simprocAttr, R0, opEv, fillV, mapO, mapS, b42, h_0, w2, w4, w6]
      exact fin_ret (by simp only [simprocAttr, R0, fn_out, p42, Rs.ev, mapO, mapS, take_len_self, h_0, w2, w4, w6])
  | false =>
    rw [if_neg Bool.false_ne_true] at hF
    cases hF
    simp only [simprocAttr, R0, opEv, fillV, mapO, mapS, b42, h_0, w2]
    exact fin_ret (by simp only [simprocAttr, R0, fn_out, p42, Rs.ev, mapO, mapS, take_len_self, h_0, w2])
def F305_1_B (a0 : List GComplex) (v9_1 : Int) (s : Unit) : Option ((Unit) ⊕ ((Unit) ⊕ Int)) :=
  (getI a0 v9_1).bind fun x4 =>
(F42 x4).bind fun x6 =>
if x6 = true then
  some (.inl ())
else
  some (.inr (.inr 1))
def F305_1_D (a0 : List GComplex) (v9_1 : Int) (s : Unit) : Option ((Unit) ⊕ Int) :=
  some (.inl ())
def F305_2_B (a0 : List GComplex) (v19_2 : Int) (s : Unit) : Option ((Unit) ⊕ ((Unit) ⊕ Int)) :=
  (getI a0 v19_2).bind fun x12 =>
(getI a0 0).bind fun x14 =>
if x12.Prime = x14.Prime then
  if (x12.Dims.length : Int) = (x14.Dims.length : Int) then
    some (.inl ())
  else
    some (.inr (.inr 2))
else
  some (.inr (.inr 2))
def F305_2_D (a0 : List GComplex) (v19_2 : Int) (s : Unit) : Option ((Unit) ⊕ Int) :=
  some (.inl ())
def F305 (a0 : List GComplex) : Option Int :=
  (forR 0 (a0.length : Int) (F305_1_B a0) (F305_1_D a0) ()).bind fun t8 => match t8 with
    | .inl _ =>
      (forR 0 (a0.length : Int) (F305_2_B a0) (F305_2_D a0) ()).bind fun t18 => match t18 with
        | .inl _ =>
          some 0
        | .inr r19 => some r19
    | .inr r20 => some r20
def I305_1 (a0 : List GComplex)  (v9_1 : Int) (s : Unit) (e : Env) (h : Heap) : Prop :=
  ∃ k2 : Nat, h = ⟨[], k2⟩ ∧ e.length = 42 ∧ e.at 0 = V.isl (a0.map Enc.enc) ∧ e.at 7 = V.isl (a0.map Enc.enc) ∧ e.at 8 = V.int .i64 (a0.length : Int) ∧ e.at 9 = V.int .i64 v9_1
def P305_1 (a0 : List GComplex)  (t : (Unit) ⊕ Int) (x : Ex) (e : Env) (h : Heap) : Prop :=
  match t with
  | .inl _ => x = .normal ∧ ∃ k2 : Nat, h = ⟨[], k2⟩ ∧ e.length = 42 ∧ e.at 0 = V.isl (a0.map Enc.enc)
  | .inr r => x = .ret ∧ Fin p305 (Enc.enc r) .ret e h
theorem l305_1 (a0 : List GComplex)   {lo : Int} {s : Unit} {t : (Unit) ⊕ Int} (hF : forR lo (a0.length : Int) (F305_1_B a0) (F305_1_D a0) s = some t) {e : Env} {h : Heap} (hI : I305_1 a0  lo s e h) : W A c305_1 e h (P305_1 a0  t) := by
  show W A (.block 0 (.loop false b305_1)) e h _
  rw [W_block]
  refine W_forR hF 0 (by obtain ⟨_, rfl, _⟩ := hI; rfl) (I305_1 a0 ) hI ?_ ?_
  · rintro v9_1 _ e h ⟨k2, rfl, h_1⟩ hlt hw o ho
    unfold F305_1_B at ho
    obtain ⟨x4, gx4, ho⟩ := bS ho
    obtain ⟨w5a, w5b⟩ := getI_w gx4
    obtain ⟨x6, gx6, ho⟩ := bS ho
    have w7 : ans A 42 [(eC x4)] = some (V.bool x6) := s42 x4  gx6
    cases x6 with
    | true =>
      rw [if_pos rfl] at ho
      cases ho
      simp only [simprocAttr, R0, opEv, fillV, mapO, mapS, b305_1, h_1, eq_true hlt, hw, w5a, w5b, w7]
      refine And.intro rfl (Exists.intro _ ( And.intro rfl ?_))
      simp only [simprocAttr, R0, h_1, eq_true hlt, hw, w5a, w5b, w7]
    | false =>
      rw [if_neg Bool.false_ne_true] at ho
      cases ho
      simp only [simprocAttr, R0, opEv, fillV, mapO, mapS, b305_1, h_1, eq_true hlt, hw, w5a, w5b, w7]
      intro ht; subst ht
      simp only [simprocAttr, RR, RB]
      exact And.intro rfl (fin_ret (by simp only [simprocAttr, R0, fn_out, p305, Rs.ev, mapO, mapS, take_len_self, h_1, eq_true hlt, hw, w5a, w5b, w7]))
  · rintro v9_1 _ e h ⟨k2, rfl, h_1⟩ hge t1 ho
    unfold F305_1_D at ho
    cases ho
    simp only [simprocAttr, R0, opEv, fillV, mapO, mapS, b305_1, h_1, eq_false hge]
    intro ht; subst ht
    refine And.intro rfl (Exists.intro _ ( And.intro rfl ?_))
    simp only [simprocAttr, R0, h_1, eq_false hge]
def I305_2 (a0 : List GComplex)  (v19_2 : Int) (s : Unit) (e : Env) (h : Heap) : Prop :=
  ∃ k10 : Nat, h = ⟨[], k10⟩ ∧ e.length = 42 ∧ e.at 0 = V.isl (a0.map Enc.enc) ∧ e.at 17 = V.isl (a0.map Enc.enc) ∧ e.at 18 = V.int .i64 (a0.length : Int) ∧ e.at 19 = V.int .i64 v19_2
def P305_2 (a0 : List GComplex)  (t : (Unit) ⊕ Int) (x : Ex) (e : Env) (h : Heap) : Prop :=
  match t with
  | .inl _ => x = .normal ∧ ∃ k10 : Nat, h = ⟨[], k10⟩ ∧ e.length = 42
  | .inr r => x = .ret ∧ Fin p305 (Enc.enc r) .ret e h
theorem l305_2 (a0 : List GComplex)   {lo : Int} {s : Unit} {t : (Unit) ⊕ Int} (hF : forR lo (a0.length : Int) (F305_2_B a0) (F305_2_D a0) s = some t) {e : Env} {h : Heap} (hI : I305_2 a0  lo s e h) : W A c305_2 e h (P305_2 a0  t) := by
  show W A (.block 2 (.loop false b305_2)) e h _
  rw [W_block]
  refine W_forR hF 0 (by obtain ⟨_, rfl, _⟩ := hI; rfl) (I305_2 a0 ) hI ?_ ?_
  · rintro v19_2 _ e h ⟨k10, rfl, h_9⟩ hlt hw o ho
    unfold F305_2_B at ho
    obtain ⟨x12, gx12, ho⟩ := bS ho
    obtain ⟨w13a, w13b⟩ := getI_w gx12
    obtain ⟨x14, gx14, ho⟩ := bS ho
    obtain ⟨w15a, w15b⟩ := getI_w gx14
    replace w15b : a0[0]? = some x14 := w15b
    by_cases c16 : x12.Prime = x14.Prime
    · rw [if_pos c16] at ho
      by_cases c17 : (x12.Dims.length : Int) = (x14.Dims.length : Int)
      · rw [if_pos c17] at ho
        cases ho
        simp only [simprocAttr, R0, opEv, fillV, mapO, mapS, b305_2, h_9, eq_true hlt, hw, w13a, w13b, w15a, w15b, eq_true c16, eq_true c17]
        refine And.intro rfl (Exists.intro _ ( And.intro rfl ?_))
        simp only [simprocAttr, R0, h_9, eq_true hlt, hw, w13a, w13b, w15a, w15b, eq_true c16, eq_true c17]
      · rw [if_neg c17] at ho
        cases ho
        simp only [simprocAttr, R0, opEv, fillV, mapO, mapS, b305_2, h_9, eq_true hlt, hw, w13a, w13b, w15a, w15b, eq_true c16, eq_false c17]
        intro ht; subst ht
        simp only [simprocAttr, RR, RB]
        exact And.intro rfl (fin_ret (by simp only [simprocAttr, R0, fn_out, p305, Rs.ev, mapO, mapS, take_len_self, h_9, eq_true hlt, hw, w13a, w13b, w15a, w15b, eq_true c16, eq_false c17]))
    · rw [if_neg c16] at ho
      cases ho
      simp only [simprocAttr, R0, opEv, fillV, mapO, mapS, b305_2, h_9, eq_true hlt, hw, w13a, w13b, w15a, w15b, eq_false c16]
      intro ht; subst ht
      simp only [simprocAttr, RR, RB]
      exact And.intro rfl (fin_ret (by simp only [simprocAttr, R0, fn_out, p305, Rs.ev, mapO, mapS, take_len_self, h_9, eq_true hlt, hw, w13a, w13b, w15a, w15b, eq_false c16]))
  · rintro v19_2 _ e h ⟨k10, rfl, h_9⟩ hge t1 ho
    unfold F305_2_D at ho
    cases ho
    simp only [simprocAttr, R0, opEv, fillV, mapO, mapS, b305_2, h_9, eq_false hge]
    intro ht; subst ht
    refine And.intro rfl (Exists.intro _ ( And.intro rfl ?_))
    simp only [simprocAttr, R0, h_9, eq_false hge]
theorem s305 (a0 : List GComplex)   {r : Int} (hF : F305 a0 = some r) : ans A 305 [V.isl (a0.map Enc.enc)] = some (Enc.enc r) := by
  refine ans_of (f := p305) rfl rfl rfl fun e hl he => ?_
  have h0_0 : e.at 0 = V.isl (a0.map Enc.enc) := he 0 _ rfl
  have hl_0 : e.length = 42 := hl
  clear he hl
  have h_0 := And.intro hl_0 h0_0
  show W A b305 e ⟨[], 0⟩ _
  unfold F305 at hF
  obtain ⟨t8, gt8, hF⟩ := bS hF
  rcases t8 with _ | r20
  · dsimp only at hF
    simp only [simprocAttr, R0, opEv, fillV, mapO, mapS, b305, h_0]
    refine W.mono (l305_1 a0   gt8 (Exists.intro _ ( And.intro rfl ?_))) ?_
    · simp only [simprocAttr, R0, h_0]
    rintro _ e _ ⟨rfl, k2, rfl, h_3⟩
    obtain ⟨t18, gt18, hF⟩ := bS hF
    rcases t18 with _ | r19
    · dsimp only at hF
      simp only [simprocAttr, R0, opEv, fillV, mapO, mapS, h_3]
      refine W.mono (l305_2 a0   gt18 (Exists.intro _ ( And.intro rfl ?_))) ?_
      · simp only [simprocAttr, R0, h_3]
      rintro _ e _ ⟨rfl, k10, rfl, hl_11⟩
      cases hF
      simp only [simprocAttr, R0, opEv, fillV, mapO, mapS, hl_11]
      exact fin_ret (by simp only [simprocAttr, R0, fn_out, p305, Rs.ev, mapO, mapS, take_len_self, hl_11])
    · dsimp only at hF
      cases hF
      simp only [simprocAttr, R0, opEv, fillV, mapO, mapS, h_3]
      refine W.mono (l305_2 a0   gt18 (Exists.intro _ ( And.intro rfl ?_))) ?_
      · simp only [simprocAttr, R0, h_3]
      rintro _ e h ⟨rfl, hq⟩
      simp only [simprocAttr, RR, RB]
      exact hq
  · dsimp only at hF
    cases hF
    simp only [simprocAttr, R0, opEv, fillV, mapO, mapS, b305, h_0]
    refine W.mono (l305_1 a0   gt8 (Exists.intro _ ( And.intro rfl ?_))) ?_
    · simp only [simprocAttr, R0, h_0]
    rintro _ e h ⟨rfl, hq⟩
    simp only [simprocAttr, RR, RB]
    exact hq
def F102 (a0 : GComplex) (a1 : Int) : Option Int :=
  (F86 a0).bind fun x1 =>
  (F56 a1 0 x1).bind fun x3 =>
  if x3 = true then
    (getI a0.Dims a1).bind fun x5 =>
    some x5
  else
    some 0
theorem s102 (a0 : GComplex) (a1 : Int)   {r : Int} (hF : F102 a0 a1 = some r) : ans A 102 [(eC a0), V.int .i64 a1] = some (Enc.enc r) := by
  refine ans_of (f := p102) rfl rfl rfl fun e hl he => ?_
  have h0_0 : e.at 0 = (eC a0) := he 0 _ rfl
  have h1_0 : e.at 1 = V.int .i64 a1 := he 1 _ rfl
  have hl_0 : e.length = 15 := hl
  clear he hl
  have h_0 := And.intro hl_0 (And.intro h0_0 h1_0)
  show W A b102 e ⟨[], 0⟩ _
  unfold F102 at hF
  obtain ⟨x1, gx1, hF⟩ := bS hF
  have w2 : ans A 86 [(eC a0)] = some (V.int .i64 x1) := s86 a0  gx1
  obtain ⟨x3, gx3, hF⟩ := bS hF
  have w4 : ans A 56 [V.int .i64 a1, V.int .i64 0, V.int .i64 x1] = some (V.bool x3) := s56 a1 0 x1  gx3
  cases x3 with
  | true =>
    rw [if_pos rfl] at hF
    obtain ⟨x5, gx5, hF⟩ := bS hF
    obtain ⟨w6a, w6b⟩ := getI_w gx5
    cases hF
    simp only [simprocAttr, R0, opEv, fillV, mapO, mapS, b102, h_0, w2, w4, w6a, w6b]
    exact fin_ret (by simp only [simprocAttr, R0, fn_out, p102, Rs.ev, mapO, mapS, take_len_self, h_0, w2, w4, w6a, w6b])
  | false =>
    rw [if_neg Bool.false_ne_true] at hF
    cases hF
    simp only [simprocAttr, R0, opEv, fillV, mapO, mapS, b102, h_0, w2, w4]
    exact fin_ret (by simp only [simprocAttr, R0, fn_out, p102, Rs.ev, mapO, mapS, take_len_self, h_0, w2, w4])
def F313_1_B (a0 : GComplex) (a1 : GComplex) (a2 : List (List (List Int))) (a3 : Int) (v19_1 : Int) (s : Unit) : Option ((Unit) ⊕ ((Unit) ⊕ Bool)) :=
  (getI a2 v19_1).bind fun x5 =>
(getI a0.Dims v19_1).bind fun x9 =>
if (x5.length : Int) = x9 then
  (chk (v19_1 + a3)).bind fun x12 =>
  (F102 a1 x12).bind fun x13 =>
  (F90 a0.Prime x13 x5).bind fun x15 =>
  if x15 = true then
    some (.inl ())
  else
    some (.inr (.inr false))
else
  some (.inr (.inr false))
def F313_1_D (a0 : GComplex) (a1 : GComplex) (a2 : List (List (List Int))) (a3 : Int) (v19_1 : Int) (s : Unit) : Option ((Unit) ⊕ Bool) :=
  some (.inl ())
def F313 (a0 : GComplex) (a1 : GComplex) (a2 : List (List (List Int))) (a3 : Int) : Option Bool :=
  if (a2.length : Int) = (a0.Dims.length : Int) then
    (forR 0 (a2.length : Int) (F313_1_B a0 a1 a2 a3) (F313_1_D a0 a1 a2 a3) ()).bind fun t17 => match t17 with
      | .inl _ =>
        some true
      | .inr r18 => some r18
  else
    some false
def I313_1 (a0 : GComplex) (a1 : GComplex) (a2 : List (List (List Int))) (a3 : Int)  (v19_1 : Int) (s : Unit) (e : Env) (h : Heap) : Prop :=
  ∃ k3 : Nat, h = ⟨[(0, none), (0, none)], k3⟩ ∧ e.length = 45 ∧ e.at 3 = V.int .i64 a3 ∧ e.at 4 = V.iptr [V.int .i64 a0.Prime, V.isl (a0.Dims.map Enc.enc), V.isl (a0.Maps.map Enc.enc)] ∧ e.at 5 = V.iptr [V.int .i64 a1.Prime, V.isl (a1.Dims.map Enc.enc), V.isl (a1.Maps.map Enc.enc)] ∧ e.at 17 = V.isl (a2.map Enc.enc) ∧ e.at 18 = V.int .i64 (a2.length : Int) ∧ e.at 19 = V.int .i64 v19_1
def P313_1 (a0 : GComplex) (a1 : GComplex) (a2 : List (List (List Int))) (a3 : Int)  (t : (Unit) ⊕ Bool) (x : Ex) (e : Env) (h : Heap) : Prop :=
  match t with
  | .inl _ => x = .normal ∧ ∃ k3 : Nat, h = ⟨[(0, none), (0, none)], k3⟩ ∧ e.length = 45
  | .inr r => x = .ret ∧ Fin p313 (Enc.enc r) .ret e h
theorem l313_1 (a0 : GComplex) (a1 : GComplex) (a2 : List (List (List Int))) (a3 : Int)   {lo : Int} {s : Unit} {t : (Unit) ⊕ Bool} (hF : forR lo (a2.length : Int) (F313_1_B a0 a1 a2 a3) (F313_1_D a0 a1 a2 a3) s = some t) {e : Env} {h : Heap} (hI : I313_1 a0 a1 a2 a3  lo s e h) : W A c313_1 e h (P313_1 a0 a1 a2 a3  t) := by
  show W A (.block 0 (.loop false b313_1)) e h _
  rw [W_block]
  refine W_forR hF 2 (by obtain ⟨_, rfl, _⟩ := hI; rfl) (I313_1 a0 a1 a2 a3 ) hI ?_ ?_
  · rintro v19_1 _ e h ⟨k3, rfl, h_2⟩ hlt hw o ho
    unfold F313_1_B at ho
    obtain ⟨x5, gx5, ho⟩ := bS ho
    obtain ⟨w6a, w6b⟩ := getI_w gx5
    have w8 : ans A 89 [V.isl (x5.map Enc.enc)] = some (V.int .i64 (x5.length : Int)) := s89 x5  rfl
    obtain ⟨x9, gx9, ho⟩ := bS ho
    obtain ⟨w10a, w10b⟩ := getI_w gx9
    by_cases c11 : (x5.length : Int) = x9
    · rw [if_pos c11] at ho
      obtain ⟨x12, gx12, ho⟩ := bS ho
      have wx12 := chk_w gx12
      obtain ⟨x13, gx13, ho⟩ := bS ho
      have w14 : ans A 102 [(eC a1), V.int .i64 x12] = some (V.int .i64 x13) := s102 a1 x12  gx13
      obtain ⟨x15, gx15, ho⟩ := bS ho
      have w16 : ans A 90 [V.int .i64 a0.Prime, V.int .i64 x13, V.isl (x5.map Enc.enc)] = some (V.bool x15) := s90 a0.Prime x13 x5  gx15
      cases x15 with
      | true =>
        rw [if_pos rfl] at ho
        cases ho
        simp only [simprocAttr, R0, opEv, fillV, mapO, mapS, b313_1, h_2, eq_true hlt, hw, w6a, w6b, w8, w10a, w10b, eq_true c11, wx12, w14, w16]
        refine And.intro rfl (Exists.intro _ ( And.intro rfl ?_))
        simp only [simprocAttr, R0, h_2, eq_true hlt, hw, w6a, w6b, w8, w10a, w10b, eq_true c11, wx12, w14, w16]
      | false =>
        rw [if_neg Bool.false_ne_true] at ho
        cases ho
        simp only [simprocAttr, R0, opEv, fillV, mapO, mapS, b313_1, h_2, eq_true hlt, hw, w6a, w6b, w8, w10a, w10b, eq_true c11, wx12, w14, w16]
        intro ht; subst ht
        simp only [simprocAttr, RR, RB]
        exact And.intro rfl (fin_ret (by simp only [simprocAttr, R0, fn_out, p313, Rs.ev, mapO, mapS, take_len_self, h_2, eq_true hlt, hw, w6a, w6b, w8, w10a, w10b, eq_true c11, wx12, w14, w16]))
    · rw [if_neg c11] at ho
      cases ho
      simp only [simprocAttr, R0, opEv, fillV, mapO, mapS, b313_1, h_2, eq_true hlt, hw, w6a, w6b, w8, w10a, w10b, eq_false c11]
      intro ht; subst ht
      simp only [simprocAttr, RR, RB]
      exact And.intro rfl (fin_ret (by simp only [simprocAttr, R0, fn_out, p313, Rs.ev, mapO, mapS, take_len_self, h_2, eq_true hlt, hw, w6a, w6b, w8, w10a, w10b, eq_false c11]))
  · rintro v19_1 _ e h ⟨k3, rfl, h_2⟩ hge t1 ho
    unfold F313_1_D at ho
    cases ho
    simp only [simprocAttr, R0, opEv, fillV, mapO, mapS, b313_1, h_2, eq_false hge]
    intro ht; subst ht
    refine And.intro rfl (Exists.intro _ ( And.intro rfl ?_))
    simp only [simprocAttr, R0, h_2, eq_false hge]
theorem s313 (a0 : GComplex) (a1 : GComplex) (a2 : List (List (List Int))) (a3 : Int)   {r : Bool} (hF : F313 a0 a1 a2 a3 = some r) : ans A 313 [(eC a0), (eC a1), V.isl (a2.map Enc.enc), V.int .i64 a3] = some (Enc.enc r) := by
  refine ans_of (f := p313) rfl rfl rfl fun e hl he => ?_
  have h0_0 : e.at 0 = (eC a0) := he 0 _ rfl
  have h1_0 : e.at 1 = (eC a1) := he 1 _ rfl
  have h2_0 : e.at 2 = V.isl (a2.map Enc.enc) := he 2 _ rfl
  have h3_0 : e.at 3 = V.int .i64 a3 := he 3 _ rfl
  have hl_0 : e.length = 45 := hl
  clear he hl
  have h_0 := And.intro hl_0 (And.intro h0_0 (And.intro h1_0 (And.intro h2_0 h3_0)))
  show W A b313 e ⟨[], 0⟩ _
  unfold F313 at hF
  by_cases c1 : (a2.length : Int) = (a0.Dims.length : Int)
  · rw [if_pos c1] at hF
    obtain ⟨t17, gt17, hF⟩ := bS hF
    rcases t17 with _ | r18
    · dsimp only at hF
      simp only [simprocAttr, R0, opEv, fillV, mapO, mapS, b313, h_0, eq_true c1]
      refine W.mono (l313_1 a0 a1 a2 a3   gt17 (Exists.intro _ ( And.intro rfl ?_))) ?_
      · simp only [simprocAttr, R0, h_0, eq_true c1]
      rintro _ e _ ⟨rfl, k3, rfl, hl_4⟩
      cases hF
      simp only [simprocAttr, R0, opEv, fillV, mapO, mapS, hl_4, eq_true c1]
      exact fin_ret (by simp only [simprocAttr, R0, fn_out, p313, Rs.ev, mapO, mapS, take_len_self, hl_4, eq_true c1])
    · dsimp only at hF
      cases hF
      simp only [simprocAttr, R0, opEv, fillV, mapO, mapS, b313, h_0, eq_true c1]
      refine W.mono (l313_1 a0 a1 a2 a3   gt17 (Exists.intro _ ( And.intro rfl ?_))) ?_
      · simp only [simprocAttr, R0, h_0, eq_true c1]
      rintro _ e h ⟨rfl, hq⟩
      simp only [simprocAttr, RR, RB]
      exact hq
  · rw [if_neg c1] at hF
    cases hF
    simp only [simprocAttr, R0, opEv, fillV, mapO, mapS, b313, h_0, eq_false c1]
    exact fin_ret (by simp only [simprocAttr, R0, fn_out, p313, Rs.ev, mapO, mapS, take_len_self, h_0, eq_false c1])
def F306 (a0 : List (List (List Int))) (d0 : GComplex) (d1 : GComplex) : Option Bool :=
  (F313 d0 d1 a0 0).bind fun x1 =>
  some (!x1)
theorem s306 (a0 : List (List (List Int))) (d0 : GComplex) (d1 : GComplex)   {r : Bool} (hF : F306 a0 d0 d1 = some r) : ans A 306 [V.isl (a0.map Enc.enc), V.iptr [V.int .i64 d0.Prime, V.isl (d0.Dims.map Enc.enc), V.isl (d0.Maps.map Enc.enc)], V.iptr [V.int .i64 d1.Prime, V.isl (d1.Dims.map Enc.enc), V.isl (d1.Maps.map Enc.enc)]] = some (Enc.enc r) := by
  refine ans_of (f := p306) rfl rfl rfl fun e hl he => ?_
  have h0_0 : e.at 0 = V.isl (a0.map Enc.enc) := he 0 _ rfl
  have h1_0 : e.at 1 = V.iptr [V.int .i64 d0.Prime, V.isl (d0.Dims.map Enc.enc), V.isl (d0.Maps.map Enc.enc)] := he 1 _ rfl
  have h2_0 : e.at 2 = V.iptr [V.int .i64 d1.Prime, V.isl (d1.Dims.map Enc.enc), V.isl (d1.Maps.map Enc.enc)] := he 2 _ rfl
  have hl_0 : e.length = 10 := hl
  clear he hl
  show W A b306 e ⟨[], 0⟩ _
  unfold F306 at hF
  obtain ⟨x1, gx1, hF⟩ := bS hF
  have w2 : ans A 313 [(eC d0), (eC d1), V.isl (a0.map Enc.enc), V.int .i64 0] = some (V.bool x1) := s313 d0 d1 a0 0  gx1
  cases hF
  simp only [simprocAttr, R0, opEv, fillV, mapO, mapS, b306, hl_0, h0_0, h1_0, h2_0, w2]
  exact fin_ret (by simp only [simprocAttr, R0, fn_out, p306, Rs.ev, mapO, mapS, take_len_self, hl_0, h0_0, h1_0, h2_0, w2])
def F274 (a0 : GComplex) (a1 : GComplex) (a2 : List (List (List (List Int)))) : Option Int :=
  (F305 [a0, a1]).bind fun x1 =>
  if x1 = 0 then
    (F276 a2 (fun x => F306 x a0 a1)).bind fun x4 =>
    if x4 = true then
      some 2
    else
      some x1
  else
    some x1
theorem s274 (a0 : GComplex) (a1 : GComplex) (a2 : List (List (List (List Int))))   {r : Int} (hF : F274 a0 a1 a2 = some r) : ans A 274 [(eC a0), (eC a1), V.isl (a2.map Enc.enc)] = some (Enc.enc r) := by
  refine ans_of (f := p274) rfl rfl rfl fun e hl he => ?_
  have h0_0 : e.at 0 = (eC a0) := he 0 _ rfl
  have h1_0 : e.at 1 = (eC a1) := he 1 _ rfl
  have h2_0 : e.at 2 = V.isl (a2.map Enc.enc) := he 2 _ rfl
  have hl_0 : e.length = 20 := hl
  clear he hl
  have h_0 := And.intro hl_0 (And.intro h0_0 (And.intro h1_0 h2_0))
  show W A b274 e ⟨[], 0⟩ _
  unfold F274 at hF
  obtain ⟨x1, gx1, hF⟩ := bS hF
  have w2 : ans A 305 [V.isl [(eC a0), (eC a1)]] = some (V.int .i64 x1) := s305 [a0, a1]  gx1
  by_cases c3 : x1 = 0
  · rw [if_pos c3] at hF
    obtain ⟨x4, gx4, hF⟩ := bS hF
    have w5 : ans A 276 [V.isl (a2.map Enc.enc), V.fn 306 [] [V.iptr [V.int .i64 a0.Prime, V.isl (a0.Dims.map Enc.enc), V.isl (a0.Maps.map Enc.enc)], V.iptr [V.int .i64 a1.Prime, V.isl (a1.Dims.map Enc.enc), V.isl (a1.Maps.map Enc.enc)]]] = some (V.bool x4) := s276 a2 (fun x => F306 x a0 a1) (Clo1.of (by intro h f; simp only [RZ, mapO]) (by intro h f; simp only [RZ, mapO]) (by intro f; simp only [RZ, RB]) (by intro f; simp only [RZ, RB]) (fun x _ hr => s306 x a0 a1 hr)) gx4
    cases x4 with
    | true =>
      rw [if_pos rfl] at hF
      cases hF
      simp only [simprocAttr, R0, opEv, fillV, mapO, mapS, b274, h_0, w2, eq_true c3, w5]
      exact fin_ret (by simp only [simprocAttr, R0, fn_out, p274, Rs.ev, mapO, mapS, take_len_self, h_0, w2, eq_true c3, w5])
    | false =>
      rw [if_neg Bool.false_ne_true] at hF
      cases hF
      simp only [simprocAttr, R0, opEv, fillV, mapO, mapS, b274, h_0, w2, eq_true c3, w5]
      exact fin_ret (by simp only [simprocAttr, R0, fn_out, p274, Rs.ev, mapO, mapS, take_len_self, h_0, w2, eq_true c3, w5])
  · rw [if_neg c3] at hF
    cases hF
    simp only [simprocAttr, R0, opEv, fillV, mapO, mapS, b274, h_0, w2, eq_false c3]
    exact fin_ret (by simp only [simprocAttr, R0, fn_out, p274, Rs.ev, mapO, mapS, take_len_self, h_0, w2, eq_false c3])
def F165_1_B (a0 : List Int) (a1 : List Int) (v13_1 : Int) (s : Unit) : Option ((Unit) ⊕ ((Unit) ⊕ Bool)) :=
  (getI a0 v13_1).bind fun x5 =>
(getI a1 v13_1).bind fun x7 =>
if x5 = x7 then
  some (.inl ())
else
  some (.inr (.inr false))
def F165_1_D (a0 : List Int) (a1 : List Int) (v13_1 : Int) (s : Unit) : Option ((Unit) ⊕ Bool) :=
  some (.inl ())
def F165 (a0 : List Int) (a1 : List Int) : Option Bool :=
  if (a0.length : Int) = (a1.length : Int) then
    (forR 0 (a0.length : Int) (F165_1_B a0 a1) (F165_1_D a0 a1) ()).bind fun t10 => match t10 with
      | .inl _ =>
        some true
      | .inr r11 => some r11
  else
    some false
def I165_1 (a0 : List Int) (a1 : List Int)  (v13_1 : Int) (s : Unit) (e : Env) (h : Heap) : Prop :=
  ∃ k3 : Nat, h = ⟨[], k3⟩ ∧ e.length = 26 ∧ e.at 0 = V.isl (a0.map Enc.enc) ∧ e.at 1 = V.isl (a1.map Enc.enc) ∧ e.at 12 = V.int .i64 (a0.length : Int) ∧ e.at 13 = V.int .i64 v13_1
def P165_1 (a0 : List Int) (a1 : List Int)  (t : (Unit) ⊕ Bool) (x : Ex) (e : Env) (h : Heap) : Prop :=
  match t with
  | .inl _ => x = .normal ∧ ∃ k3 : Nat, h = ⟨[], k3⟩ ∧ e.length = 26
  | .inr r => x = .ret ∧ Fin p165 (Enc.enc r) .ret e h
theorem l165_1 (a0 : List Int) (a1 : List Int)   {lo : Int} {s : Unit} {t : (Unit) ⊕ Bool} (hF : forR lo (a0.length : Int) (F165_1_B a0 a1) (F165_1_D a0 a1) s = some t) {e : Env} {h : Heap} (hI : I165_1 a0 a1  lo s e h) : W A c165_1 e h (P165_1 a0 a1  t) := by
  show W A (.block 0 (.loop false b165_1)) e h _
  rw [W_block]
  refine W_forR hF 0 (by obtain ⟨_, rfl, _⟩ := hI; rfl) (I165_1 a0 a1 ) hI ?_ ?_
  · rintro v13_1 _ e h ⟨k3, rfl, h_2⟩ hlt hw o ho
    unfold F165_1_B at ho
    obtain ⟨x5, gx5, ho⟩ := bS ho
    obtain ⟨w6a, w6b⟩ := getI_w gx5
    obtain ⟨x7, gx7, ho⟩ := bS ho
    obtain ⟨w8a, w8b⟩ := getI_w gx7
    by_cases c9 : x5 = x7
    · rw [if_pos c9] at ho
      cases ho
      simp only [simprocAttr, R0, opEv, fillV, mapO, mapS, b165_1, h_2, eq_true hlt, hw, w6a, w6b, w8a, w8b, eq_true c9]
      refine And.intro rfl (Exists.intro _ ( And.intro rfl ?_))
      simp only [simprocAttr, R0, h_2, eq_true hlt, hw, w6a, w6b, w8a, w8b, eq_true c9]
    · rw [if_neg c9] at ho
      cases ho
      simp only [simprocAttr, R0, opEv, fillV, mapO, mapS, b165_1, h_2, eq_true hlt, hw, w6a, w6b, w8a, w8b, eq_false c9]
      intro ht; subst ht
      simp only [simprocAttr, RR, RB]
      exact And.intro rfl (fin_ret (by simp only [simprocAttr, R0, fn_out, p165, Rs.ev, mapO, mapS, take_len_self, h_2, eq_true hlt, hw, w6a, w6b, w8a, w8b, eq_false c9]))
  · rintro v13_1 _ e h ⟨k3, rfl, h_2⟩ hge t1 ho
    unfold F165_1_D at ho
    cases ho
    simp only [simprocAttr, R0, opEv, fillV, mapO, mapS, b165_1, h_2, eq_false hge]
    intro ht; subst ht
    refine And.intro rfl (Exists.intro _ ( And.intro rfl ?_))
    simp only [simprocAttr, R0, h_2, eq_false hge]
theorem s165 (a0 : List Int) (a1 : List Int)   {r : Bool} (hF : F165 a0 a1 = some r) : ans A 165 [V.isl (a0.map Enc.enc), V.isl (a1.map Enc.enc)] = some (Enc.enc r) := by
  refine ans_of (f := p165) rfl rfl rfl fun e hl he => ?_
  have h0_0 : e.at 0 = V.isl (a0.map Enc.enc) := he 0 _ rfl
  have h1_0 : e.at 1 = V.isl (a1.map Enc.enc) := he 1 _ rfl
  have hl_0 : e.length = 26 := hl
  clear he hl
  have h_0 := And.intro hl_0 (And.intro h0_0 h1_0)
  show W A b165 e ⟨[], 0⟩ _
  unfold F165 at hF
  by_cases c1 : (a0.length : Int) = (a1.length : Int)
  · rw [if_pos c1] at hF
    obtain ⟨t10, gt10, hF⟩ := bS hF
    rcases t10 with _ | r11
    · dsimp only at hF
      simp only [simprocAttr, R0, opEv, fillV, mapO, mapS, b165, h_0, eq_true c1]
      refine W.mono (l165_1 a0 a1   gt10 (Exists.intro _ ( And.intro rfl ?_))) ?_
      · simp only [simprocAttr, R0, h_0, eq_true c1]
      rintro _ e _ ⟨rfl, k3, rfl, hl_4⟩
      cases hF
      simp only [simprocAttr, R0, opEv, fillV, mapO, mapS, hl_4, eq_true c1]
      exact fin_ret (by simp only [simprocAttr, R0, fn_out, p165, Rs.ev, mapO, mapS, take_len_self, hl_4, eq_true c1])
    · dsimp only at hF
      cases hF
      simp only [simprocAttr, R0, opEv, fillV, mapO, mapS, b165, h_0, eq_true c1]
      refine W.mono (l165_1 a0 a1   gt10 (Exists.intro _ ( And.intro rfl ?_))) ?_
      · simp only [simprocAttr, R0, h_0, eq_true c1]
      rintro _ e h ⟨rfl, hq⟩
      simp only [simprocAttr, RR, RB]
      exact hq
  · rw [if_neg c1] at hF
    cases hF
    simp only [simprocAttr, R0, opEv, fillV, mapO, mapS, b165, h_0, eq_false c1]
    exact fin_ret (by simp only [simprocAttr, R0, fn_out, p165, Rs.ev, mapO, mapS, take_len_self, h_0, eq_false c1])
def F309 (a0 : GComplex) (a1 : GComplex) (a2 : List (List (List Int))) (a3 : Int) (a4 : Int) (a5 : List Int) : Option (List Int) :=
  (F86 a0).bind fun x1 =>
  (F56 a4 0 x1).bind fun x3 =>
  if x3 = true then
    (chk (a4 + a3)).bind fun x5 =>
    (F102 a1 x5).bind fun x6 =>
    (getI a2 a4).bind fun x8 =>
    (F119 a0.Prime x6 a5 x8).bind fun x10 =>
    some x10
  else
    (chk (a4 + a3)).bind fun x12 =>
    (F102 a1 x12).bind fun x13 =>
    (mkL 8 x13 0).bind fun l15 =>
    some l15
theorem s309 (a0 : GComplex) (a1 : GComplex) (a2 : List (List (List Int))) (a3 : Int) (a4 : Int) (a5 : List Int)   {r : List Int} (hF : F309 a0 a1 a2 a3 a4 a5 = some r) : ans A 309 [(eC a0), (eC a1), V.isl (a2.map Enc.enc), V.int .i64 a3, V.int .i64 a4, V.isl (a5.map Enc.enc)] = some (Enc.enc r) := by
  refine ans_of (f := p309) rfl rfl rfl fun e hl he => ?_
  have h0_0 : e.at 0 = (eC a0) := he 0 _ rfl
  have h1_0 : e.at 1 = (eC a1) := he 1 _ rfl
  have h2_0 : e.at 2 = V.isl (a2.map Enc.enc) := he 2 _ rfl
  have h3_0 : e.at 3 = V.int .i64 a3 := he 3 _ rfl
  have h4_0 : e.at 4 = V.int .i64 a4 := he 4 _ rfl
  have h5_0 : e.at 5 = V.isl (a5.map Enc.enc) := he 5 _ rfl
  have hl_0 : e.length = 37 := hl
  clear he hl
  show W A b309 e ⟨[], 0⟩ _
  unfold F309 at hF
  obtain ⟨x1, gx1, hF⟩ := bS hF
  have w2 : ans A 86 [(eC a0)] = some (V.int .i64 x1) := s86 a0  gx1
  obtain ⟨x3, gx3, hF⟩ := bS hF
  have w4 : ans A 56 [V.int .i64 a4, V.int .i64 0, V.int .i64 x1] = some (V.bool x3) := s56 a4 0 x1  gx3
  cases x3 with
  | true =>
    rw [if_pos rfl] at hF
    obtain ⟨x5, gx5, hF⟩ := bS hF
    have wx5 := chk_w gx5
    obtain ⟨x6, gx6, hF⟩ := bS hF
    have w7 : ans A 102 [(eC a1), V.int .i64 x5] = some (V.int .i64 x6) := s102 a1 x5  gx6
    obtain ⟨x8, gx8, hF⟩ := bS hF
    obtain ⟨w9a, w9b⟩ := getI_w gx8
    obtain ⟨x10, gx10, hF⟩ := bS hF
    have w11 : ans A 119 [V.int .i64 a0.Prime, V.int .i64 x6, V.isl (a5.map Enc.enc), V.isl (x8.map Enc.enc)] = some (V.isl (x10.map Enc.enc)) := s119 a0.Prime x6 a5 x8  gx10
    have hE := Option.some.inj hF; subst hE
    simp only [↓reduceIte, Nat.reduceAdd, Nat.reduceMul, Nat.reduceSub, Nat.reduceLT, Nat.reduceLeDiff, Nat.reduceEqDiff, Nat.reducePow, Int.reducePow, Int.reduceLE, Int.reduceLT, Int.reduceEq, Int.reduceToNat, reduceCtorEq, R0, opEv, fillV, mapO, mapS, b309, hl_0, h0_0, h1_0, h2_0, h3_0, h4_0, h5_0, w2, w4, wx5, w7, w9a, w9b, w11]
    exact fin_ret (by simp only [↓reduceIte, Nat.reduceAdd, Nat.reduceMul, Nat.reduceSub, Nat.reduceLT, Nat.reduceLeDiff, Nat.reduceEqDiff, Nat.reducePow, Int.reducePow, Int.reduceLE, Int.reduceLT, Int.reduceEq, Int.reduceToNat, reduceCtorEq, R0, fn_out, p309, Rs.ev, mapO, mapS, take_len_self, hl_0, h0_0, h1_0, h2_0, h3_0, h4_0, h5_0, w2, w4, wx5, w7, w9a, w9b, w11])
  | false =>
    rw [if_neg Bool.false_ne_true] at hF
    obtain ⟨x12, gx12, hF⟩ := bS hF
    have wx12 := chk_w gx12
    obtain ⟨x13, gx13, hF⟩ := bS hF
    have w14 : ans A 102 [(eC a1), V.int .i64 x12] = some (V.int .i64 x13) := s102 a1 x12  gx13
    obtain ⟨l15, gl15, hF⟩ := bS hF
    obtain ⟨w16a, w16b, w16c, w16d, w16e⟩ := mkL_w gl15
    replace w16e : (List.replicate (Int.toNat x13) [V.int .i64 0]).flatten = List.map Enc.enc l15 := w16e
    have hE := Option.some.inj hF; subst hE
    simp only [↓reduceIte, Nat.reduceAdd, Nat.reduceMul, Nat.reduceSub, Nat.reduceLT, Nat.reduceLeDiff, Nat.reduceEqDiff, Nat.reducePow, Int.reducePow, Int.reduceLE, Int.reduceLT, Int.reduceEq, Int.reduceToNat, reduceCtorEq, R0, opEv, fillV, mapO, mapS, b309, hl_0, h0_0, h1_0, h2_0, h3_0, h4_0, h5_0, w2, w4, wx12, w14, w16a, w16b, w16c, w16e]
    exact fin_ret (by simp only [↓reduceIte, Nat.reduceAdd, Nat.reduceMul, Nat.reduceSub, Nat.reduceLT, Nat.reduceLeDiff, Nat.reduceEqDiff, Nat.reducePow, Int.reducePow, Int.reduceLE, Int.reduceLT, Int.reduceEq, Int.reduceToNat, reduceCtorEq, R0, fn_out, p309, Rs.ev, mapO, mapS, take_len_self, hl_0, h0_0, h1_0, h2_0, h3_0, h4_0, h5_0, w2, w4, wx12, w14, w16a, w16b, w16c, w16e, frzs (α := Int) l15, takes (α := Int) l15, take_len (α := Int) (l := l15) (n := (Int.toNat x13)) (by first | rfl | simp only [w16d]), w16d])
def F308_2_B (a0 : GComplex) (a1 : GComplex) (a2 : List (List (List Int))) (v7_1 : Int) (x7 : List (List Int)) (v21_2 : Int) (s : Unit) : Option ((Unit) ⊕ ((Unit) ⊕ Bool)) :=
  (getI x7 v21_2).bind fun x12 =>
(chk (v7_1 - 1)).bind fun x14 =>
(getI a0.Maps x14).bind fun x15 =>
(getI x15 v21_2).bind fun x17 =>
(F309 a0 a1 a2 0 x14 x17).bind fun x19 =>
(F91 a1 v7_1 x12).bind fun x21 =>
(F165 x19 x21).bind fun x23 =>
if x23 = true then
  some (.inl ())
else
  some (.inr (.inr false))
def F308_2_D (a0 : GComplex) (a1 : GComplex) (a2 : List (List (List Int))) (v7_1 : Int) (x7 : List (List Int)) (v21_2 : Int) (s : Unit) : Option ((Unit) ⊕ Bool) :=
  some (.inl ())
def F308_1_S (a0 : GComplex) (a1 : GComplex) (a2 : List (List (List Int))) (v7_1 : Int) : Option ((Int) ⊕ ((Unit) ⊕ Bool)) :=
  (F86 a0).bind fun x4 =>
if v7_1 ≤ x4 then
  (getI a2 v7_1).bind fun x7 =>
  (forR 0 (x7.length : Int) (F308_2_B a0 a1 a2 v7_1 x7) (F308_2_D a0 a1 a2 v7_1 x7) ()).bind fun t25 => match t25 with
    | .inl _ =>
      (chk (v7_1 + 1)).bind fun x26 =>
      some (.inl x26)
    | .inr r27 => some (.inr (.inr r27))
else
  some (.inr (.inl ()))
def F308 (a0 : GComplex) (a1 : GComplex) (a2 : List (List (List Int))) : Option Bool :=
  (loopW (F308_1_S a0 a1 a2) 1).bind fun t28 => match t28 with
    | .inl _ =>
      some true
    | .inr r29 => some r29
def I308_2 (a0 : GComplex) (a1 : GComplex) (a2 : List (List (List Int))) (v7_1 : Int) (x7 : List (List Int))  (v21_2 : Int) (s : Unit) (e : Env) (h : Heap) : Prop :=
  ∃ k10 : Nat, h = ⟨[(0, none), (0, none)], k10⟩ ∧ e.length = 48 ∧ e.at 2 = V.isl (a2.map Enc.enc) ∧ e.at 3 = V.iptr [V.int .i64 a0.Prime, V.isl (a0.Dims.map Enc.enc), V.isl (a0.Maps.map Enc.enc)] ∧ e.at 4 = V.iptr [V.int .i64 a1.Prime, V.isl (a1.Dims.map Enc.enc), V.isl (a1.Maps.map Enc.enc)] ∧ e.at 7 = V.int .i64 v7_1 ∧ e.at 19 = V.isl (x7.map Enc.enc) ∧ e.at 20 = V.int .i64 (x7.length : Int) ∧ e.at 21 = V.int .i64 v21_2
def P308_2 (a0 : GComplex) (a1 : GComplex) (a2 : List (List (List Int))) (v7_1 : Int) (x7 : List (List Int))  (t : (Unit) ⊕ Bool) (x : Ex) (e : Env) (h : Heap) : Prop :=
  match t with
  | .inl _ => x = .normal ∧ ∃ k10 : Nat, h = ⟨[(0, none), (0, none)], k10⟩ ∧ e.length = 48 ∧ e.at 2 = V.isl (a2.map Enc.enc) ∧ e.at 3 = V.iptr [V.int .i64 a0.Prime, V.isl (a0.Dims.map Enc.enc), V.isl (a0.Maps.map Enc.enc)] ∧ e.at 4 = V.iptr [V.int .i64 a1.Prime, V.isl (a1.Dims.map Enc.enc), V.isl (a1.Maps.map Enc.enc)] ∧ e.at 7 = V.int .i64 v7_1
  | .inr r => x = .ret ∧ Fin p308 (Enc.enc r) .ret e h
theorem l308_2 (a0 : GComplex) (a1 : GComplex) (a2 : List (List (List Int))) (v7_1 : Int) (x7 : List (List Int))   {lo : Int} {s : Unit} {t : (Unit) ⊕ Bool} (hF : forR lo (x7.length : Int) (F308_2_B a0 a1 a2 v7_1 x7) (F308_2_D a0 a1 a2 v7_1 x7) s = some t) {e : Env} {h : Heap} (hI : I308_2 a0 a1 a2 v7_1 x7  lo s e h) : W A c308_2 e h (P308_2 a0 a1 a2 v7_1 x7  t) := by
  show W A (.block 2 (.loop false b308_2)) e h _
  rw [W_block]
  refine W_forR hF 2 (by obtain ⟨_, rfl, _⟩ := hI; rfl) (I308_2 a0 a1 a2 v7_1 x7 ) hI ?_ ?_
  · rintro v21_2 _ e h ⟨k10, rfl, h_9⟩ hlt hw o ho
    unfold F308_2_B at ho
    obtain ⟨x12, gx12, ho⟩ := bS ho
    obtain ⟨w13a, w13b⟩ := getI_w gx12
    obtain ⟨x14, gx14, ho⟩ := bS ho
    have wx14 := chk_w gx14
    obtain ⟨x15, gx15, ho⟩ := bS ho
    obtain ⟨w16a, w16b⟩ := getI_w gx15
    obtain ⟨x17, gx17, ho⟩ := bS ho
    obtain ⟨w18a, w18b⟩ := getI_w gx17
    obtain ⟨x19, gx19, ho⟩ := bS ho
    have w20 : ans A 309 [(eC a0), (eC a1), V.isl (a2.map Enc.enc), V.int .i64 0, V.int .i64 x14, V.isl (x17.map Enc.enc)] = some (V.isl (x19.map Enc.enc)) := s309 a0 a1 a2 0 x14 x17  gx19
    obtain ⟨x21, gx21, ho⟩ := bS ho
    have w22 : ans A 91 [(eC a1), V.int .i64 v7_1, V.isl (x12.map Enc.enc)] = some (V.isl (x21.map Enc.enc)) := s91 a1 v7_1 x12  gx21
    obtain ⟨x23, gx23, ho⟩ := bS ho
    have w24 : ans A 165 [V.isl (x19.map Enc.enc), V.isl (x21.map Enc.enc)] = some (V.bool x23) := s165 x19 x21  gx23
    cases x23 with
    | true =>
      rw [if_pos rfl] at ho
      cases ho
      simp only [simprocAttr, R0, opEv, fillV, mapO, mapS, b308_2, h_9, eq_true hlt, hw, w13a, w13b, wx14, w16a, w16b, w18a, w18b, w20, w22, w24]
      refine And.intro rfl (Exists.intro _ ( And.intro rfl ?_))
      simp only [simprocAttr, R0, h_9, eq_true hlt, hw, w13a, w13b, wx14, w16a, w16b, w18a, w18b, w20, w22, w24]
    | false =>
      rw [if_neg Bool.false_ne_true] at ho
      cases ho
      simp only [simprocAttr, R0, opEv, fillV, mapO, mapS, b308_2, h_9, eq_true hlt, hw, w13a, w13b, wx14, w16a, w16b, w18a, w18b, w20, w22, w24]
      intro ht; subst ht
      simp only [simprocAttr, RR, RB]
      exact And.intro rfl (fin_ret (by simp only [simprocAttr, R0, fn_out, p308, Rs.ev, mapO, mapS, take_len_self, h_9, eq_true hlt, hw, w13a, w13b, wx14, w16a, w16b, w18a, w18b, w20, w22, w24]))
  · rintro v21_2 _ e h ⟨k10, rfl, h_9⟩ hge t1 ho
    unfold F308_2_D at ho
    cases ho
    simp only [simprocAttr, R0, opEv, fillV, mapO, mapS, b308_2, h_9, eq_false hge]
    intro ht; subst ht
    refine And.intro rfl (Exists.intro _ ( And.intro rfl ?_))
    simp only [simprocAttr, R0, h_9, eq_false hge]
def I308_1 (a0 : GComplex) (a1 : GComplex) (a2 : List (List (List Int)))  (v7_1 : Int) (e : Env) (h : Heap) : Prop :=
  ∃ k2 : Nat, h = ⟨[(0, none), (0, none)], k2⟩ ∧ e.length = 48 ∧ e.at 2 = V.isl (a2.map Enc.enc) ∧ e.at 3 = V.iptr [V.int .i64 a0.Prime, V.isl (a0.Dims.map Enc.enc), V.isl (a0.Maps.map Enc.enc)] ∧ e.at 4 = V.iptr [V.int .i64 a1.Prime, V.isl (a1.Dims.map Enc.enc), V.isl (a1.Maps.map Enc.enc)] ∧ e.at 7 = V.int .i64 v7_1
def P308_1 (a0 : GComplex) (a1 : GComplex) (a2 : List (List (List Int)))  (t : (Unit) ⊕ Bool) (x : Ex) (e : Env) (h : Heap) : Prop :=
  match t with
  | .inl _ => x = .normal ∧ ∃ k2 : Nat, h = ⟨[(0, none), (0, none)], k2⟩ ∧ e.length = 48
  | .inr r => x = .ret ∧ Fin p308 (Enc.enc r) .ret e h
theorem l308_1 (a0 : GComplex) (a1 : GComplex) (a2 : List (List (List Int)))   {s : Int} {t : (Unit) ⊕ Bool} (hF : loopW (F308_1_S a0 a1 a2) s = some t) {e : Env} {h : Heap} (hI : I308_1 a0 a1 a2  s e h) : W A c308_1 e h (P308_1 a0 a1 a2  t) := by
  show W A (.block 0 (.loop false b308_1)) e h _
  rw [W_block]
  refine W_loop hF 2 (by obtain ⟨_, rfl, _⟩ := hI; rfl) (I308_1 a0 a1 a2 ) hI ?_
  · rintro v7_1 e h ⟨k2, rfl, h_1⟩ o ho
    unfold F308_1_S at ho
    obtain ⟨x4, gx4, ho⟩ := bS ho
    have w5 : ans A 86 [(eC a0)] = some (V.int .i64 x4) := s86 a0  gx4
    by_cases c6 : v7_1 ≤ x4
    · rw [if_pos c6] at ho
      obtain ⟨x7, gx7, ho⟩ := bS ho
      obtain ⟨w8a, w8b⟩ := getI_w gx7
      obtain ⟨t25, gt25, ho⟩ := bS ho
      rcases t25 with _ | r27
      · dsimp only at ho
        simp only [simprocAttr, R0, opEv, fillV, mapO, mapS, b308_1, h_1, w5, eq_true c6, w8a, w8b]
        refine W.mono (l308_2 a0 a1 a2 v7_1 x7   gt25 (Exists.intro _ ( And.intro rfl ?_))) ?_
        · simp only [simprocAttr, R0, h_1, w5, eq_true c6, w8a, w8b]
        rintro _ e _ ⟨rfl, k10, rfl, h_11⟩
        obtain ⟨x26, gx26, ho⟩ := bS ho
        have wx26 := chk_w gx26
        cases ho
        simp only [simprocAttr, R0, opEv, fillV, mapO, mapS, h_11, eq_true c6, wx26]
        refine And.intro rfl (Exists.intro _ ( And.intro rfl ?_))
        simp only [simprocAttr, R0, h_11, eq_true c6, wx26]
      · dsimp only at ho
        cases ho
        simp only [simprocAttr, R0, opEv, fillV, mapO, mapS, b308_1, h_1, w5, eq_true c6, w8a, w8b]
        refine W.mono (l308_2 a0 a1 a2 v7_1 x7   gt25 (Exists.intro _ ( And.intro rfl ?_))) ?_
        · simp only [simprocAttr, R0, h_1, w5, eq_true c6, w8a, w8b]
        rintro _ e h ⟨rfl, hq⟩
        simp only [simprocAttr, RR, RB]
        intro ht; subst ht
        simp only [simprocAttr, RR, RB]
        exact And.intro rfl hq
    · rw [if_neg c6] at ho
      cases ho
      simp only [simprocAttr, R0, opEv, fillV, mapO, mapS, b308_1, h_1, w5, eq_false c6]
      intro ht; subst ht
      simp only [simprocAttr, RR, RB]
      refine And.intro rfl (Exists.intro _ ( And.intro rfl ?_))
      simp only [simprocAttr, R0, h_1, w5, eq_false c6]
theorem s308 (a0 : GComplex) (a1 : GComplex) (a2 : List (List (List Int)))   {r : Bool} (hF : F308 a0 a1 a2 = some r) : ans A 308 [(eC a0), (eC a1), V.isl (a2.map Enc.enc)] = some (Enc.enc r) := by
  refine ans_of (f := p308) rfl rfl rfl fun e hl he => ?_
  have h0_0 : e.at 0 = (eC a0) := he 0 _ rfl
  have h1_0 : e.at 1 = (eC a1) := he 1 _ rfl
  have h2_0 : e.at 2 = V.isl (a2.map Enc.enc) := he 2 _ rfl
  have hl_0 : e.length = 48 := hl
  clear he hl
  have h_0 := And.intro hl_0 (And.intro h0_0 (And.intro h1_0 h2_0))
  show W A b308 e ⟨[], 0⟩ _
  unfold F308 at hF
  obtain ⟨t28, gt28, hF⟩ := bS hF
  rcases t28 with _ | r29
  · dsimp only at hF
    simp only [simprocAttr, R0, opEv, fillV, mapO, mapS, b308, h_0]
    refine W.mono (l308_1 a0 a1 a2   gt28 (Exists.intro _ ( And.intro rfl ?_))) ?_
    · simp only [simprocAttr, R0, h_0]
    rintro _ e _ ⟨rfl, k2, rfl, hl_3⟩
    cases hF
    simp only [simprocAttr, R0, opEv, fillV, mapO, mapS, hl_3]
    exact fin_ret (by simp only [simprocAttr, R0, fn_out, p308, Rs.ev, mapO, mapS, take_len_self, hl_3])
  · dsimp only at hF
    cases hF
    simp only [simprocAttr, R0, opEv, fillV, mapO, mapS, b308, h_0]
    refine W.mono (l308_1 a0 a1 a2   gt28 (Exists.intro _ ( And.intro rfl ?_))) ?_
    · simp only [simprocAttr, R0, h_0]
    rintro _ e h ⟨rfl, hq⟩
    simp only [simprocAttr, RR, RB]
    exact hq
def F275 (a0 : List (List (List Int))) (d0 : GComplex) (d1 : GComplex) : Option Bool :=
  (F308 d0 d1 a0).bind fun x1 =>
  some (!x1)
theorem s275 (a0 : List (List (List Int))) (d0 : GComplex) (d1 : GComplex)   {r : Bool} (hF : F275 a0 d0 d1 = some r) : ans A 275 [V.isl (a0.map Enc.enc), V.iptr [V.int .i64 d0.Prime, V.isl (d0.Dims.map Enc.enc), V.isl (d0.Maps.map Enc.enc)], V.iptr [V.int .i64 d1.Prime, V.isl (d1.Dims.map Enc.enc), V.isl (d1.Maps.map Enc.enc)]] = some (Enc.enc r) := by
  refine ans_of (f := p275) rfl rfl rfl fun e hl he => ?_
  have h0_0 : e.at 0 = V.isl (a0.map Enc.enc) := he 0 _ rfl
  have h1_0 : e.at 1 = V.iptr [V.int .i64 d0.Prime, V.isl (d0.Dims.map Enc.enc), V.isl (d0.Maps.map Enc.enc)] := he 1 _ rfl
  have h2_0 : e.at 2 = V.iptr [V.int .i64 d1.Prime, V.isl (d1.Dims.map Enc.enc), V.isl (d1.Maps.map Enc.enc)] := he 2 _ rfl
  have hl_0 : e.length = 10 := hl
  clear he hl
  show W A b275 e ⟨[], 0⟩ _
  unfold F275 at hF
  obtain ⟨x1, gx1, hF⟩ := bS hF
  have w2 : ans A 308 [(eC d0), (eC d1), V.isl (a0.map Enc.enc)] = some (V.bool x1) := s308 d0 d1 a0  gx1
  cases hF
  simp only [simprocAttr, R0, opEv, fillV, mapO, mapS, b275, hl_0, h0_0, h1_0, h2_0, w2]
  exact fin_ret (by simp only [simprocAttr, R0, fn_out, p275, Rs.ev, mapO, mapS, take_len_self, hl_0, h0_0, h1_0, h2_0, w2])
def F244 (a0 : GComplex) (a1 : GComplex) (a2 : List (List (List (List Int)))) : Option Int :=
  (F274 a0 a1 a2).bind fun x1 =>
  if x1 = 0 then
    (F276 a2 (fun x => F275 x a0 a1)).bind fun x4 =>
    if x4 = true then
      some 5
    else
      some x1
  else
    some x1
theorem s244 (a0 : GComplex) (a1 : GComplex) (a2 : List (List (List (List Int))))   {r : Int} (hF : F244 a0 a1 a2 = some r) : ans A 244 [(eC a0), (eC a1), V.isl (a2.map Enc.enc)] = some (Enc.enc r) := by
  refine ans_of (f := p244) rfl rfl rfl fun e hl he => ?_
  have h0_0 : e.at 0 = (eC a0) := he 0 _ rfl
  have h1_0 : e.at 1 = (eC a1) := he 1 _ rfl
  have h2_0 : e.at 2 = V.isl (a2.map Enc.enc) := he 2 _ rfl
  have hl_0 : e.length = 20 := hl
  clear he hl
  have h_0 := And.intro hl_0 (And.intro h0_0 (And.intro h1_0 h2_0))
  show W A b244 e ⟨[], 0⟩ _
  unfold F244 at hF
  obtain ⟨x1, gx1, hF⟩ := bS hF
  have w2 : ans A 274 [(eC a0), (eC a1), V.isl (a2.map Enc.enc)] = some (V.int .i64 x1) := s274 a0 a1 a2  gx1
  by_cases c3 : x1 = 0
  · rw [if_pos c3] at hF
    obtain ⟨x4, gx4, hF⟩ := bS hF
    have w5 : ans A 276 [V.isl (a2.map Enc.enc), V.fn 275 [] [V.iptr [V.int .i64 a0.Prime, V.isl (a0.Dims.map Enc.enc), V.isl (a0.Maps.map Enc.enc)], V.iptr [V.int .i64 a1.Prime, V.isl (a1.Dims.map Enc.enc), V.isl (a1.Maps.map Enc.enc)]]] = some (V.bool x4) := s276 a2 (fun x => F275 x a0 a1) (Clo1.of (by intro h f; simp only [RZ, mapO]) (by intro h f; simp only [RZ, mapO]) (by intro f; simp only [RZ, RB]) (by intro f; simp only [RZ, RB]) (fun x _ hr => s275 x a0 a1 hr)) gx4
    cases x4 with
    | true =>
      rw [if_pos rfl] at hF
      cases hF
      simp only [simprocAttr, R0, opEv, fillV, mapO, mapS, b244, h_0, w2, eq_true c3, w5]
      exact fin_ret (by simp only [simprocAttr, R0, fn_out, p244, Rs.ev, mapO, mapS, take_len_self, h_0, w2, eq_true c3, w5])
    | false =>
      rw [if_neg Bool.false_ne_true] at hF
      cases hF
      simp only [simprocAttr, R0, opEv, fillV, mapO, mapS, b244, h_0, w2, eq_true c3, w5]
      exact fin_ret (by simp only [simprocAttr, R0, fn_out, p244, Rs.ev, mapO, mapS, take_len_self, h_0, w2, eq_true c3, w5])
  · rw [if_neg c3] at hF
    cases hF
    simp only [simprocAttr, R0, opEv, fillV, mapO, mapS, b244, h_0, w2, eq_false c3]
    exact fin_ret (by simp only [simprocAttr, R0, fn_out, p244, Rs.ev, mapO, mapS, take_len_self, h_0, w2, eq_false c3])
def F74_2_B (a1 : List Int) (o1_1 : List (List (List Int))) (q2_0_1 : Int) (q2_1_1 : List Int) (v6_1 : Int) (x7 : Int) (v22_2 : Int) (o3_2 : (List (List Int))) : Option (((List (List Int))) ⊕ ((List (List Int)))) :=
  (chk (v6_1 - 1)).bind fun x13 =>
(getI a1 x13).bind fun x14 =>
(mkL 8 x14 0).bind fun l16 =>
(app 24 o3_2 [l16]).bind fun l19 =>
some (.inl l19)
def F74_2_D (a1 : List Int) (o1_1 : List (List (List Int))) (q2_0_1 : Int) (q2_1_1 : List Int) (v6_1 : Int) (x7 : Int) (v22_2 : Int) (o3_2 : (List (List Int))) : Option ((List (List Int))) :=
  some o3_2
def F74_1_B (a1 : List Int) (v6_1 : Int) (s : (List (List (List Int))) × Int × (List Int)) : Option (((List (List (List Int))) × Int × (List Int)) ⊕ ((List (List (List Int))) × Int × (List Int))) :=
  match s with
  | (o1_1, q2_0_1, q2_1_1) =>
    (getI a1 v6_1).bind fun x7 =>
    (forR 0 x7 (F74_2_B a1 o1_1 q2_0_1 q2_1_1 v6_1 x7) (F74_2_D a1 o1_1 q2_0_1 q2_1_1 v6_1 x7) ([] : (List (List Int)))).bind fun zo3_2 =>
    (app 24 o1_1 [zo3_2]).bind fun l22 =>
    some (.inl (l22, q2_0_1, q2_1_1))
def F74_1_D (a1 : List Int) (v6_1 : Int) (s : (List (List (List Int))) × Int × (List Int)) : Option ((List (List (List Int))) × Int × (List Int)) :=
  match s with
  | (o1_1, q2_0_1, q2_1_1) =>
    some (o1_1, q2_0_1, q2_1_1)
def F74 (a0 : Int) (a1 : List Int) : Option GComplex :=
  (forR 1 (a1.length : Int) (F74_1_B a1) (F74_1_D a1) ([], a0, a1)).bind fun t25 => match t25 with
    | (zo1_1, zq2_0_1, zq2_1_1) =>
      some ⟨zq2_0_1, zq2_1_1, zo1_1⟩
theorem d74 (a0 : Int) (a1 : List Int) {r : GComplex} (hF : F74 a0 a1 = some r) (E0 : List (Nat × Option (List V))) (c0 : Nat) {dk du : Nat} (hd0 : E0[dk]? = some (du, some (a1.map Enc.enc))) : ∃ v h', res A 74 [V.int .i64 a0, V.sl dk du 0 a1.length 1] ⟨E0, c0⟩ = some (v, h') ∧ r.Prime = a0 ∧ r.Dims = a1 ∧ ∃ m K, v = V.agg [V.int .i64 r.Prime, V.sl dk du 0 a1.length 1, m] ∧ Deep.rep h' m r.Maps K ∧ (∀ k, K k → E0.length ≤ k) ∧ (∀ k, k < E0.length → h'.ents[k]? = E0[k]?) ∧ E0.length ≤ h'.ents.length := by
  have hdk : dk < E0.length := (List.getElem?_eq_some_iff.1 hd0).1
  refine res_dp (f := p74) rfl rfl rfl fun e hl he => ?_
  have h0_0 : e.at 0 = V.int .i64 a0 := he 0 _ rfl
  have h1_0 : e.at 1 = V.sl dk du 0 a1.length 1 := he 1 _ rfl
  have hl_0 : e.length = 41 := hl
  clear he hl
  show W A b74 e ⟨E0, c0⟩ _
  unfold F74 at hF
  obtain ⟨t13, gt13, hF⟩ := bS hF
  have ws : ans A 73 [V.isl (a1.map Enc.enc)] = some (V.int .i64 (a1.length : Int)) := s73 a1 rfl
  simp only [↓reduceIte, Nat.reduceAdd, Nat.reduceMul, Nat.reduceSub, Nat.reduceLT, Nat.reduceLeDiff, Nat.reduceEqDiff, Nat.reducePow, Int.reducePow, Int.reduceLE, Int.reduceLT, Int.reduceEq, Int.reduceToNat, reduceCtorEq, R0, opEv, fillV, mapO, mapS, b74, hl_0, h0_0, h1_0, le1, get_last, ge2a, ge2b, ge3a, ge3b, ge3c, se2a, se2b, se3a, se3b, se3c, set_last]
  show W A (.block 0 (.loop true b74_1)) _ _ _
  rw [W_block]
  refine W_forR gt13 _ rfl (fun i s e h => s.2 = (a0, a1) ∧ ∃ u vs K, h.ents[E0.length]? = some (c0, some [V.int .i64 0, V.nils, V.nils]) ∧ h.ents[E0.length + 1]? = some (u, some vs) ∧ h.ents[E0.length + 2]? = some (c0 + 2, some [V.int .i64 a0, V.sl dk du 0 a1.length 1, V.sl (E0.length + 1) u 0 s.1.length 1]) ∧ reps h vs s.1 K ∧ (∀ k, K k → E0.length + 3 ≤ k) ∧ (∀ k, k < E0.length → h.ents[k]? = E0[k]?) ∧ e.length = 41 ∧ e.at 1 = V.sl dk du 0 a1.length 1 ∧ e.at 4 = V.ptr E0.length c0 0 ∧ e.at 5 = V.ptr (E0.length + 2) (c0 + 2) 0 ∧ e.at 6 = V.int .i64 i) ?_ ?_ ?_
  · refine ⟨rfl, c0 + 1, [], fun _ => False, ge3a .., ge3b .., ge3c .., fun _ x => x, fun _ x => x.elim, fun k q => ?_, ?_⟩
    · rw [List.append_assoc, List.append_assoc]; exact List.getElem?_append_left q
    simp only [↓reduceIte, Nat.reduceAdd, Nat.reduceMul, Nat.reduceSub, Nat.reduceLT, Nat.reduceLeDiff, Nat.reduceEqDiff, Nat.reducePow, Int.reducePow, Int.reduceLE, Int.reduceLT, Int.reduceEq, Int.reduceToNat, reduceCtorEq, R0, hl_0, h0_0, h1_0]
  · clear hl_0 h0_0 h1_0
    rintro i ⟨l, q⟩ e ⟨E, c⟩ ⟨rfl, u, vs, K, g1, g2, g3, g4, g5, g6, hl_1, h1_1, h4_1, h5_1, h6_1⟩ hlt hw o ho
    unfold F74_1_B at ho
    simp only at ho g1 g2 g3 g4 g6
    have hDd : E[dk]? = some (du, some (a1.map Enc.enc)) := (g6 dk hdk).trans hd0
    have wfz : frz ⟨E, c⟩ 16 (V.sl dk du 0 a1.length 1) = _ := frz_row hDd
    obtain ⟨x7, gx7, ho⟩ := bS ho
    obtain ⟨w8a, w8b⟩ := getI_w gx7
    have w8c := getI_lt gx7
    have w8d : ofCells none (List.drop (Int.toNat i) (a1.map Enc.enc)) = some (V.int .i64 x7) := ofCells_drop (by rw [List.getElem?_map, w8b]; rfl)
    have hDx : ∀ x, (E ++ [x])[dk]? = some (du, some (a1.map Enc.enc)) := fun x => (List.getElem?_append_left (List.getElem?_eq_some_iff.1 hDd).1).trans hDd
    obtain ⟨rows, gt20, ho⟩ := bS ho
    obtain ⟨l22, gl22, ho⟩ := bS ho
    obtain ⟨q1, q2, rfl⟩ := app_w gl22
    have hE := Option.some.inj ho; subst hE
    have hE0 : E0.length + 2 < E.length := (List.getElem?_eq_some_iff.1 g3).1
    simp only [↓reduceIte, Nat.reduceAdd, Nat.reduceMul, Nat.reduceSub, Nat.reduceLT, Nat.reduceLeDiff, Nat.reduceEqDiff, Nat.reducePow, Int.reducePow, Int.reduceLE, Int.reduceLT, Int.reduceEq, Int.reduceToNat, reduceCtorEq, R0, opEv, fillV, mapO, mapS, b74_1, hl_1, h1_1, h4_1, h5_1, h6_1, eq_true hlt, hw, ws, wfz, w8a, eq_true w8c, w8d, hDd, hDx]
    refine W.mono (Q := fun x' e h => x' = .normal ∧ ∃ u' vs' K', h.ents[E.length]? = some (u', some vs') ∧ reps h vs' rows K' ∧ (∀ k, K' k → E.length + 1 ≤ k) ∧ (∀ k, k < E.length → h.ents[k]? = E[k]?) ∧ e.length = 41 ∧ e.at 1 = V.sl dk du 0 a1.length 1 ∧ e.at 4 = V.ptr E0.length c0 0 ∧ e.at 5 = V.ptr (E0.length + 2) (c0 + 2) 0 ∧ e.at 6 = V.int .i64 i ∧ e.at 7 = V.sl E.length u' 0 rows.length 1) ?_ ?_
    rotate_left
    · rintro _ e ⟨E1, c1⟩ ⟨rfl, u', vs', K', f1, f2, f3, f4, hl_2, h1_2, h4_2, h5_2, h6_2, h7_2⟩
      simp only at f1 f4
      have hln := g4.len
      have hE1 : E.length < E1.length := (List.getElem?_eq_some_iff.1 f1).1
      have m0 := (f4 E0.length (by omega)).trans g1
      have m1 := (f4 (E0.length + 1) (by omega)).trans g2
      have m2 := (f4 (E0.length + 2) (by omega)).trans g3
      have n2 : ∀ y, (E1 ++ [y])[E0.length + 2]? = _ := fun y => (List.getElem?_append_left (by omega)).trans m2
      have n2' : ∀ y z, ((E1 ++ [y]).set (E0.length + 1) z)[E0.length + 2]? = _ := fun y z => (set_app_new (by omega) (by omega)).trans m2
      have w9 : ∀ y c', appendV 1 24 (.sl (E0.length + 1) u 0 l.length 1) 1 [V.sl E.length u' 0 rows.length 1] ⟨E1 ++ [y], c'⟩ = _ := fun y c' => appendV_deep (E := E1 ++ [y]) (vs := vs) (by rw [List.getElem?_append_left (by omega)]; exact m1) hln (by simpa using q1) (by simpa using q2)
      simp only [↓reduceIte, Nat.reduceAdd, Nat.reduceMul, Nat.reduceSub, Nat.reduceLT, Nat.reduceLeDiff, Nat.reduceEqDiff, Nat.reducePow, Int.reducePow, Int.reduceLE, Int.reduceLT, Int.reduceEq, Int.reduceToNat, reduceCtorEq, R0, opEv, fillV, mapO, mapS, hl_2, h1_2, h4_2, h5_2, h6_2, h7_2, hw, m2, n2, n2', get_last, w9]
      have r0 : Deep.rep ⟨E1, c1⟩ (V.sl E.length u' 0 rows.length 1) rows (fun k => k = E.length ∨ K' k) := rep_at f1 f2 (fun q => by have := f3 _ q; omega)
      have hk : ∀ k, K k ∨ (k = E.length ∨ K' k) → E0.length + 3 ≤ k := fun k q => q.elim (g5 k) (fun q => q.elim (fun q => by omega) (fun q => by have := f3 k q; omega))
      have r1 := deep_round (h := ⟨E, c⟩) (h1 := ⟨E1, c1⟩) (h2 := ⟨((E1 ++ [(c1, some [V.sl E.length u' 0 rows.length 1])]).set (E0.length + 1) (c1 + 1, some (vs ++ [V.sl E.length u' 0 rows.length 1]))).set (E0.length + 2) (c0 + 2, some [V.int .i64 a0, V.sl dk du 0 a1.length 1, V.sl (E0.length + 1) (c1 + 1) 0 (l.length + 1) 1]), c1 + 1 + 1⟩) (K := K) g4
        r0 (fun k q => q.elim (fun q => by show E.length ≤ k; omega) (fun q => by have := f3 k q; show E.length ≤ k; omega)) f4 (fun k p q => by
          have := hk k q
          rw [set_ne (by omega)]
          exact set_app_new (by omega) p) (by show E.length ≤ E1.length; omega)
      refine And.intro rfl (And.intro rfl ⟨c1 + 1, vs ++ [V.sl E.length u' 0 rows.length 1], _, ?_, ?_, ?_, r1, hk, fun k q => ?_, ?_⟩)
      · exact (set_ne (by omega)).trans ((set_app_new (by omega) (by omega)).trans m0)
      · exact (set_ne (by omega)).trans (set_app_key (by simp; omega))
      · simp only [List.length_append, List.length_cons, List.length_nil, Nat.zero_add]
        exact set_app_key (by simp; omega)
      · exact (set_ne (by omega)).trans ((set_app_new (by omega) (by omega)).trans ((f4 k (by omega)).trans (g6 k q)))
      · simp only [↓reduceIte, Nat.reduceAdd, Nat.reduceMul, Nat.reduceSub, Nat.reduceLT, Nat.reduceLeDiff, Nat.reduceEqDiff, Nat.reducePow, Int.reducePow, Int.reduceLE, Int.reduceLT, Int.reduceEq, Int.reduceToNat, reduceCtorEq, R0, hl_2, h1_2, h4_2, h5_2, h6_2, h7_2, hw]
    show W A (.block 2 (.loop true b74_2)) _ _ _
    rw [W_block]
    refine W_forR gt20 _ rfl (fun j rs e h => ∃ u' vs' K', h.ents[E.length]? = some (u', some vs') ∧ reps h vs' rs K' ∧ (∀ k, K' k → E.length + 1 ≤ k) ∧ (∀ k, k < E.length → h.ents[k]? = E[k]?) ∧ e.length = 41 ∧ e.at 1 = V.sl dk du 0 a1.length 1 ∧ e.at 4 = V.ptr E0.length c0 0 ∧ e.at 5 = V.ptr (E0.length + 2) (c0 + 2) 0 ∧ e.at 6 = V.int .i64 i ∧ e.at 7 = V.sl E.length u' 0 rs.length 1 ∧ e.at 21 = V.int .i64 x7 ∧ e.at 22 = V.int .i64 j) ?_ ?_ ?_
    · refine ⟨c, [], fun _ => False, get_last _ _, fun _ x => x, fun _ x => x.elim, fun k q => List.getElem?_append_left q, ?_⟩
      simp only [↓reduceIte, Nat.reduceAdd, Nat.reduceMul, Nat.reduceSub, Nat.reduceLT, Nat.reduceLeDiff, Nat.reduceEqDiff, Nat.reducePow, Int.reducePow, Int.reduceLE, Int.reduceLT, Int.reduceEq, Int.reduceToNat, reduceCtorEq, R0, hl_1, h1_1, h4_1, h5_1, h6_1]
    · clear hl_1 h1_1 h4_1 h5_1 h6_1
      rintro j rs e ⟨E1, c1⟩ ⟨u', vs', K', f1, f2, f3, f4, hl_1, h1_1, h4_1, h5_1, h6_1, h7_1, h21_1, h22_1⟩ hlt2 hw2 o ho
      unfold F74_2_B at ho
      obtain ⟨x13, gx13, ho⟩ := bS ho
      have wx13 := chk_w gx13
      obtain ⟨x14, gx14, ho⟩ := bS ho
      obtain ⟨w15a, w15b⟩ := getI_w gx14
      have w15c := getI_lt gx14
      have w15d : ofCells none (List.drop (Int.toNat x13) (a1.map Enc.enc)) = some (V.int .i64 x14) := ofCells_drop (by rw [List.getElem?_map, w15b]; rfl)
      obtain ⟨l16, gl16, ho⟩ := bS ho
      obtain ⟨w17a, w17b, w17c, w17d, w17e⟩ := mkL_w gl16
      replace w17e : (List.replicate (Int.toNat x14) [V.int .i64 0]).flatten = List.map Enc.enc l16 := w17e
      obtain ⟨l19, gl19, ho⟩ := bS ho
      obtain ⟨q1, q2, rfl⟩ := app_w gl19
      have hE := Option.some.inj ho; subst hE
      simp only at f1 f4
      have hln := f2.len
      have hE1 : E.length < E1.length := (List.getElem?_eq_some_iff.1 f1).1
      have hD1 : E1[dk]? = some (du, some (a1.map Enc.enc)) := (f4 dk (by omega)).trans hDd
      have w9 : ∀ x y c', appendV 1 24 (.sl E.length u' 0 rs.length 1) 1 [V.sl E1.length c1 0 (Int.toNat x14) 1] ⟨E1 ++ [x] ++ [y], c'⟩ = _ := fun x y c' => appendV_deep (E := E1 ++ [x] ++ [y]) (vs := vs') (by rw [List.getElem?_append_left (by simp; omega), List.getElem?_append_left hE1]; exact f1) hln (by simpa using q1) (by simpa using q2)
      simp only [↓reduceIte, Nat.reduceAdd, Nat.reduceMul, Nat.reduceSub, Nat.reduceLT, Nat.reduceLeDiff, Nat.reduceEqDiff, Nat.reducePow, Int.reducePow, Int.reduceLE, Int.reduceLT, Int.reduceEq, Int.reduceToNat, reduceCtorEq, R0, opEv, fillV, mapO, mapS, b74_2, hl_1, h1_1, h4_1, h5_1, h6_1, h7_1, h21_1, h22_1, eq_true hlt2, hw2, wx13, w15a, eq_true w15c, w15d, hD1, w17a, w17b, w17c, w17e, get_last, w9]
      have r0 : Deep.rep ⟨E1 ++ [(c1, some (l16.map Enc.enc))], c1 + 1⟩ (V.sl E1.length c1 0 (Int.toNat x14) 1) l16 (fun k => k = E1.length) := by
        rw [← w17d]; exact int_row (get_last _ _) fun k => Iff.rfl
      have r1 := deep_round (h := ⟨E1, c1⟩) (h1 := ⟨E1 ++ [(c1, some (l16.map Enc.enc))], c1 + 1⟩) (h2 := ⟨(E1 ++ [(c1, some (l16.map Enc.enc))] ++ [(c1 + 1, some [V.sl E1.length c1 0 (Int.toNat x14) 1])]).set E.length (c1 + 1 + 1, some (vs' ++ [V.sl E1.length c1 0 (Int.toNat x14) 1])), c1 + 1 + 1 + 1⟩) f2
        r0 (fun k q => by show E1.length ≤ k; omega) (fun k q => List.getElem?_append_left q) (fun k p q => set_app_new (fun e => by subst e; exact q.elim (fun q => by have := f3 _ q; omega) (fun q => by omega)) p) (by simp)
      refine And.intro rfl ⟨_, _, _, set_app_key (by simp; omega), r1, fun k q => q.elim (f3 k) (fun q => by omega), fun k q => ?_, ?_⟩
      · refine (set_app_new (by omega) (by simp; omega)).trans ((List.getElem?_append_left (by omega)).trans (f4 k q))
      · simp only [↓reduceIte, Nat.reduceAdd, Nat.reduceMul, Nat.reduceSub, Nat.reduceLT, Nat.reduceLeDiff, Nat.reduceEqDiff, Nat.reducePow, Int.reducePow, Int.reduceLE, Int.reduceLT, Int.reduceEq, Int.reduceToNat, reduceCtorEq, R0, hl_1, h1_1, h4_1, h5_1, h6_1, h7_1, h21_1, h22_1, hw2, List.length_append]
    · clear hl_1 h1_1 h4_1 h5_1 h6_1
      rintro j rs e ⟨E1, c1⟩ ⟨u', vs', K', f1, f2, f3, f4, hl_1, h1_1, h4_1, h5_1, h6_1, h7_1, h21_1, h22_1⟩ hge t1 ho
      have hE := Option.some.inj ho; subst hE
      simp only [↓reduceIte, Nat.reduceAdd, Nat.reduceMul, Nat.reduceSub, Nat.reduceLT, Nat.reduceLeDiff, Nat.reduceEqDiff, Nat.reducePow, Int.reducePow, Int.reduceLE, Int.reduceLT, Int.reduceEq, Int.reduceToNat, reduceCtorEq, R0, opEv, fillV, mapO, mapS, b74_2, hl_1, h1_1, h4_1, h5_1, h6_1, h7_1, h21_1, h22_1, eq_false hge]
      intro ht; subst ht
      exact ⟨u', vs', K', f1, f2, f3, f4, rfl⟩
  · rintro i ⟨l, q⟩ e ⟨E, c⟩ ⟨rfl, u, vs, K, g1, g2, g3, g4, g5, g6, hl_1, h1_1, h4_1, h5_1, h6_1⟩ hge t1 ho
    unfold F74_1_D at ho
    have hE := Option.some.inj ho; subst hE
    simp only at hF g1 g2 g3 g4 g6
    have hDd : E[dk]? = some (du, some (a1.map Enc.enc)) := (g6 dk hdk).trans hd0
    have wfz : frz ⟨E, c⟩ 16 (V.sl dk du 0 a1.length 1) = _ := frz_row hDd
    simp only [↓reduceIte, Nat.reduceAdd, Nat.reduceMul, Nat.reduceSub, Nat.reduceLT, Nat.reduceLeDiff, Nat.reduceEqDiff, Nat.reducePow, Int.reducePow, Int.reduceLE, Int.reduceLT, Int.reduceEq, Int.reduceToNat, reduceCtorEq, R0, opEv, fillV, mapO, mapS, b74_1, hl_1, h1_1, h4_1, h5_1, h6_1, eq_false hge, ws, wfz, g1, g2, g3]
    intro ht; subst ht
    have hE := Option.some.inj hF; subst hE
    have hE0 : E0.length + 2 < E.length := (List.getElem?_eq_some_iff.1 g3).1
    refine And.intro (fun _ => trivial) ⟨_, by simp only [↓reduceIte, Nat.reduceAdd, Nat.reduceMul, Nat.reduceSub, Nat.reduceLT, Nat.reduceLeDiff, Nat.reduceEqDiff, Nat.reducePow, Int.reducePow, Int.reduceLE, Int.reduceLT, Int.reduceEq, Int.reduceToNat, reduceCtorEq, R0, fn_out, p74, Rs.ev, mapO, mapS, hl_1, h4_1, set_app_key (show E0.length < E.length by omega)]; rfl, rfl, rfl, _, _, rfl, rep_at (α := List (List Int)) (K := K) ?_ (g4.frame fun k q => set_ne (by have := g5 k q; omega)) (fun q => by have := g5 _ q; omega), fun k q => q.elim (fun q => by omega) (fun q => by have := g5 k q; omega), fun k q => (set_ne (by omega)).trans (g6 k q), by simp; omega⟩
    exact (set_ne (by omega)).trans g2
def F75 (p : Int) (n r pl v : Int) (s : List (List (List Int))) : Option (List (List (List Int))) :=
  (chk (n - 1)).bind fun i => (getI s i).bind fun t => (getI t r).bind fun row => (getI row pl).bind fun old => (chk (old + v)).bind fun a => (remI a p).bind fun b => (chk (b + p)).bind fun d => (remI d p).bind fun z =>
  (setI row pl z).bind fun row' => (setI t r row').bind fun t' => setI s i t'
theorem d75 {p n r pl v : Int} {dv : V} {s s' : List (List (List Int))} (hF : F75 p n r pl v s = some s') (E : List (Nat × Option (List V))) (c : Nat) {m : V} {K : Ks} (hr : Deep.rep ⟨E, c⟩ m s K) :
    ∃ h', res A 75 [V.agg [V.int .i64 p, dv, m], V.int .i64 n, V.int .i64 r, V.int .i64 pl, V.int .i64 v] ⟨E, c⟩ = some (V.undef, h') ∧ Deep.rep h' m s' K ∧ (∀ k, k < E.length → ¬ K k → h'.ents[k]? = E[k]?) ∧ E.length ≤ h'.ents.length := by
  refine res_ex (f := p75) rfl rfl rfl fun e hl he => ?_
  have h0 : e.at 0 = V.agg [V.int .i64 p, dv, m] := he 0 _ rfl
  have h1 : e.at 1 = V.int .i64 n := he 1 _ rfl
  have h2 : e.at 2 = V.int .i64 r := he 2 _ rfl
  have h3 : e.at 3 = V.int .i64 pl := he 3 _ rfl
  have h4 : e.at 4 = V.int .i64 v := he 4 _ rfl
  have hl_0 : e.length = 38 := hl
  clear he hl
  show W A b75 e ⟨E, c⟩ _
  unfold F75 at hF
  obtain ⟨i, gi, hF⟩ := bS hF
  have wi := chk_w gi
  obtain ⟨t, gt, hF⟩ := bS hF
  obtain ⟨ta, tb⟩ := getI_w gt
  have tc := getI_lt gt
  obtain ⟨row, gr, hF⟩ := bS hF
  obtain ⟨ra, rb⟩ := getI_w gr
  have rc := getI_lt gr
  obtain ⟨old, go, hF⟩ := bS hF
  obtain ⟨oa, ob⟩ := getI_w go
  have oc := getI_lt go
  obtain ⟨a, ga, hF⟩ := bS hF
  have wa := chk_w ga
  obtain ⟨b, gb, hF⟩ := bS hF
  obtain ⟨wb0, wb⟩ := rem_w gb
  obtain ⟨d, gd, hF⟩ := bS hF
  have wd := chk_w gd
  obtain ⟨z, gz, hF⟩ := bS hF
  obtain ⟨_, wz⟩ := rem_w gz
  obtain ⟨row', gs, hF⟩ := bS hF
  obtain ⟨s1, s2, s3, s4, s5⟩ := setI_w gs
  obtain ⟨t', gt', hF⟩ := bS hF
  have st : t' = t.set r.toNat row' := setI_eq gt'
  have sm : s' = s.set i.toNat t' := setI_eq hF
  obtain ⟨key, uid, vs, x1, K1, hm, a1, a2, a3, a4, a5, a6⟩ := rep_focus hr tb
  obtain ⟨key2, uid2, vs2, x2, K2, hx1, b1, b2, b3, b4, b5, b6⟩ := rep_focus a4 rb
  rcases row_int b4 with ⟨_, rfl, _⟩ | ⟨key3, uid3, hx2, d1, d2⟩
  · exact absurd ob (by simp)
  have o1 := ofCells_drop a2
  have o2 := ofCells_drop b2
  have o3 : ofCells none (List.drop pl.toNat (row.map Enc.enc)) = some (V.int .i64 old) := ofCells_drop (by rw [List.getElem?_map, ob]; rfl)
  have s5' : List.take pl.toNat (row.map Enc.enc) ++ [V.int .i64 z] ++ List.drop (pl.toNat + 1) (row.map Enc.enc) = List.map Enc.enc row' := s5
  simp only at a1 b1 d1
  have k1 : key < E.length := (List.getElem?_eq_some_iff.1 a1).1
  have k2 : key2 < E.length := (List.getElem?_eq_some_iff.1 b1).1
  have k3 : key3 < E.length := (List.getElem?_eq_some_iff.1 d1).1
  have p1 : ∀ x, (E ++ [x])[key]? = some (uid, some vs) := fun x => (List.getElem?_append_left k1).trans a1
  have p2 : ∀ x, (E ++ [x])[key2]? = some (uid2, some vs2) := fun x => (List.getElem?_append_left k2).trans b1
  have p3 : ∀ x, (E ++ [x])[key3]? = some (uid3, some (row.map Enc.enc)) := fun x => (List.getElem?_append_left k3).trans d1
  simp only [simprocAttr, R0, opEv, fillV, mapO, mapS, b75, hl_0, h0, h1, h2, h3, h4, get_last, hm, wi, ta, eq_true tc, p1, o1, hx1, ra, eq_true rc, p2, o2, hx2, oa, eq_true oc, p3, o3, wa, wb0, wb, wd, wz, s3, s5']
  rw [← hm]
  have q : ∀ k, k ≠ key3 → k < E.length → ((E ++ [(c, some [V.int .i64 p, dv, m])]).set key3 (uid3, some (List.map Enc.enc row')))[k]? = E[k]? := fun k h1 h2 => set_app_new h1 h2
  have r0 : Deep.rep ⟨(E ++ [(c, some [V.int .i64 p, dv, m])]).set key3 (uid3, some (List.map Enc.enc row')), c + 1⟩ x2 row' K2 := by
    rw [hx2, ← s4]; exact int_row (set_app_key (by simp; omega)) d2
  have r1 := b6 _ _ r0 (fun k hk nk => q k (fun e => nk ((d2 k).2 e)) (Deep.bd a4 hk))
  rw [← st] at r1
  have r2 := a6 _ _ r1 (fun k hk nk => q k (fun e => nk (b5 k ((d2 k).2 e))) (Deep.bd hr hk))
  rw [← sm] at r2
  refine And.intro (fun _ => trivial) ⟨?_, r2, fun k hk nk => q k (fun e => nk (a5 k (b5 k ((d2 k).2 e)))) hk, by simp⟩
  simp only [simprocAttr, R1, fn_out, p75, mapO]
  rfl
def F85 {σ : Type} (ms : List (List (List Int))) (f : Int → Int → Int → Int → σ → Option σ) (s : σ) : Option σ :=
  forR 0 (ms.length : Int) (fun k s => (getI ms k).bind fun rows => (forR 0 (rows.length : Int) (fun i s => (getI rows i).bind fun row =>
    (forR 0 (row.length : Int) (fun j s => (getI row j).bind fun v => (chk (k + 1)).bind fun n => (f n i j v s).bind fun s' => some (.inl s')) (fun _ s => some s) s).bind fun s' => some (.inl s')) (fun _ s => some s) s).bind fun s' => some (.inl s')) (fun _ s => some s) s
structure Step4 (g : Nat) (fs cs : List V) {σ : Type} (S : σ → List (Nat × Option (List V)) → Prop) (f : Int → Int → Int → Int → σ → Option σ) : Prop where
  call : ∀ n r p v s s', f n r p v s = some s' → ∀ E c, S s E → ∃ E' c', res A g (fs ++ [V.int .i64 n, V.int .i64 r, V.int .i64 p, V.int .i64 v] ++ cs) ⟨E, c⟩ = some (V.undef, ⟨E', c'⟩) ∧ S s' E'
  pad : ∀ s E x, S s E → S s (E ++ [x])
theorem e85 {g : Nat} {fs cs : List V} {σ : Type} {S : σ → List (Nat × Option (List V)) → Prop} {f : Int → Int → Int → Int → σ → Option σ} (st : Step4 g fs cs S f) (x : GComplex) {s s' : σ} (hF : F85 x.Maps f s = some s') (E : List (Nat × Option (List V))) (c : Nat) (hS : S s E) :
    ∃ h', res A 85 [V.agg [V.int .i64 x.Prime, V.isl (List.map Enc.enc x.Dims), V.isl (List.map Enc.enc x.Maps)], V.fn g fs cs] ⟨E, c⟩ = some (V.undef, h') ∧ S s' h'.ents := by
  refine res_ex (f := p85) rfl rfl rfl fun e hl he => ?_
  have h0 : e.at 0 = V.agg [V.int .i64 x.Prime, V.isl (List.map Enc.enc x.Dims), V.isl (List.map Enc.enc x.Maps)] := he 0 _ rfl
  have h1 : e.at 1 = V.fn g fs cs := he 1 _ rfl
  have hl_0 : e.length = 42 := hl
  clear he hl
  show W A b85 e ⟨E, c⟩ _
  unfold F85 at hF
  simp only [simprocAttr, R0, opEv, fillV, mapO, mapS, b85, hl_0, h0, h1, get_last, set_last]
  show W A (.block 0 (.loop true b85_1)) _ _ _
  rw [W_block]
  refine W_forR hF _ rfl (fun i s e h => S s h.ents ∧ e.length = 42 ∧ e.at 1 = V.fn g fs cs ∧ e.at 11 = V.isl (List.map Enc.enc x.Maps) ∧ e.at 12 = V.int .i64 (x.Maps.length : Int) ∧ e.at 13 = V.int .i64 i) ?_ ?_ ?_
  · refine And.intro (st.pad _ _ _ hS) ?_
    simp only [simprocAttr, R0, hl_0, h0, h1]
  · rintro i s e ⟨E, c⟩ ⟨hS, hl_1, h1_1, h11_1, h12_1, h13_1⟩ hlt hw o ho
    obtain ⟨rows, g1, ho⟩ := bS ho
    obtain ⟨w1a, w1b⟩ := getI_w g1
    obtain ⟨z, g2, ho⟩ := bS ho
    have hE := Option.some.inj ho; subst hE
    simp only [simprocAttr, R0, opEv, fillV, mapO, mapS, b85_1, hl_1, h1_1, h11_1, h12_1, h13_1, eq_true hlt, hw, w1a, w1b]
    refine W.mono (Q := fun x' e h => x' = .normal ∧ S z h.ents ∧ e.length = 42 ∧ e.at 1 = V.fn g fs cs ∧ e.at 11 = V.isl (List.map Enc.enc x.Maps) ∧ e.at 12 = V.int .i64 (x.Maps.length : Int) ∧ e.at 13 = V.int .i64 i) ?_ ?_
    rotate_left
    · rintro _ e ⟨E2, c2⟩ ⟨rfl, hS2, hl_2, h1_2, h11_2, h12_2, h13_2⟩
      simp only [simprocAttr, R0, opEv, fillV, mapO, mapS, hl_2, h1_2, h11_2, h12_2, h13_2, hw]
      refine And.intro rfl (And.intro hS2 ?_)
      simp only [simprocAttr, R0, hl_2, h1_2, h11_2, h12_2, h13_2, hw]
    show W A (.block 2 (.loop true b85_2)) _ _ _
    rw [W_block]
    refine W_forR g2 _ rfl (fun j s e h => S s h.ents ∧ e.length = 42 ∧ e.at 1 = V.fn g fs cs ∧ e.at 11 = V.isl (List.map Enc.enc x.Maps) ∧ e.at 12 = V.int .i64 (x.Maps.length : Int) ∧ e.at 13 = V.int .i64 i ∧ e.at 4 = V.int .i64 i ∧ e.at 18 = V.isl (List.map Enc.enc rows) ∧ e.at 19 = V.int .i64 (rows.length : Int) ∧ e.at 20 = V.int .i64 j) ?_ ?_ ?_
    · refine And.intro hS ?_
      simp only [simprocAttr, R0, hl_1, h1_1, h11_1, h12_1, h13_1]
    · clear hl_1 h1_1 h11_1 h12_1 h13_1
      rintro j s e ⟨E, c⟩ ⟨hS, hl_1, h1_1, h11_1, h12_1, h13_1, h4_1, h18_1, h19_1, h20_1⟩ hlt2 hw2 o ho
      obtain ⟨row, g3, ho⟩ := bS ho
      obtain ⟨w3a, w3b⟩ := getI_w g3
      obtain ⟨z2, g4, ho⟩ := bS ho
      have hE := Option.some.inj ho; subst hE
      simp only [simprocAttr, R0, opEv, fillV, mapO, mapS, b85_2, hl_1, h1_1, h11_1, h12_1, h13_1, h4_1, h18_1, h19_1, h20_1, eq_true hlt2, hw2, w3a, w3b]
      refine W.mono (Q := fun x' e h => x' = .normal ∧ S z2 h.ents ∧ e.length = 42 ∧ e.at 1 = V.fn g fs cs ∧ e.at 11 = V.isl (List.map Enc.enc x.Maps) ∧ e.at 12 = V.int .i64 (x.Maps.length : Int) ∧ e.at 13 = V.int .i64 i ∧ e.at 4 = V.int .i64 i ∧ e.at 18 = V.isl (List.map Enc.enc rows) ∧ e.at 19 = V.int .i64 (rows.length : Int) ∧ e.at 20 = V.int .i64 j) ?_ ?_
      rotate_left
      · rintro _ e ⟨E2, c2⟩ ⟨rfl, hS2, hl_2, h1_2, h11_2, h12_2, h13_2, h4_2, h18_2, h19_2, h20_2⟩
        simp only [simprocAttr, R0, opEv, fillV, mapO, mapS, hl_2, h1_2, h11_2, h12_2, h13_2, h4_2, h18_2, h19_2, h20_2, hw2]
        refine And.intro rfl (And.intro hS2 ?_)
        simp only [simprocAttr, R0, hl_2, h1_2, h11_2, h12_2, h13_2, h4_2, h18_2, h19_2, h20_2, hw2]
      show W A (.block 4 (.loop true b85_3)) _ _ _
      rw [W_block]
      refine W_forR g4 _ rfl (fun k s e h => S s h.ents ∧ e.length = 42 ∧ e.at 1 = V.fn g fs cs ∧ e.at 11 = V.isl (List.map Enc.enc x.Maps) ∧ e.at 12 = V.int .i64 (x.Maps.length : Int) ∧ e.at 13 = V.int .i64 i ∧ e.at 4 = V.int .i64 i ∧ e.at 18 = V.isl (List.map Enc.enc rows) ∧ e.at 19 = V.int .i64 (rows.length : Int) ∧ e.at 20 = V.int .i64 j ∧ e.at 6 = V.int .i64 j ∧ e.at 25 = V.isl (List.map Enc.enc row) ∧ e.at 26 = V.int .i64 (row.length : Int) ∧ e.at 27 = V.int .i64 k) ?_ ?_ ?_
      · refine And.intro hS ?_
        simp only [simprocAttr, R0, hl_1, h1_1, h11_1, h12_1, h13_1, h4_1, h18_1, h19_1, h20_1]
      · clear hl_1 h1_1 h11_1 h12_1 h13_1 h4_1 h18_1 h19_1 h20_1
        rintro k s e ⟨E, c⟩ ⟨hS, hl_1, h1_1, h11_1, h12_1, h13_1, h4_1, h18_1, h19_1, h20_1, h6_1, h25_1, h26_1, h27_1⟩ hlt3 hw3 o ho
        obtain ⟨v, g5, ho⟩ := bS ho
        obtain ⟨w5a, w5b⟩ := getI_w g5
        obtain ⟨n, g6, ho⟩ := bS ho
        have w6 := chk_w g6
        obtain ⟨s2, g7, ho⟩ := bS ho
        have hE := Option.some.inj ho; subst hE
        obtain ⟨E2, c2, hr, hS2⟩ := st.call _ _ _ _ _ _ g7 E c hS
        simp only [simprocAttr, R0, opEv, fillV, mapO, mapS, b85_3, hl_1, h1_1, h11_1, h12_1, h13_1, h4_1, h18_1, h19_1, h20_1, h6_1, h25_1, h26_1, h27_1, eq_true hlt3, hw3, w5a, w5b, w6, callM_plain_eq, List.append_assoc] at hr ⊢
        simp only [simprocAttr, R0, opEv, fillV, mapO, mapS, hr, hl_1, h1_1, h11_1, h12_1, h13_1, h4_1, h18_1, h19_1, h20_1, h6_1, h25_1, h26_1, h27_1, eq_true hlt3, hw3]
        refine And.intro rfl (And.intro hS2 ?_)
        simp only [simprocAttr, R0, hl_1, h1_1, h11_1, h12_1, h13_1, h4_1, h18_1, h19_1, h20_1, h6_1, h25_1, h26_1, h27_1, hw3]
      · clear hl_1 h1_1 h11_1 h12_1 h13_1 h4_1 h18_1 h19_1 h20_1
        rintro k s e ⟨E, c⟩ ⟨hS, hl_1, h1_1, h11_1, h12_1, h13_1, h4_1, h18_1, h19_1, h20_1, h6_1, h25_1, h26_1, h27_1⟩ hge t1 ho
        have hE := Option.some.inj ho; subst hE
        simp only [simprocAttr, R0, opEv, fillV, mapO, mapS, b85_3, hl_1, h1_1, h11_1, h12_1, h13_1, h4_1, h18_1, h19_1, h20_1, h6_1, h25_1, h26_1, h27_1, eq_false hge]
        intro ht; subst ht
        exact hS
    · clear hl_1 h1_1 h11_1 h12_1 h13_1
      rintro j s e ⟨E, c⟩ ⟨hS, hl_1, h1_1, h11_1, h12_1, h13_1, h4_1, h18_1, h19_1, h20_1⟩ hge t1 ho
      have hE := Option.some.inj ho; subst hE
      simp only [simprocAttr, R0, opEv, fillV, mapO, mapS, b85_2, hl_1, h1_1, h11_1, h12_1, h13_1, h4_1, h18_1, h19_1, h20_1, eq_false hge]
      intro ht; subst ht
      exact hS
  · rintro i s e ⟨E, c⟩ ⟨hS, hl_1, h1_1, h11_1, h12_1, h13_1⟩ hge t1 ho
    have hE := Option.some.inj ho; subst hE
    simp only [simprocAttr, R0, opEv, fillV, mapO, mapS, b85_1, hl_1, h1_1, h11_1, h12_1, h13_1, eq_false hge]
    intro ht; subst ht
    refine And.intro (fun i => by simp only [ne_eq, reduceCtorEq, not_false_eq_true]) (And.intro ?_ hS)
    simp only [simprocAttr, R1, fn_out, p85, mapO]
    rfl
def F277 (p : Int) (y : GComplex) (n r pl v : Int) (s : List (List (List Int))) : Option (List (List (List Int))) :=
  (chk (n + 1)).bind fun n1 => (F102 y n1).bind fun d1 => (chk (d1 + r)).bind fun r1 => (F102 y n).bind fun d0 => (chk (d0 + pl)).bind fun p1 => (chk (0 - v)).bind fun w => F75 p n1 r1 p1 w s
def S277 (p : Int) (dv m : V) (N c1 : Nat) (K : Ks) (R : List (Nat × Option (List V)) → Prop) (s : List (List (List Int))) (E : List (Nat × Option (List V))) : Prop :=
  Deep.rep ⟨E, 0⟩ m s K ∧ R E ∧ E[N]? = some (c1, some [V.int .i64 p, dv, m])
theorem sp277 {p : Int} {dv m : V} {N c1 : Nat} {K : Ks} {R : List (Nat × Option (List V)) → Prop} (hR : ∀ E E', R E → (∀ k, k < E.length → ¬ K k → E'[k]? = E[k]?) → R E') {s : List (List (List Int))} {E : List (Nat × Option (List V))} {x : Nat × Option (List V)} (h : S277 p dv m N c1 K R s E) : S277 p dv m N c1 K R s (E ++ [x]) := by
  obtain ⟨h1, h2, h3⟩ := h
  exact ⟨Deep.frame h1 fun k q => List.getElem?_append_left (Deep.bd h1 q), hR E _ h2 fun k q _ => List.getElem?_append_left q, (List.getElem?_append_left (List.getElem?_eq_some_iff.1 h3).1).trans h3⟩
theorem sc277 {p : Int} {dv m : V} {N c1 : Nat} {K : Ks} {R : List (Nat × Option (List V)) → Prop} (hN : ¬ K N) (hR : ∀ E E', R E → (∀ k, k < E.length → ¬ K k → E'[k]? = E[k]?) → R E') {n r pl v : Int} {s s' : List (List (List Int))} (hF : F75 p n r pl v s = some s') {E : List (Nat × Option (List V))} (c : Nat) (h : S277 p dv m N c1 K R s E) :
    ∃ E' c', res A 75 [V.agg [V.int .i64 p, dv, m], V.int .i64 n, V.int .i64 r, V.int .i64 pl, V.int .i64 v] ⟨E, c⟩ = some (V.undef, ⟨E', c'⟩) ∧ S277 p dv m N c1 K R s' E' := by
  obtain ⟨h1, h2, h3⟩ := h
  have r1 : Deep.rep ⟨E, c⟩ m s K := Deep.frame h1 fun _ _ => rfl
  obtain ⟨⟨E', c'⟩, q1, q2, q3, q4⟩ := d75 (dv := dv) hF E c r1
  exact ⟨E', c', q1, Deep.frame q2 fun _ _ => rfl, hR E E' h2 q3, (q3 N (List.getElem?_eq_some_iff.1 h3).1 hN).trans h3⟩
theorem sa277 (p : Int) (dv m : V) (N c1 : Nat) (K : Ks) (R : List (Nat × Option (List V)) → Prop) (hN : ¬ K N) (hR : ∀ E E', R E → (∀ k, k < E.length → ¬ K k → E'[k]? = E[k]?) → R E') : Step4 75 [V.agg [V.int .i64 p, dv, m]] [] (S277 p dv m N c1 K R) (fun n r pl v s => F75 p n r pl v s) where
  call := fun n r pl v s s' hF E c h => sc277 hN hR hF c h
  pad := fun s E x h => sp277 hR h
theorem st277 (y : GComplex) (p : Int) (dv m : V) (N c1 : Nat) (K : Ks) (R : List (Nat × Option (List V)) → Prop) (hN : ¬ K N) (hR : ∀ E E', R E → (∀ k, k < E.length → ¬ K k → E'[k]? = E[k]?) → R E') : Step4 277 [] [V.ptr N c1 0, V.iptr [V.int .i64 y.Prime, V.isl (y.Dims.map Enc.enc), V.isl (y.Maps.map Enc.enc)]] (S277 p dv m N c1 K R) (fun n r pl v s => F277 p y n r pl v s) where
  call := by
    rintro n r pl v s s' hF E c h
    have h3 := h.2.2
    unfold F277 at hF
    obtain ⟨n1, gn1, hF⟩ := bS hF
    have wn1 := chk_w gn1
    obtain ⟨d1, gd1, hF⟩ := bS hF
    have wd1 : ans A 102 [(eC y), V.int .i64 n1] = some (V.int .i64 d1) := s102 y n1 gd1
    obtain ⟨r1, gr1, hF⟩ := bS hF
    have wr1 := chk_w gr1
    obtain ⟨d0, gd0, hF⟩ := bS hF
    have wd0 : ans A 102 [(eC y), V.int .i64 n] = some (V.int .i64 d0) := s102 y n gd0
    obtain ⟨p1, gp1, hF⟩ := bS hF
    have wp1 := chk_w gp1
    obtain ⟨w, gw, hF⟩ := bS hF
    have ww := chk_w gw
    obtain ⟨E', c', q1, q2⟩ := sc277 hN hR hF c h
    have key : ∃ h', res A 277 [V.int .i64 n, V.int .i64 r, V.int .i64 pl, V.int .i64 v, V.ptr N c1 0, V.iptr [V.int .i64 y.Prime, V.isl (y.Dims.map Enc.enc), V.isl (y.Maps.map Enc.enc)]] ⟨E, c⟩ = some (V.undef, h') ∧ h' = ⟨E', c'⟩ := by
      refine res_ex (f := p277) rfl rfl rfl fun e hl he => ?_
      have h0_0 : e.at 0 = V.int .i64 n := he 0 _ rfl
      have h1_0 : e.at 1 = V.int .i64 r := he 1 _ rfl
      have h2_0 : e.at 2 = V.int .i64 pl := he 2 _ rfl
      have h3_0 : e.at 3 = V.int .i64 v := he 3 _ rfl
      have h4_0 : e.at 4 = V.ptr N c1 0 := he 4 _ rfl
      have h5_0 : e.at 5 = V.iptr [V.int .i64 y.Prime, V.isl (y.Dims.map Enc.enc), V.isl (y.Maps.map Enc.enc)] := he 5 _ rfl
      have hl_0 : e.length = 27 := hl
      clear he hl
      show W A b277 e ⟨E, c⟩ _
      simp only [simprocAttr, R0, opEv, fillV, mapO, mapS, b277, hl_0, h0_0, h1_0, h2_0, h3_0, h4_0, h5_0, h3, wn1, wd1, wr1, wd0, wp1, ww, callM_plain_eq, q1]
      refine And.intro (fun _ => trivial) ?_
      simp only [simprocAttr, R1, fn_out, p277, mapO]
      rfl
    obtain ⟨_, k1, rfl⟩ := key
    exact ⟨E', c', k1, q2⟩
  pad := fun s E x h => sp277 hR h
def F245_1_B (x y : GComplex) (i : Int) (s : List Int) : Option (List Int ⊕ List Int) := (F102 y i).bind fun a => (chk (i - 1)).bind fun j => (F102 x j).bind fun b => (chk (a + b)).bind fun d => (app 8 s [d]).bind fun r => some (.inl r)
def F245_1_D (i : Int) (s : List Int) : Option (List Int) := some s
def F245_3 (p : Int) (y : GComplex) (n r pl v : Int) (s : List (List (List Int))) : Option (List (List (List Int))) := (F102 y n).bind fun d => (chk (d + r)).bind fun r1 => F75 p n r1 pl v s
def F245 (x y : GComplex) (f : List (List (List Int))) : Option GComplex := (chk ((x.Dims.length : Int) + 1)).bind fun l => (forR 0 l (F245_1_B x y) F245_1_D []).bind fun d => (F74 x.Prime d).bind fun b => (F85 y.Maps (fun n r pl v s => F75 b.Prime n r pl v s) b.Maps).bind fun m1 => (F85 x.Maps (fun n r pl v s => F277 b.Prime y n r pl v s) m1).bind fun m2 => (F85 f (fun n r pl v s => F245_3 b.Prime y n r pl v s) m2).bind fun m3 => some ⟨b.Prime, b.Dims, m3⟩
theorem l245_2 (x y : GComplex) (f : List (List (List Int))) {p : Int} {dv m : V} {N c1 : Nat} {K : Ks} {R : List (Nat × Option (List V)) → Prop} (hN : ¬ K N) (hR : ∀ E E', R E → (∀ k, k < E.length → ¬ K k → E'[k]? = E[k]?) → R E') {s s' : List (List (List Int))} (hF : F85 f (fun n r pl v s => F245_3 p y n r pl v s) s = some s') {e : Env} {h : Heap} (hS : S277 p dv m N c1 K R s h.ents)
    (hl : e.length = 84) (h4 : e.at 4 = V.iptr [V.int .i64 y.Prime, V.isl (y.Dims.map Enc.enc), V.isl (y.Maps.map Enc.enc)]) (h6 : e.at 6 = V.ptr 2 2 0) (h9 : e.at 9 = V.ptr N c1 0) (h47 : e.at 47 = V.isl (f.map Enc.enc)) (h48 : e.at 48 = V.int .i64 (f.length : Int)) (h49 : e.at 49 = V.int .i64 0) :
    W A (.block 2 (.loop true b245_2)) e h (fun x e h => x = .normal ∧ S277 p dv m N c1 K R s' h.ents ∧ e.length = 84 ∧ e.at 6 = V.ptr 2 2 0 ∧ e.at 9 = V.ptr N c1 0) := by
  unfold F85 at hF
  rw [W_block]
  refine W_forR hF _ rfl (fun i s e h => S277 p dv m N c1 K R s h.ents ∧ e.length = 84 ∧ e.at 4 = V.iptr [V.int .i64 y.Prime, V.isl (y.Dims.map Enc.enc), V.isl (y.Maps.map Enc.enc)] ∧ e.at 6 = V.ptr 2 2 0 ∧ e.at 9 = V.ptr N c1 0 ∧ e.at 47 = V.isl (f.map Enc.enc) ∧ e.at 48 = V.int .i64 (f.length : Int) ∧ e.at 49 = V.int .i64 i) ⟨hS, hl, h4, h6, h9, h47, h48, h49⟩ ?_ ?_
  · clear hS hl h4 h6 h9 h47 h48 h49
    rintro i s e ⟨E, c⟩ ⟨hS, hl_1, h4_1, h6_1, h9_1, h47_1, h48_1, h49_1⟩ hlt hw o ho
    obtain ⟨rows, g1, ho⟩ := bS ho
    obtain ⟨w1a, w1b⟩ := getI_w g1
    obtain ⟨z, g2, ho⟩ := bS ho
    have hE := Option.some.inj ho; subst hE
    simp only [simprocAttr, R0, opEv, fillV, mapO, mapS, b245_2, hl_1, h4_1, h6_1, h9_1, h47_1, h48_1, h49_1, eq_true hlt, hw, w1a, w1b]
    refine W.mono (Q := fun x' e h => x' = .normal ∧ S277 p dv m N c1 K R z h.ents ∧ e.length = 84 ∧ e.at 4 = V.iptr [V.int .i64 y.Prime, V.isl (y.Dims.map Enc.enc), V.isl (y.Maps.map Enc.enc)] ∧ e.at 6 = V.ptr 2 2 0 ∧ e.at 9 = V.ptr N c1 0 ∧ e.at 47 = V.isl (f.map Enc.enc) ∧ e.at 48 = V.int .i64 (f.length : Int) ∧ e.at 49 = V.int .i64 i) ?_ ?_
    rotate_left
    · rintro _ e ⟨E2, c2⟩ ⟨rfl, hS2, hl_2, h4_2, h6_2, h9_2, h47_2, h48_2, h49_2⟩
      simp only [simprocAttr, R0, opEv, fillV, mapO, mapS, hl_2, h4_2, h6_2, h9_2, h47_2, h48_2, h49_2, hw]
      refine And.intro rfl (And.intro hS2 ?_)
      simp only [simprocAttr, R0, hl_2, h4_2, h6_2, h9_2, h47_2, h48_2, h49_2, hw]
    show W A (.block 4 (.loop true b245_3)) _ _ _
    rw [W_block]
    refine W_forR g2 _ rfl (fun j s e h => S277 p dv m N c1 K R s h.ents ∧ e.length = 84 ∧ e.at 4 = V.iptr [V.int .i64 y.Prime, V.isl (y.Dims.map Enc.enc), V.isl (y.Maps.map Enc.enc)] ∧ e.at 6 = V.ptr 2 2 0 ∧ e.at 9 = V.ptr N c1 0 ∧ e.at 47 = V.isl (f.map Enc.enc) ∧ e.at 48 = V.int .i64 (f.length : Int) ∧ e.at 49 = V.int .i64 i ∧ e.at 10 = V.int .i64 i ∧ e.at 54 = V.isl (rows.map Enc.enc) ∧ e.at 55 = V.int .i64 (rows.length : Int) ∧ e.at 56 = V.int .i64 j) ?_ ?_ ?_
    · refine And.intro hS ?_
      simp only [simprocAttr, R0, hl_1, h4_1, h6_1, h9_1, h47_1, h48_1, h49_1]
    · clear hl_1 h4_1 h6_1 h9_1 h47_1 h48_1 h49_1
      rintro j s e ⟨E, c⟩ ⟨hS, hl_1, h4_1, h6_1, h9_1, h47_1, h48_1, h49_1, h10_1, h54_1, h55_1, h56_1⟩ hlt2 hw2 o ho
      obtain ⟨row, g3, ho⟩ := bS ho
      obtain ⟨w3a, w3b⟩ := getI_w g3
      obtain ⟨z2, g4, ho⟩ := bS ho
      have hE := Option.some.inj ho; subst hE
      simp only [simprocAttr, R0, opEv, fillV, mapO, mapS, b245_3, hl_1, h4_1, h6_1, h9_1, h47_1, h48_1, h49_1, h10_1, h54_1, h55_1, h56_1, eq_true hlt2, hw2, w3a, w3b]
      refine W.mono (Q := fun x' e h => x' = .normal ∧ S277 p dv m N c1 K R z2 h.ents ∧ e.length = 84 ∧ e.at 4 = V.iptr [V.int .i64 y.Prime, V.isl (y.Dims.map Enc.enc), V.isl (y.Maps.map Enc.enc)] ∧ e.at 6 = V.ptr 2 2 0 ∧ e.at 9 = V.ptr N c1 0 ∧ e.at 47 = V.isl (f.map Enc.enc) ∧ e.at 48 = V.int .i64 (f.length : Int) ∧ e.at 49 = V.int .i64 i ∧ e.at 10 = V.int .i64 i ∧ e.at 54 = V.isl (rows.map Enc.enc) ∧ e.at 55 = V.int .i64 (rows.length : Int) ∧ e.at 56 = V.int .i64 j) ?_ ?_
      rotate_left
      · rintro _ e ⟨E2, c2⟩ ⟨rfl, hS2, hl_2, h4_2, h6_2, h9_2, h47_2, h48_2, h49_2, h10_2, h54_2, h55_2, h56_2⟩
        simp only [simprocAttr, R0, opEv, fillV, mapO, mapS, hl_2, h4_2, h6_2, h9_2, h47_2, h48_2, h49_2, h10_2, h54_2, h55_2, h56_2, hw2]
        refine And.intro rfl (And.intro hS2 ?_)
        simp only [simprocAttr, R0, hl_2, h4_2, h6_2, h9_2, h47_2, h48_2, h49_2, h10_2, h54_2, h55_2, h56_2, hw2]
      show W A (.block 6 (.loop true b245_4)) _ _ _
      rw [W_block]
      refine W_forR g4 _ rfl (fun k s e h => S277 p dv m N c1 K R s h.ents ∧ e.length = 84 ∧ e.at 4 = V.iptr [V.int .i64 y.Prime, V.isl (y.Dims.map Enc.enc), V.isl (y.Maps.map Enc.enc)] ∧ e.at 6 = V.ptr 2 2 0 ∧ e.at 9 = V.ptr N c1 0 ∧ e.at 47 = V.isl (f.map Enc.enc) ∧ e.at 48 = V.int .i64 (f.length : Int) ∧ e.at 49 = V.int .i64 i ∧ e.at 10 = V.int .i64 i ∧ e.at 12 = V.int .i64 j ∧ e.at 54 = V.isl (rows.map Enc.enc) ∧ e.at 55 = V.int .i64 (rows.length : Int) ∧ e.at 56 = V.int .i64 j ∧ e.at 61 = V.isl (row.map Enc.enc) ∧ e.at 62 = V.int .i64 (row.length : Int) ∧ e.at 63 = V.int .i64 k) ?_ ?_ ?_
      · refine And.intro hS ?_
        simp only [simprocAttr, R0, hl_1, h4_1, h6_1, h9_1, h47_1, h48_1, h49_1, h10_1, h54_1, h55_1, h56_1]
      · clear hl_1 h4_1 h6_1 h9_1 h47_1 h48_1 h49_1 h10_1 h54_1 h55_1 h56_1
        rintro k s e ⟨E, c⟩ ⟨hS, hl_1, h4_1, h6_1, h9_1, h47_1, h48_1, h49_1, h10_1, h12_1, h54_1, h55_1, h56_1, h61_1, h62_1, h63_1⟩ hlt3 hw3 o ho
        obtain ⟨v, g5, ho⟩ := bS ho
        obtain ⟨w5a, w5b⟩ := getI_w g5
        obtain ⟨n, g6, ho⟩ := bS ho
        have w6 := chk_w g6
        obtain ⟨s2, g7, ho⟩ := bS ho
        have hE := Option.some.inj ho; subst hE
        unfold F245_3 at g7
        obtain ⟨d, gd, g7⟩ := bS g7
        have wd : ans A 102 [(eC y), V.int .i64 n] = some (V.int .i64 d) := s102 y n gd
        obtain ⟨r1, gr1, g7⟩ := bS g7
        have wr1 := chk_w gr1
        obtain ⟨E2, c2, hr, hS2⟩ := sc277 hN hR g7 c hS
        have h3 := hS.2.2
        simp only at h3
        simp only [simprocAttr, R0, opEv, fillV, mapO, mapS, b245_4, hl_1, h4_1, h6_1, h9_1, h47_1, h48_1, h49_1, h10_1, h12_1, h54_1, h55_1, h56_1, h61_1, h62_1, h63_1, eq_true hlt3, hw3, w5a, w5b, w6, h3, wd, wr1, callM_plain_eq, hr]
        refine And.intro rfl (And.intro hS2 ?_)
        simp only [simprocAttr, R0, hl_1, h4_1, h6_1, h9_1, h47_1, h48_1, h49_1, h10_1, h12_1, h54_1, h55_1, h56_1, h61_1, h62_1, h63_1, hw3]
      · clear hl_1 h4_1 h6_1 h9_1 h47_1 h48_1 h49_1 h10_1 h54_1 h55_1 h56_1
        rintro k s e ⟨E, c⟩ ⟨hS, hl_1, h4_1, h6_1, h9_1, h47_1, h48_1, h49_1, h10_1, h12_1, h54_1, h55_1, h56_1, h61_1, h62_1, h63_1⟩ hge t1 ho
        have hE := Option.some.inj ho; subst hE
        simp only [simprocAttr, R0, opEv, fillV, mapO, mapS, b245_4, hl_1, h4_1, h6_1, h9_1, h47_1, h48_1, h49_1, h10_1, h12_1, h54_1, h55_1, h56_1, h61_1, h62_1, h63_1, eq_false hge]
        intro ht; subst ht
        exact hS
    · clear hl_1 h4_1 h6_1 h9_1 h47_1 h48_1 h49_1
      rintro j s e ⟨E, c⟩ ⟨hS, hl_1, h4_1, h6_1, h9_1, h47_1, h48_1, h49_1, h10_1, h54_1, h55_1, h56_1⟩ hge t1 ho
      have hE := Option.some.inj ho; subst hE
      simp only [simprocAttr, R0, opEv, fillV, mapO, mapS, b245_3, hl_1, h4_1, h6_1, h9_1, h47_1, h48_1, h49_1, h10_1, h54_1, h55_1, h56_1, eq_false hge]
      intro ht; subst ht
      exact hS
  · clear hS hl h4 h6 h9 h47 h48 h49
    rintro i s e ⟨E, c⟩ ⟨hS, hl_1, h4_1, h6_1, h9_1, h47_1, h48_1, h49_1⟩ hge t1 ho
    have hE := Option.some.inj ho; subst hE
    simp only [simprocAttr, R0, opEv, fillV, mapO, mapS, b245_2, hl_1, h4_1, h6_1, h9_1, h47_1, h48_1, h49_1, eq_false hge]
    intro ht; subst ht
    exact hS
theorem d245 (x y : GComplex) (f : List (List (List Int))) {r : GComplex} (hF : F245 x y f = some r) : ∃ v h', res A 245 [(eC x), (eC y), V.isl (f.map Enc.enc)] Heap.empty = some (v, h') ∧ ∃ K, Deep.rep h' v r K := by
  refine res_dp (f := p245) rfl rfl rfl fun e hl he => ?_
  have h0_0 : e.at 0 = (eC x) := he 0 _ rfl
  have h1_0 : e.at 1 = (eC y) := he 1 _ rfl
  have h2_0 : e.at 2 = V.isl (f.map Enc.enc) := he 2 _ rfl
  have hl_0 : e.length = 84 := hl
  clear he hl
  show W A b245 e ⟨[], 0⟩ _
  unfold F245 at hF
  obtain ⟨l, gl, hF⟩ := bS hF
  have wl := chk_w gl
  have ws : ans A 73 [V.isl (x.Dims.map Enc.enc)] = some (V.int .i64 (x.Dims.length : Int)) := s73 x.Dims rfl
  obtain ⟨d, gd, hF⟩ := bS hF
  obtain ⟨o, go, hF⟩ := bS hF
  obtain ⟨m1, gm1, hF⟩ := bS hF
  obtain ⟨m2, gm2, hF⟩ := bS hF
  obtain ⟨m3, gm3, hF⟩ := bS hF
  have hE := Option.some.inj hF; subst hE
  simp only [simprocAttr, R0, opEv, fillV, mapO, mapS, b245, hl_0, h0_0, h1_0, h2_0, ws, wl]
  refine W.mono (Q := fun x' e h => x' = .normal ∧ e.length = 84 ∧ e.at 2 = V.isl (f.map Enc.enc) ∧ e.at 3 = V.iptr [V.int .i64 x.Prime, V.isl (x.Dims.map Enc.enc), V.isl (x.Maps.map Enc.enc)] ∧ e.at 4 = V.iptr [V.int .i64 y.Prime, V.isl (y.Dims.map Enc.enc), V.isl (y.Maps.map Enc.enc)] ∧ e.at 6 = V.ptr 2 2 0 ∧ h.ents[2]? = some (2, some [V.int .i64 0, V.nils, V.nils]) ∧ ∃ u, h.ents[3]? = some (u, some (d.map Enc.enc)) ∧ e.at 7 = V.sl 3 u 0 d.length 1) ?_ ?_
  · show W A (.block 0 (.loop true b245_1)) _ _ _
    rw [W_block]
    refine W_forR gd _ rfl (fun i s e h => e.length = 84 ∧ e.at 2 = V.isl (f.map Enc.enc) ∧ e.at 3 = V.iptr [V.int .i64 x.Prime, V.isl (x.Dims.map Enc.enc), V.isl (x.Maps.map Enc.enc)] ∧ e.at 4 = V.iptr [V.int .i64 y.Prime, V.isl (y.Dims.map Enc.enc), V.isl (y.Maps.map Enc.enc)] ∧ e.at 6 = V.ptr 2 2 0 ∧ e.at 20 = V.int .i64 l ∧ e.at 21 = V.int .i64 i ∧ h.ents[2]? = some (2, some [V.int .i64 0, V.nils, V.nils]) ∧ ∃ u, h.ents[3]? = some (u, some (s.map Enc.enc)) ∧ e.at 7 = V.sl 3 u 0 s.length 1) ?_ ?_ ?_
    · simp only [simprocAttr, R0, hl_0, h0_0, h1_0, h2_0]
      exact ⟨3, rfl, rfl⟩
    · clear hl_0 h0_0 h1_0 h2_0
      rintro i s e ⟨E, c⟩ ⟨hl_1, h2_1, h3_1, h4_1, h6_1, h20_1, h21_1, g2, u, g3, h7_1⟩ hlt hw s' ho
      simp only at g2 g3
      unfold F245_1_B at ho
      obtain ⟨a, ga, ho⟩ := bS ho
      have wa : ans A 102 [(eC y), V.int .i64 i] = some (V.int .i64 a) := s102 y i ga
      obtain ⟨j, gj, ho⟩ := bS ho
      have wj := chk_w gj
      obtain ⟨b, gb, ho⟩ := bS ho
      have wb : ans A 102 [(eC x), V.int .i64 j] = some (V.int .i64 b) := s102 x j gb
      obtain ⟨d1, gd1, ho⟩ := bS ho
      have wd1 := chk_w gd1
      obtain ⟨l2, gl2, ho⟩ := bS ho
      have hE := Option.some.inj ho; subst hE
      have h3l : 3 < E.length := (List.getElem?_eq_some_iff.1 g3).1
      have g3' : (E ++ [(c, some [V.int .i64 d1])])[3]? = some (u, some (s.map Enc.enc)) := (List.getElem?_append_left h3l).trans g3
      have wap := appendV_w (α := Int) (n := s.length) (m := 1) (ds := [V.int .i64 d1]) gl2 rfl rfl rfl (E ++ [(c, some [V.int .i64 d1])]) 3 u (c + 1) g3'
      simp only [simprocAttr, R0, opEv, fillV, mapO, mapS, b245_1, hl_1, h2_1, h3_1, h4_1, h6_1, h7_1, h20_1, h21_1, eq_true hlt, hw, wa, wj, wb, wd1, get_last, wap]
      refine And.intro rfl ?_
      simp only [simprocAttr, R0, hl_1, h2_1, h3_1, h4_1, h6_1, h7_1, h20_1, h21_1, hw]
      exact ⟨(set_ne (by decide)).trans ((List.getElem?_append_left (by omega)).trans g2), _, set_app_key (by simp; omega), rfl⟩
    · clear hl_0 h0_0 h1_0 h2_0
      rintro i s e ⟨E, c⟩ ⟨hl_1, h2_1, h3_1, h4_1, h6_1, h20_1, h21_1, g2, u, g3, h7_1⟩ hge t1 ho
      unfold F245_1_D at ho
      have hE := Option.some.inj ho; subst hE
      simp only [simprocAttr, R0, opEv, fillV, mapO, mapS, b245_1, hl_1, h2_1, h3_1, h4_1, h6_1, h7_1, h20_1, h21_1, eq_false hge]
      intro ht; subst ht
      exact ⟨g2, u, g3, rfl⟩
  clear hl_0 h0_0 h1_0 h2_0
  rintro _ e ⟨E0, c0⟩ ⟨rfl, hl_0, h2_0, h3_0, h4_0, h6_0, g2, u, g3, h7_0⟩
  simp only at g2 g3
  have h3l : 3 < E0.length := (List.getElem?_eq_some_iff.1 g3).1
  obtain ⟨_, ⟨E1, c1⟩, w1, e1, e2, m, K, rfl, t1, t2, t3, t4⟩ := d74 x.Prime d go E0 c0 g3
  simp only at t3 t4
  have a2 : E1[2]? = some (2, some [V.int .i64 0, V.nils, V.nils]) := (t3 2 (by omega)).trans g2
  have a3 : E1[3]? = some (u, some (d.map Enc.enc)) := (t3 3 h3l).trans g3
  have hKN : ¬ K E1.length := fun q => by have := Deep.bd t1 q; simp at this
  have hR : ∀ E E', (fun E : List (Nat × Option (List V)) => E[2]? = some (2, some [V.int .i64 0, V.nils, V.nils]) ∧ E[3]? = some (u, some (d.map Enc.enc))) E → (∀ k, k < E.length → ¬ K k → E'[k]? = E[k]?) → (fun E : List (Nat × Option (List V)) => E[2]? = some (2, some [V.int .i64 0, V.nils, V.nils]) ∧ E[3]? = some (u, some (d.map Enc.enc))) E' := fun E E' h hk =>
    ⟨(hk 2 (List.getElem?_eq_some_iff.1 h.1).1 (fun q => by have := t2 _ q; omega)).trans h.1, (hk 3 (List.getElem?_eq_some_iff.1 h.2).1 (fun q => by have := t2 _ q; omega)).trans h.2⟩
  have S0 : S277 o.Prime (V.sl 3 u 0 d.length 1) m E1.length c1 K (fun E : List (Nat × Option (List V)) => E[2]? = some (2, some [V.int .i64 0, V.nils, V.nils]) ∧ E[3]? = some (u, some (d.map Enc.enc))) o.Maps (E1 ++ [(c1, some [V.int .i64 o.Prime, V.sl 3 u 0 d.length 1, m])]) :=
    ⟨Deep.frame t1 fun k q => List.getElem?_append_left (Deep.bd t1 q), ⟨(List.getElem?_append_left (by omega)).trans a2, (List.getElem?_append_left (by omega)).trans a3⟩, get_last _ _⟩
  obtain ⟨⟨E2, c2⟩, w2, S1⟩ := e85 (sa277 o.Prime (V.sl 3 u 0 d.length 1) m E1.length c1 K _ hKN hR) y gm1 _ (c1 + 1) S0
  simp only at S1
  obtain ⟨⟨E3, c3⟩, w3, S2⟩ := e85 (st277 y o.Prime (V.sl 3 u 0 d.length 1) m E1.length c1 K _ hKN hR) x gm2 E2 c2 S1
  simp only at S2
  have b1 := S1.2.2
  simp only [simprocAttr, R0, opEv, fillV, mapO, mapS, hl_0, h2_0, h3_0, h4_0, h6_0, h7_0, callM_plain_eq, w1, get_last, set_last, w2, w3]
  refine W.mono (l245_2 x y f hKN hR gm3 (h := ⟨E3, c3⟩) S2 ?_ ?_ ?_ ?_ ?_ ?_ ?_) ?_
  rotate_right
  · rintro _ e ⟨E4, c4⟩ ⟨rfl, ⟨S3, S4, S5⟩, hl_2, h6_2, h9_2⟩
    simp only at S4 S5
    obtain ⟨S6, S7⟩ := S4
    have hE0 : 2 < E4.length := (List.getElem?_eq_some_iff.1 S6).1
    simp only [simprocAttr, R0, opEv, fillV, mapO, mapS, hl_2, h6_2, h9_2, S5, S6]
    refine And.intro (fun _ => trivial) ⟨V.agg [V.int .i64 o.Prime, V.sl 3 u 0 d.length 1, m], by simp only [simprocAttr, R0, fn_out, p245, Rs.ev, mapO, mapS, hl_2, h6_2, set_app_key hE0], _, _, rfl, rec3 (K1 := fun k => k = 3) (K2 := K) ?_ (Deep.frame S3 fun k q => set_ne (by have := t2 _ q; omega)) (fun k p q => by have := t2 _ q; omega)⟩
    have hq : (E4.set 2 (2, some [V.int .i64 o.Prime, V.sl 3 u 0 d.length 1, m]))[3]? = some (u, some (d.map Enc.enc)) := (set_ne (by decide)).trans S7
    show Deep.rep _ _ o.Dims _
    rw [e2]
    exact int_row hq fun k => Iff.rfl
  all_goals simp only [simprocAttr, R0, hl_0, h2_0, h3_0, h4_0, h6_0, h7_0]
theorem x245 (x y : GComplex) (f : List (List (List Int))) {r : GComplex} (hF : F245 x y f = some r) : tans A 245 [1, 1, 1] [(eC x), (eC y), V.isl (f.map Enc.enc)] = some (Enc.enc r) := tans_of_deep (α := GComplex) (by decide) (d245 x y f hF)
def F278 (a0 : Int) : Option Bool :=
  some (decide (8 < a0))
theorem s278 (a0 : Int)   {r : Bool} (hF : F278 a0 = some r) : ans A 278 [V.int .i64 a0] = some (Enc.enc r) := by
  refine ans_of (f := p278) rfl rfl rfl fun e hl he => ?_
  have h0_0 : e.at 0 = V.int .i64 a0 := he 0 _ rfl
  have hl_0 : e.length = 5 := hl
  clear he hl
  show W A b278 e ⟨[], 0⟩ _
  unfold F278 at hF
  cases hF
  simp only [simprocAttr, R0, opEv, fillV, mapO, mapS, b278, hl_0, h0_0]
  exact fin_ret (by simp only [simprocAttr, R0, fn_out, p278, Rs.ev, mapO, mapS, take_len_self, hl_0, h0_0])
def F246 (a0 : List Int) : Option Bool :=
  (F82 a0 (fun x => F278 x)).bind fun x1 =>
  some (!x1)
theorem s246 (a0 : List Int)   {r : Bool} (hF : F246 a0 = some r) : ans A 246 [V.isl (a0.map Enc.enc)] = some (Enc.enc r) := by
  refine ans_of (f := p246) rfl rfl rfl fun e hl he => ?_
  have h0_0 : e.at 0 = V.isl (a0.map Enc.enc) := he 0 _ rfl
  have hl_0 : e.length = 6 := hl
  clear he hl
  show W A b246 e ⟨[], 0⟩ _
  unfold F246 at hF
  obtain ⟨x1, gx1, hF⟩ := bS hF
  have w2 : ans A 82 [V.isl (a0.map Enc.enc), V.fn 278 [] []] = some (V.bool x1) := s82 a0 (fun x => F278 x) (Clo1.of (by intro h f; simp only [RZ, mapO]) (by intro h f; simp only [RZ, mapO]) (by intro f; simp only [RZ, RB]) (by intro f; simp only [RZ, RB]) (fun x _ hr => s278 x hr)) gx1
  cases hF
  simp only [simprocAttr, R0, opEv, fillV, mapO, mapS, b246, hl_0, h0_0, w2]
  exact fin_ret (by simp only [simprocAttr, R0, fn_out, p246, Rs.ev, mapO, mapS, take_len_self, hl_0, h0_0, w2])
def F222 (a0 : GComplex) (a1 : GComplex) (a2 : List (List (List Int))) : Option (T2 GComplex Int) :=
  (F244 a0 a1 [a2]).bind fun x1 =>
  if x1 = 0 then
    (F245 a0 a1 a2).bind fun x4 =>
    (F86 x4).bind fun x6 =>
    if 5 < x6 then
      some ⟨⟨0, [], []⟩, 3⟩
    else
      (F246 x4.Dims).bind fun x9 =>
      if x9 = true then
        some ⟨x4, 0⟩
      else
        some ⟨⟨0, [], []⟩, 3⟩
  else
    some ⟨⟨0, [], []⟩, x1⟩
theorem d222 (a0 a1 : GComplex) (a2 : List (List (List Int))) {r : T2 GComplex Int} (hF : F222 a0 a1 a2 = some r) : ∃ v h', res A 222 [(eC a0), (eC a1), V.isl (a2.map Enc.enc)] Heap.empty = some (v, h') ∧ ∃ vs K, v = V.tup vs ∧ repF h' vs [⟨r.a⟩, ⟨r.b⟩] K := by
  refine res_dp (f := p222) rfl rfl rfl fun e hl he => ?_
  have h0_0 : e.at 0 = (eC a0) := he 0 _ rfl
  have h1_0 : e.at 1 = (eC a1) := he 1 _ rfl
  have h2_0 : e.at 2 = V.isl (a2.map Enc.enc) := he 2 _ rfl
  have hl_0 : e.length = 34 := hl
  clear he hl
  have h_0 := And.intro hl_0 (And.intro h0_0 (And.intro h1_0 h2_0))
  show W A b222 e ⟨[], 0⟩ _
  unfold F222 at hF
  obtain ⟨x1, gx1, hF⟩ := bS hF
  have w2 : ans A 244 [(eC a0), (eC a1), V.isl [V.isl (a2.map Enc.enc)]] = some (V.int .i64 x1) := s244 a0 a1 [a2] gx1
  have zr : ∀ h, Deep.rep h (V.agg [V.int .i64 0, V.nils, V.nils]) (⟨0, [], []⟩ : GComplex) _ := fun h => ⟨_, rfl, rec3 (rep_nils h) (rep_nils h) fun _ x _ => x⟩
  by_cases c3 : x1 = 0
  · rw [if_pos c3] at hF
    obtain ⟨x4, gx4, hF⟩ := bS hF
    have w5 := x245 a0 a1 a2 gx4
    obtain ⟨_, ⟨E1, c1⟩, t1, ⟨_, rfl, t2⟩, t3, t4⟩ := thaw_deep (α := GComplex) (by decide) x4 ⟨[(0, none), (0, none), (2, some [V.int .i64 0, V.nils, V.nils]), (0, none)], 4⟩
    obtain ⟨dv, m, K1, K2, rfl, t5, t6, t7, t8⟩ := rec3_un t2
    simp only [List.length_cons, List.length_nil, Nat.zero_add, Nat.reduceAdd] at t3 t4 t8
    have t1' : thaw 16 [1, 1, 1] ((eC x4)) ⟨[(0, none), (0, none), (2, some [V.int .i64 0, V.nils, V.nils]), (0, none)], 4⟩ = some (V.agg [V.int .i64 x4.Prime, dv, m], ⟨E1, c1⟩) := t1
    have b1 : ∀ k, K1 k → 4 ≤ k ∧ k < E1.length := fun k q => (t8 k).2 (.inl q)
    have b2 : ∀ k, K2 k → 4 ≤ k ∧ k < E1.length := fun k q => (t8 k).2 (.inr q)
    have m1 : E1[2]? = some (2, some [V.int .i64 0, V.nils, V.nils]) := t4 2 (by decide)
    have f1 : ∀ x c, Deep.rep ⟨E1 ++ [x], c⟩ dv x4.Dims K1 := fun x c => Deep.frame t5 fun k q => List.getElem?_append_left (b1 k q).2
    have f2 : ∀ x c, Deep.rep ⟨E1 ++ [x], c⟩ m x4.Maps K2 := fun x c => Deep.frame t6 fun k q => List.getElem?_append_left (b2 k q).2
    have z1 : ∀ x c, frz ⟨E1 ++ [x], c⟩ 15 dv = some (V.isl (x4.Dims.map Enc.enc)) := fun x c => Deep.fz (f1 x c) 10
    have z1' : ∀ x c, frz ⟨E1 ++ [x], c⟩ 16 dv = some (V.isl (x4.Dims.map Enc.enc)) := fun x c => Deep.fz (f1 x c) 11
    have z2 : ∀ x c, frz ⟨E1 ++ [x], c⟩ 15 m = some (V.isl (x4.Maps.map Enc.enc)) := fun x c => Deep.fz (f2 x c) 8
    have n1 : ∀ x, (E1 ++ [x])[2]? = some (2, some [V.int .i64 0, V.nils, V.nils]) := fun x => (List.getElem?_append_left (by omega)).trans m1
    have n2 : ∀ x z, ((E1 ++ [x]).set 2 z)[2]? = some z := fun x z => set_app_key (by simp; omega)
    have n3 : ∀ x z, ((E1 ++ [x]).set 2 z)[E1.length]? = some x := fun x z => (set_ne (by omega)).trans (get_last _ _)
    have rr : ∀ x z c, Deep.rep ⟨(E1 ++ [x]).set 2 z, c⟩ (V.agg [V.int .i64 x4.Prime, dv, m]) x4 (fun k => K1 k ∨ K2 k) := fun x z c => ⟨_, rfl, rec3 (Deep.frame (f1 _ c) fun k q => set_ne (by have := b1 k q; omega)) (Deep.frame (f2 _ c) fun k q => set_ne (by have := b2 k q; omega)) t7⟩
    obtain ⟨x6, gx6, hF⟩ := bS hF
    have w7 : ans A 86 [(eC x4)] = some (V.int .i64 x6) := s86 x4 gx6
    by_cases c7 : 5 < x6
    · rw [if_pos c7] at hF
      cases hF
      simp only [simprocAttr, R0, opEv, fillV, mapO, mapS, b222, h_0, w2, eq_true c3, w5, callM_tans, t1', get_last, set_last, z1, z2, w7, eq_true c7, n1, n2, n3]
      refine And.intro (fun _ => trivial) ⟨V.tup [V.agg [V.int .i64 0, V.nils, V.nils], V.int .i64 3], ?_, _, _, rfl, pair_rep (α := GComplex) (zr _) _⟩
      simp only [simprocAttr, R0, fn_out, p222, Rs.ev, mapO, mapS, hl_0, n2]
    · rw [if_neg c7] at hF
      obtain ⟨x8, gx8, hF⟩ := bS hF
      have w9 : ans A 246 [V.isl (x4.Dims.map Enc.enc)] = some (V.bool x8) := s246 x4.Dims gx8
      cases x8 with
      | true =>
        rw [if_pos rfl] at hF
        cases hF
        simp only [simprocAttr, R0, opEv, fillV, mapO, mapS, b222, h_0, w2, eq_true c3, w5, callM_tans, t1', get_last, set_last, z1, z1', z2, w7, eq_false c7, w9, n1, n2, n3]
        refine And.intro (fun _ => trivial) ⟨V.tup [V.agg [V.int .i64 x4.Prime, dv, m], V.int .i64 0], ?_, _, _, rfl, pair_rep (rr _ _ _) _⟩
        simp only [simprocAttr, R0, fn_out, p222, Rs.ev, mapO, mapS, hl_0, n2]
      | false =>
        rw [if_neg Bool.false_ne_true] at hF
        cases hF
        simp only [simprocAttr, R0, opEv, fillV, mapO, mapS, b222, h_0, w2, eq_true c3, w5, callM_tans, t1', get_last, set_last, z1, z1', z2, w7, eq_false c7, w9, n1, n2, n3]
        refine And.intro (fun _ => trivial) ⟨V.tup [V.agg [V.int .i64 0, V.nils, V.nils], V.int .i64 3], ?_, _, _, rfl, pair_rep (α := GComplex) (zr _) _⟩
        simp only [simprocAttr, R0, fn_out, p222, Rs.ev, mapO, mapS, hl_0, n2]
  · rw [if_neg c3] at hF
    cases hF
    simp only [simprocAttr, R0, opEv, fillV, mapO, mapS, b222, h_0, w2, eq_false c3]
    refine And.intro (fun _ => trivial) ⟨V.tup [V.agg [V.int .i64 0, V.nils, V.nils], V.int .i64 x1], ?_, _, _, rfl, pair_rep (α := GComplex) (zr _) _⟩
    simp only [simprocAttr, R0, fn_out, p222, Rs.ev, mapO, mapS, hl_0]
theorem x222 (a0 a1 : GComplex) (a2 : List (List (List Int))) {r : T2 GComplex Int} (hF : F222 a0 a1 a2 = some r) : tans A 222 [1, 1, 1] [(eC a0), (eC a1), V.isl (a2.map Enc.enc)] = some (V.tup [Enc.enc r.a, V.int .i64 r.b]) := by
  obtain ⟨_, h', h1, vs, K, rfl, h2⟩ := d222 a0 a1 a2 hF
  exact tans_tup (fits_pair rfl (by decide)) h1 h2
theorem s222 (a0 a1 : GComplex) (a2 : List (List (List Int))) {r : T2 GComplex Int} (hF : F222 a0 a1 a2 = some r) : ans A 222 [(eC a0), (eC a1), V.isl (a2.map Enc.enc)] = some (EncR.enc r) := by
  obtain ⟨_, h', h1, vs, K, rfl, h2⟩ := d222 a0 a1 a2 hF
  exact ans_tup (ss := [1, 1, 1]) (fits_pair rfl (by decide)) h1 h2
def L315 (a0 : GComplex) (a1 : GComplex) (a2 : List (List (List Int))) : Prop :=
  (∃ l0, F10 a0 1048576 = some l0 ∧ l0 < 0) ∨
  (∃ l0 l1, F10 a0 1048576 = some l0 ∧ ¬ l0 < 0 ∧ F10 a1 l0 = some l1 ∧ l1 < 0) ∨
  (∃ l0 l1 l2, F10 a0 1048576 = some l0 ∧ ¬ l0 < 0 ∧ F10 a1 l0 = some l1 ∧ ¬ l1 < 0 ∧ F11 a2 l1 = some l2 ∧ l2 < 0) ∨
  (∃ (l0 : Int) (l1 : Int) (l2 : Int) (s0 : GComplex) (s1 : GComplex) (s2 : List (List (List Int))) (w : GComplex) (cd : Int) (m0 : GComplex × Int) (m1 : GComplex × Int) (m2 : List (List (List Int)) × Int) (mg : GComplex × Int), F10 a0 1048576 = some l0 ∧ ¬ l0 < 0 ∧ F10 a1 l0 = some l1 ∧ ¬ l1 < 0 ∧ F11 a2 l1 = some l2 ∧ ¬ l2 < 0 ∧ F12 a0 = some s0 ∧ F12 a1 = some s1 ∧ F13 a2 = some s2 ∧ F221 s0 s1 s2 = some ⟨w, cd⟩ ∧ F222 s0 s1 s2 = some ⟨w, cd⟩ ∧ F16 w w = some true ∧ F16 s0 s0 = some true ∧ F16 s1 s1 = some true ∧ F17 s2 s2 = some true ∧ FM20 s0 1 = some m0 ∧ FM20 s1 m0.2 = some m1 ∧ FM21 s2 m1.2 = some m2 ∧ ¬ m2.2 < 0 ∧ FM20 w 1 = some mg ∧ F22 mg.1 1 = some mg.2 ∧ ¬ mg.2 < 0)
theorem s315 (a0 : GComplex) (a1 : GComplex) (a2 : List (List (List Int))) (hF : L315 a0 a1 a2) : ans A 315 [(eC a0), (eC a1), V.isl (a2.map Enc.enc)] = some (V.bool true) := by
  refine ans_of (f := p315) rfl rfl rfl fun e hl he => ?_
  have h0_0 : e.at 0 = (eC a0) := he 0 _ rfl
  have h1_0 : e.at 1 = (eC a1) := he 1 _ rfl
  have h2_0 : e.at 2 = V.isl (a2.map Enc.enc) := he 2 _ rfl
  have hl_0 : e.length = 142 := hl
  clear he hl
  show W A b315 e ⟨[], 0⟩ _
  rcases hF with ⟨l0, g0, c0⟩ | ⟨l0, l1, g0, c0, g1, c1⟩ | ⟨l0, l1, l2, g0, c0, g1, c1, g2, c2⟩ | ⟨l0, l1, l2, s0, s1, s2, w, cd, m0, m1, m2, mg, g0, c0, g1, c1, g2, c2, t0, t1, t2, gs, gi, ge, q0, q1, q2, k0, k1, k2, ck, gm, gh, cg⟩
  · have z0 := s10 a0 _ g0
    simp only [simprocAttr, R0, opEv, fillV, mapO, mapS, b315, hl_0, h0_0, h1_0, h2_0, z0, eq_true c0]
    exact fin_ret (by simp only [simprocAttr, R0, fn_out, p315, Rs.ev, mapO, mapS, take_len_self, hl_0, z0, eq_true c0])
  · have z0 := s10 a0 _ g0; have z1 := s10 a1 _ g1
    simp only [simprocAttr, R0, opEv, fillV, mapO, mapS, b315, hl_0, h0_0, h1_0, h2_0, z0, eq_false c0, z1, eq_true c1]
    exact fin_ret (by simp only [simprocAttr, R0, fn_out, p315, Rs.ev, mapO, mapS, take_len_self, hl_0, z0, eq_false c0, z1, eq_true c1])
  · have z0 := s10 a0 _ g0; have z1 := s10 a1 _ g1; have z2 := s11 a2 _ g2
    simp only [simprocAttr, R0, opEv, fillV, mapO, mapS, b315, hl_0, h0_0, h1_0, h2_0, z0, eq_false c0, z1, eq_false c1, z2, eq_true c2]
    exact fin_ret (by simp only [simprocAttr, R0, fn_out, p315, Rs.ev, mapO, mapS, take_len_self, hl_0, z0, eq_false c0, z1, eq_false c1, z2, eq_true c2])
  · have z0 := s10 a0 _ g0
    have z1 := s10 a1 _ g1
    have z2 := s11 a2 _ g2
    have u0 : ans A 12 [(eC a0)] = some ((eC s0)) := s12 a0 t0
    have x0 : tans A 12 [1, 1, 1] [(eC a0)] = some ((eC s0)) := x12 a0 t0
    have u1 : ans A 12 [(eC a1)] = some ((eC s1)) := s12 a1 t1
    have x1 : tans A 12 [1, 1, 1] [(eC a1)] = some ((eC s1)) := x12 a1 t1
    have u2 : ans A 13 [V.isl (a2.map Enc.enc)] = some (V.isl (s2.map Enc.enc)) := s13 a2 t2
    have x2 : tans A 13 [1, 1, 1] [V.isl (a2.map Enc.enc)] = some (V.isl (s2.map Enc.enc)) := x13 a2 t2
    have us : ans A 221 [(eC s0), (eC s1), V.isl (s2.map Enc.enc)] = some (V.tup [(eC w), V.int .i64 cd]) := s221 s0 s1 s2 gs
    have ui : ans A 222 [(eC s0), (eC s1), V.isl (s2.map Enc.enc)] = some (V.tup [(eC w), V.int .i64 cd]) := s222 s0 s1 s2 gi
    have xi : tans A 222 [1, 1, 1] [(eC s0), (eC s1), V.isl (s2.map Enc.enc)] = some (V.tup [(eC w), V.int .i64 cd]) := x222 s0 s1 s2 gi
    have ue : ans A 16 [(eC w), (eC w)] = some (V.bool true) := s16 w w ge
    have y0 : ans A 16 [(eC s0), (eC s0)] = some (V.bool true) := s16 s0 s0 q0
    have y1 : ans A 16 [(eC s1), (eC s1)] = some (V.bool true) := s16 s1 s1 q1
    have y2 : ans A 17 [V.isl (s2.map Enc.enc), V.isl (s2.map Enc.enc)] = some (V.bool true) := s17 s2 s2 q2
    have bw : bare 16 [1, 1, 1] (V.tup [(eC w), V.int .i64 cd]) = true := bare_tup (l := [⟨w⟩, ⟨cd⟩]) (fits_pair rfl (by decide))
    obtain ⟨v0, ⟨E_1, c_2⟩, K_3, t_5, r_4, b_6, le_7, o_8⟩ := thawD (α := GComplex) (by decide) s0 ⟨[(0, none), (0, none), (2, some [V.int .i64 w.Prime, V.isl (w.Dims.map Enc.enc), V.isl (w.Maps.map Enc.enc)])], 3⟩
    obtain ⟨d0_1, d0_2, rfl, -⟩ := sh_GComplex r_4
    simp only [le1, List.length_cons, List.length_nil, Nat.zero_add, Nat.reduceAdd] at b_6 le_7 o_8
    have t_5' : thaw 16 [1, 1, 1] ((eC s0)) ⟨[(0, none), (0, none), (2, some [V.int .i64 w.Prime, V.isl (w.Dims.map Enc.enc), V.isl (w.Maps.map Enc.enc)])], 3⟩ = some (V.agg [V.int .i64 s0.Prime, d0_1, d0_2], ⟨E_1, c_2⟩) := t_5
    have f_9 : E_1[2]? = some (2, some [V.int .i64 w.Prime, V.isl (w.Dims.map Enc.enc), V.isl (w.Maps.map Enc.enc)]) := o_8 2 (by decide)
    have f_10 : (E_1 ++ [(c_2, some [V.int .i64 s0.Prime, d0_1, d0_2])])[2]? = some (2, some [V.int .i64 w.Prime, V.isl (w.Dims.map Enc.enc), V.isl (w.Maps.map Enc.enc)]) := (List.getElem?_append_left (List.getElem?_eq_some_iff.1 f_9).1).trans f_9
    have f_11 : (E_1 ++ [(c_2, some [V.int .i64 s0.Prime, d0_1, d0_2])])[E_1.length]? = some (c_2, some [V.int .i64 s0.Prime, d0_1, d0_2]) := get_last _ _
    have r_12 := Deep.frame (h' := ⟨E_1 ++ [(c_2, some [V.int .i64 s0.Prime, d0_1, d0_2])], c_2 + 1⟩) r_4 fun k q => (List.getElem?_append_left (Deep.bd r_4 q) : (E_1 ++ [(c_2, some [V.int .i64 s0.Prime, d0_1, d0_2])])[k]? = _)
    obtain ⟨v1, ⟨E_13, c_14⟩, K_15, t_17, r_16, b_18, le_19, o_20⟩ := thawD (α := GComplex) (by decide) s1 ⟨E_1 ++ [(c_2, some [V.int .i64 s0.Prime, d0_1, d0_2])], c_2 + 1⟩
    obtain ⟨d1_1, d1_2, rfl, -⟩ := sh_GComplex r_16
    simp only [le1, List.length_cons, List.length_nil, Nat.zero_add, Nat.reduceAdd] at b_18 le_19 o_20
    have t_17' : thaw 16 [1, 1, 1] ((eC s1)) ⟨E_1 ++ [(c_2, some [V.int .i64 s0.Prime, d0_1, d0_2])], c_2 + 1⟩ = some (V.agg [V.int .i64 s1.Prime, d1_1, d1_2], ⟨E_13, c_14⟩) := t_17
    have f_21 : E_13[2]? = some (2, some [V.int .i64 w.Prime, V.isl (w.Dims.map Enc.enc), V.isl (w.Maps.map Enc.enc)]) := (o_20 2 (by have := (List.getElem?_eq_some_iff.1 f_10).1; (try simp only [le1] at this); omega)).trans f_10
    have f_22 : E_13[E_1.length]? = some (c_2, some [V.int .i64 s0.Prime, d0_1, d0_2]) := (o_20 E_1.length (by have := (List.getElem?_eq_some_iff.1 f_11).1; (try simp only [le1] at this); omega)).trans f_11
    have r_23 := Deep.frame (h' := ⟨E_13, c_14⟩) r_12 fun k q => o_20 k (by have := Deep.bd r_12 q; (try simp only [le1] at this); omega)
    have f_24 : (E_13 ++ [(c_14, some [V.int .i64 s1.Prime, d1_1, d1_2])])[2]? = some (2, some [V.int .i64 w.Prime, V.isl (w.Dims.map Enc.enc), V.isl (w.Maps.map Enc.enc)]) := (List.getElem?_append_left (List.getElem?_eq_some_iff.1 f_21).1).trans f_21
    have f_25 : (E_13 ++ [(c_14, some [V.int .i64 s1.Prime, d1_1, d1_2])])[E_1.length]? = some (c_2, some [V.int .i64 s0.Prime, d0_1, d0_2]) := (List.getElem?_append_left (List.getElem?_eq_some_iff.1 f_22).1).trans f_22
    have f_26 : (E_13 ++ [(c_14, some [V.int .i64 s1.Prime, d1_1, d1_2])])[E_13.length]? = some (c_14, some [V.int .i64 s1.Prime, d1_1, d1_2]) := get_last _ _
    have r_27 := Deep.frame (h' := ⟨E_13 ++ [(c_14, some [V.int .i64 s1.Prime, d1_1, d1_2])], c_14 + 1⟩) r_23 fun k q => (List.getElem?_append_left (Deep.bd r_23 q) : (E_13 ++ [(c_14, some [V.int .i64 s1.Prime, d1_1, d1_2])])[k]? = _)
    have r_28 := Deep.frame (h' := ⟨E_13 ++ [(c_14, some [V.int .i64 s1.Prime, d1_1, d1_2])], c_14 + 1⟩) r_16 fun k q => (List.getElem?_append_left (Deep.bd r_16 q) : (E_13 ++ [(c_14, some [V.int .i64 s1.Prime, d1_1, d1_2])])[k]? = _)
    obtain ⟨v2, ⟨E_29, c_30⟩, K_31, t_33, r_32, b_34, le_35, o_36⟩ := thawD (α := List (List (List Int))) (by decide) s2 ⟨E_13 ++ [(c_14, some [V.int .i64 s1.Prime, d1_1, d1_2])], c_14 + 1⟩
    obtain ⟨one2, one2_t⟩ := rep_one r_32
    simp only [le1, List.length_cons, List.length_nil, Nat.zero_add, Nat.reduceAdd] at b_34 le_35 o_36
    have t_33' : thaw 16 [1, 1, 1] (V.isl (s2.map Enc.enc)) ⟨E_13 ++ [(c_14, some [V.int .i64 s1.Prime, d1_1, d1_2])], c_14 + 1⟩ = some (v2, ⟨E_29, c_30⟩) := t_33
    have f_37 : E_29[2]? = some (2, some [V.int .i64 w.Prime, V.isl (w.Dims.map Enc.enc), V.isl (w.Maps.map Enc.enc)]) := (o_36 2 (by have := (List.getElem?_eq_some_iff.1 f_24).1; (try simp only [le1] at this); omega)).trans f_24
    have f_38 : E_29[E_1.length]? = some (c_2, some [V.int .i64 s0.Prime, d0_1, d0_2]) := (o_36 E_1.length (by have := (List.getElem?_eq_some_iff.1 f_25).1; (try simp only [le1] at this); omega)).trans f_25
    have f_39 : E_29[E_13.length]? = some (c_14, some [V.int .i64 s1.Prime, d1_1, d1_2]) := (o_36 E_13.length (by have := (List.getElem?_eq_some_iff.1 f_26).1; (try simp only [le1] at this); omega)).trans f_26
    have r_40 := Deep.frame (h' := ⟨E_29, c_30⟩) r_27 fun k q => o_36 k (by have := Deep.bd r_27 q; (try simp only [le1] at this); omega)
    have r_41 := Deep.frame (h' := ⟨E_29, c_30⟩) r_28 fun k q => o_36 k (by have := Deep.bd r_28 q; (try simp only [le1] at this); omega)
    obtain ⟨z_42_e0, z_42_1, z_42_2⟩ := fz_GComplex r_40
    obtain ⟨z_43_e0, z_43_1, z_43_2⟩ := fz_GComplex r_41
    have z_44 := Deep.fz r_32 9
    have z_44' : frz ⟨E_29, c_30⟩ 16 v2 = some (V.isl (s2.map Enc.enc)) := z_44
    obtain ⟨vg, ⟨E_45, c_46⟩, K_47, t_49, r_48, b_50, le_51, o_52⟩ := thawP (α := GComplex) (s := 1) (ss := [1, 1]) (by decide) w cd ⟨E_29, c_30⟩
    obtain ⟨dg_1, dg_2, rfl, -⟩ := sh_GComplex r_48
    simp only [le1, List.length_cons, List.length_nil, Nat.zero_add, Nat.reduceAdd] at b_50 le_51 o_52
    have t_49' : thaw 16 [1, 1, 1] (V.tup [(eC w), V.int .i64 cd]) ⟨E_29, c_30⟩ = some (V.tup [V.agg [V.int .i64 w.Prime, dg_1, dg_2], V.int .i64 cd], ⟨E_45, c_46⟩) := t_49
    have f_53 : E_45[2]? = some (2, some [V.int .i64 w.Prime, V.isl (w.Dims.map Enc.enc), V.isl (w.Maps.map Enc.enc)]) := (o_52 2 (by have := (List.getElem?_eq_some_iff.1 f_37).1; (try simp only [le1] at this); omega)).trans f_37
    have f_54 : E_45[E_1.length]? = some (c_2, some [V.int .i64 s0.Prime, d0_1, d0_2]) := (o_52 E_1.length (by have := (List.getElem?_eq_some_iff.1 f_38).1; (try simp only [le1] at this); omega)).trans f_38
    have f_55 : E_45[E_13.length]? = some (c_14, some [V.int .i64 s1.Prime, d1_1, d1_2]) := (o_52 E_13.length (by have := (List.getElem?_eq_some_iff.1 f_39).1; (try simp only [le1] at this); omega)).trans f_39
    have r_56 := Deep.frame (h' := ⟨E_45, c_46⟩) r_40 fun k q => o_52 k (by have := Deep.bd r_40 q; (try simp only [le1] at this); omega)
    have r_57 := Deep.frame (h' := ⟨E_45, c_46⟩) r_41 fun k q => o_52 k (by have := Deep.bd r_41 q; (try simp only [le1] at this); omega)
    have r_58 := Deep.frame (h' := ⟨E_45, c_46⟩) r_32 fun k q => o_52 k (by have := Deep.bd r_32 q; (try simp only [le1] at this); omega)
    have f_59 : (E_45 ++ [(c_46, some [V.int .i64 w.Prime, dg_1, dg_2])])[2]? = some (2, some [V.int .i64 w.Prime, V.isl (w.Dims.map Enc.enc), V.isl (w.Maps.map Enc.enc)]) := (List.getElem?_append_left (List.getElem?_eq_some_iff.1 f_53).1).trans f_53
    have f_60 : (E_45 ++ [(c_46, some [V.int .i64 w.Prime, dg_1, dg_2])])[E_1.length]? = some (c_2, some [V.int .i64 s0.Prime, d0_1, d0_2]) := (List.getElem?_append_left (List.getElem?_eq_some_iff.1 f_54).1).trans f_54
    have f_61 : (E_45 ++ [(c_46, some [V.int .i64 w.Prime, dg_1, dg_2])])[E_13.length]? = some (c_14, some [V.int .i64 s1.Prime, d1_1, d1_2]) := (List.getElem?_append_left (List.getElem?_eq_some_iff.1 f_55).1).trans f_55
    have f_62 : (E_45 ++ [(c_46, some [V.int .i64 w.Prime, dg_1, dg_2])])[E_45.length]? = some (c_46, some [V.int .i64 w.Prime, dg_1, dg_2]) := get_last _ _
    have r_63 := Deep.frame (h' := ⟨E_45 ++ [(c_46, some [V.int .i64 w.Prime, dg_1, dg_2])], c_46 + 1⟩) r_56 fun k q => (List.getElem?_append_left (Deep.bd r_56 q) : (E_45 ++ [(c_46, some [V.int .i64 w.Prime, dg_1, dg_2])])[k]? = _)
    have r_64 := Deep.frame (h' := ⟨E_45 ++ [(c_46, some [V.int .i64 w.Prime, dg_1, dg_2])], c_46 + 1⟩) r_57 fun k q => (List.getElem?_append_left (Deep.bd r_57 q) : (E_45 ++ [(c_46, some [V.int .i64 w.Prime, dg_1, dg_2])])[k]? = _)
    have r_65 := Deep.frame (h' := ⟨E_45 ++ [(c_46, some [V.int .i64 w.Prime, dg_1, dg_2])], c_46 + 1⟩) r_58 fun k q => (List.getElem?_append_left (Deep.bd r_58 q) : (E_45 ++ [(c_46, some [V.int .i64 w.Prime, dg_1, dg_2])])[k]? = _)
    have r_66 := Deep.frame (h' := ⟨E_45 ++ [(c_46, some [V.int .i64 w.Prime, dg_1, dg_2])], c_46 + 1⟩) r_48 fun k q => (List.getElem?_append_left (Deep.bd r_48 q) : (E_45 ++ [(c_46, some [V.int .i64 w.Prime, dg_1, dg_2])])[k]? = _)
    obtain ⟨z_67_e0, z_67_1, z_67_2⟩ := fz_GComplex r_66
    obtain ⟨z_68_e0, z_68_1, z_68_2⟩ := fz_GComplex r_63
    obtain ⟨z_69_e0, z_69_1, z_69_2⟩ := fz_GComplex r_64
    have z_70 := Deep.fz r_65 9
    have z_70' : frz ⟨E_45 ++ [(c_46, some [V.int .i64 w.Prime, dg_1, dg_2])], c_46 + 1⟩ 16 v2 = some (V.isl (s2.map Enc.enc)) := z_70
    obtain ⟨⟨E_71, c_72⟩, w_73, r_74, o_76, le_75⟩ := dm20 k0 _ r_63
    try simp only [le1] at o_76 le_75
    have f_77 : E_71[2]? = some (2, some [V.int .i64 w.Prime, V.isl (w.Dims.map Enc.enc), V.isl (w.Maps.map Enc.enc)]) := (o_76 2 (by have := (List.getElem?_eq_some_iff.1 f_59).1; (try simp only [le1] at this); omega) (fun p => by have h1 := b_6 _ p; omega)).trans f_59
    have f_78 : E_71[E_1.length]? = some (c_2, some [V.int .i64 s0.Prime, d0_1, d0_2]) := (o_76 E_1.length (by have := (List.getElem?_eq_some_iff.1 f_60).1; (try simp only [le1] at this); omega) (fun p => by have h1 := b_6 _ p; omega)).trans f_60
    have f_79 : E_71[E_13.length]? = some (c_14, some [V.int .i64 s1.Prime, d1_1, d1_2]) := (o_76 E_13.length (by have := (List.getElem?_eq_some_iff.1 f_61).1; (try simp only [le1] at this); omega) (fun p => by have h1 := b_6 _ p; omega)).trans f_61
    have f_80 : E_71[E_45.length]? = some (c_46, some [V.int .i64 w.Prime, dg_1, dg_2]) := (o_76 E_45.length (by have := (List.getElem?_eq_some_iff.1 f_62).1; (try simp only [le1] at this); omega) (fun p => by have h1 := b_6 _ p; omega)).trans f_62
    have r_81 := Deep.frame (h' := ⟨E_71, c_72⟩) r_64 fun k q => o_76 k (by have := Deep.bd r_64 q; (try simp only [le1] at this); omega) (fun p => by have h1 := b_6 k p; have h2 := b_18 k q; omega)
    have r_82 := Deep.frame (h' := ⟨E_71, c_72⟩) r_65 fun k q => o_76 k (by have := Deep.bd r_65 q; (try simp only [le1] at this); omega) (fun p => by have h1 := b_6 k p; have h2 := b_34 k q; omega)
    have r_83 := Deep.frame (h' := ⟨E_71, c_72⟩) r_66 fun k q => o_76 k (by have := Deep.bd r_66 q; (try simp only [le1] at this); omega) (fun p => by have h1 := b_6 k p; have h2 := b_50 k q; omega)
    obtain ⟨⟨E_84, c_85⟩, w_86, r_87, o_89, le_88⟩ := dm20 k1 _ r_81
    try simp only [le1] at o_89 le_88
    have f_90 : E_84[2]? = some (2, some [V.int .i64 w.Prime, V.isl (w.Dims.map Enc.enc), V.isl (w.Maps.map Enc.enc)]) := (o_89 2 (by have := (List.getElem?_eq_some_iff.1 f_77).1; (try simp only [le1] at this); omega) (fun p => by have h1 := b_18 _ p; omega)).trans f_77
    have f_91 : E_84[E_1.length]? = some (c_2, some [V.int .i64 s0.Prime, d0_1, d0_2]) := (o_89 E_1.length (by have := (List.getElem?_eq_some_iff.1 f_78).1; (try simp only [le1] at this); omega) (fun p => by have h1 := b_18 _ p; omega)).trans f_78
    have f_92 : E_84[E_13.length]? = some (c_14, some [V.int .i64 s1.Prime, d1_1, d1_2]) := (o_89 E_13.length (by have := (List.getElem?_eq_some_iff.1 f_79).1; (try simp only [le1] at this); omega) (fun p => by have h1 := b_18 _ p; omega)).trans f_79
    have f_93 : E_84[E_45.length]? = some (c_46, some [V.int .i64 w.Prime, dg_1, dg_2]) := (o_89 E_45.length (by have := (List.getElem?_eq_some_iff.1 f_80).1; (try simp only [le1] at this); omega) (fun p => by have h1 := b_18 _ p; omega)).trans f_80
    have r_94 := Deep.frame (h' := ⟨E_84, c_85⟩) r_74 fun k q => o_89 k (by have := Deep.bd r_74 q; (try simp only [le1] at this); omega) (fun p => by have h1 := b_18 k p; have h2 := b_6 k q; omega)
    have r_95 := Deep.frame (h' := ⟨E_84, c_85⟩) r_82 fun k q => o_89 k (by have := Deep.bd r_82 q; (try simp only [le1] at this); omega) (fun p => by have h1 := b_18 k p; have h2 := b_34 k q; omega)
    have r_96 := Deep.frame (h' := ⟨E_84, c_85⟩) r_83 fun k q => o_89 k (by have := Deep.bd r_83 q; (try simp only [le1] at this); omega) (fun p => by have h1 := b_18 k p; have h2 := b_50 k q; omega)
    obtain ⟨⟨E_97, c_98⟩, w_99, r_100, o_102, le_101⟩ := dm21 k2 _ r_95
    try simp only [le1] at o_102 le_101
    have f_103 : E_97[2]? = some (2, some [V.int .i64 w.Prime, V.isl (w.Dims.map Enc.enc), V.isl (w.Maps.map Enc.enc)]) := (o_102 2 (by have := (List.getElem?_eq_some_iff.1 f_90).1; (try simp only [le1] at this); omega) (fun p => by have h1 := b_34 _ p; omega)).trans f_90
    have f_104 : E_97[E_1.length]? = some (c_2, some [V.int .i64 s0.Prime, d0_1, d0_2]) := (o_102 E_1.length (by have := (List.getElem?_eq_some_iff.1 f_91).1; (try simp only [le1] at this); omega) (fun p => by have h1 := b_34 _ p; omega)).trans f_91
    have f_105 : E_97[E_13.length]? = some (c_14, some [V.int .i64 s1.Prime, d1_1, d1_2]) := (o_102 E_13.length (by have := (List.getElem?_eq_some_iff.1 f_92).1; (try simp only [le1] at this); omega) (fun p => by have h1 := b_34 _ p; omega)).trans f_92
    have f_106 : E_97[E_45.length]? = some (c_46, some [V.int .i64 w.Prime, dg_1, dg_2]) := (o_102 E_45.length (by have := (List.getElem?_eq_some_iff.1 f_93).1; (try simp only [le1] at this); omega) (fun p => by have h1 := b_34 _ p; omega)).trans f_93
    have r_107 := Deep.frame (h' := ⟨E_97, c_98⟩) r_94 fun k q => o_102 k (by have := Deep.bd r_94 q; (try simp only [le1] at this); omega) (fun p => by have h1 := b_34 k p; have h2 := b_6 k q; omega)
    have r_108 := Deep.frame (h' := ⟨E_97, c_98⟩) r_87 fun k q => o_102 k (by have := Deep.bd r_87 q; (try simp only [le1] at this); omega) (fun p => by have h1 := b_34 k p; have h2 := b_18 k q; omega)
    have r_109 := Deep.frame (h' := ⟨E_97, c_98⟩) r_96 fun k q => o_102 k (by have := Deep.bd r_96 q; (try simp only [le1] at this); omega) (fun p => by have h1 := b_34 k p; have h2 := b_50 k q; omega)
    obtain ⟨z_110_e0, z_110_1, z_110_2⟩ := fz_GComplex r_109
    obtain ⟨⟨E_111, c_112⟩, w_113, r_114, o_116, le_115⟩ := dm20 gm _ r_109
    try simp only [le1] at o_116 le_115
    have f_117 : E_111[2]? = some (2, some [V.int .i64 w.Prime, V.isl (w.Dims.map Enc.enc), V.isl (w.Maps.map Enc.enc)]) := (o_116 2 (by have := (List.getElem?_eq_some_iff.1 f_103).1; (try simp only [le1] at this); omega) (fun p => by have h1 := b_50 _ p; omega)).trans f_103
    have f_118 : E_111[E_1.length]? = some (c_2, some [V.int .i64 s0.Prime, d0_1, d0_2]) := (o_116 E_1.length (by have := (List.getElem?_eq_some_iff.1 f_104).1; (try simp only [le1] at this); omega) (fun p => by have h1 := b_50 _ p; omega)).trans f_104
    have f_119 : E_111[E_13.length]? = some (c_14, some [V.int .i64 s1.Prime, d1_1, d1_2]) := (o_116 E_13.length (by have := (List.getElem?_eq_some_iff.1 f_105).1; (try simp only [le1] at this); omega) (fun p => by have h1 := b_50 _ p; omega)).trans f_105
    have f_120 : E_111[E_45.length]? = some (c_46, some [V.int .i64 w.Prime, dg_1, dg_2]) := (o_116 E_45.length (by have := (List.getElem?_eq_some_iff.1 f_106).1; (try simp only [le1] at this); omega) (fun p => by have h1 := b_50 _ p; omega)).trans f_106
    have r_121 := Deep.frame (h' := ⟨E_111, c_112⟩) r_107 fun k q => o_116 k (by have := Deep.bd r_107 q; (try simp only [le1] at this); omega) (fun p => by have h1 := b_50 k p; have h2 := b_6 k q; omega)
    have r_122 := Deep.frame (h' := ⟨E_111, c_112⟩) r_108 fun k q => o_116 k (by have := Deep.bd r_108 q; (try simp only [le1] at this); omega) (fun p => by have h1 := b_50 k p; have h2 := b_18 k q; omega)
    have r_123 := Deep.frame (h' := ⟨E_111, c_112⟩) r_100 fun k q => o_116 k (by have := Deep.bd r_100 q; (try simp only [le1] at this); omega) (fun p => by have h1 := b_50 k p; have h2 := b_34 k q; omega)
    obtain ⟨z_124_e0, z_124_1, z_124_2⟩ := fz_GComplex r_114
    have uh : ans A 22 [V.agg [V.int .i64 w.Prime, V.isl (List.map Enc.enc mg.1.Dims), V.isl (List.map Enc.enc mg.1.Maps)], V.int .i64 1] = some (V.int .i64 mg.2) := by
      rw [← z_124_e0]; exact s22 mg.1 1 gh
    have f_125 : (E_111 ++ [(c_112, some [V.int .i64 w.Prime, V.isl (w.Dims.map Enc.enc), V.isl (w.Maps.map Enc.enc)])])[2]? = some (2, some [V.int .i64 w.Prime, V.isl (w.Dims.map Enc.enc), V.isl (w.Maps.map Enc.enc)]) := (List.getElem?_append_left (List.getElem?_eq_some_iff.1 f_117).1).trans f_117
    have f_126 : (E_111 ++ [(c_112, some [V.int .i64 w.Prime, V.isl (w.Dims.map Enc.enc), V.isl (w.Maps.map Enc.enc)])])[E_1.length]? = some (c_2, some [V.int .i64 s0.Prime, d0_1, d0_2]) := (List.getElem?_append_left (List.getElem?_eq_some_iff.1 f_118).1).trans f_118
    have f_127 : (E_111 ++ [(c_112, some [V.int .i64 w.Prime, V.isl (w.Dims.map Enc.enc), V.isl (w.Maps.map Enc.enc)])])[E_13.length]? = some (c_14, some [V.int .i64 s1.Prime, d1_1, d1_2]) := (List.getElem?_append_left (List.getElem?_eq_some_iff.1 f_119).1).trans f_119
    have f_128 : (E_111 ++ [(c_112, some [V.int .i64 w.Prime, V.isl (w.Dims.map Enc.enc), V.isl (w.Maps.map Enc.enc)])])[E_45.length]? = some (c_46, some [V.int .i64 w.Prime, dg_1, dg_2]) := (List.getElem?_append_left (List.getElem?_eq_some_iff.1 f_120).1).trans f_120
    have f_129 : (E_111 ++ [(c_112, some [V.int .i64 w.Prime, V.isl (w.Dims.map Enc.enc), V.isl (w.Maps.map Enc.enc)])])[E_111.length]? = some (c_112, some [V.int .i64 w.Prime, V.isl (w.Dims.map Enc.enc), V.isl (w.Maps.map Enc.enc)]) := get_last _ _
    have r_130 := Deep.frame (h' := ⟨E_111 ++ [(c_112, some [V.int .i64 w.Prime, V.isl (w.Dims.map Enc.enc), V.isl (w.Maps.map Enc.enc)])], c_112 + 1⟩) r_121 fun k q => (List.getElem?_append_left (Deep.bd r_121 q) : (E_111 ++ [(c_112, some [V.int .i64 w.Prime, V.isl (w.Dims.map Enc.enc), V.isl (w.Maps.map Enc.enc)])])[k]? = _)
    have r_131 := Deep.frame (h' := ⟨E_111 ++ [(c_112, some [V.int .i64 w.Prime, V.isl (w.Dims.map Enc.enc), V.isl (w.Maps.map Enc.enc)])], c_112 + 1⟩) r_122 fun k q => (List.getElem?_append_left (Deep.bd r_122 q) : (E_111 ++ [(c_112, some [V.int .i64 w.Prime, V.isl (w.Dims.map Enc.enc), V.isl (w.Maps.map Enc.enc)])])[k]? = _)
    have r_132 := Deep.frame (h' := ⟨E_111 ++ [(c_112, some [V.int .i64 w.Prime, V.isl (w.Dims.map Enc.enc), V.isl (w.Maps.map Enc.enc)])], c_112 + 1⟩) r_123 fun k q => (List.getElem?_append_left (Deep.bd r_123 q) : (E_111 ++ [(c_112, some [V.int .i64 w.Prime, V.isl (w.Dims.map Enc.enc), V.isl (w.Maps.map Enc.enc)])])[k]? = _)
    have r_133 := Deep.frame (h' := ⟨E_111 ++ [(c_112, some [V.int .i64 w.Prime, V.isl (w.Dims.map Enc.enc), V.isl (w.Maps.map Enc.enc)])], c_112 + 1⟩) r_114 fun k q => (List.getElem?_append_left (Deep.bd r_114 q) : (E_111 ++ [(c_112, some [V.int .i64 w.Prime, V.isl (w.Dims.map Enc.enc), V.isl (w.Maps.map Enc.enc)])])[k]? = _)
    obtain ⟨z_134_e0, z_134_1, z_134_2⟩ := fz_GComplex r_133
    simp only [simprocAttr, R0, opEv, fillV, mapO, mapS, b315, hl_0, h0_0, h1_0, h2_0, callM_tans, callM_plain_eq, get_last, set_last, le1, z0, eq_false c0, z1, eq_false c1, z2, eq_false c2, u0, x0, u1, x1, u2, x2, us, ui, xi, ue, y0, y1, y2, bw, t_5', f_9, f_10, f_11, t_17', f_21, f_22, f_24, f_25, f_26, one2, one2_t, t_33', f_37, f_38, f_39, z_42_1, z_42_2, z_43_1, z_43_2, z_44', t_49', f_53, f_54, f_55, f_59, f_60, f_61, f_62, z_67_1, z_67_2, z_68_1, z_68_2, z_69_1, z_69_2, z_70', w_73, f_77, f_78, f_79, f_80, w_86, f_90, f_91, f_92, f_93, w_99, f_103, f_104, f_105, f_106, z_110_1, z_110_2, eq_false ck, w_113, f_117, f_118, f_119, f_120, z_124_1, z_124_2, uh, eq_false cg, f_125, f_126, f_127, f_128, f_129, z_134_1, z_134_2]
    exact fin_ret (by simp only [simprocAttr, R0, fn_out, p315, Rs.ev, mapO, mapS, take_len_self, hl_0])
end
end Rv
