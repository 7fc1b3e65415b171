/- What the abstract code answers: typed functions, part 2. -/
import Derived.Test.YtnioomfbbmjpaaaLps0
namespace Rv
set_option linter.unusedVariables false
set_option linter.unusedSimpArgs false
set_option maxRecDepth 100000
noncomputable section
def F147_S (x : GFiltered) (lim : List (List Int)) (r : Int) : Option (Int ⊕ Int) := (F162 x fun a b => F163 a b x r).bind fun t => (F164 t lim fun a b => F165 a b).bind fun b => if b = true then some (.inr r) else (chk (r + 1)).bind fun r' => some (.inl r')
noncomputable def F147 (a0 : GFiltered) : Option (T2 Int Int) := (F41 a0).bind fun b => if b = true then (F162 a0 fun a b => F161 a0 a b).bind fun lim => (loopW (F147_S a0 lim) 0).bind fun r => some ⟨r, 0⟩ else some ⟨0, 1⟩
theorem s147 (a0 : GFiltered) {r : T2 Int Int} (hF : F147 a0 = some r) : ans A 147 [(eF a0)] = some (EncR.enc r) := by
  refine ans_of (f := p147) rfl rfl rfl fun e hl he => ?_
  have h0_0 : e.at 0 = (eF a0) := he 0 _ rfl
  have hl_0 : e.length = 22 := hl
  clear he hl
  show W A b147 e ⟨[], 0⟩ _
  unfold F147 at hF
  obtain ⟨b, gb, hF⟩ := bS hF
  have wb : ans A 41 [(eF a0)] = some (V.bool b) := s41 a0 gb
  by_cases c1 : b = true
  · subst c1
    rw [if_pos rfl] at hF
    obtain ⟨lim, glim, hF⟩ := bS hF
    have wl : tans A 162 [1, 1] [(eF a0), V.fn 161 [(eF a0)] []] = some (V.isl (lim.map Enc.enc)) := x162 a0 (fun x y => F161 a0 x y)
      (Clo2.of (by intro h f; simp only [RZ, mapO]) (by intro h f; simp only [RZ, mapO]) (by intro f; simp only [RZ, RB]) (by intro f; simp only [RZ, RB]) (fun x y _ hr => s161 a0 x y hr)) glim
    obtain ⟨t, gt, hF⟩ := bS hF
    have hE := Option.some.inj hF; subst hE
    obtain ⟨vl, ⟨E1, k1⟩, K, t1, t2, t3, t4, t5⟩ := thawD (α := List (List Int)) (by decide) lim ⟨[(0, none)], 1⟩
    have t1' : thaw 16 [1, 1] (V.isl (lim.map Enc.enc)) ⟨[(0, none)], 1⟩ = some (vl, ⟨E1, k1⟩) := t1
    simp only [simprocAttr, R0, opEv, fillV, mapO, mapS, b147, hl_0, h0_0, wb, wl, callM_tans, t1', get_last, set_last]
    refine W.mono (Q := fun x e h => x = .normal ∧ e.length = 22 ∧ (∃ u, h.ents[E1.length]? = some (u, some [V.int .i64 t]) ∧ e.at 5 = V.ptr E1.length u 0)) ?_ ?_
    · show W A (.block 0 (.loop true b147_1)) _ _ _
      rw [W_block]
      refine W_loop gt _ rfl (fun s e h => e.length = 22 ∧ e.at 1 = V.iptr [V.int .i64 a0.Complex.Prime, V.isl (a0.Complex.Dims.map Enc.enc), V.isl (a0.Complex.Maps.map Enc.enc), V.isl (a0.Levels.map Enc.enc)] ∧ e.at 4 = vl ∧ Deep.rep h vl lim K ∧ ∃ u, h.ents[E1.length]? = some (u, some [V.int .i64 s]) ∧ e.at 5 = V.ptr E1.length u 0) ?_ ?_
      · simp only [simprocAttr, R0, hl_0, h0_0]
        exact ⟨Deep.frame t2 fun k q => List.getElem?_append_left (t3 k q).2, _, get_last _ _, rfl⟩
      · clear hl_0 h0_0
        rintro s e ⟨E, c⟩ ⟨hl_1, h1_1, h4_1, g1, u, g2, h5_1⟩ o ho
        simp only at g2
        unfold F147_S at ho
        obtain ⟨tb, gtb, ho⟩ := bS ho
        have wt : tans A 162 [1, 1] [(eF a0), V.fn 163 [] [V.iptr [V.int .i64 a0.Complex.Prime, V.isl (a0.Complex.Dims.map Enc.enc), V.isl (a0.Complex.Maps.map Enc.enc), V.isl (a0.Levels.map Enc.enc)], V.iptr [V.int .i64 s]]] = some (V.isl (tb.map Enc.enc)) := x162 a0 (fun x y => F163 x y a0 s)
          (Clo2.of (by intro h f; simp only [RZ, mapO]) (by intro h f; simp only [RZ, mapO]) (by intro f; simp only [RZ, RB]) (by intro f; simp only [RZ, RB]) (fun x y _ hr => s163 x y a0 s hr)) gtb
        obtain ⟨bb, gbb, ho⟩ := bS ho
        have we : ans A 164 [V.isl (tb.map Enc.enc), V.isl (lim.map Enc.enc), V.fn 165 [] []] = some (V.bool bb) := s164 tb lim (fun a b => F165 a b)
          (Clo2.of (by intro h f; simp only [RZ, mapO]) (by intro h f; simp only [RZ, mapO]) (by intro f; simp only [RZ, RB]) (by intro f; simp only [RZ, RB]) (fun x y _ hr => s165 x y hr)) gbb
        obtain ⟨v2, ⟨E2, k2⟩, K2, q1, q2, q3, q4, q5⟩ := thawD (α := List (List Int)) (by decide) tb ⟨E, c⟩
        have q1' : thaw 16 [1, 1] (V.isl (tb.map Enc.enc)) ⟨E, c⟩ = some (v2, ⟨E2, k2⟩) := q1
        have z1 : frz ⟨E2, k2⟩ 16 v2 = some (V.isl (tb.map Enc.enc)) := Deep.fz q2 10
        have g1' : Deep.rep ⟨E2, k2⟩ vl lim K := Deep.frame g1 fun k q => q5 k (Deep.bd g1 q)
        have z2 : frz ⟨E2, k2⟩ 16 vl = some (V.isl (lim.map Enc.enc)) := Deep.fz g1' 10
        have hN : E1.length < E.length := (List.getElem?_eq_some_iff.1 g2).1
        have hN2 : E1.length < E2.length := Nat.lt_of_lt_of_le hN q4
        have g2' : E2[E1.length]? = some (u, some [V.int .i64 s]) := (q5 _ hN).trans g2
        have wbr : bare 16 [1, 1] (V.isl (tb.map Enc.enc)) = true := Deep.br (α := List (List Int)) tb 10 []
        by_cases c2 : bb = true
        · subst c2
          rw [if_pos rfl] at ho
          have hE := Option.some.inj ho; subst hE
          simp only [simprocAttr, R0, opEv, fillV, mapO, mapS, b147_1, hl_1, h1_1, h4_1, h5_1, g2, wt, wbr, callM_tans, q1', z1, z2, we, g2']
          intro ht; subst ht
          simp only [simprocAttr, R0, hl_1, h1_1, h4_1, h5_1]
          exact ⟨_, g2', rfl⟩
        · have c3 : bb = false := by simpa using c2
          subst c3
          rw [if_neg Bool.false_ne_true] at ho
          obtain ⟨n, gn, ho⟩ := bS ho
          have wn := chk_w gn
          have hE := Option.some.inj ho; subst hE
          simp only [simprocAttr, R0, opEv, fillV, mapO, mapS, b147_1, hl_1, h1_1, h4_1, h5_1, g2, wt, wbr, callM_tans, q1', z1, z2, we, g2', wn]
          refine And.intro rfl ⟨?_, ?_, ?_, Deep.frame g1' fun k q => set_ne (by have := (t3 k q).2; simp only at this; omega), u, List.getElem?_set_self hN2, ?_⟩
          all_goals simp only [simprocAttr, R0, hl_1, h1_1, h4_1, h5_1]
    · clear hl_0 h0_0
      rintro _ e ⟨E, c⟩ ⟨rfl, hl_0, u, g2, h5_0⟩
      simp only at g2
      simp only [simprocAttr, R0, opEv, fillV, mapO, mapS, hl_0, h5_0, g2]
      exact fin_ret (by simp only [simprocAttr, R0, fn_out, p147, Rs.ev, mapO, mapS, hl_0, h5_0])
  · have c3 : b = false := by simpa using c1
    subst c3
    rw [if_neg Bool.false_ne_true] at hF
    have hE := Option.some.inj hF; subst hE
    simp only [simprocAttr, R0, opEv, fillV, mapO, mapS, b147, hl_0, h0_0, wb]
    exact fin_ret (by simp only [simprocAttr, R0, fn_out, p147, Rs.ev, mapO, mapS, hl_0])
def F54 (a0 : Int) (a1 : Int) (a2 : Int) : Option Bool :=
  if a1 ≤ a0 then
    some (decide (a0 ≤ a2))
  else
    some false
theorem s54 (a0 : Int) (a1 : Int) (a2 : Int)   {r : Bool} (hF : F54 a0 a1 a2 = some r) : ans A 54 [V.int .i64 a0, V.int .i64 a1, V.int .i64 a2] = some (Enc.enc r) := by
  refine ans_of (f := p54) rfl rfl rfl fun e hl he => ?_
  have h0_0 : e.at 0 = V.int .i64 a0 := he 0 _ rfl
  have h1_0 : e.at 1 = V.int .i64 a1 := he 1 _ rfl
  have h2_0 : e.at 2 = V.int .i64 a2 := he 2 _ rfl
  have hl_0 : e.length = 15 := hl
  clear he hl
  have h_0 := And.intro hl_0 (And.intro h0_0 (And.intro h1_0 h2_0))
  show W A b54 e ⟨[], 0⟩ _
  unfold F54 at hF
  by_cases c1 : a1 ≤ a0
  · rw [if_pos c1] at hF
    cases hF
    simp only [simprocAttr, R0, opEv, fillV, mapO, mapS, b54, h_0, eq_true c1]
    exact fin_ret (by simp only [simprocAttr, R0, fn_out, p54, Rs.ev, mapO, mapS, take_len_self, h_0, eq_true c1])
  · rw [if_neg c1] at hF
    cases hF
    simp only [simprocAttr, R0, opEv, fillV, mapO, mapS, b54, h_0, eq_false c1]
    exact fin_ret (by simp only [simprocAttr, R0, fn_out, p54, Rs.ev, mapO, mapS, take_len_self, h_0, eq_false c1])
def F78 (a0 : Int) : Option Bool :=
  if a0 = 2 then
    some true
  else
    if a0 = 3 then
      some true
    else
      if a0 = 5 then
        some true
      else
        some (decide (a0 = 7))
theorem s78 (a0 : Int)   {r : Bool} (hF : F78 a0 = some r) : ans A 78 [V.int .i64 a0] = some (Enc.enc r) := by
  refine ans_of (f := p78) rfl rfl rfl fun e hl he => ?_
  have h0_0 : e.at 0 = V.int .i64 a0 := he 0 _ rfl
  have hl_0 : e.length = 17 := hl
  clear he hl
  have h_0 := And.intro hl_0 h0_0
  show W A b78 e ⟨[], 0⟩ _
  unfold F78 at hF
  by_cases c1 : a0 = 2
  · rw [if_pos c1] at hF
    cases hF
    simp only [simprocAttr, R0, opEv, fillV, mapO, mapS, b78, h_0, eq_true c1]
    exact fin_ret (by simp only [simprocAttr, R0, fn_out, p78, Rs.ev, mapO, mapS, take_len_self, h_0, eq_true c1])
  · rw [if_neg c1] at hF
    by_cases c2 : a0 = 3
    · rw [if_pos c2] at hF
      cases hF
      simp only [simprocAttr, R0, opEv, fillV, mapO, mapS, b78, h_0, eq_false c1, eq_true c2]
      exact fin_ret (by simp only [simprocAttr, R0, fn_out, p78, Rs.ev, mapO, mapS, take_len_self, h_0, eq_false c1, eq_true c2])
    · rw [if_neg c2] at hF
      by_cases c3 : a0 = 5
      · rw [if_pos c3] at hF
        cases hF
        simp only [simprocAttr, R0, opEv, fillV, mapO, mapS, b78, h_0, eq_false c1, eq_false c2, eq_true c3]
        exact fin_ret (by simp only [simprocAttr, R0, fn_out, p78, Rs.ev, mapO, mapS, take_len_self, h_0, eq_false c1, eq_false c2, eq_true c3])
      · rw [if_neg c3] at hF
        cases hF
        simp only [simprocAttr, R0, opEv, fillV, mapO, mapS, b78, h_0, eq_false c1, eq_false c2, eq_false c3]
        exact fin_ret (by simp only [simprocAttr, R0, fn_out, p78, Rs.ev, mapO, mapS, take_len_self, h_0, eq_false c1, eq_false c2, eq_false c3])
def F79_2_S (a0 : Int) (a1 : List (List Int)) (a3 : Int) (v9_1 : Int) (v10_2 : Int) : Option ((Int) ⊕ ((Unit) ⊕ Bool)) :=
  (getI a1 v9_1).bind fun x11 =>
if v10_2 < (x11.length : Int) then
  (getI x11 v10_2).bind fun x14 =>
  (chk (a0 - 1)).bind fun x16 =>
  (F54 x14 0 x16).bind fun x17 =>
  if x17 = true then
    (chk (v10_2 + 1)).bind fun x19 =>
    some (.inl x19)
  else
    some (.inr (.inr false))
else
  some (.inr (.inl ()))
def F79_1_B (a0 : Int) (a1 : List (List Int)) (a3 : Int) (v9_1 : Int) (s : Unit) : Option ((Unit) ⊕ ((Unit) ⊕ Bool)) :=
  (getI a1 v9_1).bind fun x5 =>
if (x5.length : Int) = a3 then
  (loopW (F79_2_S a0 a1 a3 v9_1) 0).bind fun t20 => match t20 with
    | .inl _ =>
      some (.inl ())
    | .inr r21 => some (.inr (.inr r21))
else
  some (.inr (.inr false))
def F79_1_D (a0 : Int) (a1 : List (List Int)) (a3 : Int) (v9_1 : Int) (s : Unit) : Option ((Unit) ⊕ Bool) :=
  some (.inl ())
def F79 (a0 : Int) (a1 : List (List Int)) (a2 : Int) (a3 : Int) : Option Bool :=
  if (a1.length : Int) = a2 then
    (forR 0 (a1.length : Int) (F79_1_B a0 a1 a3) (F79_1_D a0 a1 a3) ()).bind fun t22 => match t22 with
      | .inl _ =>
        some true
      | .inr r23 => some r23
  else
    some false
def I79_2 (a0 : Int) (a1 : List (List Int)) (a3 : Int) (v9_1 : Int)  (v10_2 : Int) (e : Env) (h : Heap) : Prop :=
  ∃ k9 : Nat, h = ⟨[], k9⟩ ∧ e.length = 48 ∧ e.at 0 = V.int .i64 a0 ∧ e.at 1 = V.isl (a1.map Enc.enc) ∧ e.at 3 = V.int .i64 a3 ∧ e.at 9 = V.int .i64 v9_1 ∧ e.at 10 = V.int .i64 v10_2
def P79_2 (a0 : Int) (a1 : List (List Int)) (a3 : Int) (v9_1 : Int)  (t : (Unit) ⊕ Bool) (x : Ex) (e : Env) (h : Heap) : Prop :=
  match t with
  | .inl _ => x = .normal ∧ ∃ k9 : Nat, h = ⟨[], k9⟩ ∧ e.length = 48 ∧ e.at 0 = V.int .i64 a0 ∧ e.at 1 = V.isl (a1.map Enc.enc) ∧ e.at 3 = V.int .i64 a3 ∧ e.at 9 = V.int .i64 v9_1
  | .inr r => x = .ret ∧ Fin p79 (Enc.enc r) .ret e h
theorem l79_2 (a0 : Int) (a1 : List (List Int)) (a3 : Int) (v9_1 : Int)   {s : Int} {t : (Unit) ⊕ Bool} (hF : loopW (F79_2_S a0 a1 a3 v9_1) s = some t) {e : Env} {h : Heap} (hI : I79_2 a0 a1 a3 v9_1  s e h) : W A c79_2 e h (P79_2 a0 a1 a3 v9_1  t) := by
  show W A (.block 2 (.loop false b79_2)) e h _
  rw [W_block]
  refine W_loop hF 0 (by obtain ⟨_, rfl, _⟩ := hI; rfl) (I79_2 a0 a1 a3 v9_1 ) hI ?_
  · rintro v10_2 e h ⟨k9, rfl, h_8⟩ o ho
    unfold F79_2_S at ho
    obtain ⟨x11, gx11, ho⟩ := bS ho
    obtain ⟨w12a, w12b⟩ := getI_w gx11
    by_cases c13 : v10_2 < (x11.length : Int)
    · rw [if_pos c13] at ho
      obtain ⟨x14, gx14, ho⟩ := bS ho
      obtain ⟨w15a, w15b⟩ := getI_w gx14
      obtain ⟨x16, gx16, ho⟩ := bS ho
      have wx16 := chk_w gx16
      obtain ⟨x17, gx17, ho⟩ := bS ho
      have w18 : ans A 54 [V.int .i64 x14, V.int .i64 0, V.int .i64 x16] = some (V.bool x17) := s54 x14 0 x16  gx17
      cases x17 with
      | true =>
        rw [if_pos rfl] at ho
        obtain ⟨x19, gx19, ho⟩ := bS ho
        have wx19 := chk_w gx19
        cases ho
        simp only [simprocAttr, R0, opEv, fillV, mapO, mapS, b79_2, h_8, w12a, w12b, eq_true c13, w15a, w15b, wx16, w18, wx19]
        refine And.intro rfl (Exists.intro _ ( And.intro rfl ?_))
        simp only [simprocAttr, R0, h_8, w12a, w12b, eq_true c13, w15a, w15b, wx16, w18, wx19]
      | false =>
        rw [if_neg Bool.false_ne_true] at ho
        cases ho
        simp only [simprocAttr, R0, opEv, fillV, mapO, mapS, b79_2, h_8, w12a, w12b, eq_true c13, w15a, w15b, wx16, w18]
        intro ht; subst ht
        simp only [simprocAttr, RR, RB]
        exact And.intro rfl (fin_ret (by simp only [simprocAttr, R0, fn_out, p79, Rs.ev, mapO, mapS, take_len_self, h_8, w12a, w12b, eq_true c13, w15a, w15b, wx16, w18]))
    · rw [if_neg c13] at ho
      cases ho
      simp only [simprocAttr, R0, opEv, fillV, mapO, mapS, b79_2, h_8, w12a, w12b, eq_false c13]
      intro ht; subst ht
      simp only [simprocAttr, RR, RB]
      refine And.intro rfl (Exists.intro _ ( And.intro rfl ?_))
      simp only [simprocAttr, R0, h_8, w12a, w12b, eq_false c13]
def I79_1 (a0 : Int) (a1 : List (List Int)) (a3 : Int)  (v9_1 : Int) (s : Unit) (e : Env) (h : Heap) : Prop :=
  ∃ k3 : Nat, h = ⟨[], k3⟩ ∧ e.length = 48 ∧ e.at 0 = V.int .i64 a0 ∧ e.at 1 = V.isl (a1.map Enc.enc) ∧ e.at 3 = V.int .i64 a3 ∧ e.at 9 = V.int .i64 v9_1
def P79_1 (a0 : Int) (a1 : List (List Int)) (a3 : Int)  (t : (Unit) ⊕ Bool) (x : Ex) (e : Env) (h : Heap) : Prop :=
  match t with
  | .inl _ => x = .normal ∧ ∃ k3 : Nat, h = ⟨[], k3⟩ ∧ e.length = 48
  | .inr r => x = .ret ∧ Fin p79 (Enc.enc r) .ret e h
theorem l79_1 (a0 : Int) (a1 : List (List Int)) (a3 : Int)   {lo : Int} {s : Unit} {t : (Unit) ⊕ Bool} (hF : forR lo (a1.length : Int) (F79_1_B a0 a1 a3) (F79_1_D a0 a1 a3) s = some t) {e : Env} {h : Heap} (hI : I79_1 a0 a1 a3  lo s e h) : W A c79_1 e h (P79_1 a0 a1 a3  t) := by
  show W A (.block 0 (.loop false b79_1)) e h _
  rw [W_block]
  refine W_forR hF 0 (by obtain ⟨_, rfl, _⟩ := hI; rfl) (I79_1 a0 a1 a3 ) hI ?_ ?_
  · rintro v9_1 _ e h ⟨k3, rfl, h_2⟩ hlt hw o ho
    unfold F79_1_B at ho
    obtain ⟨x5, gx5, ho⟩ := bS ho
    obtain ⟨w6a, w6b⟩ := getI_w gx5
    by_cases c7 : (x5.length : Int) = a3
    · rw [if_pos c7] at ho
      obtain ⟨t20, gt20, ho⟩ := bS ho
      rcases t20 with _ | r21
      · dsimp only at ho
        simp only [simprocAttr, R0, opEv, fillV, mapO, mapS, b79_1, h_2, eq_true hlt, hw, w6a, w6b, eq_true c7]
        refine W.mono (l79_2 a0 a1 a3 v9_1   gt20 (Exists.intro _ ( And.intro rfl ?_))) ?_
        · simp only [simprocAttr, R0, h_2, eq_true hlt, hw, w6a, w6b, eq_true c7]
        rintro _ e _ ⟨rfl, k9, rfl, h_10⟩
        cases ho
        simp only [simprocAttr, R0, opEv, fillV, mapO, mapS, h_10, eq_true hlt, hw, eq_true c7]
        refine And.intro rfl (Exists.intro _ ( And.intro rfl ?_))
        simp only [simprocAttr, R0, h_10, eq_true hlt, hw, eq_true c7]
      · dsimp only at ho
        cases ho
        simp only [simprocAttr, R0, opEv, fillV, mapO, mapS, b79_1, h_2, eq_true hlt, hw, w6a, w6b, eq_true c7]
        refine W.mono (l79_2 a0 a1 a3 v9_1   gt20 (Exists.intro _ ( And.intro rfl ?_))) ?_
        · simp only [simprocAttr, R0, h_2, eq_true hlt, hw, w6a, w6b, eq_true c7]
        rintro _ e h ⟨rfl, hq⟩
        simp only [simprocAttr, RR, RB]
        intro ht; subst ht
        simp only [simprocAttr, RR, RB]
        exact And.intro rfl hq
    · rw [if_neg c7] at ho
      cases ho
      simp only [simprocAttr, R0, opEv, fillV, mapO, mapS, b79_1, h_2, eq_true hlt, hw, w6a, w6b, eq_false c7]
      intro ht; subst ht
      simp only [simprocAttr, RR, RB]
      exact And.intro rfl (fin_ret (by simp only [simprocAttr, R0, fn_out, p79, Rs.ev, mapO, mapS, take_len_self, h_2, eq_true hlt, hw, w6a, w6b, eq_false c7]))
  · rintro v9_1 _ e h ⟨k3, rfl, h_2⟩ hge t1 ho
    unfold F79_1_D at ho
    cases ho
    simp only [simprocAttr, R0, opEv, fillV, mapO, mapS, b79_1, h_2, eq_false hge]
    intro ht; subst ht
    refine And.intro rfl (Exists.intro _ ( And.intro rfl ?_))
    simp only [simprocAttr, R0, h_2, eq_false hge]
theorem s79 (a0 : Int) (a1 : List (List Int)) (a2 : Int) (a3 : Int)   {r : Bool} (hF : F79 a0 a1 a2 a3 = some r) : ans A 79 [V.int .i64 a0, V.isl (a1.map Enc.enc), V.int .i64 a2, V.int .i64 a3] = some (Enc.enc r) := by
  refine ans_of (f := p79) rfl rfl rfl fun e hl he => ?_
  have h0_0 : e.at 0 = V.int .i64 a0 := he 0 _ rfl
  have h1_0 : e.at 1 = V.isl (a1.map Enc.enc) := he 1 _ rfl
  have h2_0 : e.at 2 = V.int .i64 a2 := he 2 _ rfl
  have h3_0 : e.at 3 = V.int .i64 a3 := he 3 _ rfl
  have hl_0 : e.length = 48 := hl
  clear he hl
  have h_0 := And.intro hl_0 (And.intro h0_0 (And.intro h1_0 (And.intro h2_0 h3_0)))
  show W A b79 e ⟨[], 0⟩ _
  unfold F79 at hF
  by_cases c1 : (a1.length : Int) = a2
  · rw [if_pos c1] at hF
    obtain ⟨t22, gt22, hF⟩ := bS hF
    rcases t22 with _ | r23
    · dsimp only at hF
      simp only [simprocAttr, R0, opEv, fillV, mapO, mapS, b79, h_0, eq_true c1]
      refine W.mono (l79_1 a0 a1 a3   gt22 (Exists.intro _ ( And.intro rfl ?_))) ?_
      · simp only [simprocAttr, R0, h_0, eq_true c1]
      rintro _ e _ ⟨rfl, k3, rfl, hl_4⟩
      cases hF
      simp only [simprocAttr, R0, opEv, fillV, mapO, mapS, hl_4, eq_true c1]
      exact fin_ret (by simp only [simprocAttr, R0, fn_out, p79, Rs.ev, mapO, mapS, take_len_self, hl_4, eq_true c1])
    · dsimp only at hF
      cases hF
      simp only [simprocAttr, R0, opEv, fillV, mapO, mapS, b79, h_0, eq_true c1]
      refine W.mono (l79_1 a0 a1 a3   gt22 (Exists.intro _ ( And.intro rfl ?_))) ?_
      · simp only [simprocAttr, R0, h_0, eq_true c1]
      rintro _ e h ⟨rfl, hq⟩
      simp only [simprocAttr, RR, RB]
      exact hq
  · rw [if_neg c1] at hF
    cases hF
    simp only [simprocAttr, R0, opEv, fillV, mapO, mapS, b79, h_0, eq_false c1]
    exact fin_ret (by simp only [simprocAttr, R0, fn_out, p79, Rs.ev, mapO, mapS, take_len_self, h_0, eq_false c1])
def F80_2_S (a0 : Int) (a1 : List (List Int)) (a2 : List Int) (v10_1 : Int) (s : (List Int) × Int) : Option (((List Int) × Int) ⊕ ((List Int))) :=
  match s with
  | (o0_2, v11_2) =>
    if v11_2 < ((o0_2.length : Nat) : Int) then
      (getI o0_2 v11_2).bind fun x12 =>
      (getI a2 v10_1).bind fun x14 =>
      (getI a1 v10_1).bind fun x16 =>
      (getI x16 v11_2).bind fun x18 =>
      (chk (x14 * x18)).bind fun x20 =>
      (chk (x12 + x20)).bind fun x21 =>
      (remI x21 a0).bind fun x22 =>
      (setI o0_2 v11_2 x22).bind fun l24 =>
      (chk (v11_2 + 1)).bind fun x26 =>
      some (.inl (l24, x26))
    else
      some (.inr o0_2)
def F80_1_B (a0 : Int) (a1 : List (List Int)) (a2 : List Int) (v10_1 : Int) (o0_1 : (List Int)) : Option (((List Int)) ⊕ ((List Int))) :=
  (loopW (F80_2_S a0 a1 a2 v10_1) (o0_1, 0)).bind fun zo0_2 =>
some (.inl zo0_2)
def F80_1_D (a0 : Int) (a1 : List (List Int)) (a2 : List Int) (v10_1 : Int) (o0_1 : (List Int)) : Option ((List Int)) :=
  some o0_1
def F80 (a0 : Int) (a1 : List (List Int)) (a2 : List Int) (a3 : Int) : Option (List Int) :=
  (mkL 8 a3 0).bind fun l1 =>
  (forR 0 (a2.length : Int) (F80_1_B a0 a1 a2) (F80_1_D a0 a1 a2) l1).bind fun zo0_1 =>
  some zo0_1
def I80_2 (a0 : Int) (a1 : List (List Int)) (a2 : List Int) (v10_1 : Int)  (s : (List Int) × Int) (e : Env) (h : Heap) : Prop :=
  match s with
  | (o0_2, v11_2) =>
    ∃ u8 k9 : Nat, h = ⟨[(u8, some (o0_2.map Enc.enc))], k9⟩ ∧ e.length = 49 ∧ e.at 0 = V.int .i64 a0 ∧ e.at 1 = V.isl (a1.map Enc.enc) ∧ e.at 2 = V.isl (a2.map Enc.enc) ∧ e.at 9 = V.sl 0 u8 0 o0_2.length 1 ∧ e.at 10 = V.int .i64 v10_1 ∧ e.at 11 = V.int .i64 v11_2
def P80_2 (a0 : Int) (a1 : List (List Int)) (a2 : List Int) (v10_1 : Int)  (zo0_2 : (List Int)) (x : Ex) (e : Env) (h : Heap) : Prop :=
  x = .normal ∧ ∃ u8 k9 : Nat, h = ⟨[(u8, some (zo0_2.map Enc.enc))], k9⟩ ∧ e.length = 49 ∧ e.at 0 = V.int .i64 a0 ∧ e.at 1 = V.isl (a1.map Enc.enc) ∧ e.at 2 = V.isl (a2.map Enc.enc) ∧ e.at 9 = V.sl 0 u8 0 zo0_2.length 1 ∧ e.at 10 = V.int .i64 v10_1
theorem l80_2 (a0 : Int) (a1 : List (List Int)) (a2 : List Int) (v10_1 : Int)   {s : (List Int) × Int} {t : (List Int)} (hF : loopW (F80_2_S a0 a1 a2 v10_1) s = some t) {e : Env} {h : Heap} (hI : I80_2 a0 a1 a2 v10_1  s e h) : W A c80_2 e h (P80_2 a0 a1 a2 v10_1  t) := by
  show W A (.block 2 (.loop false b80_2)) e h _
  rw [W_block]
  refine W_loop hF 1 (by rcases s with ⟨_, _⟩; obtain ⟨_, _, rfl, _⟩ := hI; rfl) (I80_2 a0 a1 a2 v10_1 ) hI ?_
  · rintro ⟨o0_2, v11_2⟩ e h ⟨u8, k9, rfl, h_7⟩ o ho
    unfold F80_2_S at ho
    dsimp only at ho
    by_cases c11 : v11_2 < ((o0_2.length : Nat) : Int)
    · rw [if_pos c11] at ho
      obtain ⟨x12, gx12, ho⟩ := bS ho
      obtain ⟨w13a, w13b⟩ := getI_w gx12
      have w13c := getI_lt gx12
      have w13d : List.drop (Int.toNat v11_2) (o0_2.map Enc.enc) = (V.int .i64 x12) :: List.drop ((Int.toNat v11_2) + 1) (o0_2.map Enc.enc) := drop_enc w13b
      obtain ⟨x14, gx14, ho⟩ := bS ho
      obtain ⟨w15a, w15b⟩ := getI_w gx14
      obtain ⟨x16, gx16, ho⟩ := bS ho
      obtain ⟨w17a, w17b⟩ := getI_w gx16
      obtain ⟨x18, gx18, ho⟩ := bS ho
      obtain ⟨w19a, w19b⟩ := getI_w gx18
      obtain ⟨x20, gx20, ho⟩ := bS ho
      have wx20 := chk_w gx20
      obtain ⟨x21, gx21, ho⟩ := bS ho
      have wx21 := chk_w gx21
      obtain ⟨x22, gx22, ho⟩ := bS ho
      obtain ⟨w23a, w23b⟩ := rem_w gx22
      obtain ⟨l24, gl24, ho⟩ := bS ho
      obtain ⟨w25a, w25b, w25c, w25d, w25e⟩ := setI_w gl24
      replace w25e : List.take (Int.toNat v11_2) (o0_2.map Enc.enc) ++ [V.int .i64 x22] ++ List.drop (Int.toNat v11_2 + 1) (o0_2.map Enc.enc) = List.map Enc.enc l24 := w25e
      obtain ⟨x26, gx26, ho⟩ := bS ho
      have wx26 := chk_w gx26
      cases ho
      simp only [simprocAttr, R0, opEv, fillV, mapO, mapS, b80_2, h_7, eq_true c11, w13a, w13b, w13c, w13d, w15a, w15b, w17a, w17b, w19a, w19b, wx20, wx21, eq_false w23a, w23b, w25a, w25b, w25c, w25e, wx26]
      refine And.intro rfl (Exists.intro _ ( Exists.intro _ ( And.intro rfl ?_)))
      simp only [simprocAttr, R0, h_7, eq_true c11, w13a, w13b, w13c, w13d, w15a, w15b, w17a, w17b, w19a, w19b, wx20, wx21, eq_false w23a, w23b, w25a, w25b, w25c, w25e, wx26, w25d]
    · rw [if_neg c11] at ho
      cases ho
      simp only [simprocAttr, R0, opEv, fillV, mapO, mapS, b80_2, h_7, eq_false c11]
      intro ht; subst ht
      simp only [simprocAttr, RR, RB]
      refine And.intro rfl (Exists.intro _ ( Exists.intro _ ( And.intro rfl ?_)))
      simp only [simprocAttr, R0, h_7, eq_false c11]
def I80_1 (a0 : Int) (a1 : List (List Int)) (a2 : List Int)  (v10_1 : Int) (o0_1 : (List Int)) (e : Env) (h : Heap) : Prop :=
  ∃ u4 k5 : Nat, h = ⟨[(u4, some (o0_1.map Enc.enc))], k5⟩ ∧ e.length = 49 ∧ e.at 0 = V.int .i64 a0 ∧ e.at 1 = V.isl (a1.map Enc.enc) ∧ e.at 2 = V.isl (a2.map Enc.enc) ∧ e.at 9 = V.sl 0 u4 0 o0_1.length 1 ∧ e.at 10 = V.int .i64 v10_1
def P80_1 (a0 : Int) (a1 : List (List Int)) (a2 : List Int)  (zo0_1 : (List Int)) (x : Ex) (e : Env) (h : Heap) : Prop :=
  x = .normal ∧ ∃ u4 k5 : Nat, h = ⟨[(u4, some (zo0_1.map Enc.enc))], k5⟩ ∧ e.length = 49 ∧ e.at 9 = V.sl 0 u4 0 zo0_1.length 1
theorem l80_1 (a0 : Int) (a1 : List (List Int)) (a2 : List Int)   {lo : Int} {s : (List Int)} {t : (List Int)} (hF : forR lo (a2.length : Int) (F80_1_B a0 a1 a2) (F80_1_D a0 a1 a2) s = some t) {e : Env} {h : Heap} (hI : I80_1 a0 a1 a2  lo s e h) : W A c80_1 e h (P80_1 a0 a1 a2  t) := by
  show W A (.block 0 (.loop false b80_1)) e h _
  rw [W_block]
  refine W_forR hF 1 (by obtain ⟨_, _, rfl, _⟩ := hI; rfl) (I80_1 a0 a1 a2 ) hI ?_ ?_
  · rintro v10_1 o0_1 e h ⟨u4, k5, rfl, h_3⟩ hlt hw o ho
    unfold F80_1_B at ho
    obtain ⟨zo0_2, gt27, ho⟩ := bS ho
    simp only [simprocAttr, R0, opEv, fillV, mapO, mapS, b80_1, h_3, eq_true hlt, hw]
    refine W.mono (l80_2 a0 a1 a2 v10_1   gt27 (Exists.intro _ ( Exists.intro _ ( And.intro rfl ?_)))) ?_
    · simp only [simprocAttr, R0, h_3, eq_true hlt, hw]
    rintro _ e _ ⟨rfl, u8, k9, rfl, h_10⟩
    cases ho
    simp only [simprocAttr, R0, opEv, fillV, mapO, mapS, h_10, eq_true hlt, hw]
    refine And.intro rfl (Exists.intro _ ( Exists.intro _ ( And.intro rfl ?_)))
    simp only [simprocAttr, R0, h_10, eq_true hlt, hw]
  · rintro v10_1 o0_1 e h ⟨u4, k5, rfl, h_3⟩ hge t1 ho
    unfold F80_1_D at ho
    cases ho
    simp only [simprocAttr, R0, opEv, fillV, mapO, mapS, b80_1, h_3, eq_false hge]
    intro ht; subst ht
    refine And.intro rfl (Exists.intro _ ( Exists.intro _ ( And.intro rfl ?_)))
    simp only [simprocAttr, R0, h_3, eq_false hge]
theorem s80 (a0 : Int) (a1 : List (List Int)) (a2 : List Int) (a3 : Int)   {r : List Int} (hF : F80 a0 a1 a2 a3 = some r) : ans A 80 [V.int .i64 a0, V.isl (a1.map Enc.enc), V.isl (a2.map Enc.enc), V.int .i64 a3] = some (Enc.enc r) := by
  refine ans_of (f := p80) rfl rfl rfl fun e hl he => ?_
  have h0_0 : e.at 0 = V.int .i64 a0 := he 0 _ rfl
  have h1_0 : e.at 1 = V.isl (a1.map Enc.enc) := he 1 _ rfl
  have h2_0 : e.at 2 = V.isl (a2.map Enc.enc) := he 2 _ rfl
  have h3_0 : e.at 3 = V.int .i64 a3 := he 3 _ rfl
  have hl_0 : e.length = 49 := hl
  clear he hl
  show W A b80 e ⟨[], 0⟩ _
  unfold F80 at hF
  obtain ⟨l1, gl1, hF⟩ := bS hF
  obtain ⟨w2a, w2b, w2c, w2d, w2e⟩ := mkL_w gl1
  replace w2e : (List.replicate (Int.toNat a3) [V.int .i64 0]).flatten = List.map Enc.enc l1 := w2e
  obtain ⟨zo0_1, gt28, hF⟩ := bS hF
  simp only [↓reduceIte, Nat.reduceAdd, Nat.reduceMul, Nat.reduceSub, Nat.reduceLT, Nat.reduceLeDiff, Nat.reduceEqDiff, Nat.reducePow, Int.reducePow, Int.reduceLE, Int.reduceLT, Int.reduceEq, Int.reduceToNat, reduceCtorEq, R0, opEv, fillV, mapO, mapS, b80, hl_0, h0_0, h1_0, h2_0, h3_0, w2a, w2b, w2c, w2e]
  refine W.mono (l80_1 a0 a1 a2   gt28 (Exists.intro _ ( Exists.intro _ ( And.intro rfl ?_)))) ?_
  · simp only [↓reduceIte, Nat.reduceAdd, Nat.reduceMul, Nat.reduceSub, Nat.reduceLT, Nat.reduceLeDiff, Nat.reduceEqDiff, Nat.reducePow, Int.reducePow, Int.reduceLE, Int.reduceLT, Int.reduceEq, Int.reduceToNat, reduceCtorEq, R0, hl_0, h0_0, h1_0, h2_0, h3_0, w2a, w2b, w2c, w2e, w2d]
  rintro _ e _ ⟨rfl, u4, k5, rfl, hl_6, h9_6⟩
  have hE := Option.some.inj hF; subst hE
  simp only [↓reduceIte, Nat.reduceAdd, Nat.reduceMul, Nat.reduceSub, Nat.reduceLT, Nat.reduceLeDiff, Nat.reduceEqDiff, Nat.reducePow, Int.reducePow, Int.reduceLE, Int.reduceLT, Int.reduceEq, Int.reduceToNat, reduceCtorEq, R0, opEv, fillV, mapO, mapS, hl_6, h9_6]
  exact fin_ret (by simp only [↓reduceIte, Nat.reduceAdd, Nat.reduceMul, Nat.reduceSub, Nat.reduceLT, Nat.reduceLeDiff, Nat.reduceEqDiff, Nat.reducePow, Int.reducePow, Int.reduceLE, Int.reduceLT, Int.reduceEq, Int.reduceToNat, reduceCtorEq, R0, fn_out, p80, Rs.ev, mapO, mapS, take_len_self, hl_6, h9_6, frzs (α := Int) zo0_1, takes (α := Int) zo0_1])
def F81_1_B (a0 : List Int) (v3_1 : Int) (s : Unit) : Option ((Unit) ⊕ ((Unit) ⊕ Int)) :=
  (getI a0 v3_1).bind fun x4 =>
if x4 = 0 then
  some (.inl ())
else
  some (.inr (.inr v3_1))
def F81_1_D (a0 : List Int) (v3_1 : Int) (s : Unit) : Option ((Unit) ⊕ Int) :=
  some (.inl ())
def F81 (a0 : List Int) : Option Int :=
  (forR 0 (a0.length : Int) (F81_1_B a0) (F81_1_D a0) ()).bind fun t7 => match t7 with
    | .inl _ =>
      some (-1)
    | .inr r8 => some r8
def I81_1 (a0 : List Int)  (v3_1 : Int) (s : Unit) (e : Env) (h : Heap) : Prop :=
  ∃ k2 : Nat, h = ⟨[], k2⟩ ∧ e.length = 16 ∧ e.at 0 = V.isl (a0.map Enc.enc) ∧ e.at 3 = V.int .i64 v3_1
def P81_1 (a0 : List Int)  (t : (Unit) ⊕ Int) (x : Ex) (e : Env) (h : Heap) : Prop :=
  match t with
  | .inl _ => x = .normal ∧ ∃ k2 : Nat, h = ⟨[], k2⟩ ∧ e.length = 16
  | .inr r => x = .ret ∧ Fin p81 (Enc.enc r) .ret e h
theorem l81_1 (a0 : List Int)   {lo : Int} {s : Unit} {t : (Unit) ⊕ Int} (hF : forR lo (a0.length : Int) (F81_1_B a0) (F81_1_D a0) s = some t) {e : Env} {h : Heap} (hI : I81_1 a0  lo s e h) : W A c81_1 e h (P81_1 a0  t) := by
  show W A (.block 0 (.loop false b81_1)) e h _
  rw [W_block]
  refine W_forR hF 0 (by obtain ⟨_, rfl, _⟩ := hI; rfl) (I81_1 a0 ) hI ?_ ?_
  · rintro v3_1 _ e h ⟨k2, rfl, h_1⟩ hlt hw o ho
    unfold F81_1_B at ho
    obtain ⟨x4, gx4, ho⟩ := bS ho
    obtain ⟨w5a, w5b⟩ := getI_w gx4
    by_cases c6 : x4 = 0
    · rw [if_pos c6] at ho
      cases ho
      simp only [simprocAttr, R0, opEv, fillV, mapO, mapS, b81_1, h_1, eq_true hlt, hw, w5a, w5b, eq_true c6]
      refine And.intro rfl (Exists.intro _ ( And.intro rfl ?_))
      simp only [simprocAttr, R0, h_1, eq_true hlt, hw, w5a, w5b, eq_true c6]
    · rw [if_neg c6] at ho
      cases ho
      simp only [simprocAttr, R0, opEv, fillV, mapO, mapS, b81_1, h_1, eq_true hlt, hw, w5a, w5b, eq_false c6]
      intro ht; subst ht
      simp only [simprocAttr, RR, RB]
      exact And.intro rfl (fin_ret (by simp only [simprocAttr, R0, fn_out, p81, Rs.ev, mapO, mapS, take_len_self, h_1, eq_true hlt, hw, w5a, w5b, eq_false c6]))
  · rintro v3_1 _ e h ⟨k2, rfl, h_1⟩ hge t1 ho
    unfold F81_1_D at ho
    cases ho
    simp only [simprocAttr, R0, opEv, fillV, mapO, mapS, b81_1, h_1, eq_false hge]
    intro ht; subst ht
    refine And.intro rfl (Exists.intro _ ( And.intro rfl ?_))
    simp only [simprocAttr, R0, h_1, eq_false hge]
theorem s81 (a0 : List Int)   {r : Int} (hF : F81 a0 = some r) : ans A 81 [V.isl (a0.map Enc.enc)] = some (Enc.enc r) := by
  refine ans_of (f := p81) rfl rfl rfl fun e hl he => ?_
  have h0_0 : e.at 0 = V.isl (a0.map Enc.enc) := he 0 _ rfl
  have hl_0 : e.length = 16 := hl
  clear he hl
  have h_0 := And.intro hl_0 h0_0
  show W A b81 e ⟨[], 0⟩ _
  unfold F81 at hF
  obtain ⟨t7, gt7, hF⟩ := bS hF
  rcases t7 with _ | r8
  · dsimp only at hF
    simp only [simprocAttr, R0, opEv, fillV, mapO, mapS, b81, h_0]
    refine W.mono (l81_1 a0   gt7 (Exists.intro _ ( And.intro rfl ?_))) ?_
    · simp only [simprocAttr, R0, h_0]
    rintro _ e _ ⟨rfl, k2, rfl, hl_3⟩
    cases hF
    simp only [simprocAttr, R0, opEv, fillV, mapO, mapS, hl_3]
    exact fin_ret (by simp only [simprocAttr, R0, fn_out, p81, Rs.ev, mapO, mapS, take_len_self, hl_3])
  · dsimp only at hF
    cases hF
    simp only [simprocAttr, R0, opEv, fillV, mapO, mapS, b81, h_0]
    refine W.mono (l81_1 a0   gt7 (Exists.intro _ ( And.intro rfl ?_))) ?_
    · simp only [simprocAttr, R0, h_0]
    rintro _ e h ⟨rfl, hq⟩
    simp only [simprocAttr, RR, RB]
    exact hq
def F39_1_B (a0 : GComplex) (v3_1 : Int) (s : Unit) : Option ((Unit) ⊕ ((Unit) ⊕ Bool)) :=
  (getI a0.Dims v3_1).bind fun x10 =>
(F54 x10 0 8).bind fun x12 =>
if x12 = true then
  some (.inl ())
else
  some (.inr (.inr false))
def F39_1_D (a0 : GComplex) (v3_1 : Int) (s : Unit) : Option ((Unit) ⊕ Bool) :=
  some (.inl ())
def F39_3_S (a0 : GComplex) (v4_2 : Int) (v5_3 : Int) : Option ((Int) ⊕ ((Unit) ⊕ Bool)) :=
  (getI a0.Maps v4_2).bind fun x29 =>
if v5_3 < (x29.length : Int) then
  if 0 < v4_2 then
    (chk (v4_2 - 1)).bind fun x33 =>
    (getI a0.Maps x33).bind fun x34 =>
    (getI x29 v5_3).bind fun x36 =>
    (getI a0.Dims x33).bind fun x38 =>
    (F80 a0.Prime x34 x36 x38).bind fun x40 =>
    (F81 x40).bind fun x42 =>
    if 0 ≤ x42 then
      some (.inr (.inr false))
    else
      (chk (v5_3 + 1)).bind fun x45 =>
      some (.inl x45)
  else
    some (.inr (.inl ()))
else
  some (.inr (.inl ()))
def F39_2_B (a0 : GComplex) (v4_2 : Int) (s : Unit) : Option ((Unit) ⊕ ((Unit) ⊕ Bool)) :=
  (getI a0.Maps v4_2).bind fun x18 =>
(getI a0.Dims (v4_2 + 1)).bind fun x20 =>
(getI a0.Dims v4_2).bind fun x22 =>
(F79 a0.Prime x18 x20 x22).bind fun x24 =>
if x24 = true then
  (loopW (F39_3_S a0 v4_2) 0).bind fun t46 => match t46 with
    | .inl _ =>
      some (.inl ())
    | .inr r47 => some (.inr (.inr r47))
else
  some (.inr (.inr false))
def F39_2_D (a0 : GComplex) (v4_2 : Int) (s : Unit) : Option ((Unit) ⊕ Bool) :=
  some (.inl ())
def F39 (a0 : GComplex) : Option Bool :=
  (F78 a0.Prime).bind fun x1 =>
  if x1 = true then
    if (a0.Dims.length : Int) < 1 then
      some false
    else
      if 6 < (a0.Dims.length : Int) then
        some false
      else
        (chk ((a0.Dims.length : Int) - 1)).bind fun x5 =>
        if (a0.Maps.length : Int) = x5 then
          (forR 0 (a0.Dims.length : Int) (F39_1_B a0) (F39_1_D a0) ()).bind fun t14 => match t14 with
            | .inl _ =>
              (forR 0 (a0.Maps.length : Int) (F39_2_B a0) (F39_2_D a0) ()).bind fun t48 => match t48 with
                | .inl _ =>
                  some true
                | .inr r49 => some r49
            | .inr r50 => some r50
        else
          some false
  else
    some false
def I39_1 (a0 : GComplex)  (v3_1 : Int) (s : Unit) (e : Env) (h : Heap) : Prop :=
  ∃ k8 : Nat, h = ⟨[(0, none)], k8⟩ ∧ e.length = 112 ∧ e.at 1 = V.iptr [V.int .i64 a0.Prime, V.isl (a0.Dims.map Enc.enc), V.isl (a0.Maps.map Enc.enc)] ∧ e.at 3 = V.int .i64 v3_1
def P39_1 (a0 : GComplex)  (t : (Unit) ⊕ Bool) (x : Ex) (e : Env) (h : Heap) : Prop :=
  match t with
  | .inl _ => x = .normal ∧ ∃ k8 : Nat, h = ⟨[(0, none)], k8⟩ ∧ e.length = 112 ∧ e.at 1 = V.iptr [V.int .i64 a0.Prime, V.isl (a0.Dims.map Enc.enc), V.isl (a0.Maps.map Enc.enc)]
  | .inr r => x = .ret ∧ Fin p39 (Enc.enc r) .ret e h
theorem l39_1 (a0 : GComplex)   {lo : Int} {s : Unit} {t : (Unit) ⊕ Bool} (hF : forR lo (a0.Dims.length : Int) (F39_1_B a0) (F39_1_D a0) s = some t) {e : Env} {h : Heap} (hI : I39_1 a0  lo s e h) : W A c39_1 e h (P39_1 a0  t) := by
  show W A (.block 0 (.loop false b39_1)) e h _
  rw [W_block]
  refine W_forR hF 1 (by obtain ⟨_, rfl, _⟩ := hI; rfl) (I39_1 a0 ) hI ?_ ?_
  · rintro v3_1 _ e h ⟨k8, rfl, h_7⟩ hlt hw o ho
    unfold F39_1_B at ho
    obtain ⟨x10, gx10, ho⟩ := bS ho
    obtain ⟨w11a, w11b⟩ := getI_w gx10
    obtain ⟨x12, gx12, ho⟩ := bS ho
    have w13 : ans A 54 [V.int .i64 x10, V.int .i64 0, V.int .i64 8] = some (V.bool x12) := s54 x10 0 8  gx12
    cases x12 with
    | true =>
      rw [if_pos rfl] at ho
      cases ho
      simp only [simprocAttr, R0, opEv, fillV, mapO, mapS, b39_1, h_7, eq_true hlt, hw, w11a, w11b, w13]
      refine And.intro rfl (Exists.intro _ ( And.intro rfl ?_))
      simp only [simprocAttr, R0, h_7, eq_true hlt, hw, w11a, w11b, w13]
    | false =>
      rw [if_neg Bool.false_ne_true] at ho
      cases ho
      simp only [simprocAttr, R0, opEv, fillV, mapO, mapS, b39_1, h_7, eq_true hlt, hw, w11a, w11b, w13]
      intro ht; subst ht
      simp only [simprocAttr, RR, RB]
      exact And.intro rfl (fin_ret (by simp only [simprocAttr, R0, fn_out, p39, Rs.ev, mapO, mapS, take_len_self, h_7, eq_true hlt, hw, w11a, w11b, w13]))
  · rintro v3_1 _ e h ⟨k8, rfl, h_7⟩ hge t1 ho
    unfold F39_1_D at ho
    cases ho
    simp only [simprocAttr, R0, opEv, fillV, mapO, mapS, b39_1, h_7, eq_false hge]
    intro ht; subst ht
    refine And.intro rfl (Exists.intro _ ( And.intro rfl ?_))
    simp only [simprocAttr, R0, h_7, eq_false hge]
def I39_3 (a0 : GComplex) (v4_2 : Int)  (v5_3 : Int) (e : Env) (h : Heap) : Prop :=
  ∃ k27 : Nat, h = ⟨[(0, none)], k27⟩ ∧ e.length = 112 ∧ e.at 1 = V.iptr [V.int .i64 a0.Prime, V.isl (a0.Dims.map Enc.enc), V.isl (a0.Maps.map Enc.enc)] ∧ e.at 4 = V.int .i64 v4_2 ∧ e.at 5 = V.int .i64 v5_3
def P39_3 (a0 : GComplex) (v4_2 : Int)  (t : (Unit) ⊕ Bool) (x : Ex) (e : Env) (h : Heap) : Prop :=
  match t with
  | .inl _ => x = .normal ∧ ∃ k27 : Nat, h = ⟨[(0, none)], k27⟩ ∧ e.length = 112 ∧ e.at 1 = V.iptr [V.int .i64 a0.Prime, V.isl (a0.Dims.map Enc.enc), V.isl (a0.Maps.map Enc.enc)] ∧ e.at 4 = V.int .i64 v4_2
  | .inr r => x = .ret ∧ Fin p39 (Enc.enc r) .ret e h
theorem l39_3 (a0 : GComplex) (v4_2 : Int)   {s : Int} {t : (Unit) ⊕ Bool} (hF : loopW (F39_3_S a0 v4_2) s = some t) {e : Env} {h : Heap} (hI : I39_3 a0 v4_2  s e h) : W A c39_3 e h (P39_3 a0 v4_2  t) := by
  show W A (.block 4 (.loop false b39_3)) e h _
  rw [W_block]
  refine W_loop hF 1 (by obtain ⟨_, rfl, _⟩ := hI; rfl) (I39_3 a0 v4_2 ) hI ?_
  · rintro v5_3 e h ⟨k27, rfl, h_26⟩ o ho
    unfold F39_3_S at ho
    obtain ⟨x29, gx29, ho⟩ := bS ho
    obtain ⟨w30a, w30b⟩ := getI_w gx29
    by_cases c31 : v5_3 < (x29.length : Int)
    · rw [if_pos c31] at ho
      by_cases c32 : 0 < v4_2
      · rw [if_pos c32] at ho
        obtain ⟨x33, gx33, ho⟩ := bS ho
        have wx33 := chk_w gx33
        obtain ⟨x34, gx34, ho⟩ := bS ho
        obtain ⟨w35a, w35b⟩ := getI_w gx34
        obtain ⟨x36, gx36, ho⟩ := bS ho
        obtain ⟨w37a, w37b⟩ := getI_w gx36
        obtain ⟨x38, gx38, ho⟩ := bS ho
        obtain ⟨w39a, w39b⟩ := getI_w gx38
        obtain ⟨x40, gx40, ho⟩ := bS ho
        have w41 : ans A 80 [V.int .i64 a0.Prime, V.isl (x34.map Enc.enc), V.isl (x36.map Enc.enc), V.int .i64 x38] = some (V.isl (x40.map Enc.enc)) := s80 a0.Prime x34 x36 x38  gx40
        obtain ⟨x42, gx42, ho⟩ := bS ho
        have w43 : ans A 81 [V.isl (x40.map Enc.enc)] = some (V.int .i64 x42) := s81 x40  gx42
        by_cases c44 : 0 ≤ x42
        · rw [if_pos c44] at ho
          cases ho
          simp only [simprocAttr, R0, opEv, fillV, mapO, mapS, b39_3, h_26, w30a, w30b, eq_true c31, eq_true c32, wx33, w35a, w35b, w37a, w37b, w39a, w39b, w41, w43, eq_true c44]
          intro ht; subst ht
          simp only [simprocAttr, RR, RB]
          exact And.intro rfl (fin_ret (by simp only [simprocAttr, R0, fn_out, p39, Rs.ev, mapO, mapS, take_len_self, h_26, w30a, w30b, eq_true c31, eq_true c32, wx33, w35a, w35b, w37a, w37b, w39a, w39b, w41, w43, eq_true c44]))
        · rw [if_neg c44] at ho
          obtain ⟨x45, gx45, ho⟩ := bS ho
          have wx45 := chk_w gx45
          cases ho
          simp only [simprocAttr, R0, opEv, fillV, mapO, mapS, b39_3, h_26, w30a, w30b, eq_true c31, eq_true c32, wx33, w35a, w35b, w37a, w37b, w39a, w39b, w41, w43, eq_false c44, wx45]
          refine And.intro rfl (Exists.intro _ ( And.intro rfl ?_))
          simp only [simprocAttr, R0, h_26, w30a, w30b, eq_true c31, eq_true c32, wx33, w35a, w35b, w37a, w37b, w39a, w39b, w41, w43, eq_false c44, wx45]
      · rw [if_neg c32] at ho
        cases ho
        simp only [simprocAttr, R0, opEv, fillV, mapO, mapS, b39_3, h_26, w30a, w30b, eq_true c31, eq_false c32]
        intro ht; subst ht
        simp only [simprocAttr, RR, RB]
        refine And.intro rfl (Exists.intro _ ( And.intro rfl ?_))
        simp only [simprocAttr, R0, h_26, w30a, w30b, eq_true c31, eq_false c32]
    · rw [if_neg c31] at ho
      cases ho
      simp only [simprocAttr, R0, opEv, fillV, mapO, mapS, b39_3, h_26, w30a, w30b, eq_false c31]
      intro ht; subst ht
      simp only [simprocAttr, RR, RB]
      refine And.intro rfl (Exists.intro _ ( And.intro rfl ?_))
      simp only [simprocAttr, R0, h_26, w30a, w30b, eq_false c31]
def I39_2 (a0 : GComplex)  (v4_2 : Int) (s : Unit) (e : Env) (h : Heap) : Prop :=
  ∃ k16 : Nat, h = ⟨[(0, none)], k16⟩ ∧ e.length = 112 ∧ e.at 1 = V.iptr [V.int .i64 a0.Prime, V.isl (a0.Dims.map Enc.enc), V.isl (a0.Maps.map Enc.enc)] ∧ e.at 4 = V.int .i64 v4_2
def P39_2 (a0 : GComplex)  (t : (Unit) ⊕ Bool) (x : Ex) (e : Env) (h : Heap) : Prop :=
  match t with
  | .inl _ => x = .normal ∧ ∃ k16 : Nat, h = ⟨[(0, none)], k16⟩ ∧ e.length = 112
  | .inr r => x = .ret ∧ Fin p39 (Enc.enc r) .ret e h
theorem l39_2 (a0 : GComplex)   {lo : Int} {s : Unit} {t : (Unit) ⊕ Bool} (hF : forR lo (a0.Maps.length : Int) (F39_2_B a0) (F39_2_D a0) s = some t) {e : Env} {h : Heap} (hI : I39_2 a0  lo s e h) : W A c39_2 e h (P39_2 a0  t) := by
  show W A (.block 2 (.loop false b39_2)) e h _
  rw [W_block]
  refine W_forR hF 1 (by obtain ⟨_, rfl, _⟩ := hI; rfl) (I39_2 a0 ) hI ?_ ?_
  · rintro v4_2 _ e h ⟨k16, rfl, h_15⟩ hlt hw o ho
    unfold F39_2_B at ho
    obtain ⟨x18, gx18, ho⟩ := bS ho
    obtain ⟨w19a, w19b⟩ := getI_w gx18
    obtain ⟨x20, gx20, ho⟩ := bS ho
    obtain ⟨w21a, w21b⟩ := getI_w gx20
    obtain ⟨x22, gx22, ho⟩ := bS ho
    obtain ⟨w23a, w23b⟩ := getI_w gx22
    obtain ⟨x24, gx24, ho⟩ := bS ho
    have w25 : ans A 79 [V.int .i64 a0.Prime, V.isl (x18.map Enc.enc), V.int .i64 x20, V.int .i64 x22] = some (V.bool x24) := s79 a0.Prime x18 x20 x22  gx24
    cases x24 with
    | true =>
      rw [if_pos rfl] at ho
      obtain ⟨t46, gt46, ho⟩ := bS ho
      rcases t46 with _ | r47
      · dsimp only at ho
        simp only [simprocAttr, R0, opEv, fillV, mapO, mapS, b39_2, h_15, eq_true hlt, hw, w19a, w19b, w21a, w21b, w23a, w23b, w25]
        refine W.mono (l39_3 a0 v4_2   gt46 (Exists.intro _ ( And.intro rfl ?_))) ?_
        · simp only [simprocAttr, R0, h_15, eq_true hlt, hw, w19a, w19b, w21a, w21b, w23a, w23b, w25]
        rintro _ e _ ⟨rfl, k27, rfl, h_28⟩
        cases ho
        simp only [simprocAttr, R0, opEv, fillV, mapO, mapS, h_28, eq_true hlt, hw]
        refine And.intro rfl (Exists.intro _ ( And.intro rfl ?_))
        simp only [simprocAttr, R0, h_28, eq_true hlt, hw]
      · dsimp only at ho
        cases ho
        simp only [simprocAttr, R0, opEv, fillV, mapO, mapS, b39_2, h_15, eq_true hlt, hw, w19a, w19b, w21a, w21b, w23a, w23b, w25]
        refine W.mono (l39_3 a0 v4_2   gt46 (Exists.intro _ ( And.intro rfl ?_))) ?_
        · simp only [simprocAttr, R0, h_15, eq_true hlt, hw, w19a, w19b, w21a, w21b, w23a, w23b, w25]
        rintro _ e h ⟨rfl, hq⟩
        simp only [simprocAttr, RR, RB]
        intro ht; subst ht
        simp only [simprocAttr, RR, RB]
        exact And.intro rfl hq
    | false =>
      rw [if_neg Bool.false_ne_true] at ho
      cases ho
      simp only [simprocAttr, R0, opEv, fillV, mapO, mapS, b39_2, h_15, eq_true hlt, hw, w19a, w19b, w21a, w21b, w23a, w23b, w25]
      intro ht; subst ht
      simp only [simprocAttr, RR, RB]
      exact And.intro rfl (fin_ret (by simp only [simprocAttr, R0, fn_out, p39, Rs.ev, mapO, mapS, take_len_self, h_15, eq_true hlt, hw, w19a, w19b, w21a, w21b, w23a, w23b, w25]))
  · rintro v4_2 _ e h ⟨k16, rfl, h_15⟩ hge t1 ho
    unfold F39_2_D at ho
    cases ho
    simp only [simprocAttr, R0, opEv, fillV, mapO, mapS, b39_2, h_15, eq_false hge]
    intro ht; subst ht
    refine And.intro rfl (Exists.intro _ ( And.intro rfl ?_))
    simp only [simprocAttr, R0, h_15, eq_false hge]
theorem s39 (a0 : GComplex)   {r : Bool} (hF : F39 a0 = some r) : ans A 39 [(eC a0)] = some (Enc.enc r) := by
  refine ans_of (f := p39) rfl rfl rfl fun e hl he => ?_
  have h0_0 : e.at 0 = (eC a0) := he 0 _ rfl
  have hl_0 : e.length = 112 := hl
  clear he hl
  have h_0 := And.intro hl_0 h0_0
  show W A b39 e ⟨[], 0⟩ _
  unfold F39 at hF
  obtain ⟨x1, gx1, hF⟩ := bS hF
  have w2 : ans A 78 [V.int .i64 a0.Prime] = some (V.bool x1) := s78 a0.Prime  gx1
  cases x1 with
  | true =>
    rw [if_pos rfl] at hF
    by_cases c3 : (a0.Dims.length : Int) < 1
    · rw [if_pos c3] at hF
      cases hF
      simp only [simprocAttr, R0, opEv, fillV, mapO, mapS, b39, h_0, w2, eq_true c3]
      exact fin_ret (by simp only [simprocAttr, R0, fn_out, p39, Rs.ev, mapO, mapS, take_len_self, h_0, w2, eq_true c3])
    · rw [if_neg c3] at hF
      by_cases c4 : 6 < (a0.Dims.length : Int)
      · rw [if_pos c4] at hF
        cases hF
        simp only [simprocAttr, R0, opEv, fillV, mapO, mapS, b39, h_0, w2, eq_false c3, eq_true c4]
        exact fin_ret (by simp only [simprocAttr, R0, fn_out, p39, Rs.ev, mapO, mapS, take_len_self, h_0, w2, eq_false c3, eq_true c4])
      · rw [if_neg c4] at hF
        obtain ⟨x5, gx5, hF⟩ := bS hF
        have wx5 := chk_w gx5
        by_cases c6 : (a0.Maps.length : Int) = x5
        · rw [if_pos c6] at hF
          obtain ⟨t14, gt14, hF⟩ := bS hF
          rcases t14 with _ | r50
          · dsimp only at hF
            simp only [simprocAttr, R0, opEv, fillV, mapO, mapS, b39, h_0, w2, eq_false c3, eq_false c4, wx5, eq_true c6]
            refine W.mono (l39_1 a0   gt14 (Exists.intro _ ( And.intro rfl ?_))) ?_
            · simp only [simprocAttr, R0, h_0, w2, eq_false c3, eq_false c4, wx5, eq_true c6]
            rintro _ e _ ⟨rfl, k8, rfl, h_9⟩
            obtain ⟨t48, gt48, hF⟩ := bS hF
            rcases t48 with _ | r49
            · dsimp only at hF
              simp only [simprocAttr, R0, opEv, fillV, mapO, mapS, h_9, eq_false c3, eq_false c4, eq_true c6]
              refine W.mono (l39_2 a0   gt48 (Exists.intro _ ( And.intro rfl ?_))) ?_
              · simp only [simprocAttr, R0, h_9, eq_false c3, eq_false c4, eq_true c6]
              rintro _ e _ ⟨rfl, k16, rfl, hl_17⟩
              cases hF
              simp only [simprocAttr, R0, opEv, fillV, mapO, mapS, hl_17, eq_false c3, eq_false c4, eq_true c6]
              exact fin_ret (by simp only [simprocAttr, R0, fn_out, p39, Rs.ev, mapO, mapS, take_len_self, hl_17, eq_false c3, eq_false c4, eq_true c6])
            · dsimp only at hF
              cases hF
              simp only [simprocAttr, R0, opEv, fillV, mapO, mapS, h_9, eq_false c3, eq_false c4, eq_true c6]
              refine W.mono (l39_2 a0   gt48 (Exists.intro _ ( And.intro rfl ?_))) ?_
              · simp only [simprocAttr, R0, h_9, eq_false c3, eq_false c4, eq_true c6]
              rintro _ e h ⟨rfl, hq⟩
              simp only [simprocAttr, RR, RB]
              exact hq
          · dsimp only at hF
            cases hF
            simp only [simprocAttr, R0, opEv, fillV, mapO, mapS, b39, h_0, w2, eq_false c3, eq_false c4, wx5, eq_true c6]
            refine W.mono (l39_1 a0   gt14 (Exists.intro _ ( And.intro rfl ?_))) ?_
            · simp only [simprocAttr, R0, h_0, w2, eq_false c3, eq_false c4, wx5, eq_true c6]
            rintro _ e h ⟨rfl, hq⟩
            simp only [simprocAttr, RR, RB]
            exact hq
        · rw [if_neg c6] at hF
          cases hF
          simp only [simprocAttr, R0, opEv, fillV, mapO, mapS, b39, h_0, w2, eq_false c3, eq_false c4, wx5, eq_false c6]
          exact fin_ret (by simp only [simprocAttr, R0, fn_out, p39, Rs.ev, mapO, mapS, take_len_self, h_0, w2, eq_false c3, eq_false c4, wx5, eq_false c6])
  | false =>
    rw [if_neg Bool.false_ne_true] at hF
    cases hF
    simp only [simprocAttr, R0, opEv, fillV, mapO, mapS, b39, h_0, w2]
    exact fin_ret (by simp only [simprocAttr, R0, fn_out, p39, Rs.ev, mapO, mapS, take_len_self, h_0, w2])
def F99 (a0 : GComplex) (a1 : Int) : Option Int :=
  (chk ((a0.Dims.length : Int) - 1)).bind fun x1 =>
  (F54 a1 0 x1).bind fun x2 =>
  if x2 = true then
    (getI a0.Dims a1).bind fun x4 =>
    some x4
  else
    some 0
theorem s99 (a0 : GComplex) (a1 : Int)   {r : Int} (hF : F99 a0 a1 = some r) : ans A 99 [(eC a0), V.int .i64 a1] = some (Enc.enc r) := by
  refine ans_of (f := p99) rfl rfl rfl fun e hl he => ?_
  have h0_0 : e.at 0 = (eC a0) := he 0 _ rfl
  have h1_0 : e.at 1 = V.int .i64 a1 := he 1 _ rfl
  have hl_0 : e.length = 17 := hl
  clear he hl
  have h_0 := And.intro hl_0 (And.intro h0_0 h1_0)
  show W A b99 e ⟨[], 0⟩ _
  unfold F99 at hF
  obtain ⟨x1, gx1, hF⟩ := bS hF
  have wx1 := chk_w gx1
  obtain ⟨x2, gx2, hF⟩ := bS hF
  have w3 : ans A 54 [V.int .i64 a1, V.int .i64 0, V.int .i64 x1] = some (V.bool x2) := s54 a1 0 x1  gx2
  cases x2 with
  | true =>
    rw [if_pos rfl] at hF
    obtain ⟨x4, gx4, hF⟩ := bS hF
    obtain ⟨w5a, w5b⟩ := getI_w gx4
    cases hF
    simp only [simprocAttr, R0, opEv, fillV, mapO, mapS, b99, h_0, wx1, w3, w5a, w5b]
    exact fin_ret (by simp only [simprocAttr, R0, fn_out, p99, Rs.ev, mapO, mapS, take_len_self, h_0, wx1, w3, w5a, w5b])
  | false =>
    rw [if_neg Bool.false_ne_true] at hF
    cases hF
    simp only [simprocAttr, R0, opEv, fillV, mapO, mapS, b99, h_0, wx1, w3]
    exact fin_ret (by simp only [simprocAttr, R0, fn_out, p99, Rs.ev, mapO, mapS, take_len_self, h_0, wx1, w3])
def F76_1_S (a0 : GComplex) (a1 : Int) (s : (List (List Int)) × Int) : Option (((List (List Int)) × Int) ⊕ ((List (List Int)))) :=
  match s with
  | (o1_1, v6_1) =>
    (F99 a0 a1).bind fun x11 =>
    if v6_1 < x11 then
      (app 24 o1_1 ([([] : List Int)])).bind fun l15 =>
      (chk (v6_1 + 1)).bind fun x16 =>
      some (.inl (l15, x16))
    else
      some (.inr o1_1)
def F76 (a0 : GComplex) (a1 : Int) : Option (List (List Int)) :=
  (chk ((a0.Dims.length : Int) - 1)).bind fun x1 =>
  (F54 a1 1 x1).bind fun x2 =>
  if x2 = true then
    (chk (a1 - 1)).bind fun x4 =>
    (getI a0.Maps x4).bind fun x5 =>
    some x5
  else
    (loopW (F76_1_S a0 a1) ([], 0)).bind fun zo1_1 =>
    some zo1_1
def I76_1 (a0 : GComplex) (a1 : Int)  (s : (List (List Int)) × Int) (e : Env) (h : Heap) : Prop :=
  match s with
  | (o1_1, v6_1) =>
    ∃ u8 k9 : Nat, h = ⟨[(0, none), (u8, some (o1_1.map Enc.enc))], k9⟩ ∧ e.length = 32 ∧ e.at 1 = V.int .i64 a1 ∧ e.at 2 = V.iptr [V.int .i64 a0.Prime, V.isl (a0.Dims.map Enc.enc), V.isl (a0.Maps.map Enc.enc)] ∧ e.at 5 = V.sl 1 u8 0 o1_1.length 1 ∧ e.at 6 = V.int .i64 v6_1
def P76_1 (a0 : GComplex) (a1 : Int)  (zo1_1 : (List (List Int))) (x : Ex) (e : Env) (h : Heap) : Prop :=
  x = .normal ∧ ∃ u8 k9 : Nat, h = ⟨[(0, none), (u8, some (zo1_1.map Enc.enc))], k9⟩ ∧ e.length = 32 ∧ e.at 5 = V.sl 1 u8 0 zo1_1.length 1
theorem l76_1 (a0 : GComplex) (a1 : Int)   {s : (List (List Int)) × Int} {t : (List (List Int))} (hF : loopW (F76_1_S a0 a1) s = some t) {e : Env} {h : Heap} (hI : I76_1 a0 a1  s e h) : W A c76_1 e h (P76_1 a0 a1  t) := by
  show W A (.block 0 (.loop false b76_1)) e h _
  rw [W_block]
  refine W_loop hF 2 (by rcases s with ⟨_, _⟩; obtain ⟨_, _, rfl, _⟩ := hI; rfl) (I76_1 a0 a1 ) hI ?_
  · rintro ⟨o1_1, v6_1⟩ e h ⟨u8, k9, rfl, h_7⟩ o ho
    unfold F76_1_S at ho
    dsimp only at ho
    obtain ⟨x11, gx11, ho⟩ := bS ho
    have w12 : ans A 99 [(eC a0), V.int .i64 a1] = some (V.int .i64 x11) := s99 a0 a1  gx11
    by_cases c13 : v6_1 < x11
    · rw [if_pos c13] at ho
      obtain ⟨l15, gl15, ho⟩ := bS ho
      have w14 := fun a b c d e => appendV_w (α := List Int) (n := o1_1.length) (m := 1) (ds := [V.isl []]) gl15 (by first | rfl | simp) (by first | rfl | simp) rfl a b c d e
      have w14l := app_len gl15
      obtain ⟨x16, gx16, ho⟩ := bS ho
      have wx16 := chk_w gx16
      cases ho
      simp only [simprocAttr, R0, opEv, fillV, mapO, mapS, b76_1, h_7, w12, eq_true c13, w14, wx16]
      refine And.intro rfl (Exists.intro _ ( Exists.intro _ ( And.intro rfl ?_)))
      simp only [simprocAttr, R0, h_7, w12, eq_true c13, w14, wx16]
    · rw [if_neg c13] at ho
      cases ho
      simp only [simprocAttr, R0, opEv, fillV, mapO, mapS, b76_1, h_7, w12, eq_false c13]
      intro ht; subst ht
      simp only [simprocAttr, RR, RB]
      refine And.intro rfl (Exists.intro _ ( Exists.intro _ ( And.intro rfl ?_)))
      simp only [simprocAttr, R0, h_7, w12, eq_false c13]
theorem s76 (a0 : GComplex) (a1 : Int)   {r : List (List Int)} (hF : F76 a0 a1 = some r) : ans A 76 [(eC a0), V.int .i64 a1] = some (Enc.enc r) := by
  refine ans_of (f := p76) rfl rfl rfl fun e hl he => ?_
  have h0_0 : e.at 0 = (eC a0) := he 0 _ rfl
  have h1_0 : e.at 1 = V.int .i64 a1 := he 1 _ rfl
  have hl_0 : e.length = 32 := hl
  clear he hl
  have h_0 := And.intro hl_0 (And.intro h0_0 h1_0)
  show W A b76 e ⟨[], 0⟩ _
  unfold F76 at hF
  obtain ⟨x1, gx1, hF⟩ := bS hF
  have wx1 := chk_w gx1
  obtain ⟨x2, gx2, hF⟩ := bS hF
  have w3 : ans A 54 [V.int .i64 a1, V.int .i64 1, V.int .i64 x1] = some (V.bool x2) := s54 a1 1 x1  gx2
  cases x2 with
  | true =>
    rw [if_pos rfl] at hF
    obtain ⟨x4, gx4, hF⟩ := bS hF
    have wx4 := chk_w gx4
    obtain ⟨x5, gx5, hF⟩ := bS hF
    obtain ⟨w6a, w6b⟩ := getI_w gx5
    have hE := Option.some.inj hF; subst hE
    simp only [simprocAttr, R0, opEv, fillV, mapO, mapS, b76, h_0, wx1, w3, wx4, w6a, w6b]
    exact fin_ret (by simp only [simprocAttr, R0, fn_out, p76, Rs.ev, mapO, mapS, take_len_self, h_0, wx1, w3, wx4, w6a, w6b])
  | false =>
    rw [if_neg Bool.false_ne_true] at hF
    obtain ⟨zo1_1, gt17, hF⟩ := bS hF
    simp only [simprocAttr, R0, opEv, fillV, mapO, mapS, b76, h_0, wx1, w3]
    refine W.mono (l76_1 a0 a1   gt17 (Exists.intro _ ( Exists.intro _ ( And.intro rfl ?_)))) ?_
    · simp only [simprocAttr, R0, h_0, wx1, w3]
    rintro _ e _ ⟨rfl, u8, k9, rfl, h_10⟩
    have hE := Option.some.inj hF; subst hE
    simp only [simprocAttr, R0, opEv, fillV, mapO, mapS, h_10]
    exact fin_ret (by simp only [simprocAttr, R0, fn_out, p76, Rs.ev, mapO, mapS, take_len_self, h_10, frzs (α := List Int) zo1_1, takes (α := List Int) zo1_1])
def F77 (a0 : GFiltered) (a1 : Int) (a2 : Int) : Option Int :=
  (getI a0.Levels a1).bind fun x1 =>
  (getI x1 a2).bind fun x3 =>
  some x3
theorem s77 (a0 : GFiltered) (a1 : Int) (a2 : Int)   {r : Int} (hF : F77 a0 a1 a2 = some r) : ans A 77 [(eF a0), V.int .i64 a1, V.int .i64 a2] = some (Enc.enc r) := by
  refine ans_of (f := p77) rfl rfl rfl fun e hl he => ?_
  have h0_0 : e.at 0 = (eF a0) := he 0 _ rfl
  have h1_0 : e.at 1 = V.int .i64 a1 := he 1 _ rfl
  have h2_0 : e.at 2 = V.int .i64 a2 := he 2 _ rfl
  have hl_0 : e.length = 15 := hl
  clear he hl
  show W A b77 e ⟨[], 0⟩ _
  unfold F77 at hF
  obtain ⟨x1, gx1, hF⟩ := bS hF
  obtain ⟨w2a, w2b⟩ := getI_w gx1
  obtain ⟨x3, gx3, hF⟩ := bS hF
  obtain ⟨w4a, w4b⟩ := getI_w gx3
  cases hF
  simp only [simprocAttr, R0, opEv, fillV, mapO, mapS, b77, hl_0, h0_0, h1_0, h2_0, w2a, w2b, w4a, w4b]
  exact fin_ret (by simp only [simprocAttr, R0, fn_out, p77, Rs.ev, mapO, mapS, take_len_self, hl_0, h0_0, h1_0, h2_0, w2a, w2b, w4a, w4b])
def F38_2_S (a0 : GFiltered) (v3_1 : Int) (v4_2 : Int) : Option ((Int) ⊕ ((Unit) ⊕ Bool)) :=
  (getI a0.Levels v3_1).bind fun x15 =>
if v4_2 < (x15.length : Int) then
  (getI x15 v4_2).bind fun x18 =>
  (F54 x18 0 5).bind fun x20 =>
  if x20 = true then
    (chk (v4_2 + 1)).bind fun x22 =>
    some (.inl x22)
  else
    some (.inr (.inr false))
else
  some (.inr (.inl ()))
def F38_1_B (a0 : GFiltered) (v3_1 : Int) (s : Unit) : Option ((Unit) ⊕ ((Unit) ⊕ Bool)) :=
  (getI a0.Levels v3_1).bind fun x7 =>
(getI a0.Complex.Dims v3_1).bind fun x9 =>
if (x7.length : Int) = x9 then
  (loopW (F38_2_S a0 v3_1) 0).bind fun t23 => match t23 with
    | .inl _ =>
      some (.inl ())
    | .inr r24 => some (.inr (.inr r24))
else
  some (.inr (.inr false))
def F38_1_D (a0 : GFiltered) (v3_1 : Int) (s : Unit) : Option ((Unit) ⊕ Bool) :=
  some (.inl ())
def F38_5_S (a0 : GFiltered) (v5_3 : Int) (x29 : List (List Int)) (v7_4 : Int) (v8_5 : Int) : Option ((Int) ⊕ ((Unit) ⊕ Bool)) :=
  (getI x29 v7_4).bind fun x37 =>
if v8_5 < (x37.length : Int) then
  (getI x37 v8_5).bind fun x40 =>
  if x40 = 0 then
    (chk (v8_5 + 1)).bind fun x43 =>
    some (.inl x43)
  else
    (chk (v5_3 - 1)).bind fun x44 =>
    (F77 a0 x44 v8_5).bind fun x45 =>
    (F77 a0 v5_3 v7_4).bind fun x47 =>
    if x47 < x45 then
      some (.inr (.inr false))
    else
      (chk (v8_5 + 1)).bind fun x50 =>
      some (.inl x50)
else
  some (.inr (.inl ()))
def F38_4_B (a0 : GFiltered) (v5_3 : Int) (x29 : List (List Int)) (v7_4 : Int) (s : Unit) : Option ((Unit) ⊕ ((Unit) ⊕ Bool)) :=
  (loopW (F38_5_S a0 v5_3 x29 v7_4) 0).bind fun t51 => match t51 with
  | .inl _ =>
    some (.inl ())
  | .inr r52 => some (.inr (.inr r52))
def F38_4_D (a0 : GFiltered) (v5_3 : Int) (x29 : List (List Int)) (v7_4 : Int) (s : Unit) : Option ((Unit) ⊕ Bool) :=
  some (.inl ())
def F38_3_B (a0 : GFiltered) (v5_3 : Int) (s : Unit) : Option ((Unit) ⊕ ((Unit) ⊕ Bool)) :=
  (F76 a0.Complex v5_3).bind fun x29 =>
(forR 0 (x29.length : Int) (F38_4_B a0 v5_3 x29) (F38_4_D a0 v5_3 x29) ()).bind fun t53 => match t53 with
  | .inl _ =>
    some (.inl ())
  | .inr r54 => some (.inr (.inr r54))
def F38_3_D (a0 : GFiltered) (v5_3 : Int) (s : Unit) : Option ((Unit) ⊕ Bool) :=
  some (.inl ())
def F38 (a0 : GFiltered) : Option Bool :=
  (F39 a0.Complex).bind fun x1 =>
  if x1 = true then
    if (a0.Levels.length : Int) = (a0.Complex.Dims.length : Int) then
      (forR 0 (a0.Levels.length : Int) (F38_1_B a0) (F38_1_D a0) ()).bind fun t25 => match t25 with
        | .inl _ =>
          (forR 1 (a0.Levels.length : Int) (F38_3_B a0) (F38_3_D a0) ()).bind fun t55 => match t55 with
            | .inl _ =>
              some true
            | .inr r56 => some r56
        | .inr r57 => some r57
    else
      some false
  else
    some false
def I38_2 (a0 : GFiltered) (v3_1 : Int)  (v4_2 : Int) (e : Env) (h : Heap) : Prop :=
  ∃ k13 : Nat, h = ⟨[(0, none)], k13⟩ ∧ e.length = 109 ∧ e.at 1 = V.iptr [V.int .i64 a0.Complex.Prime, V.isl (a0.Complex.Dims.map Enc.enc), V.isl (a0.Complex.Maps.map Enc.enc), V.isl (a0.Levels.map Enc.enc)] ∧ e.at 3 = V.int .i64 v3_1 ∧ e.at 4 = V.int .i64 v4_2
def P38_2 (a0 : GFiltered) (v3_1 : Int)  (t : (Unit) ⊕ Bool) (x : Ex) (e : Env) (h : Heap) : Prop :=
  match t with
  | .inl _ => x = .normal ∧ ∃ k13 : Nat, h = ⟨[(0, none)], k13⟩ ∧ e.length = 109 ∧ e.at 1 = V.iptr [V.int .i64 a0.Complex.Prime, V.isl (a0.Complex.Dims.map Enc.enc), V.isl (a0.Complex.Maps.map Enc.enc), V.isl (a0.Levels.map Enc.enc)] ∧ e.at 3 = V.int .i64 v3_1
  | .inr r => x = .ret ∧ Fin p38 (Enc.enc r) .ret e h
theorem l38_2 (a0 : GFiltered) (v3_1 : Int)   {s : Int} {t : (Unit) ⊕ Bool} (hF : loopW (F38_2_S a0 v3_1) s = some t) {e : Env} {h : Heap} (hI : I38_2 a0 v3_1  s e h) : W A c38_2 e h (P38_2 a0 v3_1  t) := by
  show W A (.block 2 (.loop false b38_2)) e h _
  rw [W_block]
  refine W_loop hF 1 (by obtain ⟨_, rfl, _⟩ := hI; rfl) (I38_2 a0 v3_1 ) hI ?_
  · rintro v4_2 e h ⟨k13, rfl, h_12⟩ o ho
    unfold F38_2_S at ho
    obtain ⟨x15, gx15, ho⟩ := bS ho
    obtain ⟨w16a, w16b⟩ := getI_w gx15
    by_cases c17 : v4_2 < (x15.length : Int)
    · rw [if_pos c17] at ho
      obtain ⟨x18, gx18, ho⟩ := bS ho
      obtain ⟨w19a, w19b⟩ := getI_w gx18
      obtain ⟨x20, gx20, ho⟩ := bS ho
      have w21 : ans A 54 [V.int .i64 x18, V.int .i64 0, V.int .i64 5] = some (V.bool x20) := s54 x18 0 5  gx20
      cases x20 with
      | true =>
        rw [if_pos rfl] at ho
        obtain ⟨x22, gx22, ho⟩ := bS ho
        have wx22 := chk_w gx22
        cases ho
        simp only [simprocAttr, R0, opEv, fillV, mapO, mapS, b38_2, h_12, w16a, w16b, eq_true c17, w19a, w19b, w21, wx22]
        refine And.intro rfl (Exists.intro _ ( And.intro rfl ?_))
        simp only [simprocAttr, R0, h_12, w16a, w16b, eq_true c17, w19a, w19b, w21, wx22]
      | false =>
        rw [if_neg Bool.false_ne_true] at ho
        cases ho
        simp only [simprocAttr, R0, opEv, fillV, mapO, mapS, b38_2, h_12, w16a, w16b, eq_true c17, w19a, w19b, w21]
        intro ht; subst ht
        simp only [simprocAttr, RR, RB]
        exact And.intro rfl (fin_ret (by simp only [simprocAttr, R0, fn_out, p38, Rs.ev, mapO, mapS, take_len_self, h_12, w16a, w16b, eq_true c17, w19a, w19b, w21]))
    · rw [if_neg c17] at ho
      cases ho
      simp only [simprocAttr, R0, opEv, fillV, mapO, mapS, b38_2, h_12, w16a, w16b, eq_false c17]
      intro ht; subst ht
      simp only [simprocAttr, RR, RB]
      refine And.intro rfl (Exists.intro _ ( And.intro rfl ?_))
      simp only [simprocAttr, R0, h_12, w16a, w16b, eq_false c17]
def I38_1 (a0 : GFiltered)  (v3_1 : Int) (s : Unit) (e : Env) (h : Heap) : Prop :=
  ∃ k5 : Nat, h = ⟨[(0, none)], k5⟩ ∧ e.length = 109 ∧ e.at 1 = V.iptr [V.int .i64 a0.Complex.Prime, V.isl (a0.Complex.Dims.map Enc.enc), V.isl (a0.Complex.Maps.map Enc.enc), V.isl (a0.Levels.map Enc.enc)] ∧ e.at 3 = V.int .i64 v3_1
def P38_1 (a0 : GFiltered)  (t : (Unit) ⊕ Bool) (x : Ex) (e : Env) (h : Heap) : Prop :=
  match t with
  | .inl _ => x = .normal ∧ ∃ k5 : Nat, h = ⟨[(0, none)], k5⟩ ∧ e.length = 109 ∧ e.at 1 = V.iptr [V.int .i64 a0.Complex.Prime, V.isl (a0.Complex.Dims.map Enc.enc), V.isl (a0.Complex.Maps.map Enc.enc), V.isl (a0.Levels.map Enc.enc)]
  | .inr r => x = .ret ∧ Fin p38 (Enc.enc r) .ret e h
theorem l38_1 (a0 : GFiltered)   {lo : Int} {s : Unit} {t : (Unit) ⊕ Bool} (hF : forR lo (a0.Levels.length : Int) (F38_1_B a0) (F38_1_D a0) s = some t) {e : Env} {h : Heap} (hI : I38_1 a0  lo s e h) : W A c38_1 e h (P38_1 a0  t) := by
  show W A (.block 0 (.loop false b38_1)) e h _
  rw [W_block]
  refine W_forR hF 1 (by obtain ⟨_, rfl, _⟩ := hI; rfl) (I38_1 a0 ) hI ?_ ?_
  · rintro v3_1 _ e h ⟨k5, rfl, h_4⟩ hlt hw o ho
    unfold F38_1_B at ho
    obtain ⟨x7, gx7, ho⟩ := bS ho
    obtain ⟨w8a, w8b⟩ := getI_w gx7
    obtain ⟨x9, gx9, ho⟩ := bS ho
    obtain ⟨w10a, w10b⟩ := getI_w gx9
    by_cases c11 : (x7.length : Int) = x9
    · rw [if_pos c11] at ho
      obtain ⟨t23, gt23, ho⟩ := bS ho
      rcases t23 with _ | r24
      · dsimp only at ho
        simp only [simprocAttr, R0, opEv, fillV, mapO, mapS, b38_1, h_4, eq_true hlt, hw, w8a, w8b, w10a, w10b, eq_true c11]
        refine W.mono (l38_2 a0 v3_1   gt23 (Exists.intro _ ( And.intro rfl ?_))) ?_
        · simp only [simprocAttr, R0, h_4, eq_true hlt, hw, w8a, w8b, w10a, w10b, eq_true c11]
        rintro _ e _ ⟨rfl, k13, rfl, h_14⟩
        cases ho
        simp only [simprocAttr, R0, opEv, fillV, mapO, mapS, h_14, eq_true hlt, hw, eq_true c11]
        refine And.intro rfl (Exists.intro _ ( And.intro rfl ?_))
        simp only [simprocAttr, R0, h_14, eq_true hlt, hw, eq_true c11]
      · dsimp only at ho
        cases ho
        simp only [simprocAttr, R0, opEv, fillV, mapO, mapS, b38_1, h_4, eq_true hlt, hw, w8a, w8b, w10a, w10b, eq_true c11]
        refine W.mono (l38_2 a0 v3_1   gt23 (Exists.intro _ ( And.intro rfl ?_))) ?_
        · simp only [simprocAttr, R0, h_4, eq_true hlt, hw, w8a, w8b, w10a, w10b, eq_true c11]
        rintro _ e h ⟨rfl, hq⟩
        simp only [simprocAttr, RR, RB]
        intro ht; subst ht
        simp only [simprocAttr, RR, RB]
        exact And.intro rfl hq
    · rw [if_neg c11] at ho
      cases ho
      simp only [simprocAttr, R0, opEv, fillV, mapO, mapS, b38_1, h_4, eq_true hlt, hw, w8a, w8b, w10a, w10b, eq_false c11]
      intro ht; subst ht
      simp only [simprocAttr, RR, RB]
      exact And.intro rfl (fin_ret (by simp only [simprocAttr, R0, fn_out, p38, Rs.ev, mapO, mapS, take_len_self, h_4, eq_true hlt, hw, w8a, w8b, w10a, w10b, eq_false c11]))
  · rintro v3_1 _ e h ⟨k5, rfl, h_4⟩ hge t1 ho
    unfold F38_1_D at ho
    cases ho
    simp only [simprocAttr, R0, opEv, fillV, mapO, mapS, b38_1, h_4, eq_false hge]
    intro ht; subst ht
    refine And.intro rfl (Exists.intro _ ( And.intro rfl ?_))
    simp only [simprocAttr, R0, h_4, eq_false hge]
def I38_5 (a0 : GFiltered) (v5_3 : Int) (x29 : List (List Int)) (v7_4 : Int)  (v8_5 : Int) (e : Env) (h : Heap) : Prop :=
  ∃ k35 : Nat, h = ⟨[(0, none)], k35⟩ ∧ e.length = 109 ∧ e.at 1 = V.iptr [V.int .i64 a0.Complex.Prime, V.isl (a0.Complex.Dims.map Enc.enc), V.isl (a0.Complex.Maps.map Enc.enc), V.isl (a0.Levels.map Enc.enc)] ∧ e.at 5 = V.int .i64 v5_3 ∧ e.at 6 = V.isl (x29.map Enc.enc) ∧ e.at 7 = V.int .i64 v7_4 ∧ e.at 8 = V.int .i64 v8_5
def P38_5 (a0 : GFiltered) (v5_3 : Int) (x29 : List (List Int)) (v7_4 : Int)  (t : (Unit) ⊕ Bool) (x : Ex) (e : Env) (h : Heap) : Prop :=
  match t with
  | .inl _ => x = .normal ∧ ∃ k35 : Nat, h = ⟨[(0, none)], k35⟩ ∧ e.length = 109 ∧ e.at 1 = V.iptr [V.int .i64 a0.Complex.Prime, V.isl (a0.Complex.Dims.map Enc.enc), V.isl (a0.Complex.Maps.map Enc.enc), V.isl (a0.Levels.map Enc.enc)] ∧ e.at 5 = V.int .i64 v5_3 ∧ e.at 6 = V.isl (x29.map Enc.enc) ∧ e.at 7 = V.int .i64 v7_4
  | .inr r => x = .ret ∧ Fin p38 (Enc.enc r) .ret e h
theorem l38_5 (a0 : GFiltered) (v5_3 : Int) (x29 : List (List Int)) (v7_4 : Int)   {s : Int} {t : (Unit) ⊕ Bool} (hF : loopW (F38_5_S a0 v5_3 x29 v7_4) s = some t) {e : Env} {h : Heap} (hI : I38_5 a0 v5_3 x29 v7_4  s e h) : W A c38_5 e h (P38_5 a0 v5_3 x29 v7_4  t) := by
  show W A (.block 8 (.loop false b38_5)) e h _
  rw [W_block]
  refine W_loop hF 1 (by obtain ⟨_, rfl, _⟩ := hI; rfl) (I38_5 a0 v5_3 x29 v7_4 ) hI ?_
  · rintro v8_5 e h ⟨k35, rfl, h_34⟩ o ho
    unfold F38_5_S at ho
    obtain ⟨x37, gx37, ho⟩ := bS ho
    obtain ⟨w38a, w38b⟩ := getI_w gx37
    by_cases c39 : v8_5 < (x37.length : Int)
    · rw [if_pos c39] at ho
      obtain ⟨x40, gx40, ho⟩ := bS ho
      obtain ⟨w41a, w41b⟩ := getI_w gx40
      by_cases c42 : x40 = 0
      · rw [if_pos c42] at ho
        obtain ⟨x43, gx43, ho⟩ := bS ho
        have wx43 := chk_w gx43
        cases ho
        simp only [simprocAttr, R0, opEv, fillV, mapO, mapS, b38_5, h_34, w38a, w38b, eq_true c39, w41a, w41b, eq_true c42, wx43]
        refine And.intro rfl (Exists.intro _ ( And.intro rfl ?_))
        simp only [simprocAttr, R0, h_34, w38a, w38b, eq_true c39, w41a, w41b, eq_true c42, wx43]
      · rw [if_neg c42] at ho
        obtain ⟨x44, gx44, ho⟩ := bS ho
        have wx44 := chk_w gx44
        obtain ⟨x45, gx45, ho⟩ := bS ho
        have w46 : ans A 77 [(eF a0), V.int .i64 x44, V.int .i64 v8_5] = some (V.int .i64 x45) := s77 a0 x44 v8_5  gx45
        obtain ⟨x47, gx47, ho⟩ := bS ho
        have w48 : ans A 77 [(eF a0), V.int .i64 v5_3, V.int .i64 v7_4] = some (V.int .i64 x47) := s77 a0 v5_3 v7_4  gx47
        by_cases c49 : x47 < x45
        · rw [if_pos c49] at ho
          cases ho
          simp only [simprocAttr, R0, opEv, fillV, mapO, mapS, b38_5, h_34, w38a, w38b, eq_true c39, w41a, w41b, eq_false c42, wx44, w46, w48, eq_true c49]
          intro ht; subst ht
          simp only [simprocAttr, RR, RB]
          exact And.intro rfl (fin_ret (by simp only [simprocAttr, R0, fn_out, p38, Rs.ev, mapO, mapS, take_len_self, h_34, w38a, w38b, eq_true c39, w41a, w41b, eq_false c42, wx44, w46, w48, eq_true c49]))
        · rw [if_neg c49] at ho
          obtain ⟨x50, gx50, ho⟩ := bS ho
          have wx50 := chk_w gx50
          cases ho
          simp only [simprocAttr, R0, opEv, fillV, mapO, mapS, b38_5, h_34, w38a, w38b, eq_true c39, w41a, w41b, eq_false c42, wx44, w46, w48, eq_false c49, wx50]
          refine And.intro rfl (Exists.intro _ ( And.intro rfl ?_))
          simp only [simprocAttr, R0, h_34, w38a, w38b, eq_true c39, w41a, w41b, eq_false c42, wx44, w46, w48, eq_false c49, wx50]
    · rw [if_neg c39] at ho
      cases ho
      simp only [simprocAttr, R0, opEv, fillV, mapO, mapS, b38_5, h_34, w38a, w38b, eq_false c39]
      intro ht; subst ht
      simp only [simprocAttr, RR, RB]
      refine And.intro rfl (Exists.intro _ ( And.intro rfl ?_))
      simp only [simprocAttr, R0, h_34, w38a, w38b, eq_false c39]
def I38_4 (a0 : GFiltered) (v5_3 : Int) (x29 : List (List Int))  (v7_4 : Int) (s : Unit) (e : Env) (h : Heap) : Prop :=
  ∃ k32 : Nat, h = ⟨[(0, none)], k32⟩ ∧ e.length = 109 ∧ e.at 1 = V.iptr [V.int .i64 a0.Complex.Prime, V.isl (a0.Complex.Dims.map Enc.enc), V.isl (a0.Complex.Maps.map Enc.enc), V.isl (a0.Levels.map Enc.enc)] ∧ e.at 5 = V.int .i64 v5_3 ∧ e.at 6 = V.isl (x29.map Enc.enc) ∧ e.at 7 = V.int .i64 v7_4
def P38_4 (a0 : GFiltered) (v5_3 : Int) (x29 : List (List Int))  (t : (Unit) ⊕ Bool) (x : Ex) (e : Env) (h : Heap) : Prop :=
  match t with
  | .inl _ => x = .normal ∧ ∃ k32 : Nat, h = ⟨[(0, none)], k32⟩ ∧ e.length = 109 ∧ e.at 1 = V.iptr [V.int .i64 a0.Complex.Prime, V.isl (a0.Complex.Dims.map Enc.enc), V.isl (a0.Complex.Maps.map Enc.enc), V.isl (a0.Levels.map Enc.enc)] ∧ e.at 5 = V.int .i64 v5_3
  | .inr r => x = .ret ∧ Fin p38 (Enc.enc r) .ret e h
theorem l38_4 (a0 : GFiltered) (v5_3 : Int) (x29 : List (List Int))   {lo : Int} {s : Unit} {t : (Unit) ⊕ Bool} (hF : forR lo (x29.length : Int) (F38_4_B a0 v5_3 x29) (F38_4_D a0 v5_3 x29) s = some t) {e : Env} {h : Heap} (hI : I38_4 a0 v5_3 x29  lo s e h) : W A c38_4 e h (P38_4 a0 v5_3 x29  t) := by
  show W A (.block 6 (.loop false b38_4)) e h _
  rw [W_block]
  refine W_forR hF 1 (by obtain ⟨_, rfl, _⟩ := hI; rfl) (I38_4 a0 v5_3 x29 ) hI ?_ ?_
  · rintro v7_4 _ e h ⟨k32, rfl, h_31⟩ hlt hw o ho
    unfold F38_4_B at ho
    obtain ⟨t51, gt51, ho⟩ := bS ho
    rcases t51 with _ | r52
    · dsimp only at ho
      simp only [simprocAttr, R0, opEv, fillV, mapO, mapS, b38_4, h_31, eq_true hlt, hw]
      refine W.mono (l38_5 a0 v5_3 x29 v7_4   gt51 (Exists.intro _ ( And.intro rfl ?_))) ?_
      · simp only [simprocAttr, R0, h_31, eq_true hlt, hw]
      rintro _ e _ ⟨rfl, k35, rfl, h_36⟩
      cases ho
      simp only [simprocAttr, R0, opEv, fillV, mapO, mapS, h_36, eq_true hlt, hw]
      refine And.intro rfl (Exists.intro _ ( And.intro rfl ?_))
      simp only [simprocAttr, R0, h_36, eq_true hlt, hw]
    · dsimp only at ho
      cases ho
      simp only [simprocAttr, R0, opEv, fillV, mapO, mapS, b38_4, h_31, eq_true hlt, hw]
      refine W.mono (l38_5 a0 v5_3 x29 v7_4   gt51 (Exists.intro _ ( And.intro rfl ?_))) ?_
      · simp only [simprocAttr, R0, h_31, eq_true hlt, hw]
      rintro _ e h ⟨rfl, hq⟩
      simp only [simprocAttr, RR, RB]
      intro ht; subst ht
      simp only [simprocAttr, RR, RB]
      exact And.intro rfl hq
  · rintro v7_4 _ e h ⟨k32, rfl, h_31⟩ hge t1 ho
    unfold F38_4_D at ho
    cases ho
    simp only [simprocAttr, R0, opEv, fillV, mapO, mapS, b38_4, h_31, eq_false hge]
    intro ht; subst ht
    refine And.intro rfl (Exists.intro _ ( And.intro rfl ?_))
    simp only [simprocAttr, R0, h_31, eq_false hge]
def I38_3 (a0 : GFiltered)  (v5_3 : Int) (s : Unit) (e : Env) (h : Heap) : Prop :=
  ∃ k27 : Nat, h = ⟨[(0, none)], k27⟩ ∧ e.length = 109 ∧ e.at 1 = V.iptr [V.int .i64 a0.Complex.Prime, V.isl (a0.Complex.Dims.map Enc.enc), V.isl (a0.Complex.Maps.map Enc.enc), V.isl (a0.Levels.map Enc.enc)] ∧ e.at 5 = V.int .i64 v5_3
def P38_3 (a0 : GFiltered)  (t : (Unit) ⊕ Bool) (x : Ex) (e : Env) (h : Heap) : Prop :=
  match t with
  | .inl _ => x = .normal ∧ ∃ k27 : Nat, h = ⟨[(0, none)], k27⟩ ∧ e.length = 109
  | .inr r => x = .ret ∧ Fin p38 (Enc.enc r) .ret e h
theorem l38_3 (a0 : GFiltered)   {lo : Int} {s : Unit} {t : (Unit) ⊕ Bool} (hF : forR lo (a0.Levels.length : Int) (F38_3_B a0) (F38_3_D a0) s = some t) {e : Env} {h : Heap} (hI : I38_3 a0  lo s e h) : W A c38_3 e h (P38_3 a0  t) := by
  show W A (.block 4 (.loop false b38_3)) e h _
  rw [W_block]
  refine W_forR hF 1 (by obtain ⟨_, rfl, _⟩ := hI; rfl) (I38_3 a0 ) hI ?_ ?_
  · rintro v5_3 _ e h ⟨k27, rfl, h_26⟩ hlt hw o ho
    unfold F38_3_B at ho
    obtain ⟨x29, gx29, ho⟩ := bS ho
    have w30 : ans A 76 [(eC a0.Complex), V.int .i64 v5_3] = some (V.isl (x29.map Enc.enc)) := s76 a0.Complex v5_3  gx29
    obtain ⟨t53, gt53, ho⟩ := bS ho
    rcases t53 with _ | r54
    · dsimp only at ho
      simp only [simprocAttr, R0, opEv, fillV, mapO, mapS, b38_3, h_26, eq_true hlt, hw, w30]
      refine W.mono (l38_4 a0 v5_3 x29   gt53 (Exists.intro _ ( And.intro rfl ?_))) ?_
      · simp only [simprocAttr, R0, h_26, eq_true hlt, hw, w30]
      rintro _ e _ ⟨rfl, k32, rfl, h_33⟩
      cases ho
      simp only [simprocAttr, R0, opEv, fillV, mapO, mapS, h_33, eq_true hlt, hw]
      refine And.intro rfl (Exists.intro _ ( And.intro rfl ?_))
      simp only [simprocAttr, R0, h_33, eq_true hlt, hw]
    · dsimp only at ho
      cases ho
      simp only [simprocAttr, R0, opEv, fillV, mapO, mapS, b38_3, h_26, eq_true hlt, hw, w30]
      refine W.mono (l38_4 a0 v5_3 x29   gt53 (Exists.intro _ ( And.intro rfl ?_))) ?_
      · simp only [simprocAttr, R0, h_26, eq_true hlt, hw, w30]
      rintro _ e h ⟨rfl, hq⟩
      simp only [simprocAttr, RR, RB]
      intro ht; subst ht
      simp only [simprocAttr, RR, RB]
      exact And.intro rfl hq
  · rintro v5_3 _ e h ⟨k27, rfl, h_26⟩ hge t1 ho
    unfold F38_3_D at ho
    cases ho
    simp only [simprocAttr, R0, opEv, fillV, mapO, mapS, b38_3, h_26, eq_false hge]
    intro ht; subst ht
    refine And.intro rfl (Exists.intro _ ( And.intro rfl ?_))
    simp only [simprocAttr, R0, h_26, eq_false hge]
theorem s38 (a0 : GFiltered)   {r : Bool} (hF : F38 a0 = some r) : ans A 38 [(eF a0)] = some (Enc.enc r) := by
  refine ans_of (f := p38) rfl rfl rfl fun e hl he => ?_
  have h0_0 : e.at 0 = (eF a0) := he 0 _ rfl
  have hl_0 : e.length = 109 := hl
  clear he hl
  have h_0 := And.intro hl_0 h0_0
  show W A b38 e ⟨[], 0⟩ _
  unfold F38 at hF
  obtain ⟨x1, gx1, hF⟩ := bS hF
  have w2 : ans A 39 [(eC a0.Complex)] = some (V.bool x1) := s39 a0.Complex  gx1
  cases x1 with
  | true =>
    rw [if_pos rfl] at hF
    by_cases c3 : (a0.Levels.length : Int) = (a0.Complex.Dims.length : Int)
    · rw [if_pos c3] at hF
      obtain ⟨t25, gt25, hF⟩ := bS hF
      rcases t25 with _ | r57
      · dsimp only at hF
        simp only [simprocAttr, R0, opEv, fillV, mapO, mapS, b38, h_0, w2, eq_true c3]
        refine W.mono (l38_1 a0   gt25 (Exists.intro _ ( And.intro rfl ?_))) ?_
        · simp only [simprocAttr, R0, h_0, w2, eq_true c3]
        rintro _ e _ ⟨rfl, k5, rfl, h_6⟩
        obtain ⟨t55, gt55, hF⟩ := bS hF
        rcases t55 with _ | r56
        · dsimp only at hF
          simp only [simprocAttr, R0, opEv, fillV, mapO, mapS, h_6, eq_true c3]
          refine W.mono (l38_3 a0   gt55 (Exists.intro _ ( And.intro rfl ?_))) ?_
          · simp only [simprocAttr, R0, h_6, eq_true c3]
          rintro _ e _ ⟨rfl, k27, rfl, hl_28⟩
          cases hF
          simp only [simprocAttr, R0, opEv, fillV, mapO, mapS, hl_28, eq_true c3]
          exact fin_ret (by simp only [simprocAttr, R0, fn_out, p38, Rs.ev, mapO, mapS, take_len_self, hl_28, eq_true c3])
        · dsimp only at hF
          cases hF
          simp only [simprocAttr, R0, opEv, fillV, mapO, mapS, h_6, eq_true c3]
          refine W.mono (l38_3 a0   gt55 (Exists.intro _ ( And.intro rfl ?_))) ?_
          · simp only [simprocAttr, R0, h_6, eq_true c3]
          rintro _ e h ⟨rfl, hq⟩
          simp only [simprocAttr, RR, RB]
          exact hq
      · dsimp only at hF
        cases hF
        simp only [simprocAttr, R0, opEv, fillV, mapO, mapS, b38, h_0, w2, eq_true c3]
        refine W.mono (l38_1 a0   gt25 (Exists.intro _ ( And.intro rfl ?_))) ?_
        · simp only [simprocAttr, R0, h_0, w2, eq_true c3]
        rintro _ e h ⟨rfl, hq⟩
        simp only [simprocAttr, RR, RB]
        exact hq
    · rw [if_neg c3] at hF
      cases hF
      simp only [simprocAttr, R0, opEv, fillV, mapO, mapS, b38, h_0, w2, eq_false c3]
      exact fin_ret (by simp only [simprocAttr, R0, fn_out, p38, Rs.ev, mapO, mapS, take_len_self, h_0, w2, eq_false c3])
  | false =>
    rw [if_neg Bool.false_ne_true] at hF
    cases hF
    simp only [simprocAttr, R0, opEv, fillV, mapO, mapS, b38, h_0, w2]
    exact fin_ret (by simp only [simprocAttr, R0, fn_out, p38, Rs.ev, mapO, mapS, take_len_self, h_0, w2])
def F94 (a0 : List Int) : Option (List Int) :=
  (app 8 ([] : List Int) a0).bind fun l2 =>
  some l2
theorem s94 (a0 : List Int)   {r : List Int} (hF : F94 a0 = some r) : ans A 94 [V.isl (a0.map Enc.enc)] = some (Enc.enc r) := by
  refine ans_of (f := p94) rfl rfl rfl fun e hl he => ?_
  have h0_0 : e.at 0 = V.isl (a0.map Enc.enc) := he 0 _ rfl
  have hl_0 : e.length = 6 := hl
  clear he hl
  show W A b94 e ⟨[], 0⟩ _
  unfold F94 at hF
  obtain ⟨l2, gl2, hF⟩ := bS hF
  have w1 := fun ents key uid clk he => appendV_w (α := Int) (n := 0) (m := a0.length) (ds := List.map Enc.enc a0) gl2 (by first | rfl | simp only [List.length_nil]) (by first | rfl | simp only [List.length_nil]) rfl ents key uid clk he
  have w1l := app_len gl2
  have hE := Option.some.inj hF; subst hE
  simp only [simprocAttr, R0, opEv, fillV, mapO, mapS, b94, hl_0, h0_0, w1]
  exact fin_ret (by simp only [simprocAttr, R0, fn_out, p94, Rs.ev, mapO, mapS, take_len_self, hl_0, h0_0, w1, frzs (α := Int) l2, takes (α := Int) l2])
theorem t94 (a0 : List Int)   {r : List Int} (hF : F94 a0 = some r) : tans A 94 [1] [V.isl (a0.map Enc.enc)] = some (Enc.enc r) := by
  refine tans_of (f := p94) rfl rfl rfl fun e hl he => ?_
  have h0_0 : e.at 0 = V.isl (a0.map Enc.enc) := he 0 _ rfl
  have hl_0 : e.length = 6 := hl
  clear he hl
  show W A b94 e ⟨[], 0⟩ _
  unfold F94 at hF
  obtain ⟨l2, gl2, hF⟩ := bS hF
  have w1 := fun ents key uid clk he => appendV_w (α := Int) (n := 0) (m := a0.length) (ds := List.map Enc.enc a0) gl2 (by first | rfl | simp only [List.length_nil]) (by first | rfl | simp only [List.length_nil]) rfl ents key uid clk he
  have w1l := app_len gl2
  have hE := Option.some.inj hF; subst hE
  simp only [simprocAttr, R0, opEv, fillV, mapO, mapS, b94, hl_0, h0_0, w1]
  exact tfin_ret (by simp only [simprocAttr, R0, fn_out, p94, Rs.ev, mapO, mapS, take_len_self, hl_0, h0_0, w1, frzs (α := Int) l2, takes (α := Int) l2])
def F127 (a0 : Int) (a1 : Int) : Option Int :=
  (remI a1 a0).bind fun x1 =>
  (chk (x1 + a0)).bind fun x3 =>
  (remI x3 a0).bind fun x4 =>
  some x4
theorem s127 (a0 : Int) (a1 : Int)   {r : Int} (hF : F127 a0 a1 = some r) : ans A 127 [V.int .i64 a0, V.int .i64 a1] = some (Enc.enc r) := by
  refine ans_of (f := p127) rfl rfl rfl fun e hl he => ?_
  have h0_0 : e.at 0 = V.int .i64 a0 := he 0 _ rfl
  have h1_0 : e.at 1 = V.int .i64 a1 := he 1 _ rfl
  have hl_0 : e.length = 12 := hl
  clear he hl
  show W A b127 e ⟨[], 0⟩ _
  unfold F127 at hF
  obtain ⟨x1, gx1, hF⟩ := bS hF
  obtain ⟨w2a, w2b⟩ := rem_w gx1
  obtain ⟨x3, gx3, hF⟩ := bS hF
  have wx3 := chk_w gx3
  obtain ⟨x4, gx4, hF⟩ := bS hF
  obtain ⟨w5a, w5b⟩ := rem_w gx4
  cases hF
  simp only [simprocAttr, R0, opEv, fillV, mapO, mapS, b127, hl_0, h0_0, h1_0, eq_false w2a, w2b, wx3, eq_false w5a, w5b]
  exact fin_ret (by simp only [simprocAttr, R0, fn_out, p127, Rs.ev, mapO, mapS, take_len_self, hl_0, h0_0, h1_0, eq_false w2a, w2b, wx3, eq_false w5a, w5b])
def F136_1_B (a0 : Int) (a1 : List Int) (a2 : List Int) (a3 : Int) (v10_1 : Int) (o0_1 : (List Int)) : Option (((List Int)) ⊕ ((List Int))) :=
  (getI a1 v10_1).bind fun x5 =>
(getI a2 v10_1).bind fun x7 =>
(chk (a3 * x7)).bind fun x9 =>
(chk (x5 - x9)).bind fun x10 =>
(F127 a0 x10).bind fun x11 =>
(app 8 o0_1 [x11]).bind fun l14 =>
some (.inl l14)
def F136_1_D (a0 : Int) (a1 : List Int) (a2 : List Int) (a3 : Int) (v10_1 : Int) (o0_1 : (List Int)) : Option ((List Int)) :=
  some o0_1
def F136 (a0 : Int) (a1 : List Int) (a2 : List Int) (a3 : Int) : Option (List Int) :=
  (forR 0 (a1.length : Int) (F136_1_B a0 a1 a2 a3) (F136_1_D a0 a1 a2 a3) ([] : (List Int))).bind fun zo0_1 =>
  some zo0_1
def I136_1 (a0 : Int) (a1 : List Int) (a2 : List Int) (a3 : Int)  (v10_1 : Int) (o0_1 : (List Int)) (e : Env) (h : Heap) : Prop :=
  ∃ u2 k3 : Nat, h = ⟨[(u2, some (o0_1.map Enc.enc))], k3⟩ ∧ e.length = 35 ∧ e.at 0 = V.int .i64 a0 ∧ e.at 1 = V.isl (a1.map Enc.enc) ∧ e.at 2 = V.isl (a2.map Enc.enc) ∧ e.at 3 = V.int .i64 a3 ∧ e.at 9 = V.sl 0 u2 0 o0_1.length 1 ∧ e.at 10 = V.int .i64 v10_1
def P136_1 (a0 : Int) (a1 : List Int) (a2 : List Int) (a3 : Int)  (zo0_1 : (List Int)) (x : Ex) (e : Env) (h : Heap) : Prop :=
  x = .normal ∧ ∃ u2 k3 : Nat, h = ⟨[(u2, some (zo0_1.map Enc.enc))], k3⟩ ∧ e.length = 35 ∧ e.at 9 = V.sl 0 u2 0 zo0_1.length 1
theorem l136_1 (a0 : Int) (a1 : List Int) (a2 : List Int) (a3 : Int)   {lo : Int} {s : (List Int)} {t : (List Int)} (hF : forR lo (a1.length : Int) (F136_1_B a0 a1 a2 a3) (F136_1_D a0 a1 a2 a3) s = some t) {e : Env} {h : Heap} (hI : I136_1 a0 a1 a2 a3  lo s e h) : W A c136_1 e h (P136_1 a0 a1 a2 a3  t) := by
  show W A (.block 0 (.loop false b136_1)) e h _
  rw [W_block]
  refine W_forR hF 1 (by obtain ⟨_, _, rfl, _⟩ := hI; rfl) (I136_1 a0 a1 a2 a3 ) hI ?_ ?_
  · rintro v10_1 o0_1 e h ⟨u2, k3, rfl, h_1⟩ hlt hw o ho
    unfold F136_1_B at ho
    obtain ⟨x5, gx5, ho⟩ := bS ho
    obtain ⟨w6a, w6b⟩ := getI_w gx5
    obtain ⟨x7, gx7, ho⟩ := bS ho
    obtain ⟨w8a, w8b⟩ := getI_w gx7
    obtain ⟨x9, gx9, ho⟩ := bS ho
    have wx9 := chk_w gx9
    obtain ⟨x10, gx10, ho⟩ := bS ho
    have wx10 := chk_w gx10
    obtain ⟨x11, gx11, ho⟩ := bS ho
    have w12 : ans A 127 [V.int .i64 a0, V.int .i64 x10] = some (V.int .i64 x11) := s127 a0 x10  gx11
    obtain ⟨l14, gl14, ho⟩ := bS ho
    have w13 := fun a b c d e => appendV_w (α := Int) (n := o0_1.length) (m := 1) (ds := [V.int .i64 x11]) gl14 (by first | rfl | simp) (by first | rfl | simp) rfl a b c d e
    have w13l := app_len gl14
    cases ho
    simp only [simprocAttr, R0, opEv, fillV, mapO, mapS, b136_1, h_1, eq_true hlt, hw, w6a, w6b, w8a, w8b, wx9, wx10, w12, w13]
    refine And.intro rfl (Exists.intro _ ( Exists.intro _ ( And.intro rfl ?_)))
    simp only [simprocAttr, R0, h_1, eq_true hlt, hw, w6a, w6b, w8a, w8b, wx9, wx10, w12, w13]
  · rintro v10_1 o0_1 e h ⟨u2, k3, rfl, h_1⟩ hge t1 ho
    unfold F136_1_D at ho
    cases ho
    simp only [simprocAttr, R0, opEv, fillV, mapO, mapS, b136_1, h_1, eq_false hge]
    intro ht; subst ht
    refine And.intro rfl (Exists.intro _ ( Exists.intro _ ( And.intro rfl ?_)))
    simp only [simprocAttr, R0, h_1, eq_false hge]
theorem t136 (a0 : Int) (a1 : List Int) (a2 : List Int) (a3 : Int)   {r : List Int} (hF : F136 a0 a1 a2 a3 = some r) : tans A 136 [1] [V.int .i64 a0, V.isl (a1.map Enc.enc), V.isl (a2.map Enc.enc), V.int .i64 a3] = some (Enc.enc r) := by
  refine tans_of (f := p136) rfl rfl rfl fun e hl he => ?_
  have h0_0 : e.at 0 = V.int .i64 a0 := he 0 _ rfl
  have h1_0 : e.at 1 = V.isl (a1.map Enc.enc) := he 1 _ rfl
  have h2_0 : e.at 2 = V.isl (a2.map Enc.enc) := he 2 _ rfl
  have h3_0 : e.at 3 = V.int .i64 a3 := he 3 _ rfl
  have hl_0 : e.length = 35 := hl
  clear he hl
  show W A b136 e ⟨[], 0⟩ _
  unfold F136 at hF
  obtain ⟨zo0_1, gt15, hF⟩ := bS hF
  simp only [simprocAttr, R0, opEv, fillV, mapO, mapS, b136, hl_0, h0_0, h1_0, h2_0, h3_0]
  refine W.mono (l136_1 a0 a1 a2 a3   gt15 (Exists.intro _ ( Exists.intro _ ( And.intro rfl ?_)))) ?_
  · simp only [simprocAttr, R0, hl_0, h0_0, h1_0, h2_0, h3_0]
  rintro _ e _ ⟨rfl, u2, k3, rfl, h_4⟩
  have hE := Option.some.inj hF; subst hE
  simp only [simprocAttr, R0, opEv, fillV, mapO, mapS, h_4]
  exact tfin_ret (by simp only [simprocAttr, R0, fn_out, p136, Rs.ev, mapO, mapS, take_len_self, h_4, frzs (α := Int) zo0_1, takes (α := Int) zo0_1])
def F134_1_B (a0 : Int) (a1 : List (List Int)) (v8_1 : Int) (v7_1 : (List Int)) : Option (((List Int)) ⊕ ((List Int))) :=
  (getI a1 v8_1).bind fun x6 =>
(F81 x6).bind fun x8 =>
(getI v7_1 x8).bind fun x10 =>
(F136 a0 v7_1 x6 x10).bind fun x12 =>
some (.inl x12)
def F134_1_D (a0 : Int) (a1 : List (List Int)) (v8_1 : Int) (v7_1 : (List Int)) : Option ((List Int)) :=
  some v7_1
def F134 (a0 : Int) (a1 : List (List Int)) (a2 : List Int) : Option (List Int) :=
  (F94 a2).bind fun x1 =>
  (forR 0 (a1.length : Int) (F134_1_B a0 a1) (F134_1_D a0 a1) x1).bind fun zv7_1 =>
  some zv7_1
theorem d134 (a0 : Int) (a1 : List (List Int)) (a2 : List Int) {r : List Int} (hF : F134 a0 a1 a2 = some r) : ∃ v h', res A 134 [V.int .i64 a0, V.isl (a1.map Enc.enc), V.isl (a2.map Enc.enc)] Heap.empty = some (v, h') ∧ ∃ K, Deep.rep h' v r K := by
  refine res_dp (f := p134) rfl rfl rfl fun e hl he => ?_
  have h0_0 : e.at 0 = V.int .i64 a0 := he 0 _ rfl
  have h1_0 : e.at 1 = V.isl (a1.map Enc.enc) := he 1 _ rfl
  have h2_0 : e.at 2 = V.isl (a2.map Enc.enc) := he 2 _ rfl
  have hl_0 : e.length = 33 := hl
  clear he hl
  show W A b134 e ⟨[], 0⟩ _
  unfold F134 at hF
  obtain ⟨o, go, hF⟩ := bS hF
  have wo : tans A 94 [1] [V.isl (a2.map Enc.enc)] = some (V.isl (o.map Enc.enc)) := t94 a2 go
  obtain ⟨t, gt, hF⟩ := bS hF
  cases hF
  simp only [simprocAttr, R1, opEv, fillV, mapO, mapS, b134, hl_0, h0_0, h1_0, h2_0, wo, callM_tans, thaw_one]
  show W A (.block 0 (.loop true b134_1)) _ _ _
  rw [W_block]
  refine W_forR gt _ rfl (fun i q e h => ∃ k u, h.ents[k]? = some (u, some (q.map Enc.enc)) ∧ e.length = 33 ∧ e.at 0 = V.int .i64 a0 ∧ e.at 1 = V.isl (a1.map Enc.enc) ∧ e.at 7 = V.sl k u 0 q.length 1 ∧ e.at 8 = V.int .i64 i) ?_ ?_ ?_
  · refine ⟨0, 0, rfl, ?_⟩
    simp only [simprocAttr, R1, hl_0, h0_0, h1_0, h2_0]
  · clear hl_0 h0_0 h1_0 h2_0
    rintro i q e ⟨E, c⟩ ⟨k, u, g1, h_1⟩ hlt hw s' ho
    unfold F134_1_B at ho
    simp only at g1
    obtain ⟨x6, gx6, ho⟩ := bS ho
    obtain ⟨x6a, x6b⟩ := getI_w gx6
    obtain ⟨x8, gx8, ho⟩ := bS ho
    have w8 : ans A 81 [V.isl (x6.map Enc.enc)] = some (V.int .i64 x8) := s81 x6 gx8
    obtain ⟨x10, gx10, ho⟩ := bS ho
    obtain ⟨x10a, x10b⟩ := getI_w gx10
    have x10c := getI_lt gx10
    obtain ⟨x12, gx12, ho⟩ := bS ho
    have w12 : tans A 136 [1] [V.int .i64 a0, V.isl (q.map Enc.enc), V.isl (x6.map Enc.enc), V.int .i64 x10] = some (V.isl (x12.map Enc.enc)) := t136 a0 q x6 x10 gx12
    cases ho
    have wfz : frz ⟨E, c⟩ 16 (V.sl k u 0 q.length 1) = some (V.isl (q.map Enc.enc)) := frz_row g1
    have wbr := bare_one (α := Int) x12
    have o10 : ofCells none (List.drop x8.toNat (q.map Enc.enc)) = some (V.int .i64 x10) := ofCells_drop (by rw [List.getElem?_map, x10b]; rfl)
    simp only [simprocAttr, R1, opEv, fillV, mapO, mapS, b134_1, h_1, eq_true hlt, hw, x6a, x6b, w8, x10a, eq_true x10c, g1, o10, wfz, w12, wbr, callM_tans, thaw_one]
    refine And.intro rfl ⟨_, _, get_last _ _, ?_⟩
    simp only [simprocAttr, R1, h_1, hw]
  · clear hl_0 h0_0 h1_0 h2_0
    rintro i q e ⟨E, c⟩ ⟨k, u, g1, h_1⟩ hge t1 ho
    unfold F134_1_D at ho
    cases ho
    simp only at g1
    simp only [simprocAttr, R1, opEv, fillV, mapO, mapS, b134_1, h_1, eq_false hge]
    intro ht; subst ht
    refine And.intro (fun _ => trivial) ⟨_, ?_, fun x => x = k, int_row (l := q) g1 fun x => Iff.rfl⟩
    simp only [simprocAttr, R1, fn_out, p134, Rs.ev, mapO, mapS, h_1]
theorem t134 (a0 : Int) (a1 : List (List Int)) (a2 : List Int) {r : List Int} (hF : F134 a0 a1 a2 = some r) : tans A 134 [1] [V.int .i64 a0, V.isl (a1.map Enc.enc), V.isl (a2.map Enc.enc)] = some (Enc.enc r) := tans_of_deep (α := List Int) (by decide) (d134 a0 a1 a2 hF)
def F135_1_B (a0 : Int) (a1 : Int) (v5_1 : Int) (s : Unit) : Option ((Unit) ⊕ ((Unit) ⊕ Int)) :=
  (F127 a0 a1).bind fun x4 =>
(chk (v5_1 * x4)).bind fun x6 =>
(remI x6 a0).bind fun x7 =>
if x7 = 1 then
  some (.inr (.inr v5_1))
else
  some (.inl ())
def F135_1_D (a0 : Int) (a1 : Int) (v5_1 : Int) (s : Unit) : Option ((Unit) ⊕ Int) :=
  some (.inl ())
def F135 (a0 : Int) (a1 : Int) : Option Int :=
  (forR 1 a0 (F135_1_B a0 a1) (F135_1_D a0 a1) ()).bind fun t10 => match t10 with
    | .inl _ =>
      some 0
    | .inr r11 => some r11
def I135_1 (a0 : Int) (a1 : Int)  (v5_1 : Int) (s : Unit) (e : Env) (h : Heap) : Prop :=
  ∃ k2 : Nat, h = ⟨[], k2⟩ ∧ e.length = 20 ∧ e.at 0 = V.int .i64 a0 ∧ e.at 1 = V.int .i64 a1 ∧ e.at 5 = V.int .i64 v5_1
def P135_1 (a0 : Int) (a1 : Int)  (t : (Unit) ⊕ Int) (x : Ex) (e : Env) (h : Heap) : Prop :=
  match t with
  | .inl _ => x = .normal ∧ ∃ k2 : Nat, h = ⟨[], k2⟩ ∧ e.length = 20
  | .inr r => x = .ret ∧ Fin p135 (Enc.enc r) .ret e h
theorem l135_1 (a0 : Int) (a1 : Int)   {lo : Int} {s : Unit} {t : (Unit) ⊕ Int} (hF : forR lo a0 (F135_1_B a0 a1) (F135_1_D a0 a1) s = some t) {e : Env} {h : Heap} (hI : I135_1 a0 a1  lo s e h) : W A c135_1 e h (P135_1 a0 a1  t) := by
  show W A (.block 0 (.loop false b135_1)) e h _
  rw [W_block]
  refine W_forR hF 0 (by obtain ⟨_, rfl, _⟩ := hI; rfl) (I135_1 a0 a1 ) hI ?_ ?_
  · rintro v5_1 _ e h ⟨k2, rfl, h_1⟩ hlt hw o ho
    unfold F135_1_B at ho
    obtain ⟨x4, gx4, ho⟩ := bS ho
    have w5 : ans A 127 [V.int .i64 a0, V.int .i64 a1] = some (V.int .i64 x4) := s127 a0 a1  gx4
    obtain ⟨x6, gx6, ho⟩ := bS ho
    have wx6 := chk_w gx6
    obtain ⟨x7, gx7, ho⟩ := bS ho
    obtain ⟨w8a, w8b⟩ := rem_w gx7
    by_cases c9 : x7 = 1
    · rw [if_pos c9] at ho
      cases ho
      simp only [simprocAttr, R0, opEv, fillV, mapO, mapS, b135_1, h_1, eq_true hlt, hw, w5, wx6, eq_false w8a, w8b, eq_true c9]
      intro ht; subst ht
      simp only [simprocAttr, RR, RB]
      exact And.intro rfl (fin_ret (by simp only [simprocAttr, R0, fn_out, p135, Rs.ev, mapO, mapS, take_len_self, h_1, eq_true hlt, hw, w5, wx6, eq_false w8a, w8b, eq_true c9]))
    · rw [if_neg c9] at ho
      cases ho
      simp only [simprocAttr, R0, opEv, fillV, mapO, mapS, b135_1, h_1, eq_true hlt, hw, w5, wx6, eq_false w8a, w8b, eq_false c9]
      refine And.intro rfl (Exists.intro _ ( And.intro rfl ?_))
      simp only [simprocAttr, R0, h_1, eq_true hlt, hw, w5, wx6, eq_false w8a, w8b, eq_false c9]
  · rintro v5_1 _ e h ⟨k2, rfl, h_1⟩ hge t1 ho
    unfold F135_1_D at ho
    cases ho
    simp only [simprocAttr, R0, opEv, fillV, mapO, mapS, b135_1, h_1, eq_false hge]
    intro ht; subst ht
    refine And.intro rfl (Exists.intro _ ( And.intro rfl ?_))
    simp only [simprocAttr, R0, h_1, eq_false hge]
theorem s135 (a0 : Int) (a1 : Int)   {r : Int} (hF : F135 a0 a1 = some r) : ans A 135 [V.int .i64 a0, V.int .i64 a1] = some (Enc.enc r) := by
  refine ans_of (f := p135) rfl rfl rfl fun e hl he => ?_
  have h0_0 : e.at 0 = V.int .i64 a0 := he 0 _ rfl
  have h1_0 : e.at 1 = V.int .i64 a1 := he 1 _ rfl
  have hl_0 : e.length = 20 := hl
  clear he hl
  have h_0 := And.intro hl_0 (And.intro h0_0 h1_0)
  show W A b135 e ⟨[], 0⟩ _
  unfold F135 at hF
  obtain ⟨t10, gt10, hF⟩ := bS hF
  rcases t10 with _ | r11
  · dsimp only at hF
    simp only [simprocAttr, R0, opEv, fillV, mapO, mapS, b135, h_0]
    refine W.mono (l135_1 a0 a1   gt10 (Exists.intro _ ( And.intro rfl ?_))) ?_
    · simp only [simprocAttr, R0, h_0]
    rintro _ e _ ⟨rfl, k2, rfl, hl_3⟩
    cases hF
    simp only [simprocAttr, R0, opEv, fillV, mapO, mapS, hl_3]
    exact fin_ret (by simp only [simprocAttr, R0, fn_out, p135, Rs.ev, mapO, mapS, take_len_self, hl_3])
  · dsimp only at hF
    cases hF
    simp only [simprocAttr, R0, opEv, fillV, mapO, mapS, b135, h_0]
    refine W.mono (l135_1 a0 a1   gt10 (Exists.intro _ ( And.intro rfl ?_))) ?_
    · simp only [simprocAttr, R0, h_0]
    rintro _ e h ⟨rfl, hq⟩
    simp only [simprocAttr, RR, RB]
    exact hq
def F131_2_B (p b : Int) (k : Int) (row : List Int) : Option (List Int ⊕ List Int) := (getI row k).bind fun x => (chk (x * b)).bind fun m => (remI m p).bind fun z => (setI row k z).bind fun r => some (.inl r)
def F131_2_D (k : Int) (row : List Int) : Option (List Int) := some row
def F131_3_C (out : List (List Int)) (at_ : Int) (k : Int) (put : Bool) : Option Bool := if put = true then some false else (getI out k).bind fun o => (F81 o).bind fun ld => some (decide (at_ < ld))
def F131_3_B (p : Int) (out : List (List Int)) (own : List Int) (at_ : Int) (k : Int) (s : List (List Int) × Bool) : Option ((List (List Int) × Bool) ⊕ (List (List Int) × Bool)) :=
  (F131_3_C out at_ k s.2).bind fun c => (if c = true then (app 24 s.1 [own]).bind fun n => some (n, true) else some s).bind fun s2 =>
  (getI out k).bind fun o => (getI o at_).bind fun y => (F136 p o own y).bind fun q => (app 24 s2.1 [q]).bind fun n => some (.inl (n, s2.2))
def F131_3_D (k : Int) (s : List (List Int) × Bool) : Option (List (List Int) × Bool) := some s
def F131_1_B (p : Int) (rows : List (List Int)) (i : Int) (out : List (List Int)) : Option (List (List Int) ⊕ List (List Int)) :=
  (getI rows i).bind fun row => (F134 p out row).bind fun own => (F81 own).bind fun at_ => if at_ < 0 then some (.inl out) else
  (getI own at_).bind fun x => (F135 p x).bind fun inv => (forR 0 (own.length : Int) (F131_2_B p inv) F131_2_D own).bind fun own' =>
  (forR 0 (out.length : Int) (F131_3_B p out own' at_) F131_3_D ([], false)).bind fun s => if s.2 = true then some (.inl s.1) else (app 24 s.1 [own']).bind fun n => some (.inl n)
def F131_1_D (i : Int) (out : List (List Int)) : Option (List (List Int)) := some out
def F131 (p : Int) (rows : List (List Int)) : Option (List (List Int)) := forR 0 (rows.length : Int) (F131_1_B p rows) F131_1_D []
theorem d131 (p : Int) (rows : List (List Int)) {r : List (List Int)} (hF : F131 p rows = some r) : ∃ v h', res A 131 [V.int .i64 p, V.isl (rows.map Enc.enc)] Heap.empty = some (v, h') ∧
    ∃ k u vs, v = V.sl k u 0 r.length 1 ∧ h'.ents[k]? = some (u, some vs) ∧ Rws h'.ents (fun _ => True) vs r := by
  refine res_dp (f := p131) rfl rfl rfl fun e hl he => ?_
  have h0_0 : e.at 0 = V.int .i64 p := he 0 _ rfl
  have h1_0 : e.at 1 = V.isl (rows.map Enc.enc) := he 1 _ rfl
  have hl_0 : e.length = 102 := hl
  clear he hl
  show W A b131 e ⟨[], 0⟩ _
  unfold F131 at hF
  simp only [simprocAttr, R1, opEv, fillV, mapO, mapS, b131, hl_0, h0_0, h1_0]
  show W A (.block 0 (.loop true b131_1)) _ _ _
  rw [W_block]
  refine W_forR hF _ rfl (fun i out e h => ∃ ko uo vs, h.ents[ko]? = some (uo, some vs) ∧ Rws h.ents (fun _ => True) vs out ∧ e.length = 102 ∧ e.at 0 = V.int .i64 p ∧ e.at 1 = V.isl (rows.map Enc.enc) ∧ e.at 5 = V.sl ko uo 0 out.length 1 ∧ e.at 6 = V.int .i64 i) ?_ ?_ ?_
  · refine ⟨0, 0, [], rfl, .nil, ?_⟩
    simp only [simprocAttr, R1, hl_0, h0_0, h1_0]
  · clear hl_0 h0_0 h1_0
    rintro i out e ⟨E, c⟩ ⟨ko, uo, vs, g1, g2, hl_1, h0_1, h1_1, h5_1, h6_1⟩ hlt hw s' ho
    unfold F131_1_B at ho
    simp only at g1 g2
    have hko : ko < E.length := (List.getElem?_eq_some_iff.1 g1).1
    obtain ⟨row, gr, ho⟩ := bS ho
    obtain ⟨ra, rb⟩ := getI_w gr
    obtain ⟨own, gown, ho⟩ := bS ho
    have wown : tans A 134 [1] [V.int .i64 p, V.isl (out.map Enc.enc), V.isl (row.map Enc.enc)] = some (V.isl (own.map Enc.enc)) := t134 p out row gown
    obtain ⟨at_, gat, ho⟩ := bS ho
    have wat : ans A 81 [V.isl (own.map Enc.enc)] = some (V.int .i64 at_) := s81 own gat
    have wfo := g2.fz c g1
    have wbr := bare_one (α := Int) own
    have wfr : ∀ z : List Int, ∀ c', frz ⟨E ++ [(c, some (z.map Enc.enc))], c'⟩ 16 (V.sl E.length c 0 z.length 1) = some (V.isl (z.map Enc.enc)) := fun z c' => frz_row (get_last _ _)
    have wfr0 := wfr own
    by_cases hat : at_ < 0
    · rw [if_pos hat] at ho
      have hE := Option.some.inj ho; subst hE
      simp only [simprocAttr, R1, opEv, fillV, mapO, mapS, b131_1, hl_1, h0_1, h1_1, h5_1, h6_1, eq_true hlt, hw, ra, rb, wfo, wown, wbr, callM_tans, thaw_one, wfr0, wat, eq_true hat]
      refine And.intro rfl ⟨ko, uo, vs, (List.getElem?_append_left hko).trans g1, g2.frame fun k hk _ => ⟨List.getElem?_append_left hk, trivial⟩, ?_⟩
      simp only [simprocAttr, R1, hl_1, h0_1, h1_1, h5_1, h6_1, hw]
    · rw [if_neg hat] at ho
      obtain ⟨x, gx, ho⟩ := bS ho
      obtain ⟨xa, xb⟩ := getI_w gx
      have xc := getI_lt gx
      obtain ⟨inv, ginv, ho⟩ := bS ho
      have winv : ans A 135 [V.int .i64 p, V.int .i64 x] = some (V.int .i64 inv) := s135 p x ginv
      obtain ⟨own', gown', ho⟩ := bS ho
      obtain ⟨s, gs, ho⟩ := bS ho
      have ox : ofCells none (List.drop at_.toNat (own.map Enc.enc)) = some (V.int .i64 x) := ofCells_drop (by rw [List.getElem?_map, xb]; rfl)
      simp only [simprocAttr, R1, opEv, fillV, mapO, mapS, b131_1, hl_1, h0_1, h1_1, h5_1, h6_1, eq_true hlt, hw, ra, rb, wfo, wown, wbr, callM_tans, thaw_one, wfr0, wat, eq_false hat, xa, eq_true xc, get_last, ox, winv]
      show W A (.block 2 (.loop true b131_2)) _ _ _
      rw [W_block]
      refine W_forR gown' _ rfl (fun k q e h => q.length = own.length ∧ h = ⟨E ++ [(c, some (q.map Enc.enc))], c + 1⟩ ∧ e.length = 102 ∧ e.at 0 = V.int .i64 p ∧ e.at 1 = V.isl (rows.map Enc.enc) ∧ e.at 5 = V.sl ko uo 0 out.length 1 ∧ e.at 6 = V.int .i64 i ∧ e.at 7 = V.sl E.length c 0 own.length 1 ∧ e.at 8 = V.int .i64 at_ ∧ e.at 9 = V.int .i64 inv ∧ e.at 10 = V.int .i64 k) ?_ ?_ ?_
      · refine ⟨rfl, rfl, ?_⟩
        simp only [simprocAttr, R1, hl_1, h0_1, h1_1, h5_1, h6_1]
      · clear hl_1 h0_1 h1_1 h5_1 h6_1
        rintro k q e h ⟨hq, rfl, hl_1, h0_1, h1_1, h5_1, h6_1, h7_1, h8_1, h9_1, h10_1⟩ hlt2 hw2 s2 ho2
        unfold F131_2_B at ho2
        obtain ⟨x3, gx3, ho2⟩ := bS ho2
        obtain ⟨x3a, x3b⟩ := getI_w gx3
        obtain ⟨m3, gm3, ho2⟩ := bS ho2
        have wm3 := chk_w gm3
        obtain ⟨z3, gz3, ho2⟩ := bS ho2
        obtain ⟨wz30, wz3⟩ := rem_w gz3
        obtain ⟨q2, gq2, ho2⟩ := bS ho2
        obtain ⟨s31, s32, s33, s34, s35⟩ := setI_w gq2
        have hE := Option.some.inj ho2; subst hE
        have o3 : ofCells none (List.drop k.toNat (q.map Enc.enc)) = some (V.int .i64 x3) := ofCells_drop (by rw [List.getElem?_map, x3b]; rfl)
        have hk3 : k < (own.length : Int) := hlt2
        have s35' : List.take k.toNat (q.map Enc.enc) ++ [V.int .i64 z3] ++ List.drop (k.toNat + 1) (q.map Enc.enc) = List.map Enc.enc q2 := s35
        simp only [simprocAttr, R1, opEv, fillV, mapO, mapS, b131_2, hl_1, h0_1, h1_1, h5_1, h6_1, h7_1, h8_1, h9_1, h10_1, hw2, eq_true hlt2, get_last, set_last, x3a, o3, wm3, wz30, wz3, s33, s35']
        refine And.intro rfl ⟨by omega, rfl, ?_⟩
        simp only [simprocAttr, R1, hl_1, h0_1, h1_1, h5_1, h6_1, h7_1, h8_1, h9_1, h10_1, hw2]
      · clear hl_1 h0_1 h1_1 h5_1 h6_1
        rintro k q e h ⟨hq, rfl, hl_1, h0_1, h1_1, h5_1, h6_1, h7_1, h8_1, h9_1, h10_1⟩ hge2 t2 ho2
        unfold F131_2_D at ho2
        have hE := Option.some.inj ho2; subst hE
        simp only [simprocAttr, R1, opEv, fillV, mapO, mapS, b131_2, hl_1, h0_1, h1_1, h5_1, h6_1, h7_1, h8_1, h9_1, h10_1, eq_false hge2, le1]
        intro ht; subst ht
        show W A (.block 4 (.loop true b131_3)) _ _ _
        rw [W_block]
        refine W_forR gs _ rfl (fun k s e h => ∃ un vn, h.ents[E.length + 1]? = some (un, some vn) ∧ Rws h.ents (fun k => k ≠ E.length + 1) vn s.1 ∧ h.ents[E.length]? = some (c, some (q.map Enc.enc)) ∧ (∀ k, k < E.length → h.ents[k]? = E[k]?) ∧ e.length = 102 ∧ e.at 0 = V.int .i64 p ∧ e.at 1 = V.isl (rows.map Enc.enc) ∧ e.at 5 = V.sl ko uo 0 out.length 1 ∧ e.at 6 = V.int .i64 i ∧ e.at 7 = V.sl E.length c 0 q.length 1 ∧ e.at 8 = V.int .i64 at_ ∧ e.at 11 = V.sl (E.length + 1) un 0 s.1.length 1 ∧ e.at 12 = V.bool s.2 ∧ e.at 13 = V.int .i64 k) ?_ ?_ ?_
        · refine ⟨c + 1, [], ge2b .., .nil, ge2a .., fun k hk => by rw [List.append_assoc]; exact List.getElem?_append_left hk, ?_⟩
          simp only [simprocAttr, R1, hl_1, h0_1, h1_1, h5_1, h6_1, h7_1, h8_1, h9_1, h10_1, hq]
        · clear hl_1 h0_1 h1_1 h5_1 h6_1 h7_1 h8_1 h9_1 h10_1
          rintro k ⟨nx, put⟩ e ⟨E3, c3⟩ ⟨un, vn, f1, f2, f3, f4, hl_1, h0_1, h1_1, h5_1, h6_1, h7_1, h8_1, h11_1, h12_1, h13_1⟩ hlt3 hw3 s3 ho3
          unfold F131_3_B at ho3
          simp only at f1 f2 f3 f4 h11_1 h12_1 ho3
          obtain ⟨cnd, gcnd, ho3⟩ := bS ho3
          obtain ⟨st, gst, ho3⟩ := bS ho3
          obtain ⟨o, go, ho3⟩ := bS ho3
          obtain ⟨oa, ob⟩ := getI_w go
          have oc := getI_lt go
          obtain ⟨y, gy, ho3⟩ := bS ho3
          obtain ⟨ya, yb⟩ := getI_w gy
          have yc := getI_lt gy
          obtain ⟨qq, gqq, ho3⟩ := bS ho3
          have wqq : tans A 136 [1] [V.int .i64 p, V.isl (o.map Enc.enc), V.isl (q.map Enc.enc), V.int .i64 y] = some (V.isl (qq.map Enc.enc)) := t136 p o q y gqq
          have wbq := bare_one (α := Int) qq
          obtain ⟨nn, gnn, ho3⟩ := bS ho3
          have hE := Option.some.inj ho3; subst hE
          have hN1 : E.length + 1 < E3.length := (List.getElem?_eq_some_iff.1 f1).1
          have k1 : E3[ko]? = some (uo, some vs) := (f4 ko hko).trans g1
          obtain ⟨v, v1, v2⟩ := g2.get ob
          have ov := ofCells_drop v1
          have oy : ofCells none (List.drop at_.toNat (o.map Enc.enc)) = some (V.int .i64 y) := ofCells_drop (by rw [List.getElem?_map, yb]; rfl)
          have v3 : RRep E3 (fun k => k < E.length) v o := v2.frame fun k hk _ => ⟨f4 k hk, hk⟩
          -- in any memory that keeps the rows
          have step : ∀ (E4 : List (Nat × Option (List V))) (c4 un4 : Nat) (vn4 : List V), E4[E.length + 1]? = some (un4, some vn4) → Rws E4 (fun k => k ≠ E.length + 1) vn4 st.1 → E4[E.length]? = some (c, some (q.map Enc.enc)) → (∀ k, k < E.length → E4[k]? = E[k]?) →
              E4[ko]? = some (uo, some vs) ∧ frz ⟨E4, c4⟩ 16 v = some (V.isl (o.map Enc.enc)) ∧ frz ⟨E4, c4⟩ 16 (V.sl E.length c 0 q.length 1) = some (V.isl (q.map Enc.enc)) ∧
              appendV 1 24 (.sl (E.length + 1) un4 0 st.1.length 1) 1 [V.sl E4.length c4 0 qq.length 1] ⟨E4 ++ [(c4, some (qq.map Enc.enc))] ++ [(c4 + 1, some [V.sl E4.length c4 0 qq.length 1])], c4 + 1 + 1⟩ = some (.sl (E.length + 1) (c4 + 1 + 1) 0 (st.1.length + 1) 1, ⟨(E4 ++ [(c4, some (qq.map Enc.enc))] ++ [(c4 + 1, some [V.sl E4.length c4 0 qq.length 1])]).set (E.length + 1) (c4 + 1 + 1, some (vn4 ++ [V.sl E4.length c4 0 qq.length 1])), c4 + 1 + 1 + 1⟩) ∧
              RRep E4 (fun k => k < E.length) v o ∧
              (((E4 ++ [(c4, some (qq.map Enc.enc))] ++ [(c4 + 1, some [V.sl E4.length c4 0 qq.length 1])]).set (E.length + 1) (c4 + 1 + 1, some (vn4 ++ [V.sl E4.length c4 0 qq.length 1])))[E.length + 1]? = some (c4 + 1 + 1, some (vn4 ++ [V.sl E4.length c4 0 qq.length 1])) ∧
              Rws ((E4 ++ [(c4, some (qq.map Enc.enc))] ++ [(c4 + 1, some [V.sl E4.length c4 0 qq.length 1])]).set (E.length + 1) (c4 + 1 + 1, some (vn4 ++ [V.sl E4.length c4 0 qq.length 1]))) (fun k => k ≠ E.length + 1) (vn4 ++ [V.sl E4.length c4 0 qq.length 1]) nn ∧
              ((E4 ++ [(c4, some (qq.map Enc.enc))] ++ [(c4 + 1, some [V.sl E4.length c4 0 qq.length 1])]).set (E.length + 1) (c4 + 1 + 1, some (vn4 ++ [V.sl E4.length c4 0 qq.length 1])))[E.length]? = some (c, some (q.map Enc.enc)) ∧
              (∀ k, k < E.length → ((E4 ++ [(c4, some (qq.map Enc.enc))] ++ [(c4 + 1, some [V.sl E4.length c4 0 qq.length 1])]).set (E.length + 1) (c4 + 1 + 1, some (vn4 ++ [V.sl E4.length c4 0 qq.length 1])))[k]? = E[k]?) ∧ nn.length = st.1.length + 1) := by
            intro E4 c4 un4 vn4 a1 a2 a3 a4
            have hN4 : E.length + 1 < E4.length := (List.getElem?_eq_some_iff.1 a1).1
            obtain ⟨p1, p2, rfl⟩ := app_w gnn
            have pre : ∀ x y (k : Nat), k < E4.length → (E4 ++ [x] ++ [y])[k]? = E4[k]? := fun x y k hk => by rw [List.append_assoc]; exact List.getElem?_append_left hk
            refine ⟨(a4 ko hko).trans g1, (v2.frame (B' := fun _ => True) fun k hk _ => ⟨a4 k hk, trivial⟩).fz c4 10, frz_row a3, appendV_deep (E := E4 ++ [(c4, some (qq.map Enc.enc))] ++ [(c4 + 1, some [V.sl E4.length c4 0 qq.length 1])]) ((pre _ _ _ hN4).trans a1) a2.len (by simpa using p1) (by simpa using p2), v2.frame fun k hk _ => ⟨a4 k hk, hk⟩, set_app_key (by simp; omega), ?_, ?_, fun k hk => ?_, by simp⟩
            · exact (a2.frame fun k hk hne => ⟨(set_ne hne).trans (pre _ _ k hk), hne⟩).snoc ⟨_, _, rfl, (set_ne (by omega)).trans (ge2a ..), by omega⟩
            · exact (set_ne (by omega)).trans ((pre _ _ _ (by omega)).trans a3)
            · exact (set_ne (by omega)).trans ((pre _ _ k (by omega)).trans (a4 k hk))
          have hoc : k < (out.length : Int) := oc
          cases put with
          | true =>
            unfold F131_3_C at gcnd
            rw [if_pos rfl] at gcnd
            cases gcnd
            rw [if_neg Bool.false_ne_true] at gst
            cases gst
            obtain ⟨b1, b2, b3, b4, b5, b6, b7, b8, b9, b10⟩ := step E3 c3 un vn f1 f2 f3 f4
            simp only at b4 b10
            obtain ⟨kv, uv, rfl, w2, w3⟩ := b5
            simp only [simprocAttr, R1, opEv, fillV, mapO, mapS, b131_3, hl_1, h0_1, h1_1, h5_1, h6_1, h7_1, h8_1, h11_1, h12_1, h13_1, hw3, eq_true hlt3, oa, k1, ov, ya, eq_true yc, oy, w2, b2, b3, wqq, wbq, callM_tans, thaw_one, le1, get_last, ge2a, ge2b, b4]
            refine And.intro rfl ⟨_, _, b6, b7, b8, b9, ?_⟩
            simp only [simprocAttr, R1, hl_1, h0_1, h1_1, h5_1, h6_1, h7_1, h8_1, h11_1, h12_1, h13_1, hw3, b10]
          | false =>
            unfold F131_3_C at gcnd
            rw [if_neg Bool.false_ne_true, go, Option.bind_some] at gcnd
            obtain ⟨ld, gld, gcnd⟩ := bS gcnd
            have wld : ans A 81 [V.isl (o.map Enc.enc)] = some (V.int .i64 ld) := s81 o gld
            have hE := Option.some.inj gcnd; subst hE
            have wfv := (v2.frame (E' := E3) (B' := fun _ => True) fun k hk _ => ⟨f4 k hk, trivial⟩).fz c3 10
            by_cases hld : at_ < ld
            · rw [if_pos (by simpa using hld)] at gst
              obtain ⟨n1, gn1, gst⟩ := bS gst
              obtain ⟨p1, p2, rfl⟩ := app_w gn1
              have hE := Option.some.inj gst; subst hE
              have wap : appendV 1 24 (.sl (E.length + 1) un 0 nx.length 1) 1 [V.sl E.length c 0 q.length 1] ⟨E3 ++ [(c3, some [V.sl E.length c 0 q.length 1])], c3 + 1⟩ = _ := appendV_deep (E := E3 ++ [(c3, some [V.sl E.length c 0 q.length 1])]) (by rw [List.getElem?_append_left hN1]; exact f1) f2.len (by simpa using p1) (by simpa using p2)
              have r1 : Rws ((E3 ++ [(c3, some [V.sl E.length c 0 q.length 1])]).set (E.length + 1) (c3 + 1, some (vn ++ [V.sl E.length c 0 q.length 1]))) (fun k => k ≠ E.length + 1) (vn ++ [V.sl E.length c 0 q.length 1]) (nx ++ [q]) :=
                (f2.frame fun k hk hne => ⟨(set_ne hne).trans (List.getElem?_append_left hk), hne⟩).snoc ⟨_, _, rfl, (set_ne (by omega)).trans ((List.getElem?_append_left (by omega)).trans f3), by omega⟩
              have hln : (nx ++ [q]).length = nx.length + 1 := by simp
              obtain ⟨b1, b2, b3, b4, b5, b6, b7, b8, b9, b10⟩ := step ((E3 ++ [(c3, some [V.sl E.length c 0 q.length 1])]).set (E.length + 1) (c3 + 1, some (vn ++ [V.sl E.length c 0 q.length 1]))) (c3 + 1 + 1) (c3 + 1) (vn ++ [V.sl E.length c 0 q.length 1]) (set_app_key (by simp; omega)) r1 ((set_ne (by omega)).trans ((List.getElem?_append_left (by omega)).trans f3)) (fun k hk => (set_ne (by omega)).trans ((List.getElem?_append_left (by omega)).trans (f4 k hk)))
              have hlb : ((E3 ++ [(c3, some [V.sl E.length c 0 q.length 1])]).set (E.length + 1) (c3 + 1, some (vn ++ [V.sl E.length c 0 q.length 1]))).length = E3.length + 1 := by simp
              have hge := fun y z => ge2b ((E3 ++ [(c3, some [V.sl E.length c 0 q.length 1])]).set (E.length + 1) (c3 + 1, some (vn ++ [V.sl E.length c 0 q.length 1]))) y z
              simp only [hlb] at hge
              simp only [hln, hlb] at b4 b6 b7 b8 b9 b10
              obtain ⟨kv, uv, rfl, w2, w3⟩ := b5
              simp only [simprocAttr, R1, opEv, fillV, mapO, mapS, b131_3, hl_1, h0_1, h1_1, h5_1, h6_1, h7_1, h8_1, h11_1, h12_1, h13_1, hw3, eq_true hlt3, oa, k1, ov, wfv, wld, eq_true hld, ya, eq_true yc, oy, w2, b1, b2, b3, wap, wqq, wbq, callM_tans, thaw_one, le1, hlb, hge, get_last, ge2a, ge2b, b4]
              refine And.intro rfl ⟨_, _, b6, b7, b8, b9, ?_⟩
              simp only [simprocAttr, R1, hl_1, h0_1, h1_1, h5_1, h6_1, h7_1, h8_1, h11_1, h12_1, h13_1, hw3, b10]
            · rw [if_neg (by simpa using hld)] at gst
              have hE := Option.some.inj gst; subst hE
              obtain ⟨b1, b2, b3, b4, b5, b6, b7, b8, b9, b10⟩ := step E3 c3 un vn f1 f2 f3 f4
              simp only at b4 b10
              obtain ⟨kv, uv, rfl, w2, w3⟩ := b5
              simp only [simprocAttr, R1, opEv, fillV, mapO, mapS, b131_3, hl_1, h0_1, h1_1, h5_1, h6_1, h7_1, h8_1, h11_1, h12_1, h13_1, hw3, eq_true hlt3, oa, k1, ov, wfv, wld, eq_false hld, ya, eq_true yc, oy, w2, b2, b3, wqq, wbq, callM_tans, thaw_one, le1, get_last, ge2a, ge2b, b4]
              refine And.intro rfl ⟨_, _, b6, b7, b8, b9, ?_⟩
              simp only [simprocAttr, R1, hl_1, h0_1, h1_1, h5_1, h6_1, h7_1, h8_1, h11_1, h12_1, h13_1, hw3, b10]
        · clear hl_1 h0_1 h1_1 h5_1 h6_1 h7_1 h8_1 h9_1 h10_1
          rintro k ⟨nx, put⟩ e ⟨E3, c3⟩ ⟨un, vn, f1, f2, f3, f4, hl_1, h0_1, h1_1, h5_1, h6_1, h7_1, h8_1, h11_1, h12_1, h13_1⟩ hge3 t3 ho3
          unfold F131_3_D at ho3
          have hE := Option.some.inj ho3; subst hE
          simp only at f1 f2 f3 f4 h11_1 h12_1
          have hN1 : E.length + 1 < E3.length := (List.getElem?_eq_some_iff.1 f1).1
          cases put with
          | true =>
            simp only [simprocAttr, R1, opEv, fillV, mapO, mapS, b131_3, hl_1, h0_1, h1_1, h5_1, h6_1, h7_1, h8_1, h11_1, h12_1, h13_1, eq_false hge3, hw]
            intro ht; subst ht
            simp only [if_true] at ho
            have hE := Option.some.inj ho; subst hE
            refine And.intro rfl ⟨E.length + 1, un, vn, f1, f2.frame fun k hk _ => ⟨rfl, trivial⟩, ?_⟩
            simp only [simprocAttr, R1, hl_1, h0_1, h1_1, h5_1, h6_1, h7_1, h8_1, h11_1, h12_1, h13_1]
          | false =>
            simp only [simprocAttr, R1, opEv, fillV, mapO, mapS, b131_3, hl_1, h0_1, h1_1, h5_1, h6_1, h7_1, h8_1, h11_1, h12_1, h13_1, eq_false hge3, hw, le1, get_last]
            intro ht; subst ht
            rw [if_neg Bool.false_ne_true] at ho
            obtain ⟨n1, gn1, ho⟩ := bS ho
            obtain ⟨p1, p2, rfl⟩ := app_w gn1
            have hE := Option.some.inj ho; subst hE
            have wap : appendV 1 24 (.sl (E.length + 1) un 0 nx.length 1) 1 [V.sl E.length c 0 q.length 1] ⟨E3 ++ [(c3, some [V.sl E.length c 0 q.length 1])], c3 + 1⟩ = _ := appendV_deep (E := E3 ++ [(c3, some [V.sl E.length c 0 q.length 1])]) (by rw [List.getElem?_append_left hN1]; exact f1) f2.len (by simpa using p1) (by simpa using p2)
            have r1 : Rws ((E3 ++ [(c3, some [V.sl E.length c 0 q.length 1])]).set (E.length + 1) (c3 + 1, some (vn ++ [V.sl E.length c 0 q.length 1]))) (fun k => k ≠ E.length + 1) (vn ++ [V.sl E.length c 0 q.length 1]) (nx ++ [q]) :=
              (f2.frame fun k hk hne => ⟨(set_ne hne).trans (List.getElem?_append_left hk), hne⟩).snoc ⟨_, _, rfl, (set_ne (by omega)).trans ((List.getElem?_append_left (by omega)).trans f3), by omega⟩
            simp only [simprocAttr, R1, opEv, fillV, mapO, mapS, b131_3, hl_1, h0_1, h1_1, h5_1, h6_1, h7_1, h8_1, h11_1, h12_1, h13_1, eq_false hge3, hw, le1, get_last, wap]
            refine And.intro rfl ⟨E.length + 1, c3 + 1, _, set_app_key (by simp; omega), r1.frame fun k hk _ => ⟨rfl, trivial⟩, ?_⟩
            simp only [simprocAttr, R1, hl_1, h0_1, h1_1, h5_1, h6_1, h7_1, h8_1, h11_1, h12_1, h13_1, List.length_append]
  · clear hl_0 h0_0 h1_0
    rintro i out e ⟨E, c⟩ ⟨ko, uo, vs, g1, g2, hl_1, h0_1, h1_1, h5_1, h6_1⟩ hge t1 ho
    unfold F131_1_D at ho
    have hE := Option.some.inj ho; subst hE
    simp only at g1 g2
    simp only [simprocAttr, R1, opEv, fillV, mapO, mapS, b131_1, hl_1, h0_1, h1_1, h5_1, h6_1, eq_false hge]
    intro ht; subst ht
    refine And.intro (fun _ => trivial) ⟨_, ?_, ko, uo, vs, rfl, g1, g2⟩
    simp only [simprocAttr, R1, fn_out, p131, Rs.ev, mapO, mapS, hl_1, h5_1]
theorem s131 (p : Int) (rows : List (List Int)) {r : List (List Int)} (hF : F131 p rows = some r) : ans A 131 [V.int .i64 p, V.isl (rows.map Enc.enc)] = some (Enc.enc r) := by
  obtain ⟨_, h', h1, k, u, vs, rfl, h2, h3⟩ := d131 p rows hF
  have := h3.fz h'.clk h2
  unfold ans
  rw [h1]
  exact this
def F122_1_B (a0 : Int) (a1 : Int) (a2 : List (List Int)) (v9_1 : Int) (s : (List (List Int)) × Int) : Option (((List (List Int)) × Int) ⊕ ((List (List Int)) × Int)) :=
  match s with
  | (o0_1, v8_1) =>
    (mkL 8 a1 0).bind fun l5 =>
    (getI l5 v9_1).bind fun x7 =>
    (setI l5 v9_1 1).bind fun l9 =>
    (getI a2 v9_1).bind fun x11 =>
    (F94 x11).bind fun x13 =>
    (app 8 x13 l9).bind fun l16 =>
    (app 24 o0_1 [l16]).bind fun l18 =>
    some (.inl (l18, (x11.length : Int)))
def F122_1_D (a0 : Int) (a1 : Int) (a2 : List (List Int)) (v9_1 : Int) (s : (List (List Int)) × Int) : Option ((List (List Int)) × Int) :=
  match s with
  | (o0_1, v8_1) =>
    some (o0_1, v8_1)
def F122_2_B (zv8_1 : Int) (x20 : List (List Int)) (v13_2 : Int) (o1_2 : (List (List Int))) : Option (((List (List Int))) ⊕ ((List (List Int)))) :=
  (getI x20 v13_2).bind fun x26 =>
(F81 x26).bind fun x28 =>
if zv8_1 ≤ x28 then
  (slI x26 zv8_1 (x26.length : Int)).bind fun l31 =>
  (F94 l31).bind fun x33 =>
  (app 24 o1_2 [x33]).bind fun l36 =>
  some (.inl l36)
else
  some (.inl o1_2)
def F122_2_D (zv8_1 : Int) (x20 : List (List Int)) (v13_2 : Int) (o1_2 : (List (List Int))) : Option ((List (List Int))) :=
  some o1_2
def F122 (a0 : Int) (a1 : Int) (a2 : List (List Int)) : Option (List (List Int)) :=
  (forR 0 a1 (F122_1_B a0 a1 a2) (F122_1_D a0 a1 a2) ([], 0)).bind fun t19 => match t19 with
    | (zo0_1, zv8_1) =>
      (F131 a0 zo0_1).bind fun x20 =>
      (forR 0 (x20.length : Int) (F122_2_B zv8_1 x20) (F122_2_D zv8_1 x20) ([] : (List (List Int)))).bind fun zo1_2 =>
      some zo1_2
def I122_1 (a0 : Int) (a1 : Int) (a2 : List (List Int))  (v9_1 : Int) (s : (List (List Int)) × Int) (e : Env) (h : Heap) : Prop :=
  match s with
  | (o0_1, v8_1) =>
    ∃ u2 k3 : Nat, h = ⟨[(u2, some (o0_1.map Enc.enc))], k3⟩ ∧ e.length = 68 ∧ e.at 0 = V.int .i64 a0 ∧ e.at 1 = V.int .i64 a1 ∧ e.at 2 = V.isl (a2.map Enc.enc) ∧ e.at 7 = V.sl 0 u2 0 o0_1.length 1 ∧ e.at 8 = V.int .i64 v8_1 ∧ e.at 9 = V.int .i64 v9_1
def P122_1 (a0 : Int) (a1 : Int) (a2 : List (List Int))  (t : (List (List Int)) × Int) (x : Ex) (e : Env) (h : Heap) : Prop :=
  match t with
  | (zo0_1, zv8_1) =>
    x = .normal ∧ ∃ u2 k3 : Nat, h = ⟨[(u2, some (zo0_1.map Enc.enc))], k3⟩ ∧ e.length = 68 ∧ e.at 0 = V.int .i64 a0 ∧ e.at 7 = V.sl 0 u2 0 zo0_1.length 1 ∧ e.at 8 = V.int .i64 zv8_1
theorem l122_1 (a0 : Int) (a1 : Int) (a2 : List (List Int))   {lo : Int} {s : (List (List Int)) × Int} {t : (List (List Int)) × Int} (hF : forR lo a1 (F122_1_B a0 a1 a2) (F122_1_D a0 a1 a2) s = some t) {e : Env} {h : Heap} (hI : I122_1 a0 a1 a2  lo s e h) : W A c122_1 e h (P122_1 a0 a1 a2  t) := by
  show W A (.block 0 (.loop false b122_1)) e h _
  rw [W_block]
  refine W_forR hF 1 (by rcases s with ⟨_, _⟩; obtain ⟨_, _, rfl, _⟩ := hI; rfl) (I122_1 a0 a1 a2 ) hI ?_ ?_
  · rintro v9_1 ⟨o0_1, v8_1⟩ e h ⟨u2, k3, rfl, hl_1, h0_1, h1_1, h2_1, h7_1, h8_1, h9_1⟩ hlt hw o ho
    unfold F122_1_B at ho
    dsimp only at ho
    obtain ⟨l5, gl5, ho⟩ := bS ho
    obtain ⟨w6a, w6b, w6c, w6d, w6e⟩ := mkL_w gl5
    replace w6e : (List.replicate (Int.toNat a1) [V.int .i64 0]).flatten = List.map Enc.enc l5 := w6e
    obtain ⟨x7, gx7, ho⟩ := bS ho
    obtain ⟨w8a, w8b⟩ := getI_w gx7
    have w8c := getI_lt gx7
    replace w8c : v9_1 < (((Int.toNat a1) : Nat) : Int) := by first | exact w8c | (simp only [w6d] at w8c ⊢; exact w8c)
    have w8d : List.drop (Int.toNat v9_1) (l5.map Enc.enc) = (V.int .i64 x7) :: List.drop ((Int.toNat v9_1) + 1) (l5.map Enc.enc) := drop_enc w8b
    obtain ⟨l9, gl9, ho⟩ := bS ho
    obtain ⟨w10a, w10b, w10c, w10d, w10e⟩ := setI_w gl9
    replace w10e : List.take (Int.toNat v9_1) (l5.map Enc.enc) ++ [V.int .i64 1] ++ List.drop (Int.toNat v9_1 + 1) (l5.map Enc.enc) = List.map Enc.enc l9 := w10e
    obtain ⟨x11, gx11, ho⟩ := bS ho
    obtain ⟨w12a, w12b⟩ := getI_w gx11
    obtain ⟨x13, gx13, ho⟩ := bS ho
    have w14 : tans A 94 [1] [V.isl (x11.map Enc.enc)] = some (V.isl (x13.map Enc.enc)) := t94 x11  gx13
    have w14t := thaw_one (α := Int) x13
    obtain ⟨l16, gl16, ho⟩ := bS ho
    have w15 := fun ents key uid clk he => appendV_w (α := Int) (n := x13.length) (m := (Int.toNat a1)) (ds := List.map Enc.enc l9) gl16 (by first | rfl | simp only [w6d, w10d]) (by first | rfl | simp only [w6d, w10d]) rfl ents key uid clk he
    have w15l := app_len gl16
    obtain ⟨l18, gl18, ho⟩ := bS ho
    have w17 := fun ents key uid clk he => appendV_w (α := List Int) (n := o0_1.length) (m := 1) (ds := [V.isl (l16.map Enc.enc)]) gl18 (by first | rfl | simp only [w6d, w10d]) (by first | rfl | simp only [w6d, w10d]) rfl ents key uid clk he
    have w17l := app_len gl18
    have hE := Option.some.inj ho; subst hE
    simp only [↓reduceIte, Nat.reduceAdd, Nat.reduceMul, Nat.reduceSub, Nat.reduceLT, Nat.reduceLeDiff, Nat.reduceEqDiff, Nat.reducePow, Int.reducePow, Int.reduceLE, Int.reduceLT, Int.reduceEq, Int.reduceToNat, reduceCtorEq, R0, opEv, fillV, mapO, mapS, b122_1, hl_1, h0_1, h1_1, h2_1, h7_1, h8_1, h9_1, eq_true hlt, hw, w6a, w6b, w6c, w6e, w8a, w8b, w8c, w8d, w10a, w10b, w10c, w10e, w12a, w12b, w14, w14t, take_len (α := Int) (l := l9) (n := (Int.toNat a1)) (by first | rfl | simp only [w6d, w10d]), eq_true (le_of_len (l := l9) (n := (Int.toNat a1)) (by first | rfl | simp only [w6d, w10d])), w15, takes (α := Int) l16, w17]
    refine And.intro rfl (Exists.intro _ ( Exists.intro _ ( And.intro rfl ?_)))
    simp only [↓reduceIte, Nat.reduceAdd, Nat.reduceMul, Nat.reduceSub, Nat.reduceLT, Nat.reduceLeDiff, Nat.reduceEqDiff, Nat.reducePow, Int.reducePow, Int.reduceLE, Int.reduceLT, Int.reduceEq, Int.reduceToNat, reduceCtorEq, R0, hl_1, h0_1, h1_1, h2_1, h7_1, h8_1, h9_1, eq_true hlt, hw, w6a, w6b, w6c, w6e, w8a, w8b, w8c, w8d, w10a, w10b, w10c, w10e, w12a, w12b, w14, w14t, take_len (α := Int) (l := l9) (n := (Int.toNat a1)) (by first | rfl | simp only [w6d, w10d]), eq_true (le_of_len (l := l9) (n := (Int.toNat a1)) (by first | rfl | simp only [w6d, w10d])), w15, takes (α := Int) l16, w17, w6d, w10d]
  · rintro v9_1 ⟨o0_1, v8_1⟩ e h ⟨u2, k3, rfl, hl_1, h0_1, h1_1, h2_1, h7_1, h8_1, h9_1⟩ hge t1 ho
    unfold F122_1_D at ho
    dsimp only at ho
    have hE := Option.some.inj ho; subst hE
    simp only [↓reduceIte, Nat.reduceAdd, Nat.reduceMul, Nat.reduceSub, Nat.reduceLT, Nat.reduceLeDiff, Nat.reduceEqDiff, Nat.reducePow, Int.reducePow, Int.reduceLE, Int.reduceLT, Int.reduceEq, Int.reduceToNat, reduceCtorEq, R0, opEv, fillV, mapO, mapS, b122_1, hl_1, h0_1, h1_1, h2_1, h7_1, h8_1, h9_1, eq_false hge]
    intro ht; subst ht
    refine And.intro rfl (Exists.intro _ ( Exists.intro _ ( And.intro rfl ?_)))
    simp only [↓reduceIte, Nat.reduceAdd, Nat.reduceMul, Nat.reduceSub, Nat.reduceLT, Nat.reduceLeDiff, Nat.reduceEqDiff, Nat.reducePow, Int.reducePow, Int.reduceLE, Int.reduceLT, Int.reduceEq, Int.reduceToNat, reduceCtorEq, R0, hl_1, h0_1, h1_1, h2_1, h7_1, h8_1, h9_1, eq_false hge]
def I122_2 (zv8_1 : Int) (x20 : List (List Int))  (v13_2 : Int) (o1_2 : (List (List Int))) (e : Env) (h : Heap) : Prop :=
  ∃ u23 k24 : Nat, h = ⟨[(0, none), (u23, some (o1_2.map Enc.enc))], k24⟩ ∧ e.length = 68 ∧ e.at 8 = V.int .i64 zv8_1 ∧ e.at 11 = V.isl (x20.map Enc.enc) ∧ e.at 12 = V.sl 1 u23 0 o1_2.length 1 ∧ e.at 13 = V.int .i64 v13_2
def P122_2 (zv8_1 : Int) (x20 : List (List Int))  (zo1_2 : (List (List Int))) (x : Ex) (e : Env) (h : Heap) : Prop :=
  x = .normal ∧ ∃ u23 k24 : Nat, h = ⟨[(0, none), (u23, some (zo1_2.map Enc.enc))], k24⟩ ∧ e.length = 68 ∧ e.at 12 = V.sl 1 u23 0 zo1_2.length 1
theorem l122_2 (zv8_1 : Int) (x20 : List (List Int))   {lo : Int} {s : (List (List Int))} {t : (List (List Int))} (hF : forR lo (x20.length : Int) (F122_2_B zv8_1 x20) (F122_2_D zv8_1 x20) s = some t) {e : Env} {h : Heap} (hI : I122_2 zv8_1 x20  lo s e h) : W A c122_2 e h (P122_2 zv8_1 x20  t) := by
  show W A (.block 2 (.loop false b122_2)) e h _
  rw [W_block]
  refine W_forR hF 2 (by obtain ⟨_, _, rfl, _⟩ := hI; rfl) (I122_2 zv8_1 x20 ) hI ?_ ?_
  · rintro v13_2 o1_2 e h ⟨u23, k24, rfl, h_22⟩ hlt hw o ho
    unfold F122_2_B at ho
    obtain ⟨x26, gx26, ho⟩ := bS ho
    obtain ⟨w27a, w27b⟩ := getI_w gx26
    obtain ⟨x28, gx28, ho⟩ := bS ho
    have w29 : ans A 81 [V.isl (x26.map Enc.enc)] = some (V.int .i64 x28) := s81 x26  gx28
    by_cases c30 : zv8_1 ≤ x28
    · rw [if_pos c30] at ho
      obtain ⟨l31, gl31, ho⟩ := bS ho
      have w32 : sliceV 1 (V.isl (x26.map Enc.enc)) (some (V.int .i64 zv8_1)) none = some (V.isl (l31.map Enc.enc)) := sliceV_w (α := Int) One.one gl31 (.inr rfl) (.inl ⟨rfl, rfl⟩)
      obtain ⟨x33, gx33, ho⟩ := bS ho
      have w34 : ans A 94 [V.isl (l31.map Enc.enc)] = some (V.isl (x33.map Enc.enc)) := s94 l31  gx33
      obtain ⟨l36, gl36, ho⟩ := bS ho
      have w35 := fun a b c d e => appendV_w (α := List Int) (n := o1_2.length) (m := 1) (ds := [V.isl (x33.map Enc.enc)]) gl36 (by first | rfl | simp) (by first | rfl | simp) rfl a b c d e
      have w35l := app_len gl36
      cases ho
      simp only [simprocAttr, R0, opEv, fillV, mapO, mapS, b122_2, h_22, eq_true hlt, hw, w27a, w27b, w29, eq_true c30, w32, w34, w35]
      refine And.intro rfl (Exists.intro _ ( Exists.intro _ ( And.intro rfl ?_)))
      simp only [simprocAttr, R0, h_22, eq_true hlt, hw, w27a, w27b, w29, eq_true c30, w32, w34, w35]
    · rw [if_neg c30] at ho
      cases ho
      simp only [simprocAttr, R0, opEv, fillV, mapO, mapS, b122_2, h_22, eq_true hlt, hw, w27a, w27b, w29, eq_false c30]
      refine And.intro rfl (Exists.intro _ ( Exists.intro _ ( And.intro rfl ?_)))
      simp only [simprocAttr, R0, h_22, eq_true hlt, hw, w27a, w27b, w29, eq_false c30]
  · rintro v13_2 o1_2 e h ⟨u23, k24, rfl, h_22⟩ hge t1 ho
    unfold F122_2_D at ho
    cases ho
    simp only [simprocAttr, R0, opEv, fillV, mapO, mapS, b122_2, h_22, eq_false hge]
    intro ht; subst ht
    refine And.intro rfl (Exists.intro _ ( Exists.intro _ ( And.intro rfl ?_)))
    simp only [simprocAttr, R0, h_22, eq_false hge]
theorem s122 (a0 : Int) (a1 : Int) (a2 : List (List Int))   {r : List (List Int)} (hF : F122 a0 a1 a2 = some r) : ans A 122 [V.int .i64 a0, V.int .i64 a1, V.isl (a2.map Enc.enc)] = some (Enc.enc r) := by
  refine ans_of (f := p122) rfl rfl rfl fun e hl he => ?_
  have h0_0 : e.at 0 = V.int .i64 a0 := he 0 _ rfl
  have h1_0 : e.at 1 = V.int .i64 a1 := he 1 _ rfl
  have h2_0 : e.at 2 = V.isl (a2.map Enc.enc) := he 2 _ rfl
  have hl_0 : e.length = 68 := hl
  clear he hl
  show W A b122 e ⟨[], 0⟩ _
  unfold F122 at hF
  obtain ⟨⟨zo0_1, zv8_1⟩, gt19, hF⟩ := bS hF
  dsimp only at hF
  simp only [simprocAttr, R0, opEv, fillV, mapO, mapS, b122, hl_0, h0_0, h1_0, h2_0]
  refine W.mono (l122_1 a0 a1 a2   gt19 (Exists.intro _ ( Exists.intro _ ( And.intro rfl ?_)))) ?_
  · simp only [simprocAttr, R0, hl_0, h0_0, h1_0, h2_0]
  rintro _ e _ ⟨rfl, u2, k3, rfl, h_4⟩
  obtain ⟨x20, gx20, hF⟩ := bS hF
  have w21 : ans A 131 [V.int .i64 a0, V.isl (zo0_1.map Enc.enc)] = some (V.isl (x20.map Enc.enc)) := s131 a0 zo0_1  gx20
  obtain ⟨zo1_2, gt37, hF⟩ := bS hF
  simp only [simprocAttr, R0, opEv, fillV, mapO, mapS, h_4, takes (α := List Int) zo0_1, w21]
  refine W.mono (l122_2 zv8_1 x20   gt37 (Exists.intro _ ( Exists.intro _ ( And.intro rfl ?_)))) ?_
  · simp only [simprocAttr, R0, h_4, takes (α := List Int) zo0_1, w21]
  rintro _ e _ ⟨rfl, u23, k24, rfl, h_25⟩
  have hE := Option.some.inj hF; subst hE
  simp only [simprocAttr, R0, opEv, fillV, mapO, mapS, h_25]
  exact fin_ret (by simp only [simprocAttr, R0, fn_out, p122, Rs.ev, mapO, mapS, take_len_self, h_25, frzs (α := List Int) zo1_2, takes (α := List Int) zo1_2])
def F310_1_S (a0 : GFiltered) (a1 : Int) (a2 : Int) (s : (List Int) × Int) : Option (((List Int) × Int) ⊕ ((List Int))) :=
  match s with
  | (o1_1, v8_1) =>
    (F99 a0.Complex a1).bind fun x5 =>
    if v8_1 < x5 then
      (F77 a0 a1 v8_1).bind fun x8 =>
      if x8 ≤ a2 then
        (app 8 o1_1 [v8_1]).bind fun l12 =>
        (chk (v8_1 + 1)).bind fun x13 =>
        some (.inl (l12, x13))
      else
        (chk (v8_1 + 1)).bind fun x14 =>
        some (.inl (o1_1, x14))
    else
      some (.inr o1_1)
def F310 (a0 : GFiltered) (a1 : Int) (a2 : Int) : Option (List Int) :=
  (loopW (F310_1_S a0 a1 a2) ([], 0)).bind fun zo1_1 =>
  some zo1_1
def I310_1 (a0 : GFiltered) (a1 : Int) (a2 : Int)  (s : (List Int) × Int) (e : Env) (h : Heap) : Prop :=
  match s with
  | (o1_1, v8_1) =>
    ∃ u2 k3 : Nat, h = ⟨[(0, none), (u2, some (o1_1.map Enc.enc))], k3⟩ ∧ e.length = 29 ∧ e.at 1 = V.int .i64 a1 ∧ e.at 2 = V.int .i64 a2 ∧ e.at 3 = V.iptr [V.int .i64 a0.Complex.Prime, V.isl (a0.Complex.Dims.map Enc.enc), V.isl (a0.Complex.Maps.map Enc.enc), V.isl (a0.Levels.map Enc.enc)] ∧ e.at 7 = V.sl 1 u2 0 o1_1.length 1 ∧ e.at 8 = V.int .i64 v8_1
def P310_1 (a0 : GFiltered) (a1 : Int) (a2 : Int)  (zo1_1 : (List Int)) (x : Ex) (e : Env) (h : Heap) : Prop :=
  x = .normal ∧ ∃ u2 k3 : Nat, h = ⟨[(0, none), (u2, some (zo1_1.map Enc.enc))], k3⟩ ∧ e.length = 29 ∧ e.at 7 = V.sl 1 u2 0 zo1_1.length 1
theorem l310_1 (a0 : GFiltered) (a1 : Int) (a2 : Int)   {s : (List Int) × Int} {t : (List Int)} (hF : loopW (F310_1_S a0 a1 a2) s = some t) {e : Env} {h : Heap} (hI : I310_1 a0 a1 a2  s e h) : W A c310_1 e h (P310_1 a0 a1 a2  t) := by
  show W A (.block 0 (.loop false b310_1)) e h _
  rw [W_block]
  refine W_loop hF 2 (by rcases s with ⟨_, _⟩; obtain ⟨_, _, rfl, _⟩ := hI; rfl) (I310_1 a0 a1 a2 ) hI ?_
  · rintro ⟨o1_1, v8_1⟩ e h ⟨u2, k3, rfl, h_1⟩ o ho
    unfold F310_1_S at ho
    dsimp only at ho
    obtain ⟨x5, gx5, ho⟩ := bS ho
    have w6 : ans A 99 [(eC a0.Complex), V.int .i64 a1] = some (V.int .i64 x5) := s99 a0.Complex a1  gx5
    by_cases c7 : v8_1 < x5
    · rw [if_pos c7] at ho
      obtain ⟨x8, gx8, ho⟩ := bS ho
      have w9 : ans A 77 [(eF a0), V.int .i64 a1, V.int .i64 v8_1] = some (V.int .i64 x8) := s77 a0 a1 v8_1  gx8
      by_cases c10 : x8 ≤ a2
      · rw [if_pos c10] at ho
        obtain ⟨l12, gl12, ho⟩ := bS ho
        have w11 := fun a b c d e => appendV_w (α := Int) (n := o1_1.length) (m := 1) (ds := [V.int .i64 v8_1]) gl12 (by first | rfl | simp) (by first | rfl | simp) rfl a b c d e
        have w11l := app_len gl12
        obtain ⟨x13, gx13, ho⟩ := bS ho
        have wx13 := chk_w gx13
        cases ho
        simp only [simprocAttr, R0, opEv, fillV, mapO, mapS, b310_1, h_1, w6, eq_true c7, w9, eq_true c10, w11, wx13]
        refine And.intro rfl (Exists.intro _ ( Exists.intro _ ( And.intro rfl ?_)))
        simp only [simprocAttr, R0, h_1, w6, eq_true c7, w9, eq_true c10, w11, wx13]
      · rw [if_neg c10] at ho
        obtain ⟨x14, gx14, ho⟩ := bS ho
        have wx14 := chk_w gx14
        cases ho
        simp only [simprocAttr, R0, opEv, fillV, mapO, mapS, b310_1, h_1, w6, eq_true c7, w9, eq_false c10, wx14]
        refine And.intro rfl (Exists.intro _ ( Exists.intro _ ( And.intro rfl ?_)))
        simp only [simprocAttr, R0, h_1, w6, eq_true c7, w9, eq_false c10, wx14]
    · rw [if_neg c7] at ho
      cases ho
      simp only [simprocAttr, R0, opEv, fillV, mapO, mapS, b310_1, h_1, w6, eq_false c7]
      intro ht; subst ht
      simp only [simprocAttr, RR, RB]
      refine And.intro rfl (Exists.intro _ ( Exists.intro _ ( And.intro rfl ?_)))
      simp only [simprocAttr, R0, h_1, w6, eq_false c7]
theorem s310 (a0 : GFiltered) (a1 : Int) (a2 : Int)   {r : List Int} (hF : F310 a0 a1 a2 = some r) : ans A 310 [(eF a0), V.int .i64 a1, V.int .i64 a2] = some (Enc.enc r) := by
  refine ans_of (f := p310) rfl rfl rfl fun e hl he => ?_
  have h0_0 : e.at 0 = (eF a0) := he 0 _ rfl
  have h1_0 : e.at 1 = V.int .i64 a1 := he 1 _ rfl
  have h2_0 : e.at 2 = V.int .i64 a2 := he 2 _ rfl
  have hl_0 : e.length = 29 := hl
  clear he hl
  show W A b310 e ⟨[], 0⟩ _
  unfold F310 at hF
  obtain ⟨zo1_1, gt15, hF⟩ := bS hF
  simp only [simprocAttr, R0, opEv, fillV, mapO, mapS, b310, hl_0, h0_0, h1_0, h2_0]
  refine W.mono (l310_1 a0 a1 a2   gt15 (Exists.intro _ ( Exists.intro _ ( And.intro rfl ?_)))) ?_
  · simp only [simprocAttr, R0, hl_0, h0_0, h1_0, h2_0]
  rintro _ e _ ⟨rfl, u2, k3, rfl, h_4⟩
  have hE := Option.some.inj hF; subst hE
  simp only [simprocAttr, R0, opEv, fillV, mapO, mapS, h_4]
  exact fin_ret (by simp only [simprocAttr, R0, fn_out, p310, Rs.ev, mapO, mapS, take_len_self, h_4, frzs (α := Int) zo1_1, takes (α := Int) zo1_1])
def F311_2_B (a0 : List (List Int)) (a1 : List Int) (a2 : Int) (o0_1 : List (List Int)) (v8_1 : Int) (v10_2 : Int) (o1_2 : (List Int)) : Option (((List Int)) ⊕ ((List Int))) :=
  (getI a1 v10_2).bind fun x11 =>
(getI a0 v8_1).bind fun x13 =>
(getI x13 v10_2).bind fun x15 =>
(getI o1_2 x11).bind fun x17 =>
(setI o1_2 x11 x15).bind fun l19 =>
some (.inl l19)
def F311_2_D (a0 : List (List Int)) (a1 : List Int) (a2 : Int) (o0_1 : List (List Int)) (v8_1 : Int) (v10_2 : Int) (o1_2 : (List Int)) : Option ((List Int)) :=
  some o1_2
def F311_1_B (a0 : List (List Int)) (a1 : List Int) (a2 : Int) (v8_1 : Int) (o0_1 : (List (List Int))) : Option (((List (List Int))) ⊕ ((List (List Int)))) :=
  (mkL 8 a2 0).bind fun l5 =>
(forR 0 (a1.length : Int) (F311_2_B a0 a1 a2 o0_1 v8_1) (F311_2_D a0 a1 a2 o0_1 v8_1) l5).bind fun zo1_2 =>
(app 24 o0_1 [zo1_2]).bind fun l23 =>
some (.inl l23)
def F311_1_D (a0 : List (List Int)) (a1 : List Int) (a2 : Int) (v8_1 : Int) (o0_1 : (List (List Int))) : Option ((List (List Int))) :=
  some o0_1
def F311 (a0 : List (List Int)) (a1 : List Int) (a2 : Int) : Option (List (List Int)) :=
  (forR 0 (a0.length : Int) (F311_1_B a0 a1 a2) (F311_1_D a0 a1 a2) ([] : (List (List Int)))).bind fun zo0_1 =>
  some zo0_1
def I311_2 (a0 : List (List Int)) (a1 : List Int) (a2 : Int) (o0_1 : List (List Int)) (v8_1 : Int) (u2 : Nat) (v10_2 : Int) (o1_2 : (List Int)) (e : Env) (h : Heap) : Prop :=
  ∃ u8 k9 : Nat, h = ⟨[(u2, some (o0_1.map Enc.enc)), (u8, some (o1_2.map Enc.enc))], k9⟩ ∧ e.length = 44 ∧ e.at 0 = V.isl (a0.map Enc.enc) ∧ e.at 1 = V.isl (a1.map Enc.enc) ∧ e.at 2 = V.int .i64 a2 ∧ e.at 7 = V.sl 0 u2 0 o0_1.length 1 ∧ e.at 8 = V.int .i64 v8_1 ∧ e.at 9 = V.sl 1 u8 0 o1_2.length 1 ∧ e.at 10 = V.int .i64 v10_2
def P311_2 (a0 : List (List Int)) (a1 : List Int) (a2 : Int) (o0_1 : List (List Int)) (v8_1 : Int) (u2 : Nat) (zo1_2 : (List Int)) (x : Ex) (e : Env) (h : Heap) : Prop :=
  x = .normal ∧ ∃ u8 k9 : Nat, h = ⟨[(u2, some (o0_1.map Enc.enc)), (u8, some (zo1_2.map Enc.enc))], k9⟩ ∧ e.length = 44 ∧ e.at 0 = V.isl (a0.map Enc.enc) ∧ e.at 1 = V.isl (a1.map Enc.enc) ∧ e.at 2 = V.int .i64 a2 ∧ e.at 7 = V.sl 0 u2 0 o0_1.length 1 ∧ e.at 8 = V.int .i64 v8_1 ∧ e.at 9 = V.sl 1 u8 0 zo1_2.length 1
theorem l311_2 (a0 : List (List Int)) (a1 : List Int) (a2 : Int) (o0_1 : List (List Int)) (v8_1 : Int) (u2 : Nat)  {lo : Int} {s : (List Int)} {t : (List Int)} (hF : forR lo (a1.length : Int) (F311_2_B a0 a1 a2 o0_1 v8_1) (F311_2_D a0 a1 a2 o0_1 v8_1) s = some t) {e : Env} {h : Heap} (hI : I311_2 a0 a1 a2 o0_1 v8_1 u2 lo s e h) : W A c311_2 e h (P311_2 a0 a1 a2 o0_1 v8_1 u2 t) := by
  show W A (.block 2 (.loop false b311_2)) e h _
  rw [W_block]
  refine W_forR hF 2 (by obtain ⟨_, _, rfl, _⟩ := hI; rfl) (I311_2 a0 a1 a2 o0_1 v8_1 u2) hI ?_ ?_
  · rintro v10_2 o1_2 e h ⟨u8, k9, rfl, h_7⟩ hlt hw o ho
    unfold F311_2_B at ho
    obtain ⟨x11, gx11, ho⟩ := bS ho
    obtain ⟨w12a, w12b⟩ := getI_w gx11
    obtain ⟨x13, gx13, ho⟩ := bS ho
    obtain ⟨w14a, w14b⟩ := getI_w gx13
    obtain ⟨x15, gx15, ho⟩ := bS ho
    obtain ⟨w16a, w16b⟩ := getI_w gx15
    obtain ⟨x17, gx17, ho⟩ := bS ho
    obtain ⟨w18a, w18b⟩ := getI_w gx17
    have w18c := getI_lt gx17
    have w18d : List.drop (Int.toNat x11) (o1_2.map Enc.enc) = (V.int .i64 x17) :: List.drop ((Int.toNat x11) + 1) (o1_2.map Enc.enc) := drop_enc w18b
    obtain ⟨l19, gl19, ho⟩ := bS ho
    obtain ⟨w20a, w20b, w20c, w20d, w20e⟩ := setI_w gl19
    replace w20e : List.take (Int.toNat x11) (o1_2.map Enc.enc) ++ [V.int .i64 x15] ++ List.drop (Int.toNat x11 + 1) (o1_2.map Enc.enc) = List.map Enc.enc l19 := w20e
    cases ho
    simp only [simprocAttr, R0, opEv, fillV, mapO, mapS, b311_2, h_7, eq_true hlt, hw, w12a, w12b, w14a, w14b, w16a, w16b, w18a, w18b, w18c, w18d, w20a, w20b, w20c, w20e]
    refine And.intro rfl (Exists.intro _ ( Exists.intro _ ( And.intro rfl ?_)))
    simp only [simprocAttr, R0, h_7, eq_true hlt, hw, w12a, w12b, w14a, w14b, w16a, w16b, w18a, w18b, w18c, w18d, w20a, w20b, w20c, w20e, w20d]
  · rintro v10_2 o1_2 e h ⟨u8, k9, rfl, h_7⟩ hge t1 ho
    unfold F311_2_D at ho
    cases ho
    simp only [simprocAttr, R0, opEv, fillV, mapO, mapS, b311_2, h_7, eq_false hge]
    intro ht; subst ht
    refine And.intro rfl (Exists.intro _ ( Exists.intro _ ( And.intro rfl ?_)))
    simp only [simprocAttr, R0, h_7, eq_false hge]
def I311_1 (a0 : List (List Int)) (a1 : List Int) (a2 : Int)  (v8_1 : Int) (o0_1 : (List (List Int))) (e : Env) (h : Heap) : Prop :=
  ∃ u2 k3 : Nat, h = ⟨[(u2, some (o0_1.map Enc.enc))], k3⟩ ∧ e.length = 44 ∧ e.at 0 = V.isl (a0.map Enc.enc) ∧ e.at 1 = V.isl (a1.map Enc.enc) ∧ e.at 2 = V.int .i64 a2 ∧ e.at 7 = V.sl 0 u2 0 o0_1.length 1 ∧ e.at 8 = V.int .i64 v8_1
def P311_1 (a0 : List (List Int)) (a1 : List Int) (a2 : Int)  (zo0_1 : (List (List Int))) (x : Ex) (e : Env) (h : Heap) : Prop :=
  x = .normal ∧ ∃ u2 k3 : Nat, h = ⟨[(u2, some (zo0_1.map Enc.enc))], k3⟩ ∧ e.length = 44 ∧ e.at 7 = V.sl 0 u2 0 zo0_1.length 1
theorem l311_1 (a0 : List (List Int)) (a1 : List Int) (a2 : Int)   {lo : Int} {s : (List (List Int))} {t : (List (List Int))} (hF : forR lo (a0.length : Int) (F311_1_B a0 a1 a2) (F311_1_D a0 a1 a2) s = some t) {e : Env} {h : Heap} (hI : I311_1 a0 a1 a2  lo s e h) : W A c311_1 e h (P311_1 a0 a1 a2  t) := by
  show W A (.block 0 (.loop false b311_1)) e h _
  rw [W_block]
  refine W_forR hF 1 (by obtain ⟨_, _, rfl, _⟩ := hI; rfl) (I311_1 a0 a1 a2 ) hI ?_ ?_
  · rintro v8_1 o0_1 e h ⟨u2, k3, rfl, hl_1, h0_1, h1_1, h2_1, h7_1, h8_1⟩ hlt hw o ho
    unfold F311_1_B at ho
    obtain ⟨l5, gl5, ho⟩ := bS ho
    obtain ⟨w6a, w6b, w6c, w6d, w6e⟩ := mkL_w gl5
    replace w6e : (List.replicate (Int.toNat a2) [V.int .i64 0]).flatten = List.map Enc.enc l5 := w6e
    obtain ⟨zo1_2, gt21, ho⟩ := bS ho
    simp only [↓reduceIte, Nat.reduceAdd, Nat.reduceMul, Nat.reduceSub, Nat.reduceLT, Nat.reduceLeDiff, Nat.reduceEqDiff, Nat.reducePow, Int.reducePow, Int.reduceLE, Int.reduceLT, Int.reduceEq, Int.reduceToNat, reduceCtorEq, R0, opEv, fillV, mapO, mapS, b311_1, hl_1, h0_1, h1_1, h2_1, h7_1, h8_1, eq_true hlt, hw, w6a, w6b, w6c, w6e]
    refine W.mono (l311_2 a0 a1 a2 o0_1 v8_1 u2  gt21 (Exists.intro _ ( Exists.intro _ ( And.intro rfl ?_)))) ?_
    · simp only [↓reduceIte, Nat.reduceAdd, Nat.reduceMul, Nat.reduceSub, Nat.reduceLT, Nat.reduceLeDiff, Nat.reduceEqDiff, Nat.reducePow, Int.reducePow, Int.reduceLE, Int.reduceLT, Int.reduceEq, Int.reduceToNat, reduceCtorEq, R0, hl_1, h0_1, h1_1, h2_1, h7_1, h8_1, eq_true hlt, hw, w6a, w6b, w6c, w6e, w6d]
    rintro _ e _ ⟨rfl, u8, k9, rfl, hl_10, h0_10, h1_10, h2_10, h7_10, h8_10, h9_10⟩
    obtain ⟨l23, gl23, ho⟩ := bS ho
    have w22 := fun ents key uid clk he => appendV_w (α := List Int) (n := o0_1.length) (m := 1) (ds := [V.isl (zo1_2.map Enc.enc)]) gl23 (by first | rfl | simp only [List.length_nil]) (by first | rfl | simp only [List.length_nil]) rfl ents key uid clk he
    have w22l := app_len gl23
    have hE := Option.some.inj ho; subst hE
    simp only [↓reduceIte, Nat.reduceAdd, Nat.reduceMul, Nat.reduceSub, Nat.reduceLT, Nat.reduceLeDiff, Nat.reduceEqDiff, Nat.reducePow, Int.reducePow, Int.reduceLE, Int.reduceLT, Int.reduceEq, Int.reduceToNat, reduceCtorEq, R0, opEv, fillV, mapO, mapS, hl_10, h0_10, h1_10, h2_10, h7_10, h8_10, h9_10, eq_true hlt, hw, takes (α := Int) zo1_2, w22]
    refine And.intro rfl (Exists.intro _ ( Exists.intro _ ( And.intro rfl ?_)))
    simp only [↓reduceIte, Nat.reduceAdd, Nat.reduceMul, Nat.reduceSub, Nat.reduceLT, Nat.reduceLeDiff, Nat.reduceEqDiff, Nat.reducePow, Int.reducePow, Int.reduceLE, Int.reduceLT, Int.reduceEq, Int.reduceToNat, reduceCtorEq, R0, hl_10, h0_10, h1_10, h2_10, h7_10, h8_10, h9_10, eq_true hlt, hw, takes (α := Int) zo1_2, w22]
  · rintro v8_1 o0_1 e h ⟨u2, k3, rfl, hl_1, h0_1, h1_1, h2_1, h7_1, h8_1⟩ hge t1 ho
    unfold F311_1_D at ho
    have hE := Option.some.inj ho; subst hE
    simp only [↓reduceIte, Nat.reduceAdd, Nat.reduceMul, Nat.reduceSub, Nat.reduceLT, Nat.reduceLeDiff, Nat.reduceEqDiff, Nat.reducePow, Int.reducePow, Int.reduceLE, Int.reduceLT, Int.reduceEq, Int.reduceToNat, reduceCtorEq, R0, opEv, fillV, mapO, mapS, b311_1, hl_1, h0_1, h1_1, h2_1, h7_1, h8_1, eq_false hge]
    intro ht; subst ht
    refine And.intro rfl (Exists.intro _ ( Exists.intro _ ( And.intro rfl ?_)))
    simp only [↓reduceIte, Nat.reduceAdd, Nat.reduceMul, Nat.reduceSub, Nat.reduceLT, Nat.reduceLeDiff, Nat.reduceEqDiff, Nat.reducePow, Int.reducePow, Int.reduceLE, Int.reduceLT, Int.reduceEq, Int.reduceToNat, reduceCtorEq, R0, hl_1, h0_1, h1_1, h2_1, h7_1, h8_1, eq_false hge]
theorem s311 (a0 : List (List Int)) (a1 : List Int) (a2 : Int)   {r : List (List Int)} (hF : F311 a0 a1 a2 = some r) : ans A 311 [V.isl (a0.map Enc.enc), V.isl (a1.map Enc.enc), V.int .i64 a2] = some (Enc.enc r) := by
  refine ans_of (f := p311) rfl rfl rfl fun e hl he => ?_
  have h0_0 : e.at 0 = V.isl (a0.map Enc.enc) := he 0 _ rfl
  have h1_0 : e.at 1 = V.isl (a1.map Enc.enc) := he 1 _ rfl
  have h2_0 : e.at 2 = V.int .i64 a2 := he 2 _ rfl
  have hl_0 : e.length = 44 := hl
  clear he hl
  show W A b311 e ⟨[], 0⟩ _
  unfold F311 at hF
  obtain ⟨zo0_1, gt24, hF⟩ := bS hF
  simp only [simprocAttr, R0, opEv, fillV, mapO, mapS, b311, hl_0, h0_0, h1_0, h2_0]
  refine W.mono (l311_1 a0 a1 a2   gt24 (Exists.intro _ ( Exists.intro _ ( And.intro rfl ?_)))) ?_
  · simp only [simprocAttr, R0, hl_0, h0_0, h1_0, h2_0]
  rintro _ e _ ⟨rfl, u2, k3, rfl, h_4⟩
  have hE := Option.some.inj hF; subst hE
  simp only [simprocAttr, R0, opEv, fillV, mapO, mapS, h_4]
  exact fin_ret (by simp only [simprocAttr, R0, fn_out, p311, Rs.ev, mapO, mapS, take_len_self, h_4, frzs (α := List Int) zo0_1, takes (α := List Int) zo0_1])
def F280_2_S (a0 : GFiltered) (a1 : Int) (a2 : Int) (a3 : Int) (x1 : Int) (x3 : List Int) (x5 : List (List Int)) (o1_1 : List (List Int)) (v14_1 : Int) (s : (List Int) × Int) : Option (((List Int) × Int) ⊕ ((List Int))) :=
  match s with
  | (o2_2, v16_2) =>
    if 0 < a2 then
      (chk (a2 - 1)).bind fun x16 =>
      (F99 a0.Complex x16).bind fun x17 =>
      if v16_2 < x17 then
        (F77 a0 x16 v16_2).bind fun x20 =>
        (chk (a3 - a1)).bind fun x22 =>
        if x22 < x20 then
          (getI x3 v14_1).bind fun x24 =>
          (getI x5 x24).bind fun x26 =>
          (getI x26 v16_2).bind fun x28 =>
          (app 8 o2_2 [x28]).bind fun l31 =>
          (chk (v16_2 + 1)).bind fun x32 =>
          some (.inl (l31, x32))
        else
          (chk (v16_2 + 1)).bind fun x33 =>
          some (.inl (o2_2, x33))
      else
        some (.inr o2_2)
    else
      some (.inr o2_2)
def F280_1_B (a0 : GFiltered) (a1 : Int) (a2 : Int) (a3 : Int) (x1 : Int) (x3 : List Int) (x5 : List (List Int)) (v14_1 : Int) (o1_1 : (List (List Int))) : Option (((List (List Int))) ⊕ ((List (List Int)))) :=
  (loopW (F280_2_S a0 a1 a2 a3 x1 x3 x5 o1_1 v14_1) ([], 0)).bind fun zo2_2 =>
(app 24 o1_1 [zo2_2]).bind fun l36 =>
some (.inl l36)
def F280_1_D (a0 : GFiltered) (a1 : Int) (a2 : Int) (a3 : Int) (x1 : Int) (x3 : List Int) (x5 : List (List Int)) (v14_1 : Int) (o1_1 : (List (List Int))) : Option ((List (List Int))) :=
  some o1_1
def F280 (a0 : GFiltered) (a1 : Int) (a2 : Int) (a3 : Int) : Option (List (List Int)) :=
  (F99 a0.Complex a2).bind fun x1 =>
  (F310 a0 a2 a3).bind fun x3 =>
  (F76 a0.Complex a2).bind fun x5 =>
  (forR 0 (x3.length : Int) (F280_1_B a0 a1 a2 a3 x1 x3 x5) (F280_1_D a0 a1 a2 a3 x1 x3 x5) ([] : (List (List Int)))).bind fun zo1_1 =>
  (F122 a0.Complex.Prime (x3.length : Int) zo1_1).bind fun x38 =>
  (F311 x38 x3 x1).bind fun x40 =>
  (F131 a0.Complex.Prime x40).bind fun x42 =>
  some x42
def I280_2 (a0 : GFiltered) (a1 : Int) (a2 : Int) (a3 : Int) (x1 : Int) (x3 : List Int) (x5 : List (List Int)) (o1_1 : List (List Int)) (v14_1 : Int) (u8 : Nat) (s : (List Int) × Int) (e : Env) (h : Heap) : Prop :=
  match s with
  | (o2_2, v16_2) =>
    ∃ u12 k13 : Nat, h = ⟨[(0, none), (u8, some (o1_1.map Enc.enc)), (u12, some (o2_2.map Enc.enc))], k13⟩ ∧ e.length = 89 ∧ e.at 1 = V.int .i64 a1 ∧ e.at 2 = V.int .i64 a2 ∧ e.at 3 = V.int .i64 a3 ∧ e.at 4 = V.iptr [V.int .i64 a0.Complex.Prime, V.isl (a0.Complex.Dims.map Enc.enc), V.isl (a0.Complex.Maps.map Enc.enc), V.isl (a0.Levels.map Enc.enc)] ∧ e.at 9 = V.int .i64 a0.Complex.Prime ∧ e.at 10 = V.int .i64 x1 ∧ e.at 11 = V.isl (x3.map Enc.enc) ∧ e.at 12 = V.isl (x5.map Enc.enc) ∧ e.at 13 = V.sl 1 u8 0 o1_1.length 1 ∧ e.at 14 = V.int .i64 v14_1 ∧ e.at 15 = V.sl 2 u12 0 o2_2.length 1 ∧ e.at 16 = V.int .i64 v16_2
def P280_2 (a0 : GFiltered) (a1 : Int) (a2 : Int) (a3 : Int) (x1 : Int) (x3 : List Int) (x5 : List (List Int)) (o1_1 : List (List Int)) (v14_1 : Int) (u8 : Nat) (zo2_2 : (List Int)) (x : Ex) (e : Env) (h : Heap) : Prop :=
  x = .normal ∧ ∃ u12 k13 : Nat, h = ⟨[(0, none), (u8, some (o1_1.map Enc.enc)), (u12, some (zo2_2.map Enc.enc))], k13⟩ ∧ e.length = 89 ∧ e.at 1 = V.int .i64 a1 ∧ e.at 2 = V.int .i64 a2 ∧ e.at 3 = V.int .i64 a3 ∧ e.at 4 = V.iptr [V.int .i64 a0.Complex.Prime, V.isl (a0.Complex.Dims.map Enc.enc), V.isl (a0.Complex.Maps.map Enc.enc), V.isl (a0.Levels.map Enc.enc)] ∧ e.at 9 = V.int .i64 a0.Complex.Prime ∧ e.at 10 = V.int .i64 x1 ∧ e.at 11 = V.isl (x3.map Enc.enc) ∧ e.at 12 = V.isl (x5.map Enc.enc) ∧ e.at 13 = V.sl 1 u8 0 o1_1.length 1 ∧ e.at 14 = V.int .i64 v14_1 ∧ e.at 15 = V.sl 2 u12 0 zo2_2.length 1
theorem l280_2 (a0 : GFiltered) (a1 : Int) (a2 : Int) (a3 : Int) (x1 : Int) (x3 : List Int) (x5 : List (List Int)) (o1_1 : List (List Int)) (v14_1 : Int) (u8 : Nat)  {s : (List Int) × Int} {t : (List Int)} (hF : loopW (F280_2_S a0 a1 a2 a3 x1 x3 x5 o1_1 v14_1) s = some t) {e : Env} {h : Heap} (hI : I280_2 a0 a1 a2 a3 x1 x3 x5 o1_1 v14_1 u8 s e h) : W A c280_2 e h (P280_2 a0 a1 a2 a3 x1 x3 x5 o1_1 v14_1 u8 t) := by
  show W A (.block 2 (.loop false b280_2)) e h _
  rw [W_block]
  refine W_loop hF 3 (by rcases s with ⟨_, _⟩; obtain ⟨_, _, rfl, _⟩ := hI; rfl) (I280_2 a0 a1 a2 a3 x1 x3 x5 o1_1 v14_1 u8) hI ?_
  · rintro ⟨o2_2, v16_2⟩ e h ⟨u12, k13, rfl, h_11⟩ o ho
    unfold F280_2_S at ho
    dsimp only at ho
    by_cases c15 : 0 < a2
    · rw [if_pos c15] at ho
      obtain ⟨x16, gx16, ho⟩ := bS ho
      have wx16 := chk_w gx16
      obtain ⟨x17, gx17, ho⟩ := bS ho
      have w18 : ans A 99 [(eC a0.Complex), V.int .i64 x16] = some (V.int .i64 x17) := s99 a0.Complex x16  gx17
      by_cases c19 : v16_2 < x17
      · rw [if_pos c19] at ho
        obtain ⟨x20, gx20, ho⟩ := bS ho
        have w21 : ans A 77 [(eF a0), V.int .i64 x16, V.int .i64 v16_2] = some (V.int .i64 x20) := s77 a0 x16 v16_2  gx20
        obtain ⟨x22, gx22, ho⟩ := bS ho
        have wx22 := chk_w gx22
        by_cases c23 : x22 < x20
        · rw [if_pos c23] at ho
          obtain ⟨x24, gx24, ho⟩ := bS ho
          obtain ⟨w25a, w25b⟩ := getI_w gx24
          obtain ⟨x26, gx26, ho⟩ := bS ho
          obtain ⟨w27a, w27b⟩ := getI_w gx26
          obtain ⟨x28, gx28, ho⟩ := bS ho
          obtain ⟨w29a, w29b⟩ := getI_w gx28
          obtain ⟨l31, gl31, ho⟩ := bS ho
          have w30 := fun a b c d e => appendV_w (α := Int) (n := o2_2.length) (m := 1) (ds := [V.int .i64 x28]) gl31 (by first | rfl | simp) (by first | rfl | simp) rfl a b c d e
          have w30l := app_len gl31
          obtain ⟨x32, gx32, ho⟩ := bS ho
          have wx32 := chk_w gx32
          cases ho
          simp only [simprocAttr, R0, opEv, fillV, mapO, mapS, b280_2, h_11, eq_true c15, wx16, w18, eq_true c19, w21, wx22, eq_true c23, w25a, w25b, w27a, w27b, w29a, w29b, w30, wx32]
          refine And.intro rfl (Exists.intro _ ( Exists.intro _ ( And.intro rfl ?_)))
          simp only [simprocAttr, R0, h_11, eq_true c15, wx16, w18, eq_true c19, w21, wx22, eq_true c23, w25a, w25b, w27a, w27b, w29a, w29b, w30, wx32]
        · rw [if_neg c23] at ho
          obtain ⟨x33, gx33, ho⟩ := bS ho
          have wx33 := chk_w gx33
          cases ho
          simp only [simprocAttr, R0, opEv, fillV, mapO, mapS, b280_2, h_11, eq_true c15, wx16, w18, eq_true c19, w21, wx22, eq_false c23, wx33]
          refine And.intro rfl (Exists.intro _ ( Exists.intro _ ( And.intro rfl ?_)))
          simp only [simprocAttr, R0, h_11, eq_true c15, wx16, w18, eq_true c19, w21, wx22, eq_false c23, wx33]
      · rw [if_neg c19] at ho
        cases ho
        simp only [simprocAttr, R0, opEv, fillV, mapO, mapS, b280_2, h_11, eq_true c15, wx16, w18, eq_false c19]
        intro ht; subst ht
        simp only [simprocAttr, RR, RB]
        refine And.intro rfl (Exists.intro _ ( Exists.intro _ ( And.intro rfl ?_)))
        simp only [simprocAttr, R0, h_11, eq_true c15, wx16, w18, eq_false c19]
    · rw [if_neg c15] at ho
      cases ho
      simp only [simprocAttr, R0, opEv, fillV, mapO, mapS, b280_2, h_11, eq_false c15]
      intro ht; subst ht
      simp only [simprocAttr, RR, RB]
      refine And.intro rfl (Exists.intro _ ( Exists.intro _ ( And.intro rfl ?_)))
      simp only [simprocAttr, R0, h_11, eq_false c15]
def I280_1 (a0 : GFiltered) (a1 : Int) (a2 : Int) (a3 : Int) (x1 : Int) (x3 : List Int) (x5 : List (List Int))  (v14_1 : Int) (o1_1 : (List (List Int))) (e : Env) (h : Heap) : Prop :=
  ∃ u8 k9 : Nat, h = ⟨[(0, none), (u8, some (o1_1.map Enc.enc))], k9⟩ ∧ e.length = 89 ∧ e.at 1 = V.int .i64 a1 ∧ e.at 2 = V.int .i64 a2 ∧ e.at 3 = V.int .i64 a3 ∧ e.at 4 = V.iptr [V.int .i64 a0.Complex.Prime, V.isl (a0.Complex.Dims.map Enc.enc), V.isl (a0.Complex.Maps.map Enc.enc), V.isl (a0.Levels.map Enc.enc)] ∧ e.at 9 = V.int .i64 a0.Complex.Prime ∧ e.at 10 = V.int .i64 x1 ∧ e.at 11 = V.isl (x3.map Enc.enc) ∧ e.at 12 = V.isl (x5.map Enc.enc) ∧ e.at 13 = V.sl 1 u8 0 o1_1.length 1 ∧ e.at 14 = V.int .i64 v14_1
def P280_1 (a0 : GFiltered) (a1 : Int) (a2 : Int) (a3 : Int) (x1 : Int) (x3 : List Int) (x5 : List (List Int))  (zo1_1 : (List (List Int))) (x : Ex) (e : Env) (h : Heap) : Prop :=
  x = .normal ∧ ∃ u8 k9 : Nat, h = ⟨[(0, none), (u8, some (zo1_1.map Enc.enc))], k9⟩ ∧ e.length = 89 ∧ e.at 9 = V.int .i64 a0.Complex.Prime ∧ e.at 10 = V.int .i64 x1 ∧ e.at 11 = V.isl (x3.map Enc.enc) ∧ e.at 13 = V.sl 1 u8 0 zo1_1.length 1
theorem l280_1 (a0 : GFiltered) (a1 : Int) (a2 : Int) (a3 : Int) (x1 : Int) (x3 : List Int) (x5 : List (List Int))   {lo : Int} {s : (List (List Int))} {t : (List (List Int))} (hF : forR lo (x3.length : Int) (F280_1_B a0 a1 a2 a3 x1 x3 x5) (F280_1_D a0 a1 a2 a3 x1 x3 x5) s = some t) {e : Env} {h : Heap} (hI : I280_1 a0 a1 a2 a3 x1 x3 x5  lo s e h) : W A c280_1 e h (P280_1 a0 a1 a2 a3 x1 x3 x5  t) := by
  show W A (.block 0 (.loop false b280_1)) e h _
  rw [W_block]
  refine W_forR hF 2 (by obtain ⟨_, _, rfl, _⟩ := hI; rfl) (I280_1 a0 a1 a2 a3 x1 x3 x5 ) hI ?_ ?_
  · rintro v14_1 o1_1 e h ⟨u8, k9, rfl, h_7⟩ hlt hw o ho
    unfold F280_1_B at ho
    obtain ⟨zo2_2, gt34, ho⟩ := bS ho
    simp only [simprocAttr, R0, opEv, fillV, mapO, mapS, b280_1, h_7, eq_true hlt, hw]
    refine W.mono (l280_2 a0 a1 a2 a3 x1 x3 x5 o1_1 v14_1 u8  gt34 (Exists.intro _ ( Exists.intro _ ( And.intro rfl ?_)))) ?_
    · simp only [simprocAttr, R0, h_7, eq_true hlt, hw]
    rintro _ e _ ⟨rfl, u12, k13, rfl, h_14⟩
    obtain ⟨l36, gl36, ho⟩ := bS ho
    have w35 := fun a b c d e => appendV_w (α := List Int) (n := o1_1.length) (m := 1) (ds := [V.isl (zo2_2.map Enc.enc)]) gl36 (by first | rfl | simp) (by first | rfl | simp) rfl a b c d e
    have w35l := app_len gl36
    cases ho
    simp only [simprocAttr, R0, opEv, fillV, mapO, mapS, h_14, eq_true hlt, hw, takes (α := Int) zo2_2, w35]
    refine And.intro rfl (Exists.intro _ ( Exists.intro _ ( And.intro rfl ?_)))
    simp only [simprocAttr, R0, h_14, eq_true hlt, hw, takes (α := Int) zo2_2, w35]
  · rintro v14_1 o1_1 e h ⟨u8, k9, rfl, h_7⟩ hge t1 ho
    unfold F280_1_D at ho
    cases ho
    simp only [simprocAttr, R0, opEv, fillV, mapO, mapS, b280_1, h_7, eq_false hge]
    intro ht; subst ht
    refine And.intro rfl (Exists.intro _ ( Exists.intro _ ( And.intro rfl ?_)))
    simp only [simprocAttr, R0, h_7, eq_false hge]
theorem s280 (a0 : GFiltered) (a1 : Int) (a2 : Int) (a3 : Int)   {r : List (List Int)} (hF : F280 a0 a1 a2 a3 = some r) : ans A 280 [(eF a0), V.int .i64 a1, V.int .i64 a2, V.int .i64 a3] = some (Enc.enc r) := by
  refine ans_of (f := p280) rfl rfl rfl fun e hl he => ?_
  have h0_0 : e.at 0 = (eF a0) := he 0 _ rfl
  have h1_0 : e.at 1 = V.int .i64 a1 := he 1 _ rfl
  have h2_0 : e.at 2 = V.int .i64 a2 := he 2 _ rfl
  have h3_0 : e.at 3 = V.int .i64 a3 := he 3 _ rfl
  have hl_0 : e.length = 89 := hl
  clear he hl
  show W A b280 e ⟨[], 0⟩ _
  unfold F280 at hF
  obtain ⟨x1, gx1, hF⟩ := bS hF
  have w2 : ans A 99 [(eC a0.Complex), V.int .i64 a2] = some (V.int .i64 x1) := s99 a0.Complex a2  gx1
  obtain ⟨x3, gx3, hF⟩ := bS hF
  have w4 : ans A 310 [(eF a0), V.int .i64 a2, V.int .i64 a3] = some (V.isl (x3.map Enc.enc)) := s310 a0 a2 a3  gx3
  obtain ⟨x5, gx5, hF⟩ := bS hF
  have w6 : ans A 76 [(eC a0.Complex), V.int .i64 a2] = some (V.isl (x5.map Enc.enc)) := s76 a0.Complex a2  gx5
  obtain ⟨zo1_1, gt37, hF⟩ := bS hF
  simp only [simprocAttr, R0, opEv, fillV, mapO, mapS, b280, hl_0, h0_0, h1_0, h2_0, h3_0, w2, w4, w6]
  refine W.mono (l280_1 a0 a1 a2 a3 x1 x3 x5   gt37 (Exists.intro _ ( Exists.intro _ ( And.intro rfl ?_)))) ?_
  · simp only [simprocAttr, R0, hl_0, h0_0, h1_0, h2_0, h3_0, w2, w4, w6]
  rintro _ e _ ⟨rfl, u8, k9, rfl, h_10⟩
  obtain ⟨x38, gx38, hF⟩ := bS hF
  have w39 : ans A 122 [V.int .i64 a0.Complex.Prime, V.int .i64 (x3.length : Int), V.isl (zo1_1.map Enc.enc)] = some (V.isl (x38.map Enc.enc)) := s122 a0.Complex.Prime (x3.length : Int) zo1_1  gx38
  obtain ⟨x40, gx40, hF⟩ := bS hF
  have w41 : ans A 311 [V.isl (x38.map Enc.enc), V.isl (x3.map Enc.enc), V.int .i64 x1] = some (V.isl (x40.map Enc.enc)) := s311 x38 x3 x1  gx40
  obtain ⟨x42, gx42, hF⟩ := bS hF
  have w43 : ans A 131 [V.int .i64 a0.Complex.Prime, V.isl (x40.map Enc.enc)] = some (V.isl (x42.map Enc.enc)) := s131 a0.Complex.Prime x40  gx42
  cases hF
  simp only [simprocAttr, R0, opEv, fillV, mapO, mapS, h_10, takes (α := List Int) zo1_1, w39, w41, w43]
  exact fin_ret (by simp only [simprocAttr, R0, fn_out, p280, Rs.ev, mapO, mapS, take_len_self, h_10, takes (α := List Int) zo1_1, w39, w41, w43])
def F281_1_B (a0 : GFiltered) (a1 : Int) (a2 : List (List Int)) (v8_1 : Int) (o1_1 : (List (List Int))) : Option (((List (List Int))) ⊕ ((List (List Int)))) :=
  (F76 a0.Complex a1).bind fun x5 =>
(getI a2 v8_1).bind fun x7 =>
(chk (a1 - 1)).bind fun x9 =>
(F99 a0.Complex x9).bind fun x10 =>
(F80 a0.Complex.Prime x5 x7 x10).bind fun x12 =>
(app 24 o1_1 [x12]).bind fun l15 =>
some (.inl l15)
def F281_1_D (a0 : GFiltered) (a1 : Int) (a2 : List (List Int)) (v8_1 : Int) (o1_1 : (List (List Int))) : Option ((List (List Int))) :=
  some o1_1
def F281 (a0 : GFiltered) (a1 : Int) (a2 : List (List Int)) : Option (List (List Int)) :=
  (forR 0 (a2.length : Int) (F281_1_B a0 a1 a2) (F281_1_D a0 a1 a2) ([] : (List (List Int)))).bind fun zo1_1 =>
  some zo1_1
def I281_1 (a0 : GFiltered) (a1 : Int) (a2 : List (List Int))  (v8_1 : Int) (o1_1 : (List (List Int))) (e : Env) (h : Heap) : Prop :=
  ∃ u2 k3 : Nat, h = ⟨[(0, none), (u2, some (o1_1.map Enc.enc))], k3⟩ ∧ e.length = 37 ∧ e.at 1 = V.int .i64 a1 ∧ e.at 2 = V.isl (a2.map Enc.enc) ∧ e.at 3 = V.iptr [V.int .i64 a0.Complex.Prime, V.isl (a0.Complex.Dims.map Enc.enc), V.isl (a0.Complex.Maps.map Enc.enc), V.isl (a0.Levels.map Enc.enc)] ∧ e.at 7 = V.sl 1 u2 0 o1_1.length 1 ∧ e.at 8 = V.int .i64 v8_1
def P281_1 (a0 : GFiltered) (a1 : Int) (a2 : List (List Int))  (zo1_1 : (List (List Int))) (x : Ex) (e : Env) (h : Heap) : Prop :=
  x = .normal ∧ ∃ u2 k3 : Nat, h = ⟨[(0, none), (u2, some (zo1_1.map Enc.enc))], k3⟩ ∧ e.length = 37 ∧ e.at 7 = V.sl 1 u2 0 zo1_1.length 1
theorem l281_1 (a0 : GFiltered) (a1 : Int) (a2 : List (List Int))   {lo : Int} {s : (List (List Int))} {t : (List (List Int))} (hF : forR lo (a2.length : Int) (F281_1_B a0 a1 a2) (F281_1_D a0 a1 a2) s = some t) {e : Env} {h : Heap} (hI : I281_1 a0 a1 a2  lo s e h) : W A c281_1 e h (P281_1 a0 a1 a2  t) := by
  show W A (.block 0 (.loop false b281_1)) e h _
  rw [W_block]
  refine W_forR hF 2 (by obtain ⟨_, _, rfl, _⟩ := hI; rfl) (I281_1 a0 a1 a2 ) hI ?_ ?_
  · rintro v8_1 o1_1 e h ⟨u2, k3, rfl, h_1⟩ hlt hw o ho
    unfold F281_1_B at ho
    obtain ⟨x5, gx5, ho⟩ := bS ho
    have w6 : ans A 76 [(eC a0.Complex), V.int .i64 a1] = some (V.isl (x5.map Enc.enc)) := s76 a0.Complex a1  gx5
    obtain ⟨x7, gx7, ho⟩ := bS ho
    obtain ⟨w8a, w8b⟩ := getI_w gx7
    obtain ⟨x9, gx9, ho⟩ := bS ho
    have wx9 := chk_w gx9
    obtain ⟨x10, gx10, ho⟩ := bS ho
    have w11 : ans A 99 [(eC a0.Complex), V.int .i64 x9] = some (V.int .i64 x10) := s99 a0.Complex x9  gx10
    obtain ⟨x12, gx12, ho⟩ := bS ho
    have w13 : ans A 80 [V.int .i64 a0.Complex.Prime, V.isl (x5.map Enc.enc), V.isl (x7.map Enc.enc), V.int .i64 x10] = some (V.isl (x12.map Enc.enc)) := s80 a0.Complex.Prime x5 x7 x10  gx12
    obtain ⟨l15, gl15, ho⟩ := bS ho
    have w14 := fun a b c d e => appendV_w (α := List Int) (n := o1_1.length) (m := 1) (ds := [V.isl (x12.map Enc.enc)]) gl15 (by first | rfl | simp) (by first | rfl | simp) rfl a b c d e
    have w14l := app_len gl15
    cases ho
    simp only [simprocAttr, R0, opEv, fillV, mapO, mapS, b281_1, h_1, eq_true hlt, hw, w6, w8a, w8b, wx9, w11, w13, w14]
    refine And.intro rfl (Exists.intro _ ( Exists.intro _ ( And.intro rfl ?_)))
    simp only [simprocAttr, R0, h_1, eq_true hlt, hw, w6, w8a, w8b, wx9, w11, w13, w14]
  · rintro v8_1 o1_1 e h ⟨u2, k3, rfl, h_1⟩ hge t1 ho
    unfold F281_1_D at ho
    cases ho
    simp only [simprocAttr, R0, opEv, fillV, mapO, mapS, b281_1, h_1, eq_false hge]
    intro ht; subst ht
    refine And.intro rfl (Exists.intro _ ( Exists.intro _ ( And.intro rfl ?_)))
    simp only [simprocAttr, R0, h_1, eq_false hge]
theorem s281 (a0 : GFiltered) (a1 : Int) (a2 : List (List Int))   {r : List (List Int)} (hF : F281 a0 a1 a2 = some r) : ans A 281 [(eF a0), V.int .i64 a1, V.isl (a2.map Enc.enc)] = some (Enc.enc r) := by
  refine ans_of (f := p281) rfl rfl rfl fun e hl he => ?_
  have h0_0 : e.at 0 = (eF a0) := he 0 _ rfl
  have h1_0 : e.at 1 = V.int .i64 a1 := he 1 _ rfl
  have h2_0 : e.at 2 = V.isl (a2.map Enc.enc) := he 2 _ rfl
  have hl_0 : e.length = 37 := hl
  clear he hl
  show W A b281 e ⟨[], 0⟩ _
  unfold F281 at hF
  obtain ⟨zo1_1, gt16, hF⟩ := bS hF
  simp only [simprocAttr, R0, opEv, fillV, mapO, mapS, b281, hl_0, h0_0, h1_0, h2_0]
  refine W.mono (l281_1 a0 a1 a2   gt16 (Exists.intro _ ( Exists.intro _ ( And.intro rfl ?_)))) ?_
  · simp only [simprocAttr, R0, hl_0, h0_0, h1_0, h2_0]
  rintro _ e _ ⟨rfl, u2, k3, rfl, h_4⟩
  have hE := Option.some.inj hF; subst hE
  simp only [simprocAttr, R0, opEv, fillV, mapO, mapS, h_4]
  exact fin_ret (by simp only [simprocAttr, R0, fn_out, p281, Rs.ev, mapO, mapS, take_len_self, h_4, frzs (α := List Int) zo1_1, takes (α := List Int) zo1_1])
def F279 (a0 : GFiltered) (a1 : Int) (a2 : Int) (a3 : Int) : Option (List (List Int)) :=
  (chk (a1 - 1)).bind fun x1 =>
  (chk (a3 - 1)).bind fun x2 =>
  (F280 a0 x1 a2 x2).bind fun x3 =>
  (app 24 ([] : List (List Int)) x3).bind fun l6 =>
  (chk (a2 + 1)).bind fun x7 =>
  if x7 < (a0.Levels.length : Int) then
    (chk (a3 + a1)).bind fun x9 =>
    (chk (x9 - 1)).bind fun x10 =>
    (F280 a0 x1 x7 x10).bind fun x11 =>
    (F281 a0 x7 x11).bind fun x13 =>
    (app 24 l6 x13).bind fun l16 =>
    (F131 a0.Complex.Prime l16).bind fun x17 =>
    some x17
  else
    (F131 a0.Complex.Prime l6).bind fun x19 =>
    some x19
theorem s279 (a0 : GFiltered) (a1 : Int) (a2 : Int) (a3 : Int)   {r : List (List Int)} (hF : F279 a0 a1 a2 a3 = some r) : ans A 279 [(eF a0), V.int .i64 a1, V.int .i64 a2, V.int .i64 a3] = some (Enc.enc r) := by
  refine ans_of (f := p279) rfl rfl rfl fun e hl he => ?_
  have h0_0 : e.at 0 = (eF a0) := he 0 _ rfl
  have h1_0 : e.at 1 = V.int .i64 a1 := he 1 _ rfl
  have h2_0 : e.at 2 = V.int .i64 a2 := he 2 _ rfl
  have h3_0 : e.at 3 = V.int .i64 a3 := he 3 _ rfl
  have hl_0 : e.length = 46 := hl
  clear he hl
  have h_0 := And.intro hl_0 (And.intro h0_0 (And.intro h1_0 (And.intro h2_0 h3_0)))
  show W A b279 e ⟨[], 0⟩ _
  unfold F279 at hF
  obtain ⟨x1, gx1, hF⟩ := bS hF
  have wx1 := chk_w gx1
  obtain ⟨x2, gx2, hF⟩ := bS hF
  have wx2 := chk_w gx2
  obtain ⟨x3, gx3, hF⟩ := bS hF
  have w4 : ans A 280 [(eF a0), V.int .i64 x1, V.int .i64 a2, V.int .i64 x2] = some (V.isl (x3.map Enc.enc)) := s280 a0 x1 a2 x2  gx3
  obtain ⟨l6, gl6, hF⟩ := bS hF
  have w5 := fun a b c d e => appendV_w (α := List Int) (n := 0) (m := x3.length) (ds := List.map Enc.enc x3) gl6 (by first | rfl | simp) (by first | rfl | simp) rfl a b c d e
  have w5l := app_len gl6
  obtain ⟨x7, gx7, hF⟩ := bS hF
  have wx7 := chk_w gx7
  by_cases c8 : x7 < (a0.Levels.length : Int)
  · rw [if_pos c8] at hF
    obtain ⟨x9, gx9, hF⟩ := bS hF
    have wx9 := chk_w gx9
    obtain ⟨x10, gx10, hF⟩ := bS hF
    have wx10 := chk_w gx10
    obtain ⟨x11, gx11, hF⟩ := bS hF
    have w12 : ans A 280 [(eF a0), V.int .i64 x1, V.int .i64 x7, V.int .i64 x10] = some (V.isl (x11.map Enc.enc)) := s280 a0 x1 x7 x10  gx11
    obtain ⟨x13, gx13, hF⟩ := bS hF
    have w14 : ans A 281 [(eF a0), V.int .i64 x7, V.isl (x11.map Enc.enc)] = some (V.isl (x13.map Enc.enc)) := s281 a0 x7 x11  gx13
    obtain ⟨l16, gl16, hF⟩ := bS hF
    have w15 := fun a b c d e => appendV_w (α := List Int) (n := l6.length) (m := x13.length) (ds := List.map Enc.enc x13) gl16 (by first | rfl | simp) (by first | rfl | simp) rfl a b c d e
    have w15l := app_len gl16
    obtain ⟨x17, gx17, hF⟩ := bS hF
    have w18 : ans A 131 [V.int .i64 a0.Complex.Prime, V.isl (l16.map Enc.enc)] = some (V.isl (x17.map Enc.enc)) := s131 a0.Complex.Prime l16  gx17
    cases hF
    simp only [simprocAttr, R0, opEv, fillV, mapO, mapS, b279, h_0, wx1, wx2, w4, w5, wx7, eq_true c8, wx9, wx10, w12, w14, w15, takes (α := List Int) l16, w18]
    exact fin_ret (by simp only [simprocAttr, R0, fn_out, p279, Rs.ev, mapO, mapS, take_len_self, h_0, wx1, wx2, w4, w5, wx7, eq_true c8, wx9, wx10, w12, w14, w15, takes (α := List Int) l16, w18])
  · rw [if_neg c8] at hF
    obtain ⟨x19, gx19, hF⟩ := bS hF
    have w20 : ans A 131 [V.int .i64 a0.Complex.Prime, V.isl (l6.map Enc.enc)] = some (V.isl (x19.map Enc.enc)) := s131 a0.Complex.Prime l6  gx19
    cases hF
    simp only [simprocAttr, R0, opEv, fillV, mapO, mapS, b279, h_0, wx1, wx2, w4, w5, wx7, eq_false c8, takes (α := List Int) l6, w20]
    exact fin_ret (by simp only [simprocAttr, R0, fn_out, p279, Rs.ev, mapO, mapS, take_len_self, h_0, wx1, wx2, w4, w5, wx7, eq_false c8, takes (α := List Int) l6, w20])
def F297 (a0 : GFiltered) (a1 : Int) (a2 : Int) (a3 : Int) : Option Int :=
  (F280 a0 a1 a2 a3).bind fun x1 =>
  (F279 a0 a1 a2 a3).bind fun x3 =>
  (chk ((x1.length : Int) - (x3.length : Int))).bind fun x5 =>
  some x5
theorem s297 (a0 : GFiltered) (a1 : Int) (a2 : Int) (a3 : Int)   {r : Int} (hF : F297 a0 a1 a2 a3 = some r) : ans A 297 [(eF a0), V.int .i64 a1, V.int .i64 a2, V.int .i64 a3] = some (Enc.enc r) := by
  refine ans_of (f := p297) rfl rfl rfl fun e hl he => ?_
  have h0_0 : e.at 0 = (eF a0) := he 0 _ rfl
  have h1_0 : e.at 1 = V.int .i64 a1 := he 1 _ rfl
  have h2_0 : e.at 2 = V.int .i64 a2 := he 2 _ rfl
  have h3_0 : e.at 3 = V.int .i64 a3 := he 3 _ rfl
  have hl_0 : e.length = 22 := hl
  clear he hl
  show W A b297 e ⟨[], 0⟩ _
  unfold F297 at hF
  obtain ⟨x1, gx1, hF⟩ := bS hF
  have w2 : ans A 280 [(eF a0), V.int .i64 a1, V.int .i64 a2, V.int .i64 a3] = some (V.isl (x1.map Enc.enc)) := s280 a0 a1 a2 a3  gx1
  obtain ⟨x3, gx3, hF⟩ := bS hF
  have w4 : ans A 279 [(eF a0), V.int .i64 a1, V.int .i64 a2, V.int .i64 a3] = some (V.isl (x3.map Enc.enc)) := s279 a0 a1 a2 a3  gx3
  obtain ⟨x5, gx5, hF⟩ := bS hF
  have wx5 := chk_w gx5
  cases hF
  simp only [simprocAttr, R0, opEv, fillV, mapO, mapS, b297, hl_0, h0_0, h1_0, h2_0, h3_0, w2, w4, wx5]
  exact fin_ret (by simp only [simprocAttr, R0, fn_out, p297, Rs.ev, mapO, mapS, take_len_self, hl_0, h0_0, h1_0, h2_0, h3_0, w2, w4, wx5])
def F260_2_S (a0 : GFiltered) (a1 : Int) (o1_1 : List (List Int)) (v6_1 : Int) (s : (List Int) × Int) : Option (((List Int) × Int) ⊕ ((List Int))) :=
  match s with
  | (o2_2, v8_2) =>
    if v8_2 ≤ 5 then
      (F297 a0 a1 v6_1 v8_2).bind fun x10 =>
      (app 8 o2_2 [x10]).bind fun l13 =>
      (chk (v8_2 + 1)).bind fun x14 =>
      some (.inl (l13, x14))
    else
      some (.inr o2_2)
def F260_1_B (a0 : GFiltered) (a1 : Int) (v6_1 : Int) (o1_1 : (List (List Int))) : Option (((List (List Int))) ⊕ ((List (List Int)))) :=
  (loopW (F260_2_S a0 a1 o1_1 v6_1) ([], 0)).bind fun zo2_2 =>
(app 24 o1_1 [zo2_2]).bind fun l17 =>
some (.inl l17)
def F260_1_D (a0 : GFiltered) (a1 : Int) (v6_1 : Int) (o1_1 : (List (List Int))) : Option ((List (List Int))) :=
  some o1_1
def F260 (a0 : GFiltered) (a1 : Int) : Option (List (List Int)) :=
  (forR 0 (a0.Levels.length : Int) (F260_1_B a0 a1) (F260_1_D a0 a1) ([] : (List (List Int)))).bind fun zo1_1 =>
  some zo1_1
def I260_2 (a0 : GFiltered) (a1 : Int) (o1_1 : List (List Int)) (v6_1 : Int) (u2 : Nat) (s : (List Int) × Int) (e : Env) (h : Heap) : Prop :=
  match s with
  | (o2_2, v8_2) =>
    ∃ u6 k7 : Nat, h = ⟨[(0, none), (u2, some (o1_1.map Enc.enc)), (u6, some (o2_2.map Enc.enc))], k7⟩ ∧ e.length = 35 ∧ e.at 1 = V.int .i64 a1 ∧ e.at 2 = V.iptr [V.int .i64 a0.Complex.Prime, V.isl (a0.Complex.Dims.map Enc.enc), V.isl (a0.Complex.Maps.map Enc.enc), V.isl (a0.Levels.map Enc.enc)] ∧ e.at 5 = V.sl 1 u2 0 o1_1.length 1 ∧ e.at 6 = V.int .i64 v6_1 ∧ e.at 7 = V.sl 2 u6 0 o2_2.length 1 ∧ e.at 8 = V.int .i64 v8_2
def P260_2 (a0 : GFiltered) (a1 : Int) (o1_1 : List (List Int)) (v6_1 : Int) (u2 : Nat) (zo2_2 : (List Int)) (x : Ex) (e : Env) (h : Heap) : Prop :=
  x = .normal ∧ ∃ u6 k7 : Nat, h = ⟨[(0, none), (u2, some (o1_1.map Enc.enc)), (u6, some (zo2_2.map Enc.enc))], k7⟩ ∧ e.length = 35 ∧ e.at 1 = V.int .i64 a1 ∧ e.at 2 = V.iptr [V.int .i64 a0.Complex.Prime, V.isl (a0.Complex.Dims.map Enc.enc), V.isl (a0.Complex.Maps.map Enc.enc), V.isl (a0.Levels.map Enc.enc)] ∧ e.at 5 = V.sl 1 u2 0 o1_1.length 1 ∧ e.at 6 = V.int .i64 v6_1 ∧ e.at 7 = V.sl 2 u6 0 zo2_2.length 1
theorem l260_2 (a0 : GFiltered) (a1 : Int) (o1_1 : List (List Int)) (v6_1 : Int) (u2 : Nat)  {s : (List Int) × Int} {t : (List Int)} (hF : loopW (F260_2_S a0 a1 o1_1 v6_1) s = some t) {e : Env} {h : Heap} (hI : I260_2 a0 a1 o1_1 v6_1 u2 s e h) : W A c260_2 e h (P260_2 a0 a1 o1_1 v6_1 u2 t) := by
  show W A (.block 2 (.loop false b260_2)) e h _
  rw [W_block]
  refine W_loop hF 3 (by rcases s with ⟨_, _⟩; obtain ⟨_, _, rfl, _⟩ := hI; rfl) (I260_2 a0 a1 o1_1 v6_1 u2) hI ?_
  · rintro ⟨o2_2, v8_2⟩ e h ⟨u6, k7, rfl, h_5⟩ o ho
    unfold F260_2_S at ho
    dsimp only at ho
    by_cases c9 : v8_2 ≤ 5
    · rw [if_pos c9] at ho
      obtain ⟨x10, gx10, ho⟩ := bS ho
      have w11 : ans A 297 [(eF a0), V.int .i64 a1, V.int .i64 v6_1, V.int .i64 v8_2] = some (V.int .i64 x10) := s297 a0 a1 v6_1 v8_2  gx10
      obtain ⟨l13, gl13, ho⟩ := bS ho
      have w12 := fun a b c d e => appendV_w (α := Int) (n := o2_2.length) (m := 1) (ds := [V.int .i64 x10]) gl13 (by first | rfl | simp) (by first | rfl | simp) rfl a b c d e
      have w12l := app_len gl13
      obtain ⟨x14, gx14, ho⟩ := bS ho
      have wx14 := chk_w gx14
      cases ho
      simp only [simprocAttr, R0, opEv, fillV, mapO, mapS, b260_2, h_5, eq_true c9, w11, w12, wx14]
      refine And.intro rfl (Exists.intro _ ( Exists.intro _ ( And.intro rfl ?_)))
      simp only [simprocAttr, R0, h_5, eq_true c9, w11, w12, wx14]
    · rw [if_neg c9] at ho
      cases ho
      simp only [simprocAttr, R0, opEv, fillV, mapO, mapS, b260_2, h_5, eq_false c9]
      intro ht; subst ht
      simp only [simprocAttr, RR, RB]
      refine And.intro rfl (Exists.intro _ ( Exists.intro _ ( And.intro rfl ?_)))
      simp only [simprocAttr, R0, h_5, eq_false c9]
def I260_1 (a0 : GFiltered) (a1 : Int)  (v6_1 : Int) (o1_1 : (List (List Int))) (e : Env) (h : Heap) : Prop :=
  ∃ u2 k3 : Nat, h = ⟨[(0, none), (u2, some (o1_1.map Enc.enc))], k3⟩ ∧ e.length = 35 ∧ e.at 1 = V.int .i64 a1 ∧ e.at 2 = V.iptr [V.int .i64 a0.Complex.Prime, V.isl (a0.Complex.Dims.map Enc.enc), V.isl (a0.Complex.Maps.map Enc.enc), V.isl (a0.Levels.map Enc.enc)] ∧ e.at 5 = V.sl 1 u2 0 o1_1.length 1 ∧ e.at 6 = V.int .i64 v6_1
def P260_1 (a0 : GFiltered) (a1 : Int)  (zo1_1 : (List (List Int))) (x : Ex) (e : Env) (h : Heap) : Prop :=
  x = .normal ∧ ∃ u2 k3 : Nat, h = ⟨[(0, none), (u2, some (zo1_1.map Enc.enc))], k3⟩ ∧ e.length = 35 ∧ e.at 5 = V.sl 1 u2 0 zo1_1.length 1
theorem l260_1 (a0 : GFiltered) (a1 : Int)   {lo : Int} {s : (List (List Int))} {t : (List (List Int))} (hF : forR lo (a0.Levels.length : Int) (F260_1_B a0 a1) (F260_1_D a0 a1) s = some t) {e : Env} {h : Heap} (hI : I260_1 a0 a1  lo s e h) : W A c260_1 e h (P260_1 a0 a1  t) := by
  show W A (.block 0 (.loop false b260_1)) e h _
  rw [W_block]
  refine W_forR hF 2 (by obtain ⟨_, _, rfl, _⟩ := hI; rfl) (I260_1 a0 a1 ) hI ?_ ?_
  · rintro v6_1 o1_1 e h ⟨u2, k3, rfl, h_1⟩ hlt hw o ho
    unfold F260_1_B at ho
    obtain ⟨zo2_2, gt15, ho⟩ := bS ho
    simp only [simprocAttr, R0, opEv, fillV, mapO, mapS, b260_1, h_1, eq_true hlt, hw]
    refine W.mono (l260_2 a0 a1 o1_1 v6_1 u2  gt15 (Exists.intro _ ( Exists.intro _ ( And.intro rfl ?_)))) ?_
    · simp only [simprocAttr, R0, h_1, eq_true hlt, hw]
    rintro _ e _ ⟨rfl, u6, k7, rfl, h_8⟩
    obtain ⟨l17, gl17, ho⟩ := bS ho
    have w16 := fun a b c d e => appendV_w (α := List Int) (n := o1_1.length) (m := 1) (ds := [V.isl (zo2_2.map Enc.enc)]) gl17 (by first | rfl | simp) (by first | rfl | simp) rfl a b c d e
    have w16l := app_len gl17
    cases ho
    simp only [simprocAttr, R0, opEv, fillV, mapO, mapS, h_8, eq_true hlt, hw, takes (α := Int) zo2_2, w16]
    refine And.intro rfl (Exists.intro _ ( Exists.intro _ ( And.intro rfl ?_)))
    simp only [simprocAttr, R0, h_8, eq_true hlt, hw, takes (α := Int) zo2_2, w16]
  · rintro v6_1 o1_1 e h ⟨u2, k3, rfl, h_1⟩ hge t1 ho
    unfold F260_1_D at ho
    cases ho
    simp only [simprocAttr, R0, opEv, fillV, mapO, mapS, b260_1, h_1, eq_false hge]
    intro ht; subst ht
    refine And.intro rfl (Exists.intro _ ( Exists.intro _ ( And.intro rfl ?_)))
    simp only [simprocAttr, R0, h_1, eq_false hge]
theorem s260 (a0 : GFiltered) (a1 : Int)   {r : List (List Int)} (hF : F260 a0 a1 = some r) : ans A 260 [(eF a0), V.int .i64 a1] = some (Enc.enc r) := by
  refine ans_of (f := p260) rfl rfl rfl fun e hl he => ?_
  have h0_0 : e.at 0 = (eF a0) := he 0 _ rfl
  have h1_0 : e.at 1 = V.int .i64 a1 := he 1 _ rfl
  have hl_0 : e.length = 35 := hl
  clear he hl
  show W A b260 e ⟨[], 0⟩ _
  unfold F260 at hF
  obtain ⟨zo1_1, gt18, hF⟩ := bS hF
  simp only [simprocAttr, R0, opEv, fillV, mapO, mapS, b260, hl_0, h0_0, h1_0]
  refine W.mono (l260_1 a0 a1   gt18 (Exists.intro _ ( Exists.intro _ ( And.intro rfl ?_)))) ?_
  · simp only [simprocAttr, R0, hl_0, h0_0, h1_0]
  rintro _ e _ ⟨rfl, u2, k3, rfl, h_4⟩
  have hE := Option.some.inj hF; subst hE
  simp only [simprocAttr, R0, opEv, fillV, mapO, mapS, h_4]
  exact fin_ret (by simp only [simprocAttr, R0, fn_out, p260, Rs.ev, mapO, mapS, take_len_self, h_4, frzs (α := List Int) zo1_1, takes (α := List Int) zo1_1])
def F251 (a0 : GComplex) (a1 : Int) : Option (List (List Int)) :=
  (chk (a1 + 1)).bind fun x1 =>
  (F76 a0 x1).bind fun x2 =>
  (F131 a0.Prime x2).bind fun x4 =>
  some x4
theorem s251 (a0 : GComplex) (a1 : Int)   {r : List (List Int)} (hF : F251 a0 a1 = some r) : ans A 251 [(eC a0), V.int .i64 a1] = some (Enc.enc r) := by
  refine ans_of (f := p251) rfl rfl rfl fun e hl he => ?_
  have h0_0 : e.at 0 = (eC a0) := he 0 _ rfl
  have h1_0 : e.at 1 = V.int .i64 a1 := he 1 _ rfl
  have hl_0 : e.length = 12 := hl
  clear he hl
  show W A b251 e ⟨[], 0⟩ _
  unfold F251 at hF
  obtain ⟨x1, gx1, hF⟩ := bS hF
  have wx1 := chk_w gx1
  obtain ⟨x2, gx2, hF⟩ := bS hF
  have w3 : ans A 76 [(eC a0), V.int .i64 x1] = some (V.isl (x2.map Enc.enc)) := s76 a0 x1  gx2
  obtain ⟨x4, gx4, hF⟩ := bS hF
  have w5 : ans A 131 [V.int .i64 a0.Prime, V.isl (x2.map Enc.enc)] = some (V.isl (x4.map Enc.enc)) := s131 a0.Prime x2  gx4
  cases hF
  simp only [simprocAttr, R0, opEv, fillV, mapO, mapS, b251, hl_0, h0_0, h1_0, wx1, w3, w5]
  exact fin_ret (by simp only [simprocAttr, R0, fn_out, p251, Rs.ev, mapO, mapS, take_len_self, hl_0, h0_0, h1_0, wx1, w3, w5])
def F331 (a0 : GFiltered) (a1 : Int) (a2 : Int) : Option Int :=
  (F280 a0 13 a1 a2).bind fun x1 =>
  (app 24 ([] : List (List Int)) x1).bind fun l4 =>
  (F251 a0.Complex a1).bind fun x5 =>
  (app 24 l4 x5).bind fun l8 =>
  (F131 a0.Complex.Prime l8).bind fun x9 =>
  some (x9.length : Int)
theorem s331 (a0 : GFiltered) (a1 : Int) (a2 : Int)   {r : Int} (hF : F331 a0 a1 a2 = some r) : ans A 331 [(eF a0), V.int .i64 a1, V.int .i64 a2] = some (Enc.enc r) := by
  refine ans_of (f := p331) rfl rfl rfl fun e hl he => ?_
  have h0_0 : e.at 0 = (eF a0) := he 0 _ rfl
  have h1_0 : e.at 1 = V.int .i64 a1 := he 1 _ rfl
  have h2_0 : e.at 2 = V.int .i64 a2 := he 2 _ rfl
  have hl_0 : e.length = 25 := hl
  clear he hl
  show W A b331 e ⟨[], 0⟩ _
  unfold F331 at hF
  obtain ⟨x1, gx1, hF⟩ := bS hF
  have w2 : ans A 280 [(eF a0), V.int .i64 13, V.int .i64 a1, V.int .i64 a2] = some (V.isl (x1.map Enc.enc)) := s280 a0 13 a1 a2  gx1
  obtain ⟨l4, gl4, hF⟩ := bS hF
  have w3 := fun a b c d e => appendV_w (α := List Int) (n := 0) (m := x1.length) (ds := List.map Enc.enc x1) gl4 (by first | rfl | simp) (by first | rfl | simp) rfl a b c d e
  have w3l := app_len gl4
  obtain ⟨x5, gx5, hF⟩ := bS hF
  have w6 : ans A 251 [(eC a0.Complex), V.int .i64 a1] = some (V.isl (x5.map Enc.enc)) := s251 a0.Complex a1  gx5
  obtain ⟨l8, gl8, hF⟩ := bS hF
  have w7 := fun a b c d e => appendV_w (α := List Int) (n := l4.length) (m := x5.length) (ds := List.map Enc.enc x5) gl8 (by first | rfl | simp) (by first | rfl | simp) rfl a b c d e
  have w7l := app_len gl8
  obtain ⟨x9, gx9, hF⟩ := bS hF
  have w10 : ans A 131 [V.int .i64 a0.Complex.Prime, V.isl (l8.map Enc.enc)] = some (V.isl (x9.map Enc.enc)) := s131 a0.Complex.Prime l8  gx9
  cases hF
  simp only [simprocAttr, R0, opEv, fillV, mapO, mapS, b331, hl_0, h0_0, h1_0, h2_0, w2, w3, w6, w7, takes (α := List Int) l8, w10]
  exact fin_ret (by simp only [simprocAttr, R0, fn_out, p331, Rs.ev, mapO, mapS, take_len_self, hl_0, h0_0, h1_0, h2_0, w2, w3, w6, w7, takes (α := List Int) l8, w10])
def F325_3_S (x : GFiltered) (tb : List (List Int)) (n : Int) (s : Int × Bool) : Option ((Int × Bool) ⊕ Bool) := match s with
  | (q, same) => if q ≤ 5 then
    if same = true then (getI tb n).bind fun row => (getI row q).bind fun v => (F331 x n q).bind fun a => (chk (q - 1)).bind fun q' => (F331 x n q').bind fun b => (chk (a - b)).bind fun d => (chk (q + 1)).bind fun q2 => some (.inl (q2, decide (v = d)))
    else (chk (q + 1)).bind fun q2 => some (.inl (q2, false))
    else some (.inr same)
noncomputable def F325_2_S (x : GFiltered) (tb : List (List Int)) (s : Int × Bool) : Option ((Int × Bool) ⊕ Bool) := match s with
  | (n, same) => if n < (tb.length : Int) then (loopW (F325_3_S x tb n) (0, same)).bind fun same' => (chk (n + 1)).bind fun n' => some (.inl (n', same')) else some (.inr same)
noncomputable def F325_1_S (x : GFiltered) (r : Int) : Option (Int ⊕ Int) := (F260 x r).bind fun tb => (loopW (F325_2_S x tb) (0, true)).bind fun same => if same = true then some (.inr r) else (chk (r + 1)).bind fun r' => some (.inl r')
noncomputable def F325 (a0 : GFiltered) : Option (T2 Int Int) := (F38 a0).bind fun b => if b = true then (loopW (F325_1_S a0) 0).bind fun r => some ⟨r, 0⟩ else some ⟨0, 1⟩
theorem l325_3 (a0 : GFiltered) {tb : List (List Int)} {r n : Int} {s t : Bool} (hF : loopW (F325_3_S a0 tb n) (0, s) = some t) {e : Env} (hl : e.length = 50) (h1 : e.at 1 = V.iptr [V.int .i64 a0.Complex.Prime, V.isl (a0.Complex.Dims.map Enc.enc), V.isl (a0.Complex.Maps.map Enc.enc), V.isl (a0.Levels.map Enc.enc)]) (h4 : e.at 4 = V.int .i64 r) (h5 : e.at 5 = V.isl (tb.map Enc.enc)) (h6 : e.at 6 = V.bool s) (h7 : e.at 7 = V.int .i64 n) (h8 : e.at 8 = V.int .i64 0) :
    W A (.block 4 (.loop true b325_3)) e ⟨[(0, none)], 1⟩ (fun x e h => x = .normal ∧ h = ⟨[(0, none)], 1⟩ ∧ e.length = 50 ∧ e.at 1 = V.iptr [V.int .i64 a0.Complex.Prime, V.isl (a0.Complex.Dims.map Enc.enc), V.isl (a0.Complex.Maps.map Enc.enc), V.isl (a0.Levels.map Enc.enc)] ∧ e.at 4 = V.int .i64 r ∧ e.at 5 = V.isl (tb.map Enc.enc) ∧ e.at 6 = V.bool t ∧ e.at 7 = V.int .i64 n) := by
  rw [W_block]
  refine W_loop hF _ rfl (fun s e h => h = ⟨[(0, none)], 1⟩ ∧ e.length = 50 ∧ e.at 1 = V.iptr [V.int .i64 a0.Complex.Prime, V.isl (a0.Complex.Dims.map Enc.enc), V.isl (a0.Complex.Maps.map Enc.enc), V.isl (a0.Levels.map Enc.enc)] ∧ e.at 4 = V.int .i64 r ∧ e.at 5 = V.isl (tb.map Enc.enc) ∧ e.at 6 = V.bool s.2 ∧ e.at 7 = V.int .i64 n ∧ e.at 8 = V.int .i64 s.1) ⟨rfl, hl, h1, h4, h5, h6, h7, h8⟩ ?_
  clear hl h1 h4 h5 h6 h7 h8
  rintro ⟨q, same⟩ e h ⟨rfl, hl_1, h1_1, h4_1, h5_1, h6_1, h7_1, h8_1⟩ o ho
  simp only at h6_1 h8_1
  unfold F325_3_S at ho
  simp only at ho
  by_cases c1 : q ≤ 5
  · rw [if_pos c1] at ho
    by_cases c2 : same = true
    · subst c2
      rw [if_pos rfl] at ho
      obtain ⟨row, gr, ho⟩ := bS ho
      obtain ⟨ra, rb⟩ := getI_w gr
      obtain ⟨v, gv, ho⟩ := bS ho
      obtain ⟨va, vb⟩ := getI_w gv
      obtain ⟨a, ga, ho⟩ := bS ho
      have wa : ans A 331 [(eF a0), V.int .i64 n, V.int .i64 q] = some (V.int .i64 a) := s331 a0 n q ga
      obtain ⟨q', gq, ho⟩ := bS ho
      have wq := chk_w gq
      obtain ⟨b, gb, ho⟩ := bS ho
      have wb : ans A 331 [(eF a0), V.int .i64 n, V.int .i64 q'] = some (V.int .i64 b) := s331 a0 n q' gb
      obtain ⟨d, gd, ho⟩ := bS ho
      have wd := chk_w gd
      obtain ⟨q2, gq2, ho⟩ := bS ho
      have wq2 := chk_w gq2
      have hE := Option.some.inj ho; subst hE
      simp only [simprocAttr, R0, opEv, fillV, mapO, mapS, b325_3, hl_1, h1_1, h4_1, h5_1, h6_1, h7_1, h8_1, eq_true c1, ra, rb, va, vb, wa, wq, wb, wd, wq2]
      refine And.intro rfl ⟨rfl, ?_⟩
      simp only [simprocAttr, R0, hl_1, h1_1, h4_1, h5_1, h6_1, h7_1, h8_1]
    · have c3 : same = false := by simpa using c2
      subst c3
      rw [if_neg Bool.false_ne_true] at ho
      obtain ⟨q2, gq2, ho⟩ := bS ho
      have wq2 := chk_w gq2
      have hE := Option.some.inj ho; subst hE
      simp only [simprocAttr, R0, opEv, fillV, mapO, mapS, b325_3, hl_1, h1_1, h4_1, h5_1, h6_1, h7_1, h8_1, eq_true c1, wq2]
      refine And.intro rfl ⟨rfl, ?_⟩
      simp only [simprocAttr, R0, hl_1, h1_1, h4_1, h5_1, h6_1, h7_1, h8_1]
  · rw [if_neg c1] at ho
    have hE := Option.some.inj ho; subst hE
    simp only [simprocAttr, R0, opEv, fillV, mapO, mapS, b325_3, hl_1, h1_1, h4_1, h5_1, h6_1, h7_1, h8_1, eq_false c1]
    intro ht; subst ht
    simp only [simprocAttr, R0, hl_1, h1_1, h4_1, h5_1, h6_1, h7_1, h8_1]
theorem l325_2 (a0 : GFiltered) {tb : List (List Int)} {r : Int} {t : Bool} (hF : loopW (F325_2_S a0 tb) (0, true) = some t) {e : Env} (hl : e.length = 50) (h1 : e.at 1 = V.iptr [V.int .i64 a0.Complex.Prime, V.isl (a0.Complex.Dims.map Enc.enc), V.isl (a0.Complex.Maps.map Enc.enc), V.isl (a0.Levels.map Enc.enc)]) (h4 : e.at 4 = V.int .i64 r) (h5 : e.at 5 = V.isl (tb.map Enc.enc)) (h6 : e.at 6 = V.bool true) (h7 : e.at 7 = V.int .i64 0) :
    W A (.block 2 (.loop true b325_2)) e ⟨[(0, none)], 1⟩ (fun x e h => x = .normal ∧ h = ⟨[(0, none)], 1⟩ ∧ e.length = 50 ∧ e.at 1 = V.iptr [V.int .i64 a0.Complex.Prime, V.isl (a0.Complex.Dims.map Enc.enc), V.isl (a0.Complex.Maps.map Enc.enc), V.isl (a0.Levels.map Enc.enc)] ∧ e.at 4 = V.int .i64 r ∧ e.at 6 = V.bool t) := by
  rw [W_block]
  refine W_loop hF _ rfl (fun s e h => h = ⟨[(0, none)], 1⟩ ∧ e.length = 50 ∧ e.at 1 = V.iptr [V.int .i64 a0.Complex.Prime, V.isl (a0.Complex.Dims.map Enc.enc), V.isl (a0.Complex.Maps.map Enc.enc), V.isl (a0.Levels.map Enc.enc)] ∧ e.at 4 = V.int .i64 r ∧ e.at 5 = V.isl (tb.map Enc.enc) ∧ e.at 6 = V.bool s.2 ∧ e.at 7 = V.int .i64 s.1) ⟨rfl, hl, h1, h4, h5, h6, h7⟩ ?_
  clear hl h1 h4 h5 h6 h7
  rintro ⟨n, same⟩ e h ⟨rfl, hl_1, h1_1, h4_1, h5_1, h6_1, h7_1⟩ o ho
  simp only at h6_1 h7_1
  unfold F325_2_S at ho
  simp only at ho
  by_cases c1 : n < (tb.length : Int)
  · rw [if_pos c1] at ho
    obtain ⟨s2, gs, ho⟩ := bS ho
    obtain ⟨n', gn, ho⟩ := bS ho
    have wn := chk_w gn
    have hE := Option.some.inj ho; subst hE
    simp only [simprocAttr, R0, opEv, fillV, mapO, mapS, b325_2, hl_1, h1_1, h4_1, h5_1, h6_1, h7_1, eq_true c1]
    refine W.mono (l325_3 a0 gs (r := r) ?_ ?_ ?_ ?_ ?_ ?_ ?_) ?_
    rotate_right
    · rintro _ e _ ⟨rfl, rfl, hl_2, h1_2, h4_2, h5_2, h6_2, h7_2⟩
      simp only [simprocAttr, R0, opEv, fillV, mapO, mapS, hl_2, h1_2, h4_2, h5_2, h6_2, h7_2, wn]
      refine And.intro rfl ⟨rfl, ?_⟩
      simp only [simprocAttr, R0, hl_2, h1_2, h4_2, h5_2, h6_2, h7_2]
    all_goals simp only [simprocAttr, R0, hl_1, h1_1, h4_1, h5_1, h6_1, h7_1]
  · rw [if_neg c1] at ho
    have hE := Option.some.inj ho; subst hE
    simp only [simprocAttr, R0, opEv, fillV, mapO, mapS, b325_2, hl_1, h1_1, h4_1, h5_1, h6_1, h7_1, eq_false c1]
    intro ht; subst ht
    simp only [simprocAttr, R0, hl_1, h1_1, h4_1, h5_1, h6_1, h7_1]
theorem s325 (a0 : GFiltered) {r : T2 Int Int} (hF : F325 a0 = some r) : ans A 325 [(eF a0)] = some (EncR.enc r) := by
  refine ans_of (f := p325) rfl rfl rfl fun e hl he => ?_
  have h0_0 : e.at 0 = (eF a0) := he 0 _ rfl
  have hl_0 : e.length = 50 := hl
  clear he hl
  have h_0 := And.intro hl_0 h0_0
  show W A b325 e ⟨[], 0⟩ _
  unfold F325 at hF
  obtain ⟨b, gb, hF⟩ := bS hF
  have wb : ans A 38 [(eF a0)] = some (V.bool b) := s38 a0 gb
  by_cases c1 : b = true
  · subst c1
    rw [if_pos rfl] at hF
    obtain ⟨t, gt, hF⟩ := bS hF
    cases hF
    simp only [simprocAttr, R0, opEv, fillV, mapO, mapS, b325, h_0, wb]
    show W A (.block 0 (.loop true b325_1)) _ _ _
    rw [W_block]
    refine W_loop gt _ rfl (fun s e h => h = ⟨[(0, none)], 1⟩ ∧ e.length = 50 ∧ e.at 1 = V.iptr [V.int .i64 a0.Complex.Prime, V.isl (a0.Complex.Dims.map Enc.enc), V.isl (a0.Complex.Maps.map Enc.enc), V.isl (a0.Levels.map Enc.enc)] ∧ e.at 4 = V.int .i64 s) ?_ ?_
    · simp only [simprocAttr, R0, h_0]
    · clear hl_0 h0_0
      rintro s e h ⟨rfl, h_1⟩ o ho
      unfold F325_1_S at ho
      obtain ⟨tb, gtb, ho⟩ := bS ho
      have wt : ans A 260 [(eF a0), V.int .i64 s] = some (V.isl (tb.map Enc.enc)) := s260 a0 s gtb
      obtain ⟨same, gsame, ho⟩ := bS ho
      simp only [simprocAttr, R0, opEv, fillV, mapO, mapS, b325_1, h_1, wt]
      refine W.mono (l325_2 a0 gsame (r := s) ?_ ?_ ?_ ?_ ?_ ?_) ?_
      rotate_right
      · rintro _ e _ ⟨rfl, rfl, h_2⟩
        by_cases c2 : same = true
        · subst c2
          rw [if_pos rfl] at ho
          cases ho
          simp only [simprocAttr, R0, opEv, fillV, mapO, mapS, h_2]
          intro ht; subst ht
          simp only [simprocAttr, RR, RB]
          exact fin_ret (by simp only [simprocAttr, R0, fn_out, p325, Rs.ev, mapO, mapS, h_2])
        · have c3 : same = false := by simpa using c2
          subst c3
          rw [if_neg Bool.false_ne_true] at ho
          obtain ⟨n, gn, ho⟩ := bS ho
          have wn := chk_w gn
          cases ho
          simp only [simprocAttr, R0, opEv, fillV, mapO, mapS, h_2, wn]
          refine And.intro rfl ⟨rfl, ?_⟩
          simp only [simprocAttr, R0, h_2]
      all_goals simp only [simprocAttr, R0, h_1]
  · have c3 : b = false := by simpa using c1
    subst c3
    rw [if_neg Bool.false_ne_true] at hF
    cases hF
    simp only [simprocAttr, R0, opEv, fillV, mapO, mapS, b325, h_0, wb]
    exact fin_ret (by simp only [simprocAttr, R0, fn_out, p325, Rs.ev, mapO, mapS, hl_0])
def F338 (a0 : GFiltered) : Option Bool :=
  (F37 a0 1048576).bind fun x1 =>
  if x1 < 0 then
    some true
  else
    (F40 a0).bind fun x4 =>
    (F325 x4).bind fun x6 =>
    (F147 x4).bind fun x8 =>
    if x8.a = x6.a then
      if x8.b = x6.b then
        (F25 x4 x4).bind fun x12 =>
        if x12 = true then
          some true
        else
          some false
      else
        some false
    else
      some false
theorem s338 (a0 : GFiltered)   {r : Bool} (hF : F338 a0 = some r) : ans A 338 [(eF a0)] = some (Enc.enc r) := by
  refine ans_of (f := p338) rfl rfl rfl fun e hl he => ?_
  have h0_0 : e.at 0 = (eF a0) := he 0 _ rfl
  have hl_0 : e.length = 40 := hl
  clear he hl
  have h_0 := And.intro hl_0 h0_0
  show W A b338 e ⟨[], 0⟩ _
  unfold F338 at hF
  obtain ⟨x1, gx1, hF⟩ := bS hF
  have w2 : ans A 37 [(eF a0), V.int .i64 1048576] = some (V.int .i64 x1) := s37 a0 1048576  gx1
  by_cases c3 : x1 < 0
  · rw [if_pos c3] at hF
    cases hF
    simp only [simprocAttr, R0, opEv, fillV, mapO, mapS, b338, h_0, w2, eq_true c3]
    exact fin_ret (by simp only [simprocAttr, R0, fn_out, p338, Rs.ev, mapO, mapS, take_len_self, h_0, w2, eq_true c3])
  · rw [if_neg c3] at hF
    obtain ⟨x4, gx4, hF⟩ := bS hF
    have w5 : ans A 40 [(eF a0)] = some ((eF x4)) := s40 a0  gx4
    obtain ⟨x6, gx6, hF⟩ := bS hF
    have w7 : ans A 325 [(eF x4)] = some (V.tup [V.int .i64 x6.a, V.int .i64 x6.b]) := s325 x4  gx6
    obtain ⟨x8, gx8, hF⟩ := bS hF
    have w9 : ans A 147 [(eF x4)] = some (V.tup [V.int .i64 x8.a, V.int .i64 x8.b]) := s147 x4  gx8
    by_cases c10 : x8.a = x6.a
    · rw [if_pos c10] at hF
      by_cases c11 : x8.b = x6.b
      · rw [if_pos c11] at hF
        obtain ⟨x12, gx12, hF⟩ := bS hF
        have w13 : ans A 25 [(eF x4), (eF x4)] = some (V.bool x12) := s25 x4 x4  gx12
        cases x12 with
        | true =>
          rw [if_pos rfl] at hF
          cases hF
          simp only [simprocAttr, R0, opEv, fillV, mapO, mapS, b338, h_0, w2, eq_false c3, w5, w7, w9, eq_true c10, eq_true c11, w13]
          exact fin_ret (by simp only [simprocAttr, R0, fn_out, p338, Rs.ev, mapO, mapS, take_len_self, h_0, w2, eq_false c3, w5, w7, w9, eq_true c10, eq_true c11, w13])
        | false =>
          rw [if_neg Bool.false_ne_true] at hF
          cases hF
          simp only [simprocAttr, R0, opEv, fillV, mapO, mapS, b338, h_0, w2, eq_false c3, w5, w7, w9, eq_true c10, eq_true c11, w13]
          exact fin_ret (by simp only [simprocAttr, R0, fn_out, p338, Rs.ev, mapO, mapS, take_len_self, h_0, w2, eq_false c3, w5, w7, w9, eq_true c10, eq_true c11, w13])
      · rw [if_neg c11] at hF
        cases hF
        simp only [simprocAttr, R0, opEv, fillV, mapO, mapS, b338, h_0, w2, eq_false c3, w5, w7, w9, eq_true c10, eq_false c11]
        exact fin_ret (by simp only [simprocAttr, R0, fn_out, p338, Rs.ev, mapO, mapS, take_len_self, h_0, w2, eq_false c3, w5, w7, w9, eq_true c10, eq_false c11])
    · rw [if_neg c10] at hF
      cases hF
      simp only [simprocAttr, R0, opEv, fillV, mapO, mapS, b338, h_0, w2, eq_false c3, w5, w7, w9, eq_false c10]
      exact fin_ret (by simp only [simprocAttr, R0, fn_out, p338, Rs.ev, mapO, mapS, take_len_self, h_0, w2, eq_false c3, w5, w7, w9, eq_false c10])
end
end Rv
