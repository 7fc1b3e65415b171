/- The plain law: what the typed functions answer: part 2 -/
import Derived.Test.YtnioomfbbmjpaaaLpq0
namespace Rv
set_option linter.unusedVariables false
set_option linter.unusedSimpArgs false
set_option maxRecDepth 10000
theorem forI_inv {σ τ : Type} {B : Int → σ → Option (σ ⊕ τ)} {D : Int → σ → Option τ} (Inv : Nat → σ → Prop) (Q : τ → Prop) (n : Nat) :
    ∀ (k i : Nat) (s : σ), i + k = n → Inv i s → (∀ i s, i < n → Inv i s → (∃ s', B i s = some (.inl s') ∧ Inv (i + 1) s') ∨ ∃ t, B i s = some (.inr t) ∧ Q t) → (∀ s, Inv n s → ∃ t, D n s = some t ∧ Q t) → ∃ t, forI B D k i s = some t ∧ Q t := by
  intro k
  induction k with
  | zero =>
    intro i s hk hI hb hd
    have : i = n := by omega
    subst this
    exact hd s hI
  | succ k ih =>
    intro i s hk hI hb hd
    simp only [forI]
    rcases hb i s (by omega) hI with ⟨s', h1, h2⟩ | ⟨t, h1, h2⟩
    · rw [h1]
      have := ih (i + 1) s' (by omega) h2 hb hd
      simpa using this
    · rw [h1]; exact ⟨t, rfl, h2⟩
theorem forR_inv {σ τ : Type} {B : Int → σ → Option (σ ⊕ τ)} {D : Int → σ → Option τ} {hi : Int} (n : Nat) (hn : hi = n) (hs : n < 4611686018427387904) (Inv : Nat → σ → Prop) (Q : τ → Prop) {s : σ} (h0 : Inv 0 s)
    (hb : ∀ (i : Nat) s, i < n → Inv i s → (∃ s', B i s = some (.inl s') ∧ Inv (i + 1) s') ∨ ∃ t, B i s = some (.inr t) ∧ Q t) (hd : ∀ s, Inv n s → ∃ t, D n s = some t ∧ Q t) : ∃ t, forR 0 hi B D s = some t ∧ Q t := by
  subst hn
  unfold forR
  rw [if_pos (by omega)]
  have e : ((n : Int) - 0).toNat = n := by omega
  rw [e]
  exact forI_inv Inv Q n n 0 s (by omega) h0 hb hd
theorem forR_from {σ τ : Type} {B : Int → σ → Option (σ ⊕ τ)} {D : Int → σ → Option τ} {lo hi : Int} (l n : Nat) (hl : lo = l) (hn : hi = n) (hln : l ≤ n) (hs : n < 4611686018427387904) (Inv : Nat → σ → Prop) (Q : τ → Prop) {s : σ} (h0 : Inv l s)
    (hb : ∀ (i : Nat) s, i < n → Inv i s → (∃ s', B i s = some (.inl s') ∧ Inv (i + 1) s') ∨ ∃ t, B i s = some (.inr t) ∧ Q t) (hd : ∀ s, Inv n s → ∃ t, D n s = some t ∧ Q t) : ∃ t, forR lo hi B D s = some t ∧ Q t := by
  subst hn; subst hl
  unfold forR
  rw [if_pos (by omega)]
  have e : ((n : Int) - (l : Int)).toNat = n - l := by omega
  rw [e]
  exact forI_inv Inv Q n (n - l) l s (by omega) h0 hb hd
theorem loopW_inv {σ τ : Type} {S : σ → Option (σ ⊕ τ)} (μ : σ → Nat) (Inv : σ → Prop) (Q : τ → Prop) {s : σ} (h0 : Inv s)
    (hb : ∀ s, Inv s → (∃ s', S s = some (.inl s') ∧ Inv s' ∧ μ s' < μ s) ∨ ∃ t, S s = some (.inr t) ∧ Q t) : ∃ t, loopW S s = some t ∧ Q t := by
  suffices ∀ k s, μ s ≤ k → Inv s → ∃ t, loopW S s = some t ∧ Q t from this _ s (Nat.le_refl _) h0
  intro k
  induction k with
  | zero =>
    intro s hk hI
    rcases hb s hI with ⟨s', h1, h2, h3⟩ | ⟨t, h1, h2⟩
    · omega
    · exact ⟨t, loopW_eq.2 (.inr h1), h2⟩
  | succ k ih =>
    intro s hk hI
    rcases hb s hI with ⟨s', h1, h2, h3⟩ | ⟨t, h1, h2⟩
    · obtain ⟨t, h4, h5⟩ := ih s' (by omega) h2
      exact ⟨t, loopW_eq.2 (.inl ⟨s', h1, h4⟩), h5⟩
    · exact ⟨t, loopW_eq.2 (.inr h1), h2⟩
theorem getI_nat {α : Type} {l : List α} {i : Nat} (h : i < l.length) : getI l (i : Int) = some l[i] := by
  unfold getI
  rw [if_pos (by omega)]
  simp [h]
theorem getI_getD {α : Type} {l : List α} {i : Nat} (h : i < l.length) (d : α) : getI l (i : Int) = some (l.getD i d) := by
  rw [getI_nat h]; simp [h]
theorem chk_ok {n : Int} (h0 : -9223372036854775808 ≤ n) (h1 : n < 9223372036854775808) : chk n = some n := by
  unfold chk; rw [if_pos ⟨h0, h1⟩]
theorem setI_nat {α : Type} {l : List α} {i : Nat} (h : i < l.length) (y : α) : setI l (i : Int) y = some (l.set i y) := by
  unfold setI
  rw [if_pos (by omega), Int.toNat_natCast]
theorem remI_ok {a b : Int} (h : b ≠ 0) : remI a b = some (a.tmod b) := by unfold remI; rw [if_neg h]
theorem mkL_ok {α : Type} {b : Nat} {n : Int} {z : α} (k : Nat) (hn : n = k) (h : k * b ≤ 1099511627776) (h2 : k ≤ 1099511627776) : mkL b n z = some (List.replicate k z) := by
  subst hn
  unfold mkL
  rw [if_pos ⟨by omega, by omega, by omega⟩, Int.toNat_natCast]
theorem app_ok {α : Type} {b : Nat} {l l' : List α} (h : (l.length + l'.length) * b ≤ 1099511627776) (h2 : l.length + l'.length ≤ 1099511627776) : app b l l' = some (l ++ l') := by
  unfold app; rw [if_pos ⟨h, h2⟩]
def Tells (o : Option Bool) (P : Prop) : Prop := ∃ b, o = some b ∧ (b = true ↔ P)
theorem Tells.of_true {o : Option Bool} {P : Prop} (h : o = some true) (p : P) : Tells o P := ⟨true, h, by simp [p]⟩
theorem Tells.of_false {o : Option Bool} {P : Prop} (h : o = some false) (p : ¬ P) : Tells o P := ⟨false, h, by simp [p]⟩
theorem Tells.iff {o : Option Bool} {P Q : Prop} (h : Tells o P) (e : P ↔ Q) : Tells o Q := by
  obtain ⟨b, h1, h2⟩ := h; exact ⟨b, h1, h2.trans e⟩
theorem Tells.same {o o' : Option Bool} {P : Prop} (h : Tells o P) (h' : Tells o' P) : ∃ b, o = some b ∧ o' = some b ∧ (b = true ↔ P) := by
  obtain ⟨b, h1, h2⟩ := h
  obtain ⟨b', h3, h4⟩ := h'
  have : b = b' := by rw [Bool.eq_iff_iff]; exact h2.trans h4.symm
  exact ⟨b, h1, by rw [this]; exact h3, h2⟩
theorem Tells.case {o : Option Bool} {P : Prop} (h : Tells o P) : (o = some true ∧ P) ∨ (o = some false ∧ ¬ P) := by
  obtain ⟨b, h1, h2⟩ := h
  cases b with
  | true => exact .inl ⟨h1, h2.1 rfl⟩
  | false => exact .inr ⟨h1, fun p => by have := h2.2 p; cases this⟩
def IsP (p : Int) : Prop := p = 2 ∨ p = 3 ∨ p = 5 ∨ p = 7
theorem IsP.range {p : Int} (h : IsP p) : 2 ≤ p ∧ p ≤ 7 := by unfold IsP at h; omega
def RowOK (p w : Int) (row : List Int) : Prop := (row.length : Int) = w ∧ ∀ x ∈ row, 0 ≤ x ∧ x < p
def TableOK (p c w : Int) (m : List (List Int)) : Prop := (m.length : Int) = c ∧ ∀ row ∈ m, RowOK p w row
theorem F54_eq (n lo hi : Int) : F54 n lo hi = some (decide (lo ≤ n ∧ n ≤ hi)) := by
  unfold F54; by_cases h : lo ≤ n <;> simp [h]
theorem F56_eq (n lo hi : Int) : F56 n lo hi = some (decide (lo ≤ n ∧ n ≤ hi)) := by
  unfold F56; by_cases h : lo ≤ n <;> simp [h]
theorem F78_tells (p : Int) : Tells (F78 p) (IsP p) := by
  unfold F78 IsP
  split
  · exact .of_true rfl (by omega)
  split
  · exact .of_true rfl (by omega)
  split
  · exact .of_true rfl (by omega)
  · exact ⟨_, rfl, by simp; omega⟩
theorem F67_tells (p : Int) : Tells (F67 p) (IsP p) := by
  unfold F67 IsP
  split
  · exact .of_true rfl (by omega)
  split
  · exact .of_true rfl (by omega)
  split
  · exact .of_true rfl (by omega)
  · exact ⟨_, rfl, by simp; omega⟩
theorem F79_2 {p w : Int} {m : List (List Int)} (hp : 2 ≤ p ∧ p ≤ 7) {i : Nat} (hi : i < m.length) (hs : m[i].length ≤ 1099511627776) :
    ∃ t, loopW (F79_2_S p m w i) 0 = some t ∧ ((t = .inl () ∧ ∀ x ∈ m[i], 0 ≤ x ∧ x < p) ∨ (t = .inr false ∧ ¬ ∀ x ∈ m[i], 0 ≤ x ∧ x < p)) := by
  refine loopW_inv (fun j : Int => (m[i].length - j).toNat) (fun j => ∃ n : Nat, j = n ∧ n ≤ m[i].length ∧ ∀ k (hk : k < n) (h2 : k < m[i].length), 0 ≤ m[i][k] ∧ m[i][k] < p) _ ⟨0, rfl, by omega, fun k hk => by omega⟩ ?_
  rintro _ ⟨n, rfl, hn, hall⟩
  unfold F79_2_S
  simp only [getI_nat hi, Option.bind_some]
  by_cases hlt : (n : Int) < m[i].length
  · have hnl : n < m[i].length := by omega
    simp only [if_pos hlt, getI_nat hnl, Option.bind_some, chk_ok (show (-9223372036854775808 : Int) ≤ p - 1 by omega) (show p - 1 < 9223372036854775808 by omega), F54_eq]
    by_cases hx : 0 ≤ m[i][n] ∧ m[i][n] ≤ p - 1
    · left
      refine ⟨n + 1, ?_, ⟨n + 1, rfl, hnl, fun k hk h2 => ?_⟩, by omega⟩
      · simp only [hx, and_self, decide_true, if_true, chk_ok (show (-9223372036854775808 : Int) ≤ (n : Int) + 1 by omega) (show (n : Int) + 1 < 9223372036854775808 by omega), Option.bind_some]
      · by_cases e : k = n
        · subst e; omega
        · exact hall k (by omega) h2
    · right
      refine ⟨.inr false, ?_, .inr ⟨rfl, fun ha => hx ?_⟩⟩
      · simp [hx]
      · have := ha _ (List.getElem_mem hnl); omega
  · right
    refine ⟨.inl (), by simp only [if_neg hlt], .inl ⟨rfl, fun x hx => ?_⟩⟩
    obtain ⟨k, hk, rfl⟩ := List.getElem_of_mem hx
    exact hall k (by omega) hk
theorem F79_tells {p c w : Int} {m : List (List Int)} (hp : 2 ≤ p ∧ p ≤ 7) (hm : m.length ≤ 1099511627776) (hs : ∀ r ∈ m, r.length ≤ 1099511627776) : Tells (F79 p m c w) (TableOK p c w m) := by
  unfold F79
  by_cases hc : (m.length : Int) = c
  case neg => rw [if_neg hc]; exact .of_false rfl fun h => hc h.1
  rw [if_pos hc]
  obtain ⟨t, h1, h2⟩ := forR_inv (B := F79_1_B p m w) (D := F79_1_D p m w) (hi := m.length) m.length rfl (by omega) (fun i _ => ∀ k (hk : k < i) (h2 : k < m.length), RowOK p w m[k]) (fun t => (t = .inl () ∧ ∀ r ∈ m, RowOK p w r) ∨ (t = .inr false ∧ ¬ ∀ r ∈ m, RowOK p w r)) (s := ()) (fun k hk => by omega) (fun i _ hi hI => by
    unfold F79_1_B
    simp only [getI_nat hi, Option.bind_some]
    by_cases hw : (m[i].length : Int) = w
    · rw [if_pos hw]
      obtain ⟨t, h1, h2⟩ := F79_2 (w := w) hp hi (hs _ (List.getElem_mem hi))
      rw [h1]
      rcases h2 with ⟨rfl, h2⟩ | ⟨rfl, h2⟩
      · left
        refine ⟨(), rfl, fun k hk h3 => ?_⟩
        by_cases e : k = i
        · subst e; exact ⟨hw, h2⟩
        · exact hI k (by omega) h3
      · right
        exact ⟨_, rfl, .inr ⟨rfl, fun ha => h2 (ha _ (List.getElem_mem hi)).2⟩⟩
    · rw [if_neg hw]
      right
      exact ⟨_, rfl, .inr ⟨rfl, fun ha => hw (ha _ (List.getElem_mem hi)).1⟩⟩) (fun _ hI => ⟨.inl (), rfl, .inl ⟨rfl, fun r hr => by
        obtain ⟨k, hk, rfl⟩ := List.getElem_of_mem hr
        exact hI k hk hk⟩⟩)
  rw [h1]
  rcases h2 with ⟨rfl, h2⟩ | ⟨rfl, h2⟩
  · exact .of_true rfl ⟨hc, h2⟩
  · exact .of_false rfl fun h => h2 h.2
def addRow (p x : Int) (out row : List Int) : List Int := List.zipWith (fun o y => (o + x * y).tmod p) out row
def linN (p : Int) (n : Nat) (v : List Int) (m : List (List Int)) : Nat → List Int
  | 0 => List.replicate n 0
  | i + 1 => addRow p (v.getD i 0) (linN p n v m i) (m.getD i [])
def lin (p : Int) (n : Nat) (v : List Int) (m : List (List Int)) : List Int := linN p n v m v.length
structure LinOK (p : Int) (n : Nat) (v : List Int) (m : List (List Int)) : Prop where
  hp : 2 ≤ p ∧ p ≤ 7
  hv : ∀ x ∈ v, 0 ≤ x ∧ x < p
  hl : v.length ≤ m.length
  hr : ∀ l ∈ m, l.length = n ∧ ∀ y ∈ l, 0 ≤ y ∧ y < p
  hn : n ≤ 1048576
  hvl : v.length ≤ 1048576
theorem small_mul {p x y o : Int} (hp : 2 ≤ p ∧ p ≤ 7) (hx : 0 ≤ x ∧ x < p) (hy : 0 ≤ y ∧ y < p) (ho : 0 ≤ o ∧ o < p) :
    chk (x * y) = some (x * y) ∧ chk (o + x * y) = some (o + x * y) ∧ 0 ≤ (o + x * y).tmod p ∧ (o + x * y).tmod p < p := by
  have h1 : 0 ≤ x * y := Int.mul_nonneg hx.1 hy.1
  have h2 : x * y ≤ 6 * 6 := Int.mul_le_mul (by omega) (by omega) hy.1 (by omega)
  exact ⟨chk_ok (by omega) (by omega), chk_ok (by omega) (by omega), Int.tmod_nonneg _ (by omega), Int.tmod_lt_of_pos _ (by omega)⟩
theorem addRow_len {p x : Int} {out row : List Int} (h : row.length = out.length) : (addRow p x out row).length = out.length := by simp [addRow, h]
theorem addRow_ok {p x : Int} (hp : 2 ≤ p ∧ p ≤ 7) (hx : 0 ≤ x ∧ x < p) {out row : List Int} (ho : ∀ o ∈ out, 0 ≤ o ∧ o < p) (hy : ∀ y ∈ row, 0 ≤ y ∧ y < p) : ∀ o ∈ addRow p x out row, 0 ≤ o ∧ o < p := by
  intro o hm
  unfold addRow at hm
  obtain ⟨i, hi, rfl⟩ := List.getElem_of_mem hm
  simp at hi ⊢
  exact (small_mul hp hx (hy _ (List.getElem_mem (by omega))) (ho _ (List.getElem_mem (by omega)))).2.2
theorem linN_ok {p : Int} {n : Nat} {v : List Int} {m : List (List Int)} (H : LinOK p n v m) : ∀ i, i ≤ v.length → (linN p n v m i).length = n ∧ ∀ o ∈ linN p n v m i, 0 ≤ o ∧ o < p := by
  intro i
  induction i with
  | zero => intro _; refine ⟨by simp [linN], fun o ho => ?_⟩; simp [linN] at ho; obtain ⟨_, rfl⟩ := ho; have := H.hp; omega
  | succ i ih =>
    intro hi
    obtain ⟨h1, h2⟩ := ih (by omega)
    have e1 : v.getD i 0 = v[i] := by simp [show i < v.length by omega]
    have hm : i < m.length := by have := H.hl; omega
    have e2 : m.getD i [] = m[i] := by simp [hm]
    have hr := H.hr _ (List.getElem_mem hm)
    simp only [linN, e1, e2]
    exact ⟨by rw [addRow_len (by rw [hr.1, h1]), h1], addRow_ok H.hp (H.hv _ (List.getElem_mem _)) h2 hr.2⟩
def upTo (p x : Int) (out row : List Int) (k : Nat) : List Int := (addRow p x out row).take k ++ out.drop k
theorem upTo_len {p x : Int} {out row : List Int} (h : row.length = out.length) (k : Nat) (hk : k ≤ out.length) : (upTo p x out row k).length = out.length := by
  simp [upTo, addRow_len h]; omega
theorem upTo_at {p x : Int} {out row : List Int} (h : row.length = out.length) {k : Nat} (hk : k < out.length) (h2 : k < (upTo p x out row k).length) : (upTo p x out row k)[k] = out[k] := by
  have e : (upTo p x out row k)[k]? = some out[k] := by
    unfold upTo
    rw [List.getElem?_append_right (by simp [addRow_len h]; omega)]
    simp [addRow_len h, Nat.min_eq_left (Nat.le_of_lt hk), hk]
  rw [List.getElem?_eq_getElem h2] at e
  exact Option.some.inj e
theorem upTo_set {p x : Int} {out row : List Int} (h : row.length = out.length) {k : Nat} (hk : k < out.length) :
    (upTo p x out row k).set k ((out[k] + x * (row[k]'(by omega))).tmod p) = upTo p x out row (k + 1) := by
  have hl := addRow_len (p := p) (x := x) h
  unfold upTo
  rw [List.set_append_right _ _ (by simp [hl]; omega), List.take_succ_eq_append_getElem (by omega : k < (addRow p x out row).length)]
  have e1 : ((addRow p x out row).take k).length = k := by simp [hl]; omega
  rw [e1, Nat.sub_self]
  simp [addRow]
  rw [List.drop_eq_getElem_cons hk]
  rfl
theorem upTo_zero {p x : Int} {out row : List Int} : upTo p x out row 0 = out := by simp [upTo]
theorem upTo_all {p x : Int} {out row : List Int} (h : row.length = out.length) : upTo p x out row out.length = addRow p x out row := by
  have hl := addRow_len (p := p) (x := x) h
  unfold upTo
  rw [List.take_of_length_le (by omega), List.drop_of_length_le (by omega), List.append_nil]
theorem F80_eq {p : Int} {n : Nat} {v : List Int} {m : List (List Int)} (H : LinOK p n v m) {w : Int} (hw : w = n) : F80 p m v w = some (lin p n v m) := by
  have hn := H.hn
  have hvl := H.hvl
  have hlm := H.hl
  unfold F80
  rw [mkL_ok n hw (by omega) (by omega), Option.bind_some]
  obtain ⟨t, h1, rfl⟩ := forR_inv (B := F80_1_B p m v) (D := F80_1_D p m v) (hi := v.length) v.length rfl (by omega) (fun i s => s = linN p n v m i) (fun t => t = lin p n v m) (s := List.replicate n 0) rfl (fun i s hi hI => by
    subst hI
    left
    obtain ⟨q1, q2⟩ := linN_ok H i (by omega)
    have hm : i < m.length := by omega
    obtain ⟨r1, r2⟩ := H.hr _ (List.getElem_mem hm)
    have hx := H.hv _ (List.getElem_mem hi)
    have e1 : v.getD i 0 = v[i] := by simp [hi]
    have e2 : m.getD i [] = m[i] := by simp [hm]
    refine ⟨_, ?_, rfl⟩
    unfold F80_1_B
    have hlen : m[i].length = (linN p n v m i).length := by omega
    obtain ⟨t, h1, rfl⟩ := loopW_inv (S := F80_2_S p m v i) (fun s => (n - s.2).toNat) (fun s => ∃ k : Nat, k ≤ n ∧ s = (upTo p v[i] (linN p n v m i) m[i] k, (k : Int))) (fun t => t = linN p n v m (i + 1)) (s := (linN p n v m i, 0)) ⟨0, by omega, by rw [upTo_zero]; rfl⟩ (by
      rintro _ ⟨k, hk, rfl⟩
      unfold F80_2_S
      have hul := upTo_len (p := p) (x := v[i]) hlen k (by omega)
      simp only
      by_cases hlt : (k : Int) < (upTo p v[i] (linN p n v m i) m[i] k).length
      · rw [if_pos hlt]
        have hk1 : k < (upTo p v[i] (linN p n v m i) m[i] k).length := by omega
        have hk2 : k < (linN p n v m i).length := by omega
        have hk3 : k < m[i].length := by omega
        obtain ⟨s1, s2, s3, s4⟩ := small_mul H.hp hx (r2 _ (List.getElem_mem hk3)) (q2 _ (List.getElem_mem hk2))
        have hp0 : p ≠ 0 := by have := H.hp; omega
        left
        refine ⟨(upTo p v[i] (linN p n v m i) m[i] (k + 1), ((k + 1 : Nat) : Int)), ?_, ⟨k + 1, by omega, rfl⟩, by simp only; omega⟩
        simp only [getI_nat hk1, upTo_at hlen hk2 hk1, getI_nat hi, getI_nat hm, getI_nat hk3, Option.bind_some, s1, s2, remI_ok hp0, setI_nat hk1, upTo_set hlen hk2, chk_ok (show (-9223372036854775808 : Int) ≤ (k : Int) + 1 by omega) (show (k : Int) + 1 < 9223372036854775808 by omega)]
        rfl
      · rw [if_neg hlt]
        right
        have hkn : k = (linN p n v m i).length := by omega
        refine ⟨_, rfl, ?_⟩
        rw [hkn, upTo_all hlen]
        simp only [linN, e1, e2])
    rw [h1]
    rfl) (fun s hI => ⟨_, rfl, hI⟩)
  rw [h1]
  rfl
theorem F119_2_eq {p : Int} {n : Nat} {v : List Int} {m : List (List Int)} (H : LinOK p n v m) {i : Nat} (hi : i < v.length) (hm : i < m.length) :
    forR 0 (m[i].length : Int) (F119_2_B p v m i v[i] m[i]) (F119_2_D p v m i v[i] m[i]) (linN p n v m i) = some (linN p n v m (i + 1)) := by
  have hn := H.hn
  obtain ⟨q1, q2⟩ := linN_ok H i (by omega)
  obtain ⟨r1, r2⟩ := H.hr _ (List.getElem_mem hm)
  have hx := H.hv _ (List.getElem_mem hi)
  have e1 : v.getD i 0 = v[i] := by simp [hi]
  have e2 : m.getD i [] = m[i] := by simp [hm]
  have hlen : m[i].length = (linN p n v m i).length := by omega
  have hp0 : p ≠ 0 := by have := H.hp; omega
  obtain ⟨t, h1, rfl⟩ := forR_inv (B := F119_2_B p v m i v[i] m[i]) (D := F119_2_D p v m i v[i] m[i]) (hi := m[i].length) m[i].length rfl (by omega) (fun k s => s = upTo p v[i] (linN p n v m i) m[i] k) (fun t => t = linN p n v m (i + 1)) (s := linN p n v m i) upTo_zero.symm (by
    intro k s hk hI
    subst hI
    left
    have hul := upTo_len (p := p) (x := v[i]) hlen k (by omega)
    have hk1 : k < (upTo p v[i] (linN p n v m i) m[i] k).length := by omega
    have hk2 : k < (linN p n v m i).length := by omega
    obtain ⟨s1, s2, s3, s4⟩ := small_mul H.hp hx (r2 _ (List.getElem_mem hk)) (q2 _ (List.getElem_mem hk2))
    refine ⟨_, ?_, rfl⟩
    unfold F119_2_B
    simp only [getI_nat hk, getI_nat hk1, upTo_at hlen hk2 hk1, Option.bind_some, s1, s2, remI_ok hp0, setI_nat hk1, upTo_set hlen hk2]) (by
    intro s hI
    refine ⟨s, rfl, ?_⟩
    rw [hI, hlen, upTo_all hlen]
    simp only [linN, e1, e2])
  exact h1
theorem F119_1_eq {p : Int} {n : Nat} {v : List Int} {m : List (List Int)} (H : LinOK p n v m) (i : Nat) (hi : i < v.length) : F119_1_B p v m (i : Int) (linN p n v m i) = some (.inl (linN p n v m (i + 1))) := by
  have hlm := H.hl
  have hm : i < m.length := by omega
  unfold F119_1_B
  rw [getI_nat hi, Option.bind_some, getI_nat hm, Option.bind_some, F119_2_eq H hi hm, Option.bind_some]
theorem F119_eq {p : Int} {n : Nat} {v : List Int} {m : List (List Int)} (H : LinOK p n v m) {w : Int} (hw : w = n) : F119 p w v m = some (lin p n v m) := by
  have hn := H.hn
  have hvl := H.hvl
  have hs : v.length < 4611686018427387904 := by omega
  unfold F119
  rw [mkL_ok n hw (by omega) (by omega), Option.bind_some]
  obtain ⟨t, h1, rfl⟩ := forR_inv (B := F119_1_B p v m) (D := F119_1_D p v m) (hi := v.length) v.length rfl hs (fun i s => s = linN p n v m i) (fun t => t = lin p n v m) (s := List.replicate n 0) rfl (by
    intro i s hi hI
    subst hI
    left
    exact ⟨_, F119_1_eq H i hi, rfl⟩) (fun s hI => ⟨s, by unfold F119_1_D; rfl, hI⟩)
  rw [h1, Option.bind_some]
theorem F115_eq {l : List Int} {f : Int → Option Bool} (P : Int → Bool) (hl : l.length ≤ 1099511627776) (hf : ∀ x ∈ l, f x = some (P x)) : ∃ i : Int, F115 l f = some i ∧ (0 ≤ i ↔ ∃ x ∈ l, P x = true) := by
  unfold F115
  have hs : l.length < 4611686018427387904 := by omega
  obtain ⟨t, h1, h2⟩ := forR_inv (B := F115_1_B l f) (D := F115_1_D l f) (hi := l.length) l.length rfl hs (fun i _ => ∀ k (hk : k < i) (h2 : k < l.length), P l[k] = false) (fun t => (t = .inl () ∧ ∀ x ∈ l, P x = false) ∨ ∃ i : Nat, t = .inr (i : Int) ∧ ∃ x ∈ l, P x = true) (s := ()) (fun k hk => by omega) (by
    intro i _ hi hI
    unfold F115_1_B
    rw [getI_nat hi, Option.bind_some, hf _ (List.getElem_mem hi), Option.bind_some]
    cases hp : P l[i] with
    | true => right; exact ⟨_, rfl, .inr ⟨i, rfl, _, List.getElem_mem hi, hp⟩⟩
    | false =>
      left
      refine ⟨(), rfl, fun k hk h2 => ?_⟩
      by_cases e : k = i
      · subst e; exact hp
      · exact hI k (by omega) h2) (by
    intro _ hI
    refine ⟨.inl (), rfl, .inl ⟨rfl, fun x hx => ?_⟩⟩
    obtain ⟨k, hk, rfl⟩ := List.getElem_of_mem hx
    exact hI k hk hk)
  rw [h1]
  rcases h2 with ⟨rfl, h2⟩ | ⟨i, rfl, h2⟩
  · exact ⟨-1, rfl, ⟨fun h => by omega, fun ⟨x, hx, hp⟩ => by rw [h2 x hx] at hp; cases hp⟩⟩
  · exact ⟨i, rfl, ⟨fun _ => h2, fun _ => Int.natCast_nonneg i⟩⟩
theorem F82_eq {l : List Int} {f : Int → Option Bool} (P : Int → Bool) (hl : l.length ≤ 1099511627776) (hf : ∀ x ∈ l, f x = some (P x)) : F82 l f = some (l.any P) := by
  obtain ⟨i, h1, h2⟩ := F115_eq P hl hf
  unfold F82
  rw [h1, Option.bind_some]
  have : decide (0 ≤ i) = l.any P := by
    rw [Bool.eq_iff_iff]
    simp only [decide_eq_true_eq, List.any_eq_true]
    exact h2
  rw [this]
theorem F128_eq {l : List (List Int)} {f : List Int → Option Bool} (P : List Int → Bool) (hl : l.length ≤ 1099511627776) (hf : ∀ x ∈ l, f x = some (P x)) : ∃ i : Int, F128 l f = some i ∧ (0 ≤ i ↔ ∃ x ∈ l, P x = true) := by
  unfold F128
  have hs : l.length < 4611686018427387904 := by omega
  obtain ⟨t, h1, h2⟩ := forR_inv (B := F128_1_B l f) (D := F128_1_D l f) (hi := l.length) l.length rfl hs (fun i _ => ∀ k (hk : k < i) (h2 : k < l.length), P l[k] = false) (fun t => (t = .inl () ∧ ∀ x ∈ l, P x = false) ∨ ∃ i : Nat, t = .inr (i : Int) ∧ ∃ x ∈ l, P x = true) (s := ()) (fun k hk => by omega) (by
    intro i _ hi hI
    unfold F128_1_B
    rw [getI_nat hi, Option.bind_some, hf _ (List.getElem_mem hi), Option.bind_some]
    cases hp : P l[i] with
    | true => right; exact ⟨_, rfl, .inr ⟨i, rfl, _, List.getElem_mem hi, hp⟩⟩
    | false =>
      left
      refine ⟨(), rfl, fun k hk h2 => ?_⟩
      by_cases e : k = i
      · subst e; exact hp
      · exact hI k (by omega) h2) (by
    intro _ hI
    refine ⟨.inl (), rfl, .inl ⟨rfl, fun x hx => ?_⟩⟩
    obtain ⟨k, hk, rfl⟩ := List.getElem_of_mem hx
    exact hI k hk hk)
  rw [h1]
  rcases h2 with ⟨rfl, h2⟩ | ⟨i, rfl, h2⟩
  · exact ⟨-1, rfl, ⟨fun h => by omega, fun ⟨x, hx, hp⟩ => by rw [h2 x hx] at hp; cases hp⟩⟩
  · exact ⟨i, rfl, ⟨fun _ => h2, fun _ => Int.natCast_nonneg i⟩⟩
theorem F117_eq {l : List (List Int)} {f : List Int → Option Bool} (P : List Int → Bool) (hl : l.length ≤ 1099511627776) (hf : ∀ x ∈ l, f x = some (P x)) : F117 l f = some (l.any P) := by
  obtain ⟨i, h1, h2⟩ := F128_eq P hl hf
  unfold F117
  rw [h1, Option.bind_some]
  have : decide (0 ≤ i) = l.any P := by
    rw [Bool.eq_iff_iff]
    simp only [decide_eq_true_eq, List.any_eq_true]
    exact h2
  rw [this]
def rowB (p w : Int) (row : List Int) : Bool := decide ((row.length : Int) = w) && row.all fun x => decide (0 ≤ x ∧ x < p)
theorem rowB_iff {p w : Int} {row : List Int} : rowB p w row = true ↔ RowOK p w row := by
  unfold rowB RowOK
  simp only [Bool.and_eq_true, decide_eq_true_eq, List.all_eq_true]
theorem F130_eq {p : Int} (hp : 2 ≤ p ∧ p ≤ 7) (x : Int) : F130 x p = some (!decide (0 ≤ x ∧ x < p)) := by
  unfold F130
  rw [chk_ok (by omega) (by omega), Option.bind_some, F56_eq, Option.bind_some]
  congr 3
  exact propext ⟨fun h => ⟨h.1, by omega⟩, fun h => ⟨h.1, by omega⟩⟩
theorem F129_eq {p w : Int} (hp : 2 ≤ p ∧ p ≤ 7) {l : List Int} (hl : l.length ≤ 1099511627776) : F129 p w l = some (rowB p w l) := by
  unfold F129 rowB
  by_cases h : (l.length : Int) = w
  · rw [if_pos h, F82_eq (fun x => !decide (0 ≤ x ∧ x < p)) hl (fun x _ => F130_eq hp x), Option.bind_some]
    simp [h, List.not_any_eq_all_not]
  · rw [if_neg h]; simp [h]
theorem F116_eq {p w : Int} (hp : 2 ≤ p ∧ p ≤ 7) {l : List Int} (hl : l.length ≤ 1099511627776) : F116 l p w = some (!rowB p w l) := by
  unfold F116; rw [F129_eq hp hl, Option.bind_some]
theorem F90_eq {p w : Int} (hp : 2 ≤ p ∧ p ≤ 7) {m : List (List Int)} (hm : m.length ≤ 1099511627776) (hs : ∀ r ∈ m, r.length ≤ 1099511627776) : F90 p w m = some (m.all (rowB p w)) := by
  unfold F90
  rw [F117_eq (fun r => !rowB p w r) hm (fun r hr => F116_eq hp (hs r hr)), Option.bind_some]
  simp [List.not_any_eq_all_not]
theorem F90_tells {p w : Int} (hp : 2 ≤ p ∧ p ≤ 7) {m : List (List Int)} (hm : m.length ≤ 1099511627776) (hs : ∀ r ∈ m, r.length ≤ 1099511627776) : Tells (F90 p w m) (∀ r ∈ m, RowOK p w r) :=
  ⟨_, F90_eq hp hm hs, by simp only [List.all_eq_true, rowB_iff]⟩
theorem F92_tells {l : List Int} (hl : l.length ≤ 1099511627776) : Tells (F92 l) (∀ x ∈ l, x = 0) := by
  unfold F92
  have h : F82 l (fun x => F118 x) = some (l.any fun x => !decide (x = 0)) := F82_eq _ hl (fun x _ => rfl)
  rw [h, Option.bind_some]
  exact ⟨_, rfl, by simp [List.not_any_eq_all_not]⟩
theorem F81_tells {l : List Int} (hl : l.length ≤ 1099511627776) : ∃ i, F81 l = some i ∧ (0 ≤ i ↔ ¬ ∀ x ∈ l, x = 0) := by
  unfold F81
  have hs : l.length < 4611686018427387904 := by omega
  obtain ⟨t, h1, h2⟩ := forR_inv (B := F81_1_B l) (D := F81_1_D l) (hi := l.length) l.length rfl hs (fun i _ => ∀ k (hk : k < i) (h2 : k < l.length), l[k] = 0) (fun t => (t = .inl () ∧ ∀ x ∈ l, x = 0) ∨ ∃ i : Nat, t = .inr (i : Int) ∧ ¬ ∀ x ∈ l, x = 0) (s := ()) (fun k hk => by omega) (by
    intro i _ hi hI
    unfold F81_1_B
    rw [getI_nat hi, Option.bind_some]
    by_cases hp : l[i] = 0
    · rw [if_pos hp]
      left
      refine ⟨(), rfl, fun k hk h2 => ?_⟩
      by_cases e : k = i
      · subst e; exact hp
      · exact hI k (by omega) h2
    · rw [if_neg hp]
      right
      exact ⟨_, rfl, .inr ⟨i, rfl, fun ha => hp (ha _ (List.getElem_mem hi))⟩⟩) (by
    intro _ hI
    refine ⟨.inl (), rfl, .inl ⟨rfl, fun x hx => ?_⟩⟩
    obtain ⟨k, hk, rfl⟩ := List.getElem_of_mem hx
    exact hI k hk hk)
  rw [h1]
  rcases h2 with ⟨rfl, h2⟩ | ⟨i, rfl, h2⟩
  · exact ⟨-1, rfl, ⟨fun h => by omega, fun h => absurd h2 h⟩⟩
  · exact ⟨i, rfl, ⟨fun _ => h2, fun _ => Int.natCast_nonneg i⟩⟩
structure SmallC (x : GComplex) : Prop where
  d : x.Dims.length ≤ 1048576
  m : x.Maps.length ≤ 1048576
  r : ∀ m ∈ x.Maps, m.length ≤ 1048576 ∧ ∀ l ∈ m, l.length ≤ 1048576
structure ShapeC (x : GComplex) : Prop where
  p : IsP x.Prime
  dl : 1 ≤ x.Dims.length ∧ x.Dims.length ≤ 6
  ml : x.Maps.length + 1 = x.Dims.length
  dims : ∀ d ∈ x.Dims, 0 ≤ d ∧ d ≤ 8
def TabAt (x : GComplex) (k : Nat) : Prop := TableOK x.Prime (x.Dims.getD (k + 1) 0) (x.Dims.getD k 0) (x.Maps.getD k [])
def SqAt (x : GComplex) (k : Nat) : Prop := ∀ row ∈ x.Maps.getD k [], ∀ y ∈ lin x.Prime (x.Dims.getD (k - 1) 0).toNat row (x.Maps.getD (k - 1) []), y = 0
structure ValidC (x : GComplex) : Prop extends ShapeC x where
  tab : ∀ k, k < x.Maps.length → TabAt x k
  sq : ∀ k, 0 < k → k < x.Maps.length → SqAt x k
theorem lin_len {p : Int} {n : Nat} {v : List Int} {m : List (List Int)} (H : LinOK p n v m) : (lin p n v m).length = n := (linN_ok H _ (Nat.le_refl _)).1
theorem linOK_of {x : GComplex} (hs : ShapeC x) {k : Nat} (h1 : 0 < k) (h2 : k < x.Maps.length) (t1 : TabAt x (k - 1)) (t2 : TabAt x k) {row : List Int} (hr : row ∈ x.Maps.getD k []) :
    LinOK x.Prime (x.Dims.getD (k - 1) 0).toNat row (x.Maps.getD (k - 1) []) ∧ 0 ≤ x.Dims.getD (k - 1) 0 ∧ x.Dims.getD (k - 1) 0 ≤ 8 := by
  have hd : ∀ j, j < x.Dims.length → 0 ≤ x.Dims.getD j 0 ∧ x.Dims.getD j 0 ≤ 8 := fun j hj => by
    have := hs.dims _ (List.getElem_mem hj)
    simpa [hj] using this
  have hml := hs.ml
  have d1 := hd (k - 1) (by omega)
  have d2 := hd k (by omega)
  obtain ⟨q1, q2⟩ := t2.2 row hr
  refine ⟨⟨hs.p.range, q2, ?_, fun l hl => ?_, ?_, ?_⟩, d1⟩
  · have := t1.1
    have e : k - 1 + 1 = k := by omega
    rw [e] at this
    omega
  · obtain ⟨r1, r2⟩ := t1.2 l hl
    exact ⟨by omega, r2⟩
  · omega
  · omega
theorem F86_eq {x : GComplex} (h : x.Dims.length ≤ 1048576) : F86 x = some ((x.Dims.length : Int) - 1) := by
  unfold F86; rw [chk_ok (by omega) (by omega), Option.bind_some]
theorem mapsD {x : GComplex} {k : Nat} (h : k < x.Maps.length) : x.Maps.getD k [] = x.Maps[k] := by simp [h]
theorem F39_3_eq {x : GComplex} (hs : ShapeC x) {k : Nat} (h2 : k < x.Maps.length) (t1 : 0 < k → TabAt x (k - 1)) (t2 : TabAt x k) (hsm : SmallC x) :
    ∃ t, loopW (F39_3_S x (k : Int)) 0 = some t ∧ ((t = .inl () ∧ (0 < k → SqAt x k)) ∨ (t = .inr false ∧ 0 < k ∧ ¬ SqAt x k)) := by
  have hml := hs.ml
  have hdl := hs.dl
  have hk := (hsm.r _ (List.getElem_mem h2)).1
  refine loopW_inv (fun j : Int => (x.Maps[k].length - j).toNat) (fun j => ∃ n : Nat, j = n ∧ n ≤ x.Maps[k].length ∧ (0 < k → ∀ i (hi : i < n) (h3 : i < x.Maps[k].length), ∀ y ∈ lin x.Prime (x.Dims.getD (k - 1) 0).toNat x.Maps[k][i] (x.Maps.getD (k - 1) []), y = 0)) _ ⟨0, rfl, by omega, fun _ i hi => by omega⟩ ?_
  rintro _ ⟨n, rfl, hn, hall⟩
  unfold F39_3_S
  rw [getI_nat h2, Option.bind_some]
  by_cases hlt : (n : Int) < x.Maps[k].length
  · rw [if_pos hlt]
    have hnl : n < x.Maps[k].length := by omega
    by_cases h0 : 0 < k
    · rw [if_pos (by omega)]
      obtain ⟨H, d0, d8⟩ := linOK_of hs h0 h2 (t1 h0) t2 (row := x.Maps[k][n]) (by rw [mapsD h2]; exact List.getElem_mem hnl)
      have e1 : ((k : Int) - 1) = ((k - 1 : Nat) : Int) := by omega
      rw [chk_ok (by omega) (by omega), Option.bind_some, e1, getI_getD (show k - 1 < x.Maps.length by omega) [], Option.bind_some, getI_nat hnl, Option.bind_some, getI_getD (show k - 1 < x.Dims.length by omega) 0, Option.bind_some,
        F80_eq H (by omega), Option.bind_some]
      obtain ⟨i, g1, g2⟩ := F81_tells (l := lin x.Prime (x.Dims.getD (k - 1) 0).toNat x.Maps[k][n] (x.Maps.getD (k - 1) [])) (by rw [lin_len H]; omega)
      rw [g1, Option.bind_some]
      by_cases hz : 0 ≤ i
      · rw [if_pos hz]
        right
        refine ⟨_, rfl, .inr ⟨rfl, h0, fun ha => g2.1 hz (ha _ (by rw [mapsD h2]; exact List.getElem_mem hnl))⟩⟩
      · rw [if_neg hz]
        left
        rw [chk_ok (by omega) (by omega), Option.bind_some]
        refine ⟨_, rfl, ⟨n + 1, rfl, hnl, fun _ i hi h3 => ?_⟩, by omega⟩
        by_cases e : i = n
        · subst e
          exact Classical.byContradiction fun hq => hz (g2.2 hq)
        · exact hall h0 i (by omega) h3
    · rw [if_neg (by omega)]
      right
      exact ⟨_, rfl, .inl ⟨rfl, fun h => absurd h h0⟩⟩
  · rw [if_neg hlt]
    right
    refine ⟨_, rfl, .inl ⟨rfl, fun h0 row hr => ?_⟩⟩
    rw [mapsD h2] at hr
    obtain ⟨i, hi, rfl⟩ := List.getElem_of_mem hr
    exact hall h0 i (by omega) hi
theorem F39_2_eq {x : GComplex} (hs : ShapeC x) (hsm : SmallC x) :
    ∃ t, forR 0 (x.Maps.length : Int) (F39_2_B x) (F39_2_D x) () = some t ∧ ((t = .inl () ∧ (∀ k, k < x.Maps.length → TabAt x k) ∧ ∀ k, 0 < k → k < x.Maps.length → SqAt x k) ∨ (t = .inr false ∧ ¬ ((∀ k, k < x.Maps.length → TabAt x k) ∧ ∀ k, 0 < k → k < x.Maps.length → SqAt x k))) := by
  have hml := hs.ml
  have hm := hsm.m
  have hlen : x.Maps.length < 4611686018427387904 := by omega
  refine forR_inv x.Maps.length rfl hlen (fun i _ => (∀ k, k < i → TabAt x k) ∧ ∀ k, 0 < k → k < i → SqAt x k) _ ⟨fun k hk => by omega, fun k _ hk => by omega⟩ ?_ ?_
  · rintro i _ hi ⟨ht, hq⟩
    unfold F39_2_B
    have e2 : ((i : Int) + 1) = ((i + 1 : Nat) : Int) := by omega
    have hr := hsm.r _ (List.getElem_mem hi)
    rw [getI_nat hi, Option.bind_some, e2, getI_getD (show i + 1 < x.Dims.length by omega) 0, Option.bind_some, getI_getD (show i < x.Dims.length by omega) 0, Option.bind_some]
    have hT := F79_tells (p := x.Prime) (c := x.Dims.getD (i + 1) 0) (w := x.Dims.getD i 0) (m := x.Maps[i]) hs.p.range (by omega) (fun r h => by have := hr.2 r h; omega)
    rcases hT.case with ⟨h1, h2⟩ | ⟨h1, h2⟩
    · rw [h1, Option.bind_some, if_pos rfl]
      have hti : TabAt x i := by unfold TabAt; rw [mapsD hi]; exact h2
      obtain ⟨t, g1, g2⟩ := F39_3_eq hs hi (fun h0 => ht _ (by omega)) hti hsm
      rw [g1, Option.bind_some]
      rcases g2 with ⟨rfl, g2⟩ | ⟨rfl, g0, g2⟩
      · left
        refine ⟨(), rfl, fun k hk => ?_, fun k h0 hk => ?_⟩
        · by_cases e : k = i
          · subst e; exact hti
          · exact ht k (by omega)
        · by_cases e : k = i
          · subst e; exact g2 h0
          · exact hq k h0 (by omega)
      · right
        exact ⟨_, rfl, .inr ⟨rfl, fun ha => g2 (ha.2 i g0 hi)⟩⟩
    · rw [h1, Option.bind_some, if_neg Bool.false_ne_true]
      right
      refine ⟨_, rfl, .inr ⟨rfl, fun ha => h2 ?_⟩⟩
      have := ha.1 i hi
      unfold TabAt at this
      rw [mapsD hi] at this
      exact this
  · rintro _ ⟨ht, hq⟩
    exact ⟨.inl (), rfl, .inl ⟨rfl, ht, hq⟩⟩
theorem F39_1_eq {x : GComplex} (hsm : SmallC x) : ∃ t, forR 0 (x.Dims.length : Int) (F39_1_B x) (F39_1_D x) () = some t ∧ ((t = .inl () ∧ ∀ d ∈ x.Dims, 0 ≤ d ∧ d ≤ 8) ∨ (t = .inr false ∧ ¬ ∀ d ∈ x.Dims, 0 ≤ d ∧ d ≤ 8)) := by
  have hm := hsm.d
  have hlen : x.Dims.length < 4611686018427387904 := by omega
  refine forR_inv x.Dims.length rfl hlen (fun i _ => ∀ k (hk : k < i) (h2 : k < x.Dims.length), 0 ≤ x.Dims[k] ∧ x.Dims[k] ≤ 8) _ (fun k hk => by omega) ?_ ?_
  · rintro i _ hi hI
    unfold F39_1_B
    rw [getI_nat hi, Option.bind_some, F54_eq, Option.bind_some]
    by_cases h : 0 ≤ x.Dims[i] ∧ x.Dims[i] ≤ 8
    · rw [if_pos (by simpa using h)]
      left
      refine ⟨(), rfl, fun k hk h2 => ?_⟩
      by_cases e : k = i
      · subst e; exact h
      · exact hI k (by omega) h2
    · rw [if_neg (by simpa using h)]
      right
      exact ⟨_, rfl, .inr ⟨rfl, fun ha => h (ha _ (List.getElem_mem hi))⟩⟩
  · rintro _ hI
    refine ⟨.inl (), rfl, .inl ⟨rfl, fun d hd => ?_⟩⟩
    obtain ⟨k, hk, rfl⟩ := List.getElem_of_mem hd
    exact hI k hk hk
theorem F39_tells {x : GComplex} (hsm : SmallC x) : Tells (F39 x) (ValidC x) := by
  have hd := hsm.d
  unfold F39
  rcases (F78_tells x.Prime).case with ⟨h1, hp⟩ | ⟨h1, hp⟩
  case inr => rw [h1, Option.bind_some, if_neg Bool.false_ne_true]; exact .of_false rfl fun h => hp h.p
  rw [h1, Option.bind_some, if_pos rfl]
  by_cases c1 : (x.Dims.length : Int) < 1
  · rw [if_pos c1]; exact .of_false rfl fun h => by have := h.dl; omega
  rw [if_neg c1]
  by_cases c2 : 6 < (x.Dims.length : Int)
  · rw [if_pos c2]; exact .of_false rfl fun h => by have := h.dl; omega
  rw [if_neg c2, chk_ok (by omega) (by omega), Option.bind_some]
  by_cases c3 : (x.Maps.length : Int) = (x.Dims.length : Int) - 1
  case neg => rw [if_neg c3]; exact .of_false rfl fun h => by have := h.ml; omega
  rw [if_pos c3]
  obtain ⟨t, g1, g2⟩ := F39_1_eq hsm
  rw [g1, Option.bind_some]
  rcases g2 with ⟨rfl, g2⟩ | ⟨rfl, g2⟩
  case inr => exact .of_false rfl fun h => g2 h.dims
  have hs : ShapeC x := ⟨hp, by omega, by omega, g2⟩
  obtain ⟨t, k1, k2⟩ := F39_2_eq hs hsm
  simp only
  rw [k1, Option.bind_some]
  rcases k2 with ⟨rfl, k2, k3⟩ | ⟨rfl, k2⟩
  · exact .of_true rfl ⟨hs, k2, k3⟩
  · exact .of_false rfl fun h => k2 ⟨h.tab, h.sq⟩
theorem F42_1_eq {x : GComplex} (hs : ShapeC x) (hsm : SmallC x) :
    ∃ t, forR 0 (x.Maps.length : Int) (F42_1_B x) (F42_1_D x) () = some t ∧ ((t = .inl () ∧ ∀ k, k < x.Maps.length → TabAt x k) ∨ (t = .inr false ∧ ¬ ∀ k, k < x.Maps.length → TabAt x k)) := by
  have hml := hs.ml
  have hm := hsm.m
  have hlen : x.Maps.length < 4611686018427387904 := by omega
  refine forR_inv x.Maps.length rfl hlen (fun i _ => ∀ k, k < i → TabAt x k) _ (fun k hk => by omega) ?_ ?_
  · rintro i _ hi ht
    unfold F42_1_B
    have e2 : ((i : Int) + 1) = ((i + 1 : Nat) : Int) := by omega
    have hr := hsm.r _ (List.getElem_mem hi)
    rw [getI_nat hi, Option.bind_some, e2, getI_getD (show i + 1 < x.Dims.length by omega) 0, Option.bind_some]
    have hti : TabAt x i ↔ ((x.Maps[i].length : Int) = x.Dims.getD (i + 1) 0 ∧ ∀ r ∈ x.Maps[i], RowOK x.Prime (x.Dims.getD i 0) r) := by unfold TabAt; rw [mapsD hi]; rfl
    by_cases hc : (x.Maps[i].length : Int) = x.Dims.getD (i + 1) 0
    · rw [if_pos hc, getI_getD (show i < x.Dims.length by omega) 0, Option.bind_some]
      have hT := F90_tells (p := x.Prime) (w := x.Dims.getD i 0) (m := x.Maps[i]) hs.p.range (by omega) (fun r h => by have := hr.2 r h; omega)
      rcases hT.case with ⟨h1, h2⟩ | ⟨h1, h2⟩
      · rw [h1, Option.bind_some, if_pos rfl]
        left
        refine ⟨(), rfl, fun k hk => ?_⟩
        by_cases e : k = i
        · subst e; exact hti.2 ⟨hc, h2⟩
        · exact ht k (by omega)
      · rw [h1, Option.bind_some, if_neg Bool.false_ne_true]
        right
        exact ⟨_, rfl, .inr ⟨rfl, fun ha => h2 (hti.1 (ha i hi)).2⟩⟩
    · rw [if_neg hc]
      right
      exact ⟨_, rfl, .inr ⟨rfl, fun ha => hc (hti.1 (ha i hi)).1⟩⟩
  · rintro _ ht
    exact ⟨.inl (), rfl, .inl ⟨rfl, ht⟩⟩
theorem F91_eq {x : GComplex} (hs : ShapeC x) (hsm : SmallC x) {k : Nat} (h1 : 0 < k) (h2 : k < x.Maps.length) (t1 : TabAt x (k - 1)) (t2 : TabAt x k) {row : List Int} (hr : row ∈ x.Maps.getD k []) :
    F91 x (k : Int) row = some (lin x.Prime (x.Dims.getD (k - 1) 0).toNat row (x.Maps.getD (k - 1) [])) := by
  have hml := hs.ml
  have hdl := hs.dl
  obtain ⟨H, d0, d8⟩ := linOK_of hs h1 h2 t1 t2 hr
  unfold F91
  have e1 : ((k : Int) - 1) = ((k - 1 : Nat) : Int) := by omega
  rw [if_neg (by omega), F86_eq hsm.d, Option.bind_some, if_neg (by omega), chk_ok (by omega) (by omega), Option.bind_some, e1, getI_getD (show k - 1 < x.Dims.length by omega) 0, Option.bind_some, getI_getD (show k - 1 < x.Maps.length by omega) [], Option.bind_some,
    F119_eq H (by omega), Option.bind_some]
theorem F42_3_eq {x : GComplex} (hs : ShapeC x) (hsm : SmallC x) (ht : ∀ k, k < x.Maps.length → TabAt x k) {n : Nat} (hn : 2 ≤ n) (h2 : n - 1 < x.Maps.length) :
    ∃ t, forR 0 ((x.Maps[n - 1].length : Nat) : Int) (F42_3_B x (n : Int) x.Maps[n - 1]) (F42_3_D x (n : Int) x.Maps[n - 1]) () = some t ∧ ((t = .inl () ∧ SqAt x (n - 1)) ∨ (t = .inr false ∧ ¬ SqAt x (n - 1))) := by
  have hml := hs.ml
  have hdl := hs.dl
  have hk := (hsm.r _ (List.getElem_mem h2)).1
  have hlen : x.Maps[n - 1].length < 4611686018427387904 := by omega
  refine forR_inv x.Maps[n - 1].length rfl hlen (fun i _ => ∀ j (hj : j < i) (h3 : j < x.Maps[n - 1].length), ∀ y ∈ lin x.Prime (x.Dims.getD (n - 1 - 1) 0).toNat x.Maps[n - 1][j] (x.Maps.getD (n - 1 - 1) []), y = 0) _ (fun j hj => by omega) ?_ ?_
  · rintro i _ hi hI
    unfold F42_3_B
    have hrow : x.Maps[n - 1][i] ∈ x.Maps.getD (n - 1) [] := by rw [mapsD h2]; exact List.getElem_mem hi
    have e1 : ((n : Int) - 1) = ((n - 1 : Nat) : Int) := by omega
    have t1 := ht (n - 1 - 1) (by omega)
    have t2 := ht (n - 1) h2
    obtain ⟨H, d0, d8⟩ := linOK_of hs (by omega) h2 t1 t2 hrow
    rw [getI_nat hi, Option.bind_some, chk_ok (by omega) (by omega), Option.bind_some, e1, F91_eq hs hsm (by omega) h2 t1 t2 hrow, Option.bind_some]
    rcases (F92_tells (l := lin x.Prime (x.Dims.getD (n - 1 - 1) 0).toNat x.Maps[n - 1][i] (x.Maps.getD (n - 1 - 1) [])) (by rw [lin_len H]; omega)).case with ⟨g1, g2⟩ | ⟨g1, g2⟩
    · rw [g1, Option.bind_some, if_pos rfl]
      left
      refine ⟨(), rfl, fun j hj h3 => ?_⟩
      by_cases e : j = i
      · subst e; exact g2
      · exact hI j (by omega) h3
    · rw [g1, Option.bind_some, if_neg Bool.false_ne_true]
      right
      exact ⟨_, rfl, .inr ⟨rfl, fun ha => g2 (ha _ hrow)⟩⟩
  · rintro _ hI
    refine ⟨.inl (), rfl, .inl ⟨rfl, fun row hr => ?_⟩⟩
    rw [mapsD h2] at hr
    obtain ⟨j, hj, rfl⟩ := List.getElem_of_mem hr
    exact hI j hj hj
theorem F42_2_eq {x : GComplex} (hs : ShapeC x) (hsm : SmallC x) (ht : ∀ k, k < x.Maps.length → TabAt x k) :
    ∃ t, loopW (F42_2_S x) 2 = some t ∧ ((t = .inl () ∧ ∀ k, 0 < k → k < x.Maps.length → SqAt x k) ∨ (t = .inr false ∧ ¬ ∀ k, 0 < k → k < x.Maps.length → SqAt x k)) := by
  have hml := hs.ml
  have hdl := hs.dl
  refine loopW_inv (fun j : Int => (x.Dims.length + 2 - j).toNat) (fun j => ∃ n : Nat, j = n ∧ 2 ≤ n ∧ n ≤ x.Dims.length + 1 ∧ ∀ k, 0 < k → k < n - 1 → k < x.Maps.length → SqAt x k) _ ⟨2, rfl, by omega, by omega, fun k h0 hk => by omega⟩ ?_
  rintro _ ⟨n, rfl, hn, hn2, hall⟩
  unfold F42_2_S
  rw [F86_eq hsm.d, Option.bind_some]
  by_cases hlt : (n : Int) ≤ (x.Dims.length : Int) - 1
  · rw [if_pos hlt]
    have e1 : ((n : Int) - 1) = ((n - 1 : Nat) : Int) := by omega
    have h2 : n - 1 < x.Maps.length := by omega
    rw [chk_ok (by omega) (by omega), Option.bind_some, e1, getI_nat h2, Option.bind_some]
    obtain ⟨t, g1, g2⟩ := F42_3_eq hs hsm ht hn h2
    rw [g1, Option.bind_some]
    rcases g2 with ⟨rfl, g2⟩ | ⟨rfl, g2⟩
    · left
      refine ⟨((n + 1 : Nat) : Int), ?_, ⟨n + 1, rfl, by omega, by omega, fun k h0 hk h3 => ?_⟩, by omega⟩
      · simp only
        rw [chk_ok (by omega) (by omega), Option.bind_some]
        rfl
      · by_cases e : k = n - 1
        · subst e; exact g2
        · exact hall k h0 (by omega) h3
    · right
      exact ⟨_, rfl, .inr ⟨rfl, fun ha => g2 (ha _ (by omega) h2)⟩⟩
  · rw [if_neg hlt]
    right
    exact ⟨_, rfl, .inl ⟨rfl, fun k h0 hk => hall k h0 (by omega) hk⟩⟩
theorem F42_tells {x : GComplex} (hsm : SmallC x) : Tells (F42 x) (ValidC x) := by
  have hd := hsm.d
  unfold F42
  rcases (F67_tells x.Prime).case with ⟨h1, hp⟩ | ⟨h1, hp⟩
  case inr => rw [h1, Option.bind_some, if_neg Bool.false_ne_true]; exact .of_false rfl fun h => hp h.p
  rw [h1, Option.bind_some, if_pos rfl, F86_eq hd, Option.bind_some, F56_eq, Option.bind_some]
  by_cases c1 : 0 ≤ (x.Dims.length : Int) - 1 ∧ (x.Dims.length : Int) - 1 ≤ 5
  case neg => rw [if_neg (by simpa using c1)]; exact .of_false rfl fun h => by have := h.dl; omega
  rw [if_pos (by simpa using c1)]
  by_cases c3 : (x.Maps.length : Int) = (x.Dims.length : Int) - 1
  case neg => rw [if_neg c3]; exact .of_false rfl fun h => by have := h.ml; omega
  rw [if_pos c3]
  have h88 : F82 x.Dims (fun y => F88 y) = some (x.Dims.any fun d => !decide (0 ≤ d ∧ d ≤ 8)) := F82_eq _ (by omega) (fun d _ => by unfold F88; rw [F56_eq, Option.bind_some])
  rw [h88, Option.bind_some]
  have hany : (x.Dims.any fun d => !decide (0 ≤ d ∧ d ≤ 8)) = true ↔ ¬ ∀ d ∈ x.Dims, 0 ≤ d ∧ d ≤ 8 := by
    simp only [List.any_eq_true, Bool.not_eq_true', decide_eq_false_iff_not]
    constructor
    · rintro ⟨d, h1, h2⟩ ha; exact h2 (ha d h1)
    · intro hn
      exact Classical.byContradiction fun hc => hn fun d hd => Classical.byContradiction fun h => hc ⟨d, hd, h⟩
  by_cases c4 : (x.Dims.any fun d => !decide (0 ≤ d ∧ d ≤ 8)) = true
  · rw [if_pos c4]; exact .of_false rfl fun h => hany.1 c4 h.dims
  rw [if_neg c4]
  have hdims : ∀ d ∈ x.Dims, 0 ≤ d ∧ d ≤ 8 := Classical.byContradiction fun hc => c4 (hany.2 hc)
  have hs : ShapeC x := ⟨hp, by omega, by omega, hdims⟩
  obtain ⟨t, g1, g2⟩ := F42_1_eq hs hsm
  rw [g1, Option.bind_some]
  rcases g2 with ⟨rfl, ht⟩ | ⟨rfl, ht⟩
  case inr => exact .of_false rfl fun h => ht h.tab
  obtain ⟨t, k1, k2⟩ := F42_2_eq hs hsm ht
  simp only
  rw [k1, Option.bind_some]
  rcases k2 with ⟨rfl, k2⟩ | ⟨rfl, k2⟩
  · exact .of_true rfl ⟨hs, ht, k2⟩
  · exact .of_false rfl fun h => k2 h.sq
structure SmallF (x : GFiltered) : Prop where
  c : SmallC x.Complex
  l : x.Levels.length ≤ 1048576
  r : ∀ q ∈ x.Levels, q.length ≤ 1048576
def numAt (ms : List (List (List Int))) (k i j : Nat) : Int := ((ms.getD k []).getD i []).getD j 0
def LevAt (x : GFiltered) (k i j : Nat) : Prop := numAt x.Complex.Maps k i j = 0 ∨ (x.Levels.getD k []).getD j 0 ≤ (x.Levels.getD (k + 1) []).getD i 0
def InT (ms : List (List (List Int))) (k i j : Nat) : Prop := k < ms.length ∧ i < (ms.getD k []).length ∧ j < ((ms.getD k []).getD i []).length
structure LevC (x : GFiltered) : Prop where
  ll : x.Levels.length = x.Complex.Dims.length
  lv : ∀ n, n < x.Levels.length → ((x.Levels.getD n []).length : Int) = x.Complex.Dims.getD n 0 ∧ ∀ q ∈ x.Levels.getD n [], 0 ≤ q ∧ q ≤ 5
structure ValidF (x : GFiltered) : Prop extends LevC x where
  vc : ValidC x.Complex
  le : ∀ k i j, InT x.Complex.Maps k i j → LevAt x k i j
theorem getD_mem {α : Type} {l : List α} {i : Nat} (h : i < l.length) (d : α) : l.getD i d ∈ l := by
  rw [List.getD_eq_getElem?_getD, List.getElem?_eq_getElem h]; exact List.getElem_mem h
theorem levsD {x : GFiltered} {k : Nat} (h : k < x.Levels.length) : x.Levels.getD k [] = x.Levels[k] := by simp [h]
theorem bounds {x : GFiltered} (hv : ValidC x.Complex) (hl : LevC x) {k i j : Nat} (h : InT x.Complex.Maps k i j) : k + 1 < x.Levels.length ∧ j < (x.Levels.getD k []).length ∧ i < (x.Levels.getD (k + 1) []).length := by
  obtain ⟨h1, h2, h3⟩ := h
  have hml := hv.ml
  have hll := hl.ll
  have ht := hv.tab k h1
  have l1 := (hl.lv k (by omega)).1
  have l2 := (hl.lv (k + 1) (by omega)).1
  have hi : (x.Complex.Maps.getD k []).getD i [] ∈ x.Complex.Maps.getD k [] := getD_mem h2 []
  have r := (ht.2 _ hi).1
  have t1 := ht.1
  refine ⟨by omega, by omega, by omega⟩
theorem F77_eq {x : GFiltered} {k i : Nat} (h1 : k < x.Levels.length) (h2 : i < (x.Levels.getD k []).length) : F77 x (k : Int) (i : Int) = some ((x.Levels.getD k []).getD i 0) := by
  unfold F77
  rw [getI_getD h1 [], Option.bind_some, getI_getD h2 0, Option.bind_some]
theorem F76_eq {x : GComplex} (hs : x.Dims.length ≤ 1048576) {k : Nat} (h : k + 1 < x.Dims.length) (hm : k < x.Maps.length) : F76 x ((k + 1 : Nat) : Int) = some (x.Maps.getD k []) := by
  unfold F76
  have e : (((k + 1 : Nat) : Int) - 1) = (k : Int) := by omega
  rw [chk_ok (by omega) (by omega), Option.bind_some, F54_eq, Option.bind_some, if_pos (by simp; omega), chk_ok (by omega) (by omega), Option.bind_some, e, getI_getD hm [], Option.bind_some]
theorem F38_2_eq {x : GFiltered} (hsm : SmallF x) {n : Nat} (hn : n < x.Levels.length) :
    ∃ t, loopW (F38_2_S x (n : Int)) 0 = some t ∧ ((t = .inl () ∧ ∀ q ∈ x.Levels.getD n [], 0 ≤ q ∧ q ≤ 5) ∨ (t = .inr false ∧ ¬ ∀ q ∈ x.Levels.getD n [], 0 ≤ q ∧ q ≤ 5)) := by
  have hr := hsm.r _ (List.getElem_mem hn)
  rw [levsD hn]
  refine loopW_inv (fun j : Int => (x.Levels[n].length - j).toNat) (fun j => ∃ m : Nat, j = m ∧ m ≤ x.Levels[n].length ∧ ∀ k (hk : k < m) (h2 : k < x.Levels[n].length), 0 ≤ x.Levels[n][k] ∧ x.Levels[n][k] ≤ 5) _ ⟨0, rfl, by omega, fun k hk => by omega⟩ ?_
  rintro _ ⟨m, rfl, hm, hall⟩
  unfold F38_2_S
  rw [getI_nat hn, Option.bind_some]
  by_cases hlt : (m : Int) < x.Levels[n].length
  · have hml : m < x.Levels[n].length := by omega
    rw [if_pos hlt, getI_nat hml, Option.bind_some, F54_eq, Option.bind_some]
    by_cases hx : 0 ≤ x.Levels[n][m] ∧ x.Levels[n][m] ≤ 5
    · rw [if_pos (by simpa using hx), chk_ok (by omega) (by omega), Option.bind_some]
      left
      refine ⟨_, rfl, ⟨m + 1, rfl, hml, fun k hk h2 => ?_⟩, by omega⟩
      by_cases e : k = m
      · subst e; exact hx
      · exact hall k (by omega) h2
    · rw [if_neg (by simpa using hx)]
      right
      exact ⟨_, rfl, .inr ⟨rfl, fun ha => hx (ha _ (List.getElem_mem hml))⟩⟩
  · rw [if_neg hlt]
    right
    refine ⟨_, rfl, .inl ⟨rfl, fun q hq => ?_⟩⟩
    obtain ⟨k, hk, rfl⟩ := List.getElem_of_mem hq
    exact hall k (by omega) hk
def LvAt (x : GFiltered) (n : Nat) : Prop := ((x.Levels.getD n []).length : Int) = x.Complex.Dims.getD n 0 ∧ ∀ q ∈ x.Levels.getD n [], 0 ≤ q ∧ q ≤ 5
theorem F38_1_eq {x : GFiltered} (hsm : SmallF x) (hl : x.Levels.length = x.Complex.Dims.length) :
    ∃ t, forR 0 (x.Levels.length : Int) (F38_1_B x) (F38_1_D x) () = some t ∧ ((t = .inl () ∧ ∀ n, n < x.Levels.length → LvAt x n) ∨ (t = .inr false ∧ ¬ ∀ n, n < x.Levels.length → LvAt x n)) := by
  have hm := hsm.l
  have hlen : x.Levels.length < 4611686018427387904 := by omega
  refine forR_inv x.Levels.length rfl hlen (fun i _ => ∀ k, k < i → LvAt x k) _ (fun k hk => by omega) ?_ ?_
  · rintro i _ hi ht
    unfold F38_1_B
    rw [getI_getD hi [], Option.bind_some, getI_getD (show i < x.Complex.Dims.length by omega) 0, Option.bind_some]
    by_cases hc : ((x.Levels.getD i []).length : Int) = x.Complex.Dims.getD i 0
    · rw [if_pos hc]
      obtain ⟨t, g1, g2⟩ := F38_2_eq hsm hi
      rw [g1, Option.bind_some]
      rcases g2 with ⟨rfl, g2⟩ | ⟨rfl, g2⟩
      · left
        refine ⟨(), rfl, fun k hk => ?_⟩
        by_cases e : k = i
        · subst e; exact ⟨hc, g2⟩
        · exact ht k (by omega)
      · right
        exact ⟨_, rfl, .inr ⟨rfl, fun ha => g2 (ha i hi).2⟩⟩
    · rw [if_neg hc]
      right
      exact ⟨_, rfl, .inr ⟨rfl, fun ha => hc (ha i hi).1⟩⟩
  · rintro _ ht
    exact ⟨.inl (), rfl, .inl ⟨rfl, ht⟩⟩
theorem F38_5_eq {x : GFiltered} (hsm : SmallF x) (hv : ValidC x.Complex) (hl : LevC x) {k i : Nat} (hk : k < x.Complex.Maps.length) (hi : i < (x.Complex.Maps.getD k []).length) :
    ∃ t, loopW (F38_5_S x ((k + 1 : Nat) : Int) (x.Complex.Maps.getD k []) (i : Int)) 0 = some t ∧ ((t = .inl () ∧ ∀ j, j < ((x.Complex.Maps.getD k []).getD i []).length → LevAt x k i j) ∨ (t = .inr false ∧ ¬ ∀ j, j < ((x.Complex.Maps.getD k []).getD i []).length → LevAt x k i j)) := by
  have hdl := hv.dl
  have hml := hv.ml
  have hrow : (x.Complex.Maps.getD k []).getD i [] ∈ x.Complex.Maps.getD k [] := getD_mem hi []
  have hr : ((x.Complex.Maps.getD k []).getD i []).length ≤ 1048576 := (hsm.c.r _ (by rw [mapsD hk]; exact List.getElem_mem hk)).2 _ hrow
  refine loopW_inv (fun j : Int => (((x.Complex.Maps.getD k []).getD i []).length - j).toNat) (fun j => ∃ m : Nat, j = m ∧ m ≤ ((x.Complex.Maps.getD k []).getD i []).length ∧ ∀ j, j < m → LevAt x k i j) _ ⟨0, rfl, by omega, fun k hk => by omega⟩ ?_
  rintro _ ⟨m, rfl, hm, hall⟩
  unfold F38_5_S
  rw [getI_getD hi [], Option.bind_some]
  by_cases hlt : (m : Int) < ((x.Complex.Maps.getD k []).getD i []).length
  · have hm2 : m < ((x.Complex.Maps.getD k []).getD i []).length := by omega
    obtain ⟨b1, b2, b3⟩ := bounds hv hl (show InT x.Complex.Maps k i m from ⟨hk, hi, hm2⟩)
    rw [if_pos hlt, getI_getD hm2 0, Option.bind_some]
    by_cases h0 : ((x.Complex.Maps.getD k []).getD i []).getD m 0 = 0
    · rw [if_pos h0, chk_ok (by omega) (by omega), Option.bind_some]
      left
      refine ⟨_, rfl, ⟨m + 1, rfl, hm2, fun j hj => ?_⟩, by omega⟩
      by_cases e : j = m
      · subst e; exact .inl h0
      · exact hall j (by omega)
    · have e1 : (((k + 1 : Nat) : Int) - 1) = (k : Int) := by omega
      rw [if_neg h0, chk_ok (by omega) (by omega), Option.bind_some, e1, F77_eq (by omega) b2, Option.bind_some, F77_eq b1 b3, Option.bind_some]
      by_cases hlv : (x.Levels.getD (k + 1) []).getD i 0 < (x.Levels.getD k []).getD m 0
      · rw [if_pos hlv]
        right
        refine ⟨_, rfl, .inr ⟨rfl, fun ha => ?_⟩⟩
        rcases ha m hm2 with h | h
        · exact h0 h
        · omega
      · rw [if_neg hlv, chk_ok (by omega) (by omega), Option.bind_some]
        left
        refine ⟨_, rfl, ⟨m + 1, rfl, hm2, fun j hj => ?_⟩, by omega⟩
        by_cases e : j = m
        · subst e; exact .inr (by omega)
        · exact hall j (by omega)
  · rw [if_neg hlt]
    right
    exact ⟨_, rfl, .inl ⟨rfl, fun j hj => hall j (by omega)⟩⟩
def LeAt (x : GFiltered) (k : Nat) : Prop := ∀ i j, InT x.Complex.Maps k i j → LevAt x k i j
theorem F38_4_eq {x : GFiltered} (hsm : SmallF x) (hv : ValidC x.Complex) (hl : LevC x) {k : Nat} (hk : k < x.Complex.Maps.length) :
    ∃ t, forR 0 ((x.Complex.Maps.getD k []).length : Int) (F38_4_B x ((k + 1 : Nat) : Int) (x.Complex.Maps.getD k [])) (F38_4_D x ((k + 1 : Nat) : Int) (x.Complex.Maps.getD k [])) () = some t ∧ ((t = .inl () ∧ LeAt x k) ∨ (t = .inr false ∧ ¬ LeAt x k)) := by
  have hm : (x.Complex.Maps.getD k []).length ≤ 1048576 := (hsm.c.r _ (by rw [mapsD hk]; exact List.getElem_mem hk)).1
  have hlen : (x.Complex.Maps.getD k []).length < 4611686018427387904 := by omega
  refine forR_inv (x.Complex.Maps.getD k []).length rfl hlen (fun n _ => ∀ i, i < n → ∀ j, InT x.Complex.Maps k i j → LevAt x k i j) _ (fun i hi => by omega) ?_ ?_
  · rintro i _ hi ht
    unfold F38_4_B
    obtain ⟨t, g1, g2⟩ := F38_5_eq hsm hv hl hk hi
    rw [g1, Option.bind_some]
    rcases g2 with ⟨rfl, g2⟩ | ⟨rfl, g2⟩
    · left
      refine ⟨(), rfl, fun j hj m hin => ?_⟩
      by_cases e : j = i
      · subst e; exact g2 m hin.2.2
      · exact ht j (by omega) m hin
    · right
      exact ⟨_, rfl, .inr ⟨rfl, fun ha => g2 fun j hj => ha i j ⟨hk, hi, hj⟩⟩⟩
  · rintro _ ht
    exact ⟨.inl (), rfl, .inl ⟨rfl, fun i j hin => ht i hin.2.1 j hin⟩⟩
theorem F38_3_eq {x : GFiltered} (hsm : SmallF x) (hv : ValidC x.Complex) (hl : LevC x) :
    ∃ t, forR 1 (x.Levels.length : Int) (F38_3_B x) (F38_3_D x) () = some t ∧ ((t = .inl () ∧ ∀ k, k < x.Complex.Maps.length → LeAt x k) ∨ (t = .inr false ∧ ¬ ∀ k, k < x.Complex.Maps.length → LeAt x k)) := by
  have hm := hsm.l
  have hll := hl.ll
  have hml := hv.ml
  have hdl := hv.dl
  have hlen : x.Levels.length < 4611686018427387904 := by omega
  refine forR_from 1 x.Levels.length rfl rfl (by omega) hlen (fun n _ => 1 ≤ n ∧ ∀ k, k < n - 1 → LeAt x k) _ ⟨Nat.le_refl _, fun k hk => by omega⟩ ?_ ?_
  · rintro n _ hn ⟨h1, ht⟩
    unfold F38_3_B
    obtain ⟨k, rfl⟩ : ∃ k, n = k + 1 := ⟨n - 1, by omega⟩
    have hk : k < x.Complex.Maps.length := by omega
    rw [F76_eq hsm.c.d (by omega) hk, Option.bind_some]
    obtain ⟨t, g1, g2⟩ := F38_4_eq hsm hv hl hk
    rw [g1, Option.bind_some]
    rcases g2 with ⟨rfl, g2⟩ | ⟨rfl, g2⟩
    · left
      refine ⟨(), rfl, by omega, fun m hm' => ?_⟩
      by_cases e : m = k
      · subst e; exact g2
      · exact ht m (by omega)
    · right
      exact ⟨_, rfl, .inr ⟨rfl, fun ha => g2 (ha k hk)⟩⟩
  · rintro _ ⟨h1, ht⟩
    exact ⟨.inl (), rfl, .inl ⟨rfl, fun k hk => ht k (by omega)⟩⟩
theorem F38_tells {x : GFiltered} (hsm : SmallF x) : Tells (F38 x) (ValidF x) := by
  unfold F38
  rcases (F39_tells hsm.c).case with ⟨h1, hv⟩ | ⟨h1, hv⟩
  case inr => rw [h1, Option.bind_some, if_neg Bool.false_ne_true]; exact .of_false rfl fun h => hv h.vc
  rw [h1, Option.bind_some, if_pos rfl]
  by_cases c1 : (x.Levels.length : Int) = x.Complex.Dims.length
  case neg => rw [if_neg c1]; exact .of_false rfl fun h => by have := h.ll; omega
  rw [if_pos c1]
  obtain ⟨t, g1, g2⟩ := F38_1_eq hsm (by omega)
  rw [g1, Option.bind_some]
  rcases g2 with ⟨rfl, g2⟩ | ⟨rfl, g2⟩
  case inr => exact .of_false rfl fun h => g2 h.lv
  have hl : LevC x := ⟨by omega, g2⟩
  obtain ⟨t, k1, k2⟩ := F38_3_eq hsm hv hl
  simp only
  rw [k1, Option.bind_some]
  rcases k2 with ⟨rfl, k2⟩ | ⟨rfl, k2⟩
  · exact .of_true rfl ⟨hl, hv, fun k i j h => k2 k h.1 i j h⟩
  · exact .of_false rfl fun h => k2 fun k hk i j hin => h.le k i j hin
theorem F41_1_eq {x : GFiltered} (hsm : SmallF x) (hl : x.Levels.length = x.Complex.Dims.length) :
    ∃ t, forR 0 (x.Levels.length : Int) (F41_1_B x) (F41_1_D x) () = some t ∧ ((t = .inl () ∧ ∀ n, n < x.Levels.length → LvAt x n) ∨ (t = .inr false ∧ ¬ ∀ n, n < x.Levels.length → LvAt x n)) := by
  have hm := hsm.l
  have hlen : x.Levels.length < 4611686018427387904 := by omega
  refine forR_inv x.Levels.length rfl hlen (fun i _ => ∀ k, k < i → LvAt x k) _ (fun k hk => by omega) ?_ ?_
  · rintro i _ hi ht
    unfold F41_1_B
    rw [getI_getD hi [], Option.bind_some, getI_getD (show i < x.Complex.Dims.length by omega) 0, Option.bind_some]
    by_cases hc : ((x.Levels.getD i []).length : Int) = x.Complex.Dims.getD i 0
    · rw [if_pos hc]
      have hr : (x.Levels.getD i []).length ≤ 1048576 := hsm.r _ (by rw [levsD hi]; exact List.getElem_mem hi)
      have h83 : F82 (x.Levels.getD i []) (fun y => F83 y) = some ((x.Levels.getD i []).any fun q => !decide (0 ≤ q ∧ q ≤ 5)) := F82_eq _ (by omega) (fun q _ => by unfold F83; rw [F56_eq, Option.bind_some])
      have hany : ((x.Levels.getD i []).any fun q => !decide (0 ≤ q ∧ q ≤ 5)) = true ↔ ¬ ∀ q ∈ x.Levels.getD i [], 0 ≤ q ∧ q ≤ 5 := by
        simp only [List.any_eq_true, Bool.not_eq_true', decide_eq_false_iff_not]
        constructor
        · rintro ⟨d, h1, h2⟩ ha; exact h2 (ha d h1)
        · intro hn
          exact Classical.byContradiction fun hc => hn fun d hd => Classical.byContradiction fun h => hc ⟨d, hd, h⟩
      rw [h83, Option.bind_some]
      by_cases c4 : ((x.Levels.getD i []).any fun q => !decide (0 ≤ q ∧ q ≤ 5)) = true
      · rw [if_pos c4]
        right
        exact ⟨_, rfl, .inr ⟨rfl, fun ha => hany.1 c4 (ha i hi).2⟩⟩
      · rw [if_neg c4]
        left
        refine ⟨(), rfl, fun k hk => ?_⟩
        by_cases e : k = i
        · subst e; exact ⟨hc, Classical.byContradiction fun h => c4 (hany.2 h)⟩
        · exact ht k (by omega)
    · rw [if_neg hc]
      right
      exact ⟨_, rfl, .inr ⟨rfl, fun ha => hc (ha i hi).1⟩⟩
  · rintro _ ht
    exact ⟨.inl (), rfl, .inl ⟨rfl, ht⟩⟩
theorem F85_and {ms : List (List (List Int))} {f : Int → Int → Int → Int → Bool → Option Bool} (P : Nat → Nat → Nat → Prop) (h1 : ms.length ≤ 1048576) (h2 : ∀ m ∈ ms, m.length ≤ 1048576 ∧ ∀ r ∈ m, r.length ≤ 1048576)
    (hf : ∀ k i j b, InT ms k i j → ∃ b', f ((k : Int) + 1) i j (numAt ms k i j) b = some b' ∧ (b' = true ↔ b = true ∧ P k i j)) : Tells (F85 ms f true) (∀ k i j, InT ms k i j → P k i j) := by
  unfold F85
  have hl1 : ms.length < 4611686018427387904 := by omega
  refine forR_inv (τ := Bool) (σ := Bool) ms.length rfl hl1 (fun n b => (b = true ↔ ∀ k i j, k < n → InT ms k i j → P k i j)) _ (by simp) ?_ ?_
  · intro k b hk hI
    left
    rw [getI_getD hk [], Option.bind_some]
    have hmem : ms.getD k [] ∈ ms := getD_mem hk []
    have hm := h2 _ hmem
    have hl2 : (ms.getD k []).length < 4611686018427387904 := by have := hm.1; omega
    suffices hs : ∃ t, forR 0 ((ms.getD k []).length : Int) _ _ b = some t ∧ (t = true ↔ ∀ k' i j, k' < k + 1 → InT ms k' i j → P k' i j) by
      obtain ⟨t, g1, g2⟩ := hs
      rw [g1, Option.bind_some]
      exact ⟨t, rfl, g2⟩
    refine forR_inv (τ := Bool) (σ := Bool) (ms.getD k []).length rfl hl2 (fun n b => (b = true ↔ (∀ k' i j, k' < k → InT ms k' i j → P k' i j) ∧ ∀ i j, i < n → InT ms k i j → P k i j)) _ (by rw [hI]; simp) ?_ ?_
    · intro i b hi hI2
      left
      rw [getI_getD hi [], Option.bind_some]
      have hmem2 : (ms.getD k []).getD i [] ∈ ms.getD k [] := getD_mem hi []
      have hl3 : ((ms.getD k []).getD i []).length < 4611686018427387904 := by have := hm.2 _ hmem2; omega
      suffices hs : ∃ t, forR 0 (((ms.getD k []).getD i []).length : Int) _ _ b = some t ∧ (t = true ↔ (∀ k' i j, k' < k → InT ms k' i j → P k' i j) ∧ ∀ i' j, i' < i + 1 → InT ms k i' j → P k i' j) by
        obtain ⟨t, g1, g2⟩ := hs
        rw [g1, Option.bind_some]
        exact ⟨t, rfl, g2⟩
      refine forR_inv (τ := Bool) (σ := Bool) ((ms.getD k []).getD i []).length rfl hl3 (fun n b => (b = true ↔ ((∀ k' i j, k' < k → InT ms k' i j → P k' i j) ∧ ∀ i' j, i' < i → InT ms k i' j → P k i' j) ∧ ∀ j, j < n → InT ms k i j → P k i j)) _ (by rw [hI2]; simp) ?_ ?_
      · intro j b hj hI3
        left
        have hin : InT ms k i j := ⟨hk, hi, hj⟩
        rw [getI_getD hj 0, Option.bind_some, chk_ok (by omega) (by omega), Option.bind_some]
        obtain ⟨b', g1, g2⟩ := hf k i j b hin
        have g1' : f ((k : Int) + 1) i j (((ms.getD k []).getD i []).getD j 0) b = some b' := g1
        rw [g1', Option.bind_some]
        refine ⟨b', rfl, ?_⟩
        rw [g2, hI3]
        constructor
        · rintro ⟨⟨q1, q2⟩, q3⟩
          refine ⟨q1, fun j' hj' hin' => ?_⟩
          by_cases e : j' = j
          · subst e; exact q3
          · exact q2 j' (by omega) hin'
        · rintro ⟨q1, q2⟩
          exact ⟨⟨q1, fun j' hj' hin' => q2 j' (by omega) hin'⟩, q2 j (by omega) hin⟩
      · intro b hI3
        refine ⟨b, rfl, ?_⟩
        rw [hI3]
        constructor
        · rintro ⟨⟨q1, q2⟩, q3⟩
          refine ⟨q1, fun i' j hi' hin' => ?_⟩
          by_cases e : i' = i
          · subst e; exact q3 j hin'.2.2 hin'
          · exact q2 i' j (by omega) hin'
        · rintro ⟨q1, q2⟩
          exact ⟨⟨q1, fun i' j hi' hin' => q2 i' j (by omega) hin'⟩, fun j _ hin' => q2 i j (by omega) hin'⟩
    · intro b hI2
      refine ⟨b, rfl, ?_⟩
      rw [hI2]
      constructor
      · rintro ⟨q1, q2⟩ k' i j hk' hin'
        by_cases e : k' = k
        · subst e; exact q2 i j hin'.2.1 hin'
        · exact q1 k' i j (by omega) hin'
      · intro q
        exact ⟨fun k' i j hk' hin' => q k' i j (by omega) hin', fun i j _ hin' => q k i j (by omega) hin'⟩
  · intro b hI
    refine ⟨b, rfl, ?_⟩
    rw [hI]
    constructor
    · intro q k i j hin; exact q k i j hin.1 hin
    · intro q k i j _ hin; exact q k i j hin
theorem F41_tells {x : GFiltered} (hsm : SmallF x) : Tells (F41 x) (ValidF x) := by
  unfold F41
  rcases (F42_tells hsm.c).case with ⟨h1, hv⟩ | ⟨h1, hv⟩
  case inr => rw [h1, Option.bind_some, if_neg Bool.false_ne_true]; exact .of_false rfl fun h => hv h.vc
  rw [h1, Option.bind_some, if_pos rfl]
  by_cases c1 : (x.Levels.length : Int) = x.Complex.Dims.length
  case neg => rw [if_neg c1]; exact .of_false rfl fun h => by have := h.ll; omega
  rw [if_pos c1]
  obtain ⟨t, g1, g2⟩ := F41_1_eq hsm (by omega)
  rw [g1, Option.bind_some]
  rcases g2 with ⟨rfl, g2⟩ | ⟨rfl, g2⟩
  case inr => exact .of_false rfl fun h => g2 h.lv
  have hl : LevC x := ⟨by omega, g2⟩
  have hml := hv.ml
  have hdl := hv.dl
  have hT := F85_and (ms := x.Complex.Maps) (f := fun n r p v s => F84 n r p v s x) (LevAt x) hsm.c.m hsm.c.r (by
    intro k i j b hin
    obtain ⟨b1, b2, b3⟩ := bounds hv hl hin
    have hk := hin.1
    unfold F84
    cases b with
    | false => rw [if_neg Bool.false_ne_true]; exact ⟨false, rfl, by simp⟩
    | true =>
      rw [if_pos rfl]
      by_cases h0 : numAt x.Complex.Maps k i j = 0
      · rw [if_pos h0]; exact ⟨true, rfl, by simp [LevAt, h0]⟩
      · have e1 : ((k : Int) + 1 - 1) = (k : Int) := by omega
        have e2 : ((k : Int) + 1) = ((k + 1 : Nat) : Int) := by omega
        rw [if_neg h0, chk_ok (by omega) (by omega), Option.bind_some, e1, getI_getD (show k < x.Levels.length by omega) [], Option.bind_some, getI_getD b2 0, Option.bind_some, e2, getI_getD b1 [], Option.bind_some, getI_getD b3 0, Option.bind_some]
        exact ⟨_, rfl, by simp only [decide_eq_true_eq, LevAt, h0, false_or, true_and]⟩)
  simp only
  rcases hT.case with ⟨k1, k2⟩ | ⟨k1, k2⟩
  · rw [k1, Option.bind_some]; exact .of_true rfl ⟨hl, hv, k2⟩
  · rw [k1, Option.bind_some]; exact .of_false rfl fun h => k2 h.le
abbrev Long0 (n : Int) : Prop := -9223372036854775808 ≤ n ∧ n ≤ 9223372036854775807
abbrev LongL {α : Type} (L : α → Prop) (l : List α) : Prop := l.length ≤ 9223372036854775807 ∧ ∀ y ∈ l, L y
structure LongC (x : GComplex) : Prop where
  p : Long0 x.Prime
  d : LongL Long0 x.Dims
  m : LongL (LongL (LongL Long0)) x.Maps
structure LongF (x : GFiltered) : Prop where
  c : LongC x.Complex
  l : LongL (LongL Long0) x.Levels
theorem F43_eq {a : List Int} (ha : a.length ≤ 9223372036854775807) {s : Int} (h0 : 0 ≤ s) (h1 : s ≤ 1048576) : ∃ z, F43 a s = some z ∧ (z < 0 ∨ (0 ≤ z ∧ z ≤ 1048576 ∧ a.length ≤ 1048576)) := by
  unfold F43
  rw [chk_ok (by omega) (by omega), Option.bind_some]
  by_cases h : s - (a.length : Int) < 0
  · rw [if_pos h]; exact ⟨_, rfl, .inl (by decide)⟩
  · rw [if_neg h]; exact ⟨_, rfl, .inr ⟨by omega, by omega, by omega⟩⟩
theorem sz_loop {α : Type} {l : List α} (S : α → Prop) {B : Int → Int → Option (Int ⊕ (Int ⊕ Int))} {D : Int → Int → Option (Int ⊕ Int)} (hl : l.length ≤ 1048576)
    (hB : ∀ (i : Nat) (hi : i < l.length) (v : Int), 0 ≤ v → v ≤ 1048576 → (∃ z, B i v = some (.inl z) ∧ 0 ≤ z ∧ z ≤ 1048576 ∧ S l[i]) ∨ B i v = some (.inr (.inr (-1)))) (hD : ∀ v, D (l.length : Int) v = some (.inl v) ∨ ∀ i v, D i v = some (.inl v)) (hD' : ∀ i v, D i v = some (.inl v))
    {s : Int} (h0 : 0 ≤ s) (h1 : s ≤ 1048576) : ∃ t, forR 0 (l.length : Int) B D s = some t ∧ ((∃ z, t = .inl z ∧ 0 ≤ z ∧ z ≤ 1048576 ∧ ∀ y ∈ l, S y) ∨ t = .inr (-1)) := by
  have hlen : l.length < 4611686018427387904 := by omega
  refine forR_inv l.length rfl hlen (fun i v => 0 ≤ v ∧ v ≤ 1048576 ∧ ∀ k (h : k < l.length), k < i → S l[k]) _ ⟨h0, h1, fun k _ hk => by omega⟩ ?_ ?_
  · rintro i v hi ⟨p0, p1, p2⟩
    rcases hB i hi v p0 p1 with ⟨z, q1, q2, q3, q4⟩ | q
    · left
      refine ⟨z, q1, q2, q3, fun k h hk => ?_⟩
      by_cases e : k = i
      · subst e; exact q4
      · exact p2 k h (by omega)
    · right
      exact ⟨_, q, .inr rfl⟩
  · rintro v ⟨p0, p1, p2⟩
    refine ⟨_, hD' _ _, .inl ⟨v, rfl, p0, p1, fun y hy => ?_⟩⟩
    obtain ⟨k, hk, rfl⟩ := List.getElem_of_mem hy
    exact p2 k hk hk
theorem F44_eq {a : List (List Int)} (ha : LongL (LongL Long0) a) {s : Int} (h0 : 0 ≤ s) (h1 : s ≤ 1048576) : ∃ z, F44 a s = some z ∧ (z < 0 ∨ (0 ≤ z ∧ z ≤ 1048576 ∧ a.length ≤ 1048576 ∧ ∀ r ∈ a, r.length ≤ 1048576)) := by
  have hal := ha.1
  unfold F44
  rw [chk_ok (by omega) (by omega), Option.bind_some]
  by_cases h : s - (a.length : Int) < 0
  · rw [if_pos h]; exact ⟨_, rfl, .inl (by decide)⟩
  · rw [if_neg h]
    obtain ⟨t, g1, g2⟩ := sz_loop (l := a) (B := F44_1_B a) (D := F44_1_D a) (fun r => r.length ≤ 1048576) (by omega) (fun i hi v v0 v1 => by
      unfold F44_1_B
      obtain ⟨z, k1, k2⟩ := F43_eq (ha.2 _ (List.getElem_mem hi)).1 v0 v1
      rw [getI_nat hi, Option.bind_some, k1, Option.bind_some]
      rcases k2 with k2 | ⟨k2, k3, k4⟩
      · rw [if_pos k2]; exact .inr rfl
      · rw [if_neg (by omega)]; exact .inl ⟨z, rfl, k2, k3, k4⟩) (fun v => .inl rfl) (fun i v => rfl) (show 0 ≤ s - (a.length : Int) by omega) (by omega)
    rw [g1, Option.bind_some]
    rcases g2 with ⟨z, rfl, q1, q2, q3⟩ | rfl
    · exact ⟨z, rfl, .inr ⟨q1, q2, by omega, q3⟩⟩
    · exact ⟨_, rfl, .inl (by decide)⟩
theorem F11_eq {a : List (List (List Int))} (ha : LongL (LongL (LongL Long0)) a) {s : Int} (h0 : 0 ≤ s) (h1 : s ≤ 1048576) : ∃ z, F11 a s = some z ∧ (z < 0 ∨ (0 ≤ z ∧ z ≤ 1048576 ∧ a.length ≤ 1048576 ∧ ∀ m ∈ a, m.length ≤ 1048576 ∧ ∀ r ∈ m, r.length ≤ 1048576)) := by
  have hal := ha.1
  unfold F11
  rw [chk_ok (by omega) (by omega), Option.bind_some]
  by_cases h : s - (a.length : Int) < 0
  · rw [if_pos h]; exact ⟨_, rfl, .inl (by decide)⟩
  · rw [if_neg h]
    obtain ⟨t, g1, g2⟩ := sz_loop (l := a) (B := F11_1_B a) (D := F11_1_D a) (fun m => m.length ≤ 1048576 ∧ ∀ r ∈ m, r.length ≤ 1048576) (by omega) (fun i hi v v0 v1 => by
      unfold F11_1_B
      obtain ⟨z, k1, k2⟩ := F44_eq (ha.2 _ (List.getElem_mem hi)) v0 v1
      rw [getI_nat hi, Option.bind_some, k1, Option.bind_some]
      rcases k2 with k2 | ⟨k2, k3, k4⟩
      · rw [if_pos k2]; exact .inr rfl
      · rw [if_neg (by omega)]; exact .inl ⟨z, rfl, k2, k3, k4⟩) (fun v => .inl rfl) (fun i v => rfl) (show 0 ≤ s - (a.length : Int) by omega) (by omega)
    rw [g1, Option.bind_some]
    rcases g2 with ⟨z, rfl, q1, q2, q3⟩ | rfl
    · exact ⟨z, rfl, .inr ⟨q1, q2, by omega, q3⟩⟩
    · exact ⟨_, rfl, .inl (by decide)⟩
theorem F10_eq {x : GComplex} (hx : LongC x) {s : Int} (h0 : 0 ≤ s) (h1 : s ≤ 1048576) : ∃ z, F10 x s = some z ∧ (z < 0 ∨ (0 ≤ z ∧ z ≤ 1048576 ∧ SmallC x)) := by
  unfold F10
  obtain ⟨z, k1, k2⟩ := F43_eq hx.d.1 h0 h1
  rw [k1, Option.bind_some]
  rcases k2 with k2 | ⟨k2, k3, k4⟩
  · rw [if_pos k2]; exact ⟨_, rfl, .inl (by decide)⟩
  rw [if_neg (by omega)]
  obtain ⟨y, l1, l2⟩ := F11_eq hx.m k2 k3
  rw [l1, Option.bind_some]
  rcases l2 with l2 | ⟨l2, l3, l4, l5⟩
  · rw [if_pos l2]; exact ⟨_, rfl, .inl (by decide)⟩
  rw [if_neg (by omega)]
  exact ⟨y, rfl, .inr ⟨l2, l3, ⟨k4, l4, l5⟩⟩⟩
theorem F37_eq {x : GFiltered} (hx : LongF x) {s : Int} (h0 : 0 ≤ s) (h1 : s ≤ 1048576) : ∃ z, F37 x s = some z ∧ (z < 0 ∨ (0 ≤ z ∧ z ≤ 1048576 ∧ SmallF x)) := by
  unfold F37
  obtain ⟨z, k1, k2⟩ := F10_eq hx.c h0 h1
  rw [k1, Option.bind_some]
  rcases k2 with k2 | ⟨k2, k3, k4⟩
  · rw [if_pos k2]; exact ⟨_, rfl, .inl (by decide)⟩
  rw [if_neg (by omega)]
  obtain ⟨y, l1, l2⟩ := F44_eq hx.l k2 k3
  rw [l1, Option.bind_some]
  rcases l2 with l2 | ⟨l2, l3, l4, l5⟩
  · rw [if_pos l2]; exact ⟨_, rfl, .inl (by decide)⟩
  rw [if_neg (by omega)]
  exact ⟨y, rfl, .inr ⟨l2, l3, ⟨k4, l4, l5⟩⟩⟩
theorem to_loop {α : Type} {l : List α} {B : Int → List α → Option (List α ⊕ List α)} {D : Int → List α → Option (List α)} (hl : l.length ≤ 1048576)
    (hB : ∀ (i : Nat) (hi : i < l.length) (s : List α), s.length = l.length → B i s = some (.inl (s.set i l[i]))) (hD : ∀ i s, D i s = some s) {s : List α} (hs : s.length = l.length) : forR 0 (l.length : Int) B D s = some l := by
  have hlen : l.length < 4611686018427387904 := by omega
  obtain ⟨t, h1, h2⟩ := forR_inv (B := B) (D := D) l.length rfl hlen (fun i s => s.length = l.length ∧ ∀ k, k < i → s[k]? = l[k]?) (fun t => t = l) (s := s) ⟨hs, fun k hk => by omega⟩ (by
    rintro i s hi ⟨p1, p2⟩
    left
    refine ⟨_, hB i hi s p1, by rw [List.length_set]; exact p1, fun k hk => ?_⟩
    rw [List.getElem?_set]
    by_cases e : i = k
    · subst e; rw [if_pos rfl, if_pos (by omega)]; simp [hi]
    · rw [if_neg e]; exact p2 k (by omega)) (by
    rintro s ⟨p1, p2⟩
    refine ⟨s, hD _ _, ?_⟩
    apply List.ext_getElem?
    intro k
    by_cases hk : k < l.length
    · exact p2 k hk
    · rw [List.getElem?_eq_none (by omega), List.getElem?_eq_none (by omega)])
  rw [h1, h2]
theorem F47_eq {l : List Int} (h : l.length ≤ 1048576) : F47 l = some l := by
  unfold F47
  rw [mkL_ok l.length rfl (by omega) (by omega), Option.bind_some, to_loop (l := l) (B := F47_1_B l) (D := F47_1_D l) h (fun i hi s hs => by
    unfold F47_1_B
    rw [getI_nat hi, Option.bind_some, getI_nat (show i < s.length by omega), Option.bind_some, setI_nat (by omega), Option.bind_some]) (fun i s => rfl) (List.length_replicate ..), Option.bind_some]
theorem F48_eq {l : List (List Int)} (h : l.length ≤ 1048576) (h2 : ∀ r ∈ l, r.length ≤ 1048576) : F48 l = some l := by
  unfold F48
  rw [mkL_ok l.length rfl (by omega) (by omega), Option.bind_some, to_loop (l := l) (B := F48_1_B l) (D := F48_1_D l) h (fun i hi s hs => by
    unfold F48_1_B
    rw [getI_nat hi, Option.bind_some, F47_eq (h2 _ (List.getElem_mem hi)), Option.bind_some, getI_nat (show i < s.length by omega), Option.bind_some, setI_nat (by omega), Option.bind_some]) (fun i s => rfl) (List.length_replicate ..), Option.bind_some]
theorem F13_eq {l : List (List (List Int))} (h : l.length ≤ 1048576) (h2 : ∀ m ∈ l, m.length ≤ 1048576 ∧ ∀ r ∈ m, r.length ≤ 1048576) : F13 l = some l := by
  unfold F13
  rw [mkL_ok l.length rfl (by omega) (by omega), Option.bind_some, to_loop (l := l) (B := F13_1_B l) (D := F13_1_D l) h (fun i hi s hs => by
    unfold F13_1_B
    rw [getI_nat hi, Option.bind_some, F48_eq (h2 _ (List.getElem_mem hi)).1 (h2 _ (List.getElem_mem hi)).2, Option.bind_some, getI_nat (show i < s.length by omega), Option.bind_some, setI_nat (by omega), Option.bind_some]) (fun i s => rfl) (List.length_replicate ..), Option.bind_some]
theorem F12_eq {x : GComplex} (h : SmallC x) : F12 x = some x := by
  unfold F12
  rw [F47_eq h.d, Option.bind_some, F13_eq h.m h.r, Option.bind_some]
theorem F40_eq {x : GFiltered} (h : SmallF x) : F40 x = some x := by
  unfold F40
  rw [F12_eq h.c, Option.bind_some, F48_eq h.l h.r, Option.bind_some]
theorem eq_loop {n : Nat} {B : Int → Unit → Option (Unit ⊕ (Unit ⊕ Bool))} {D : Int → Unit → Option (Unit ⊕ Bool)} (hn : n ≤ 1048576) (hB : ∀ (i : Nat) (s : Unit), i < n → B i s = some (.inl ())) (hD : ∀ i s, D i s = some (.inl ())) : forR 0 (n : Int) B D () = some (.inl ()) := by
  have hlen : n < 4611686018427387904 := by omega
  obtain ⟨t, h1, h2⟩ := forR_inv (B := B) (D := D) n rfl hlen (fun _ _ => True) (fun t => t = .inl ()) (s := ()) trivial (fun i s hi _ => .inl ⟨_, hB i s hi, trivial⟩) (fun s _ => ⟨_, hD _ _, rfl⟩)
  rw [h1, h2]
theorem F30_same {a : List Int} (h : a.length ≤ 1048576) : F30 a a = some true := by
  unfold F30
  rw [if_pos rfl, eq_loop (B := F30_1_B a a) (D := F30_1_D a a) h (fun i s hi => by unfold F30_1_B; rw [getI_nat hi, Option.bind_some, Option.bind_some, if_pos rfl]) (fun i s => rfl), Option.bind_some]
theorem F51_same {a : List (List Int)} (h : a.length ≤ 1048576) (h2 : ∀ r ∈ a, r.length ≤ 1048576) : F51 a a = some true := by
  unfold F51
  rw [if_pos rfl, eq_loop (B := F51_1_B a a) (D := F51_1_D a a) h (fun i s hi => by unfold F51_1_B; rw [getI_nat hi, Option.bind_some, Option.bind_some, F30_same (h2 _ (List.getElem_mem hi)), Option.bind_some, if_pos rfl]) (fun i s => rfl), Option.bind_some]
theorem F17_same {a : List (List (List Int))} (h : a.length ≤ 1048576) (h2 : ∀ m ∈ a, m.length ≤ 1048576 ∧ ∀ r ∈ m, r.length ≤ 1048576) : F17 a a = some true := by
  unfold F17
  rw [if_pos rfl, eq_loop (B := F17_1_B a a) (D := F17_1_D a a) h (fun i s hi => by unfold F17_1_B; rw [getI_nat hi, Option.bind_some, Option.bind_some, F51_same (h2 _ (List.getElem_mem hi)).1 (h2 _ (List.getElem_mem hi)).2, Option.bind_some, if_pos rfl]) (fun i s => rfl), Option.bind_some]
theorem F16_same {x : GComplex} (h : SmallC x) : F16 x x = some true := by
  unfold F16
  rw [if_pos rfl, F30_same h.d, Option.bind_some, if_pos rfl, F17_same h.m h.r, Option.bind_some, if_pos rfl]
theorem F25_same {x : GFiltered} (h : SmallF x) : F25 x x = some true := by
  unfold F25
  rw [F16_same h.c, Option.bind_some, if_pos rfl, F51_same h.l h.r, Option.bind_some, if_pos rfl]
def TabM (x : GComplex) (ms : List (List (List Int))) (k : Nat) : Prop := TableOK x.Prime (x.Dims.getD (k + 1) 0) (x.Dims.getD k 0) (ms.getD k [])
structure MapsOK (x : GComplex) (ms : List (List (List Int))) : Prop where
  v : ValidC x
  l : ms.length = x.Maps.length
  t : ∀ k, k < ms.length → TabM x ms k
abbrev T3s := List (List (List Int))
structure Shp (s u : T3s) : Prop where
  l : s.length = u.length
  t : ∀ k, k < u.length → (s.getD k []).length = (u.getD k []).length
  r : ∀ k, k < u.length → ∀ i, i < (u.getD k []).length → ((s.getD k []).getD i []).length = ((u.getD k []).getD i []).length
theorem Shp.refl (s : T3s) : Shp s s := ⟨rfl, fun _ _ => rfl, fun _ _ _ _ => rfl⟩
theorem Shp.trans {a b c : T3s} (h : Shp a b) (k : Shp b c) : Shp a c :=
  ⟨h.l.trans k.l, fun n hn => (h.t n (by rw [k.l]; exact hn)).trans (k.t n hn), fun n hn i hi => (h.r n (by rw [k.l]; exact hn) i (by rw [k.t n hn]; exact hi)).trans (k.r n hn i hi)⟩
theorem Shp.symm {a b : T3s} (h : Shp a b) : Shp b a :=
  ⟨h.l.symm, fun n hn => (h.t n (by rw [← h.l]; exact hn)).symm, fun n hn i hi => (h.r n (by rw [← h.l]; exact hn) i (by rw [← h.t n (by rw [← h.l]; exact hn)]; exact hi)).symm⟩
theorem getD_ext {α : Type} {l l' : List α} (d : α) (h : l.length = l'.length) (hv : ∀ k, k < l'.length → l.getD k d = l'.getD k d) : l = l' := by
  apply List.ext_getElem h
  intro k h1 h2
  have := hv k h2
  simpa [h1, h2] using this
theorem Shp.eq {s t : T3s} (h : Shp s t) (hv : ∀ k i j, InT t k i j → numAt s k i j = numAt t k i j) : s = t := by
  refine getD_ext [] h.l fun k hk => getD_ext [] (h.t k hk) fun i hi => getD_ext 0 (h.r k hk i hi) fun j hj => hv k i j ⟨hk, hi, hj⟩
def q1 (p a b : Int) : Int := ((a + b).tmod p + p).tmod p
def Rng (p : Int) (s : T3s) : Prop := ∀ k i j, InT s k i j → 0 ≤ numAt s k i j ∧ numAt s k i j < p
def AT (q : Int → Int → Int) (s0 ms : T3s) (D : Nat → Nat → Nat → Prop) (s : T3s) : Prop :=
  Shp s s0 ∧ ∀ k i j, InT s0 k i j → (D k i j → numAt s k i j = q (numAt s0 k i j) (numAt ms k i j)) ∧ (¬ D k i j → numAt s k i j = numAt s0 k i j)
theorem AT.zero (q : Int → Int → Int) (s0 ms : T3s) : AT q s0 ms (fun _ _ _ => False) s0 := ⟨.refl _, fun k i j _ => ⟨fun x => x.elim, fun _ => rfl⟩⟩
theorem cpy_loop {α : Type} {l : List α} {B : Int → List α → Option (List α ⊕ List α)} {D : Int → List α → Option (List α)} (hl : l.length ≤ 1048576)
    (hB : ∀ (i : Nat) (hi : i < l.length) (s : List α), s.length = i → B i s = some (.inl (s ++ [l[i]]))) (hD : ∀ i s, D i s = some s) : forR 0 (l.length : Int) B D [] = some l := by
  have hlen : l.length < 4611686018427387904 := by omega
  obtain ⟨t, h1, h2⟩ := forR_inv (B := B) (D := D) l.length rfl hlen (fun i s => s = l.take i) (fun t => t = l) (s := []) (by simp) (by
    rintro i s hi rfl
    left
    refine ⟨_, hB i hi _ (by simp; omega), ?_⟩
    rw [List.take_append_getElem]) (by
    rintro s rfl
    exact ⟨_, hD _ _, by simp⟩)
  rw [h1, h2]
theorem app_nil {b : Nat} {α : Type} {l : List α} (h : l.length * b ≤ 1099511627776) (h2 : l.length ≤ 1099511627776) : app b [] l = some l := by
  rw [app_ok (by simpa using h) (by simpa using h2)]; rfl
theorem F94_eq {l : List Int} (h : l.length ≤ 1048576) : F94 l = some l := by
  unfold F94; rw [app_nil (by omega) (by omega), Option.bind_some]
theorem F96_eq {l : List Int} (h : l.length ≤ 1048576) : F96 l = some l := by
  unfold F96; rw [app_nil (by omega) (by omega)]
theorem TabM.len {x : GComplex} {ms : T3s} {k : Nat} (h : TabM x ms k) : ((ms.getD k []).length : Int) = x.Dims.getD (k + 1) 0 := h.1
theorem MapsOK.self {x : GComplex} (h : ValidC x) : MapsOK x x.Maps := ⟨h, rfl, fun k hk => h.tab k hk⟩
theorem MapsOK.rng {x : GComplex} {ms : T3s} (h : MapsOK x ms) : Rng x.Prime ms := by
  rintro k i j ⟨h1, h2, h3⟩
  exact ((h.t k h1).2 _ (getD_mem h2 [])).2 _ (getD_mem h3 0)
inductive Ch {α : Type} (R : α → Int → Int → Prop) : List α → Int → Int → Prop
  | nil (k : Int) : Ch R [] k k
  | cons {a : α} {l : List α} {k j m : Int} : R a k j → Ch R l j m → Ch R (a :: l) k m
theorem Ch.le {α : Type} {R : α → Int → Int → Prop} (hR : ∀ a s j, R a s j → s ≤ j) : ∀ {l : List α} {k m : Int}, Ch R l k m → k ≤ m
  | _, _, _, .nil _ => Int.le_refl _
  | _, _, _, .cons p q => Int.le_trans (hR _ _ _ p) (Ch.le hR q)
theorem SmallC.zero : SmallC (⟨0, [], []⟩ : GComplex) := ⟨by simp, by simp, by simp⟩
theorem SmallF.zero : SmallF (⟨⟨0, [], []⟩, []⟩ : GFiltered) := ⟨.zero, by simp, by simp⟩
theorem tmod_pos {a p : Int} (h : 0 ≤ a) : a.tmod p = a % p := Int.tmod_eq_emod_of_nonneg h
theorem tmod_cg {a p : Int} : Cg p (a.tmod p) a := ⟨-(a.tdiv p), by have := Int.tmod_add_mul_tdiv a p; grind⟩
theorem F127_eq {p x : Int} (hp : 2 ≤ p ∧ p ≤ 7) : F127 p x = some (x % p) := by
  have h1 := Int.tmod_lt_of_pos x (show 0 < p by omega)
  have h2 : -p < x.tmod p := by
    have h3 := Int.tmod_lt_of_pos (-x) (show 0 < p by omega)
    rw [Int.neg_tmod] at h3; omega
  unfold F127
  rw [remI_ok (by omega), Option.bind_some, chk_ok (by omega) (by omega), Option.bind_some, remI_ok (by omega), Option.bind_some, tmod_pos (by omega)]
  congr 1
  exact Cg.emod ((tmod_cg.add (Cg.refl p p)).trans ⟨1, by grind⟩)
theorem idx_loop {α : Type} {l : List α} (g : Nat → α → α) {B : Int → List α → Option (List α ⊕ List α)} {D : Int → List α → Option (List α)} (hl : l.length ≤ 1048576)
    (hB : ∀ (i : Nat) (hi : i < l.length) (s : List α), s.length = l.length → (∀ k, s[k]? = if k < i then (l[k]?).map (g k) else l[k]?) → B i s = some (.inl (s.set i (g i l[i])))) (hD : ∀ i s, D i s = some s) : forR 0 (l.length : Int) B D l = some (l.mapIdx g) := by
  obtain ⟨t, h1, h2⟩ := forR_inv (B := B) (D := D) l.length rfl (by omega) (fun i s => s.length = l.length ∧ ∀ k, s[k]? = if k < i then (l[k]?).map (g k) else l[k]?) (fun t => t = l.mapIdx g) (s := l) ⟨rfl, fun k => by simp⟩ (by
    rintro i s hi ⟨p1, p2⟩
    left
    refine ⟨_, hB i hi s p1 p2, by rw [List.length_set]; exact p1, fun k => ?_⟩
    rw [List.getElem?_set]
    by_cases e : i = k
    · subst e; rw [if_pos rfl, if_pos (by omega), if_pos (by omega)]; simp [hi]
    · rw [if_neg e, p2 k]
      by_cases q : k < i
      · rw [if_pos q, if_pos (by omega)]
      · rw [if_neg q, if_neg (by omega)]) (by
    rintro s ⟨p1, p2⟩
    refine ⟨s, hD _ _, ?_⟩
    apply List.ext_getElem?
    intro k
    rw [p2 k, List.getElem?_mapIdx]
    by_cases q : k < l.length
    · rw [if_pos q]
    · rw [if_neg q, List.getElem?_eq_none (by omega)]; rfl)
  rw [h1, h2]
theorem nth_get {v : List Int} {j : Nat} (h : j < v.length) : getI v (j : Int) = some (nth v j) := by rw [getI_nat h, nth_lt h]
theorem rng_mul {p a b : Int} (hp : 2 ≤ p ∧ p ≤ 7) (ha : 0 ≤ a ∧ a < p) (hb : 0 ≤ b ∧ b < p) : 0 ≤ a * b ∧ a * b ≤ 49 := by
  refine ⟨Int.mul_nonneg ha.1 hb.1, ?_⟩
  have := Int.mul_le_mul (show a ≤ 7 by omega) (show b ≤ 7 by omega) hb.1 (by decide)
  omega
theorem scl_loop {p k : Int} {w : Nat} (hp : 2 ≤ p ∧ p ≤ 7) (hk : 0 ≤ k ∧ k < p) {v : List Int} (hv : VecOK p w v) (hw : w ≤ 1048576) {B : Int → List Int → Option (List Int ⊕ List Int)} {D : Int → List Int → Option (List Int)}
    (hB : ∀ i row, B i row = (getI row i).bind fun x => (chk (x * k)).bind fun m => (remI m p).bind fun z => (setI row i z).bind fun r => some (.inl r)) (hD : ∀ i s, D i s = some s) : forR 0 (v.length : Int) B D v = some (scl p v k) := by
  have hl := hv.len
  rw [idx_loop (fun _ x => x * k % p) (by omega) (fun i hi s hs hk' => ?_) hD]
  · congr 1
    apply List.ext_getElem <;> simp [scl]
  · have h1 : s[i]? = v[i]? := by rw [hk' i, if_neg (Nat.lt_irrefl _)]
    have h2 : s[i]'(by omega) = v[i] := by
      have := h1
      rw [List.getElem?_eq_getElem (by omega), List.getElem?_eq_getElem hi] at this
      exact Option.some.inj this
    have hr := hv.rng i (by omega)
    rw [nth_lt hi] at hr
    have hm := rng_mul hp hr hk
    rw [hB, getI_nat (show i < s.length by omega), Option.bind_some, h2, chk_ok (by omega) (by omega), Option.bind_some, remI_ok (by omega), Option.bind_some, setI_nat (by omega), Option.bind_some, tmod_pos hm.1]
theorem F136_eq {p k : Int} {w : Nat} (hp : 2 ≤ p ∧ p ≤ 7) (hk : 0 ≤ k ∧ k < p) {v u : List Int} (hv : VecOK p w v) (hu : VecOK p w u) (hw : w ≤ 1048576) : F136 p v u k = some (subv p v u k) := by
  have hl := hv.len
  have hul := hu.len
  have hsl : (subv p v u k).length = w := by simp [subv, hl, hul]
  unfold F136
  obtain ⟨t, g1, g2⟩ := forR_inv (B := F136_1_B p v u k) (D := F136_1_D p v u k) v.length rfl (by omega) (fun i s => s = (subv p v u k).take i) (fun t => t = subv p v u k) (s := []) (by simp) (by
    rintro i s hi rfl
    left
    have hiw : i < w := by omega
    have h1 := hv.rng i hiw
    have h2 := hu.rng i hiw
    have hm := rng_mul hp hk h2
    refine ⟨(subv p v u k).take (i + 1), ?_, rfl⟩
    unfold F136_1_B
    rw [nth_get hi, Option.bind_some, nth_get (by omega), Option.bind_some, chk_ok (by omega) (by omega), Option.bind_some, chk_ok (by omega) (by omega), Option.bind_some, F127_eq hp, Option.bind_some, app_ok (by simp; omega) (by simp; omega), Option.bind_some]
    congr 2
    rw [← List.take_append_getElem (show i < (subv p v u k).length by omega)]
    congr 2
    have := nth_sub (p := p) (k := k) hl hul hiw
    rw [nth_lt (by omega)] at this
    exact this.symm) (by
    rintro s rfl
    refine ⟨_, rfl, ?_⟩
    rw [List.take_of_length_le (by omega)])
  rw [g1, Option.bind_some, g2]
theorem F81_ld {r : List Int} (hl : r.length ≤ 1048576) : F81 r = some (if ld r < r.length then (ld r : Int) else -1) := by
  unfold F81
  obtain ⟨t, g1, g2⟩ := forR_inv (B := F81_1_B r) (D := F81_1_D r) r.length rfl (by omega) (fun i _ => i ≤ ld r) (fun t => (t = .inl () ∧ r.length ≤ ld r) ∨ (t = .inr (ld r : Int) ∧ ld r < r.length)) (s := ()) (Nat.zero_le _) (by
    rintro i _ hi hI
    unfold F81_1_B
    rw [nth_get hi, Option.bind_some]
    by_cases h : nth r i = 0
    · left
      rw [if_pos h]
      refine ⟨(), rfl, ?_⟩
      rcases Nat.lt_or_ge i (ld r) with q | q
      · exact q
      · have : i = ld r := by omega
        subst this
        exact absurd h (ld_ne hi)
    · right
      rw [if_neg h]
      refine ⟨_, rfl, .inr ?_⟩
      have : ld r = i := by
        rcases Nat.lt_or_ge i (ld r) with q | q
        · exact absurd (ld_zero q) h
        · omega
      rw [this]; exact ⟨rfl, hi⟩) (by
    rintro _ hI
    exact ⟨_, rfl, .inl ⟨rfl, hI⟩⟩)
  rw [g1, Option.bind_some]
  rcases g2 with ⟨rfl, h⟩ | ⟨rfl, h⟩
  · rw [if_neg (by omega)]
  · rw [if_pos h]
theorem inv_ex {p x : Int} (hp : IsP p) (h1 : 1 ≤ x) (h2 : x < p) : ∃ m, 1 ≤ m ∧ m < p ∧ m * x % p = 1 := by
  unfold IsP at hp
  rcases hp with rfl | rfl | rfl | rfl
  · obtain rfl : x = 1 := by omega
    exact ⟨1, by decide⟩
  · have : x = 1 ∨ x = 2 := by omega
    rcases this with rfl | rfl
    · exact ⟨1, by decide⟩
    · exact ⟨2, by decide⟩
  · have : x = 1 ∨ x = 2 ∨ x = 3 ∨ x = 4 := by omega
    rcases this with rfl | rfl | rfl | rfl
    · exact ⟨1, by decide⟩
    · exact ⟨3, by decide⟩
    · exact ⟨2, by decide⟩
    · exact ⟨4, by decide⟩
  · have : x = 1 ∨ x = 2 ∨ x = 3 ∨ x = 4 ∨ x = 5 ∨ x = 6 := by omega
    rcases this with rfl | rfl | rfl | rfl | rfl | rfl
    · exact ⟨1, by decide⟩
    · exact ⟨4, by decide⟩
    · exact ⟨5, by decide⟩
    · exact ⟨2, by decide⟩
    · exact ⟨3, by decide⟩
    · exact ⟨6, by decide⟩
theorem cg_one {p a : Int} (hp : 2 ≤ p ∧ p ≤ 7) (h : a % p = 1) : Cg p a 1 := by
  have := (Cg.mod p a).symm
  rwa [h] at this
theorem F135_eq {p x : Int} (hp : IsP p) (h1 : 1 ≤ x) (h2 : x < p) : ∃ k, F135 p x = some k ∧ 0 ≤ k ∧ k < p ∧ Cg p (x * k) 1 := by
  have hr := hp.range
  obtain ⟨m, m1, m2, m3⟩ := inv_ex hp h1 h2
  obtain ⟨n, hn⟩ : ∃ n : Nat, p = n := ⟨p.toNat, by omega⟩
  obtain ⟨t, g1, k, rfl, g2, g3, g4⟩ := forR_from (B := F135_1_B p x) (D := F135_1_D p x) (lo := 1) (hi := p) 1 n rfl hn (by omega) (by omega) (fun i _ => 1 ≤ i ∧ ∀ j : Int, 1 ≤ j → j < i → j * x % p ≠ 1) (fun t => ∃ k : Int, t = .inr k ∧ 0 ≤ k ∧ k < p ∧ Cg p (x * k) 1) (s := ()) ⟨Nat.le_refl _, fun j a b => by omega⟩ (by
    rintro i _ hi ⟨h0, hI⟩
    unfold F135_1_B
    have hm := rng_mul hr (show 0 ≤ (i : Int) ∧ (i : Int) < p by omega) (show 0 ≤ x ∧ x < p by omega)
    rw [F127_eq hr, Option.bind_some, Int.emod_eq_of_lt (show 0 ≤ x by omega) h2, chk_ok (by omega) (by omega), Option.bind_some, remI_ok (by omega), Option.bind_some, tmod_pos hm.1]
    by_cases h : (i : Int) * x % p = 1
    · right
      rw [if_pos h]
      exact ⟨_, rfl, _, rfl, by omega, by omega, by rw [Int.mul_comm]; exact cg_one hr h⟩
    · left
      rw [if_neg h]
      refine ⟨(), rfl, by omega, fun j a b => ?_⟩
      by_cases e : j = i
      · subst e; exact h
      · exact hI j a (by omega)) (by
    rintro _ ⟨h0, hI⟩
    exact absurd m3 (hI m m1 (by omega)))
  unfold F135
  rw [g1, Option.bind_some]
  exact ⟨k, rfl, g2, g3, g4⟩
theorem F138_eq {p x : Int} (hp : IsP p) (h1 : 1 ≤ x) (h2 : x < p) : ∃ k, F138 p x = some k ∧ 0 ≤ k ∧ k < p ∧ Cg p (x * k) 1 := by
  have hr := hp.range
  obtain ⟨m, m1, m2, m3⟩ := inv_ex hp h1 h2
  obtain ⟨t, g1, g2, g3, g4⟩ := loopW_inv (S := F138_1_S p x) (fun v => (m - v).toNat) (fun v => 1 ≤ v ∧ v ≤ m) (fun t => 0 ≤ t ∧ t < p ∧ Cg p (x * t) 1) (s := 1) ⟨by decide, m1⟩ (by
    rintro v ⟨v1, v2⟩
    unfold F138_1_S
    have hm := rng_mul hr (show 0 ≤ v ∧ v < p by omega) (show 0 ≤ x ∧ x < p by omega)
    rw [chk_ok (by omega) (by omega), Option.bind_some, remI_ok (by omega), Option.bind_some, tmod_pos hm.1]
    by_cases h : v * x % p = 1
    · right
      rw [if_pos h]
      exact ⟨_, rfl, by omega, by omega, by rw [Int.mul_comm]; exact cg_one hr h⟩
    · left
      have hne : v ≠ m := fun e => by rw [e] at h; exact h m3
      rw [if_neg h, chk_ok (by omega) (by omega), Option.bind_some]
      exact ⟨_, rfl, ⟨by omega, by omega⟩, by omega⟩)
  unfold F138
  rw [g1, Option.bind_some]
  exact ⟨t, rfl, g2, g3, g4⟩
theorem F139_eq {p k : Int} {w : Nat} (hp : 2 ≤ p ∧ p ≤ 7) (hk : 0 ≤ k ∧ k < p) {r o : List Int} (hr : VecOK p w r) (ho : VecOK p w o) (hw : w ≤ 1048576) : F139 r o p k = some (subv p r o k) := by
  have hl := hr.len
  have hol := ho.len
  unfold F139
  rw [show (o.length : Int) = (r.length : Int) by omega, idx_loop (l := r) (B := F139_1_B o p k) (D := F139_1_D) (fun i x => (x - k * nth o i) % p) (by omega) (fun i hi s hs hk' => ?_) (fun i s => rfl)]
  · congr 1
    have hsl : (subv p r o k).length = w := by simp [subv, hl, hol]
    apply List.ext_getElem (by simp [hl, hsl])
    intro i h1 h2
    have hi : i < w := by omega
    have := nth_sub (p := p) (k := k) hl hol hi
    rw [nth_lt h2, nth_lt (show i < r.length by omega)] at this
    rw [this]; simp
  · have h1 : s[i]? = r[i]? := by rw [hk' i, if_neg (Nat.lt_irrefl _)]
    have h2 : s[i]'(by omega) = r[i] := by
      have := h1
      rw [List.getElem?_eq_getElem (by omega), List.getElem?_eq_getElem hi] at this
      exact Option.some.inj this
    have a1 := hr.rng i (by omega)
    rw [nth_lt hi] at a1
    have a2 := ho.rng i (by omega)
    have hm : 0 ≤ (p - k) * nth o i ∧ (p - k) * nth o i ≤ 49 := by
      refine ⟨Int.mul_nonneg (by omega) a2.1, ?_⟩
      have := Int.mul_le_mul (show p - k ≤ 7 by omega) (show nth o i ≤ 7 by omega) a2.1 (by decide)
      omega
    unfold F139_1_B
    rw [nth_get (by omega), Option.bind_some, getI_nat (show i < s.length by omega), Option.bind_some, h2, chk_ok (by omega) (by omega), Option.bind_some, chk_ok (by omega) (by omega), Option.bind_some, chk_ok (by omega) (by omega), Option.bind_some, remI_ok (by omega), Option.bind_some, setI_nat (by omega), Option.bind_some, tmod_pos (by omega)]
    congr 3
    exact Cg.emod ⟨nth o i, by grind⟩
theorem F134_eq {p : Int} {w : Nat} (hp : 2 ≤ p ∧ p ≤ 7) {R : List (List Int)} (hR : Red p w R) {v : List Int} (hv : VecOK p w v) (hw : w ≤ 1048576) (hn : R.length ≤ 1048576) : F134 p R v = some (rest p R v) := by
  have hp0 : 0 < p := by omega
  unfold F134
  rw [F94_eq (by rw [hv.len]; exact hw), Option.bind_some]
  have key : ∀ i, i ≤ R.length → VecOK p w (rest p (R.take i) v) := fun i _ => rest_ok hp0 (fun r hr => hR.ok r (List.mem_of_mem_take hr)) hv
  obtain ⟨t, g1, g2⟩ := forR_inv (B := F134_1_B p R) (D := F134_1_D p R) R.length rfl (by omega) (fun i s => s = rest p (R.take i) v) (fun t => t = rest p R v) (s := v) rfl (by
    rintro i s hi rfl
    left
    refine ⟨_, ?_, rfl⟩
    have hk := key i (by omega)
    have hm := List.getElem_mem hi
    have hok := hR.ok _ hm
    have hone := hR.one _ hm
    unfold F134_1_B
    rw [getI_nat hi, Option.bind_some, F81_ld (by rw [hok.len]; exact hw), if_pos (by rw [hok.len]; exact hone.1), Option.bind_some, nth_get (by rw [hk.len]; exact hone.1), Option.bind_some, F136_eq hp (hk.rng _ hone.1) hk hok hw, Option.bind_some]
    congr 2
    rw [← List.take_append_getElem hi]
    unfold rest
    rw [List.foldl_append]; rfl) (by
    rintro s rfl
    exact ⟨_, rfl, by rw [List.take_length]⟩)
  rw [g1, Option.bind_some, g2]
theorem ins_cons {p : Int} {own : List Int} {a : Nat} {o : List Int} {out : List (List Int)} : ins p own a (o :: out) = if a < ld o then own :: insF p own a o :: out.map (insF p own a) else insF p own a o :: ins p own a out := rfl
theorem F131_3_eq {p : Int} {w a : Nat} (hp : 2 ≤ p ∧ p ≤ 7) {out : List (List Int)} {own : List Int} (hR : Red p w out) (n : New p w out own a) (hw : w ≤ 1048576) (hn : out.length ≤ 1000000) :
    ∃ nx put, forR 0 (out.length : Int) (F131_3_B p out own a) F131_3_D ([], false) = some (nx, put) ∧ (if put = true then nx else nx ++ [own]) = ins p own a out ∧ nx.length ≤ 2000000 := by
  obtain ⟨t, g1, g2, g3⟩ := forR_inv (B := F131_3_B p out own a) (D := F131_3_D) out.length rfl (by omega) (fun i s => s.1.length ≤ 2 * i ∧ (s.2 = true → s.1 ++ (out.drop i).map (insF p own a) = ins p own a out) ∧ (s.2 = false → s.1 ++ ins p own a (out.drop i) = ins p own a out))
    (fun t => (if t.2 = true then t.1 else t.1 ++ [own]) = ins p own a out ∧ t.1.length ≤ 2000000) (s := ([], false)) ⟨by simp, by simp, by simp⟩ (by
    rintro i ⟨nx, put⟩ hi ⟨p1, p2, p3⟩
    simp only at p1 p2 p3
    left
    have hm := List.getElem_mem hi
    have hok := hR.ok _ hm
    have hone := hR.one _ hm
    have hr := hok.rng a n.lt
    have hq : F136 p out[i] own (nth out[i] a) = some (insF p own a out[i]) := F136_eq hp hr hok n.ok hw
    rw [List.drop_eq_getElem_cons hi] at p2 p3
    unfold F131_3_B F131_3_C
    simp only
    cases put with
    | true =>
      have e := p2 rfl
      rw [if_pos rfl, Option.bind_some, if_neg Bool.false_ne_true, Option.bind_some, getI_nat hi, Option.bind_some, nth_get (by rw [hok.len]; exact n.lt), Option.bind_some, hq, Option.bind_some, app_ok (by simp; omega) (by simp; omega), Option.bind_some]
      exact ⟨_, rfl, by simp; omega, fun _ => by rw [← e]; simp only [List.map_cons, List.append_assoc, List.cons_append, List.nil_append], fun h => by cases h⟩
    | false =>
      have e := p3 rfl
      rw [if_neg Bool.false_ne_true, getI_nat hi, Option.bind_some, F81_ld (by rw [hok.len]; exact hw), if_pos (by rw [hok.len]; exact hone.1), Option.bind_some, Option.bind_some]
      by_cases h : a < ld out[i]
      · have hd : decide ((a : Int) < (ld out[i] : Int)) = true := by simpa using h
        rw [ins_cons, if_pos h] at e
        rw [hd, if_pos rfl, app_ok (by simp; omega) (by simp; omega), Option.bind_some, Option.bind_some, Option.bind_some, nth_get (by rw [hok.len]; exact n.lt), Option.bind_some, hq, Option.bind_some, app_ok (by simp; omega) (by simp; omega), Option.bind_some]
        exact ⟨_, rfl, by simp; omega, fun _ => by rw [← e]; simp only [List.map_cons, List.append_assoc, List.cons_append, List.nil_append], fun h => by cases h⟩
      · have hd : decide ((a : Int) < (ld out[i] : Int)) = false := by simpa using h
        rw [ins_cons, if_neg h] at e
        rw [hd, if_neg Bool.false_ne_true, Option.bind_some, Option.bind_some, nth_get (by rw [hok.len]; exact n.lt), Option.bind_some, hq, Option.bind_some, app_ok (by simp; omega) (by simp; omega), Option.bind_some]
        exact ⟨_, rfl, by simp; omega, (fun h => by cases h), fun _ => by rw [← e]; simp only [List.append_assoc, List.cons_append, List.nil_append]⟩) (by
    rintro ⟨nx, put⟩ ⟨p1, p2, p3⟩
    simp only at p1 p2 p3
    refine ⟨_, rfl, ?_, by simp only; omega⟩
    rw [List.drop_length] at p2 p3
    cases put with
    | true => simpa using p2 rfl
    | false => simpa [ins] using p3 rfl)
  exact ⟨t.1, t.2, g1, g2, g3⟩
theorem F131_ech {p : Int} {w : Nat} (hp : IsP p) {rows : List (List Int)} (hr : Rows p w rows) (hw : w ≤ 1048576) (hn : rows.length ≤ 1000000) : ∃ out, F131 p rows = some out ∧ EchOf p w rows out := by
  have hpr := hp.range
  have hp1 : 1 < p := by omega
  obtain ⟨t, g1, g2, g3⟩ := forR_inv (B := F131_1_B p rows) (D := F131_1_D) rows.length rfl (by omega) (fun i s => EchOf p w (rows.take i) s ∧ s.length ≤ i) (fun t => EchOf p w rows t ∧ t.length ≤ rows.length) (s := []) ⟨.nil p w, Nat.le_refl _⟩ (by
    rintro i out hi ⟨p1, p2⟩
    left
    have hrow := hr _ (List.getElem_mem hi)
    have hrt : Rows p w (rows.take i) := fun r h => hr r (List.mem_of_mem_take h)
    have hrest := rest_ok (show 0 < p by omega) p1.red.ok hrow
    have hl : ¬ (ld (rest p out rows[i]) < w) ∨ ld (rest p out rows[i]) < w := by omega
    unfold F131_1_B
    rw [getI_nat hi, Option.bind_some, F134_eq hpr p1.red hrow hw (by omega), Option.bind_some, F81_ld (by rw [hrest.len]; exact hw), Option.bind_some, hrest.len]
    rcases hl with hl | hl
    · rw [if_neg hl, if_pos (by decide)]
      refine ⟨out, rfl, ?_, by omega⟩
      rw [← List.take_append_getElem hi]
      exact p1.skip hp1 hrt hrow fun j hj => ld_zero (by omega)
    · rw [if_pos hl, if_neg (by omega)]
      have hne := ld_ne (r := rest p out rows[i]) (by rw [hrest.len]; exact hl)
      have hrg := hrest.rng _ hl
      obtain ⟨k, k1, k2, k3, k4⟩ := F135_eq hp (x := nth (rest p out rows[i]) (ld (rest p out rows[i]))) (by omega) hrg.2
      have n := p1.new hp1 hrow hl (fun j hj => ld_zero hj) k4
      obtain ⟨nx, put, q1, q2, q3⟩ := F131_3_eq hpr p1.red n hw (by omega)
      have hlen : ((rest p out rows[i]).length : Int) = (w : Int) := by rw [hrest.len]
      have hsc := scl_loop hpr ⟨k2, k3⟩ hrest hw (B := F131_2_B p k) (D := F131_2_D) (fun i row => rfl) (fun i s => rfl)
      have hput := p1.put hp1 hrt hrow hl (fun j hj => ld_zero hj) k4
      rw [List.take_append_getElem hi] at hput
      rw [nth_get (by rw [hrest.len]; exact hl), Option.bind_some, k1, Option.bind_some, ← hlen, hsc, Option.bind_some, q1, Option.bind_some]
      simp only
      cases put with
      | true =>
        rw [if_pos rfl] at q2 ⊢
        rw [q2]
        exact ⟨_, rfl, hput, by rw [ins_len]; omega⟩
      | false =>
        rw [if_neg Bool.false_ne_true] at q2 ⊢
        rw [app_ok (by simp; omega) (by simp; omega), Option.bind_some, q2]
        exact ⟨_, rfl, hput, by rw [ins_len]; omega⟩) (by
    rintro out ⟨p1, p2⟩
    rw [List.take_length] at p1
    exact ⟨_, rfl, p1, p2⟩)
  exact ⟨t, g1, g2⟩
theorem F128_first {l : List (List Int)} {f : List Int → Option Bool} (P : List Int → Bool) (hl : l.length ≤ 1048576) (hf : ∀ x ∈ l, f x = some (P x)) : ∃ i : Int, F128 l f = some i ∧ ((i = -1 ∧ ∀ x ∈ l, P x = false) ∨ ∃ m : Nat, i = m ∧ m < l.length ∧ P (rowAt l m) = true) := by
  unfold F128
  obtain ⟨t, h1, h2⟩ := forR_inv (B := F128_1_B l f) (D := F128_1_D l f) (hi := l.length) l.length rfl (by omega) (fun i _ => ∀ k (hk : k < i) (h2 : k < l.length), P l[k] = false) (fun t => (t = .inl () ∧ ∀ x ∈ l, P x = false) ∨ ∃ m : Nat, t = .inr (m : Int) ∧ m < l.length ∧ P (rowAt l m) = true) (s := ()) (fun k hk => by omega) (by
    intro i _ hi hI
    unfold F128_1_B
    rw [getI_nat hi, Option.bind_some, hf _ (List.getElem_mem hi), Option.bind_some]
    cases hp : P l[i] with
    | true => right; exact ⟨_, rfl, .inr ⟨i, rfl, hi, by rw [rowAt_lt hi]; exact hp⟩⟩
    | false =>
      left
      refine ⟨(), rfl, fun k hk h2 => ?_⟩
      by_cases e : k = i
      · subst e; exact hp
      · exact hI k (by omega) h2) (by
    intro _ hI
    refine ⟨.inl (), rfl, .inl ⟨rfl, fun x hx => ?_⟩⟩
    obtain ⟨k, hk, rfl⟩ := List.getElem_of_mem hx
    exact hI k hk hk)
  rw [h1, Option.bind_some]
  rcases h2 with ⟨rfl, h2⟩ | ⟨m, rfl, h2⟩
  · exact ⟨_, rfl, .inl ⟨rfl, h2⟩⟩
  · exact ⟨_, rfl, .inr ⟨m, rfl, h2⟩⟩
theorem gstep_loop {p : Int} {w c d : Nat} (hp : 2 ≤ p ∧ p ≤ 7) {l : List (List Int)} {row : List Int} (hl : Rows p w l) (hd : d < l.length) (hrow : rowAt l d = row) (hc : c < w) (hw : w ≤ 1048576) (hn : l.length ≤ 1000000) :
    forR 0 (l.length : Int) (F133_4_B p c d) F133_4_D l = some (gstep p c d row l) := by
  have hdr := hl _ (row_mem hd)
  rw [hrow] at hdr
  rw [idx_loop (l := l) (B := F133_4_B p c d) (D := F133_4_D) (fun i r => if i = d then r else subv p r row (nth r c)) (by omega) (fun i hi s hs hk => ?_) (fun i s => rfl)]
  · unfold gstep
    congr 1
    have : l.set d row = l := by
      rw [← hrow, rowAt_lt hd]; exact List.set_getElem_self hd
    rw [this]
  · have h1 : s[i]'(by omega) = l[i] := by
      have := hk i
      rw [if_neg (Nat.lt_irrefl _), List.getElem?_eq_getElem (by omega), List.getElem?_eq_getElem hi] at this
      exact Option.some.inj this
    have h2 : s[d]'(by omega) = row := by
      have := hk d
      rw [List.getElem?_eq_getElem (by omega), List.getElem?_eq_getElem hd] at this
      rw [← hrow, rowAt_lt hd]
      split at this
      · simpa using this
      · exact Option.some.inj this
    unfold F133_4_B
    by_cases e : i = d
    · subst e
      rw [if_pos rfl, if_pos rfl, ← h1, List.set_getElem_self]
    · have hr := hl _ (List.getElem_mem hi)
      have hrc := hr.rng c hc
      rw [if_neg (by omega), if_neg e, getI_nat (show i < s.length by omega), Option.bind_some, getI_nat (show d < s.length by omega), Option.bind_some, h1, h2, nth_get (by rw [hr.len]; exact hc), Option.bind_some, F139_eq hp hrc hr hdr hw, Option.bind_some, setI_nat (by omega), Option.bind_some]
theorem F133_ech {p : Int} {w : Nat} (hp : IsP p) {rows : List (List Int)} (hr : Rows p w rows) (hw : w ≤ 1048576) (hn : rows.length ≤ 1000000) : ∃ out, F133 p rows = some out ∧ EchOf p w rows out := by
  have hpr := hp.range
  have hp1 : 1 < p := by omega
  unfold F133
  rw [cpy_loop (l := rows) (B := F133_1_B rows) (D := F133_1_D) (by omega) (fun i hi s hs => by
    unfold F133_1_B
    have := hr _ (List.getElem_mem hi)
    rw [getI_nat hi, Option.bind_some, F96_eq (by rw [this.len]; exact hw), Option.bind_some, app_ok (by simp; omega) (by simp; omega), Option.bind_some]) (fun i s => rfl), Option.bind_some]
  by_cases h0 : (rows.length : Int) = 0
  · rw [if_pos h0]
    have : rows = [] := List.eq_nil_of_length_eq_zero (by omega)
    subst this
    exact ⟨_, rfl, .nil p w⟩
  rw [if_neg h0]
  have hpos : 0 < rows.length := by omega
  have e0 := getI_nat hpos
  simp only [Int.natCast_zero] at e0
  have hw0 := (hr _ (List.getElem_mem hpos)).len
  rw [show (0 : Int) = ((0 : Nat) : Int) from rfl, getI_nat hpos, Option.bind_some]
  obtain ⟨t, g1, g2, g3, g4⟩ := forR_inv (B := F133_2_B p) (D := F133_2_D) (hi := (rows[0].length : Int)) w (by rw [hw0]) (by omega) (fun c s => ∃ d : Nat, s.2 = d ∧ d < s.1.length ∧ s.1.length = rows.length ∧ GInv p w rows c s.1 d)
    (fun t => EchOf p w rows (t.1.take t.2.toNat) ∧ 0 ≤ t.2 ∧ t.2 ≤ t.1.length) (s := (rows, 0)) ⟨0, rfl, hpos, rfl, .start hr⟩ (by
    rintro c ⟨l, dd⟩ hc ⟨d, p1, p2, p3, g⟩
    simp only at p1 p2 p3 g
    subst p1
    have hrl : ∀ x ∈ l.drop d, (fun r => F137 r (c : Int)) x = some (!decide (nth x c = 0)) := fun x hx => by
      have hx' := g.ok x (List.mem_of_mem_drop hx)
      show F137 x c = _
      unfold F137
      rw [nth_get (by rw [hx'.len]; exact hc), Option.bind_some]
    obtain ⟨at_, a1, a2⟩ := F128_first (fun x => !decide (nth x c = 0)) (l := l.drop d) (by simp; omega) hrl
    unfold F133_2_B
    simp only
    rw [if_pos ⟨by omega, by omega⟩, Int.toNat_natCast, a1, Option.bind_some]
    rcases a2 with ⟨rfl, a2⟩ | ⟨m, rfl, a2, a3⟩
    · rw [if_pos (by decide)]
      left
      refine ⟨_, rfl, d, rfl, p2, p3, g.skip hc fun i h1 h2 => ?_⟩
      have hx : rowAt l i ∈ l.drop d := by
        rw [rowAt_lt h2, List.mem_iff_getElem]
        exact ⟨i - d, by simp; omega, by simp [show d + (i - d) = i by omega]⟩
      simpa using a2 _ hx
    · have hml : m < l.length - d := by simpa using a2
      have hj : d + m < l.length := by omega
      have hrm : rowAt (l.drop d) m = rowAt l (d + m) := by rw [rowAt_lt a2, rowAt_lt hj, List.getElem_drop]
      rw [hrm] at a3
      have hne : nth (rowAt l (d + m)) c ≠ 0 := by simpa using a3
      have hrj := g.ok _ (row_mem hj)
      have hrg := hrj.rng c hc
      obtain ⟨k, k1, k2, k3, k4⟩ := F138_eq hp (x := nth (rowAt l (d + m)) c) (by omega) hrg.2
      -- the swapped list
      have h2l : ((l.set d (rowAt l (d + m))).set (d + m) (rowAt l d)).length = l.length := by simp
      have h2 : ∀ i, i < l.length → rowAt ((l.set d (rowAt l (d + m))).set (d + m) (rowAt l d)) i = rowAt l (if i = d + m then d else if i = d then d + m else i) := fun i hi => by
        rw [rowAt_lt (by simp; exact hi)]
        by_cases e : i = d + m
        · subst e; rw [if_pos rfl]; simp
        · rw [if_neg e, List.getElem_set_ne (Ne.symm e)]
          by_cases e2 : i = d
          · subst e2; rw [if_pos rfl]; simp
          · rw [if_neg e2, List.getElem_set_ne (Ne.symm e2), rowAt_lt hi]
      have gp := g.put hp1 hc (show d ≤ d + m by omega) hj k4 h2l h2
      have hrd : rowAt ((l.set d (rowAt l (d + m))).set (d + m) (rowAt l d)) d = rowAt l (d + m) := by
        rw [h2 d p2]
        by_cases e : d = d + m
        · rw [if_pos e, ← e]
        · rw [if_neg e, if_pos rfl]
      generalize hl2 : (l.set d (rowAt l (d + m))).set (d + m) (rowAt l d) = l2 at *
      have hsc := scl_loop hpr ⟨k2, k3⟩ hrj hw (B := F133_3_B p k) (D := F133_3_D) (fun i row => rfl) (fun i s => rfl)
      have ok2 : Rows p w (l2.set d (scl p (rowAt l (d + m)) k)) := fun r hr' => by
        rcases List.mem_or_eq_of_mem_set hr' with q | q
        · obtain ⟨i, hi, rfl⟩ := mem_row.1 q
          rw [h2 i (by omega)]
          refine g.ok _ (row_mem ?_)
          split
          · exact p2
          · split
            · exact hj
            · omega
        · rw [q]; exact scl_ok (by omega) hrj k
      have hs3 : (l2.set d (scl p (rowAt l (d + m)) k)).length = l.length := by simp [h2l]
      have hr3 : rowAt (l2.set d (scl p (rowAt l (d + m)) k)) d = scl p (rowAt l (d + m)) k := by rw [rowAt_lt (by omega)]; simp
      have hgl := gstep_loop hpr ok2 (show d < _ by omega) hr3 hc hw (by omega)
      have hgs : gstep p c d (scl p (rowAt l (d + m)) k) (l2.set d (scl p (rowAt l (d + m)) k)) = gstep p c d (scl p (rowAt l (d + m)) k) l2 := by unfold gstep; rw [List.set_set]
      rw [hgs] at hgl
      have hlen4 : (gstep p c d (scl p (rowAt l (d + m)) k) l2).length = l.length := by rw [gstep_len]; exact h2l
      have e1 : getI l ((d + m : Nat) : Int) = some (rowAt l (d + m)) := by rw [getI_nat hj, rowAt_lt hj]
      have e2 : getI l (d : Int) = some (rowAt l d) := by rw [getI_nat p2, rowAt_lt p2]
      have e3 : getI l2 (d : Int) = some (rowAt l (d + m)) := by rw [getI_nat (by omega), ← rowAt_lt (by omega), hrd]
      rw [if_neg (by omega), chk_ok (by omega) (by omega), Option.bind_some, show (d : Int) + (m : Int) = ((d + m : Nat) : Int) by omega, e1, Option.bind_some, e2, Option.bind_some, setI_nat p2, Option.bind_some, setI_nat (by simp; omega), Option.bind_some, hl2, e3, Option.bind_some,
        nth_get (by rw [hrj.len]; exact hc), Option.bind_some, k1, Option.bind_some, hsc, Option.bind_some, setI_nat (by omega), Option.bind_some, hgl, Option.bind_some, chk_ok (by omega) (by omega), Option.bind_some]
      by_cases hd1 : (d : Int) + 1 = ((gstep p c d (scl p (rowAt l (d + m)) k) l2).length : Int)
      · right
        rw [if_pos hd1]
        refine ⟨_, rfl, ?_, by simp only; omega, by simp only; omega⟩
        simp only
        rw [show ((d : Int) + 1).toNat = d + 1 by omega]
        exact gp.done hp1 (.inr (by omega))
      · left
        rw [if_neg hd1]
        refine ⟨_, rfl, d + 1, by simp only; omega, by simp only; have := gp.dn; omega, by simp only; omega, gp⟩) (by
    rintro ⟨l, dd⟩ ⟨d, p1, p2, p3, g⟩
    simp only at p1 p2 p3 g
    subst p1
    refine ⟨_, rfl, ?_, by simp only; omega, by simp only; omega⟩
    simp only
    rw [Int.toNat_natCast]
    exact g.done hp1 (.inl rfl))
  rw [show ((0 : Nat) : Int) = (0 : Int) from rfl, g1, Option.bind_some, if_pos ⟨g3, g4⟩]
  exact ⟨_, rfl, g2⟩
theorem reduce_same {p : Int} {w : Nat} (hp : IsP p) {rows : List (List Int)} (hr : Rows p w rows) (hw : w ≤ 1048576) (hn : rows.length ≤ 1000000) : ∃ out, F131 p rows = some out ∧ F133 p rows = some out ∧ EchOf p w rows out := by
  obtain ⟨a, a1, a2⟩ := F131_ech hp hr hw hn
  obtain ⟨b, b1, b2⟩ := F133_ech hp hr hw hn
  have := a2.same (by have := hp.range; omega) b2
  subst this
  exact ⟨a, a1, b1, a2⟩
theorem F133_self {p : Int} {w : Nat} (hp : IsP p) {E : List (List Int)} (h : Red p w E) (hw : w ≤ 1048576) (hn : E.length ≤ 1000000) : F133 p E = some E := by
  obtain ⟨X, -, x2, x3⟩ := reduce_same hp h.ok hw hn
  rw [x2, x3.same (by have := hp.range; omega) (EchOf.self h)]
theorem red_len {p : Int} {w : Nat} {E : List (List Int)} (h : Red p w E) : E.length ≤ w := by
  have h1 := h.leads
  have key : ∀ (l : List Nat) (b : Nat), l.Pairwise (· < ·) → (∀ x ∈ l, b ≤ x ∧ x < w) → l.length + b ≤ max w b := by
    intro l
    induction l with
    | nil => intro b _ _; simp; omega
    | cons a l ih =>
      intro b hp hx
      obtain ⟨p1, p2⟩ := List.pairwise_cons.1 hp
      have ha := hx a List.mem_cons_self
      have := ih (a + 1) p2 fun x hx' => ⟨p1 x hx', (hx x (List.mem_cons_of_mem _ hx')).2⟩
      simp only [List.length_cons]
      omega
  have := key (E.map ld) 0 h1 fun x hx => by
    obtain ⟨r, hr, rfl⟩ := List.mem_map.1 hx
    exact ⟨Nat.zero_le _, (h.one r hr).1⟩
  simpa using this
theorem set_app_right {r s : List Int} {i : Nat} (x : Int) : (r ++ s).set (r.length + i) x = r ++ s.set i x := by
  rw [List.set_append_right _ _ (by omega)]; simp
theorem F125_1_eq {p : Int} {w : Nat} {rows : List (List Int)} (hr : Rows p w rows) {x2 : List Int} (hx : x2.length = w) (hw : w ≤ 1000) (hn : rows.length ≤ 1000) :
    forR 0 (rows.length : Int) (F125_1_B p rows x2) (F125_1_D p rows x2) [] = some (longs rows.length rows) := by
  have hl := longs_len rows.length rows
  obtain ⟨t, g1, g2⟩ := forR_inv (B := F125_1_B p rows x2) (D := F125_1_D p rows x2) rows.length rfl (by omega) (fun i s => s = (longs rows.length rows).take i) (fun t => t = longs rows.length rows) (s := []) (by simp) (by
    rintro i s hi rfl
    left
    have hri := hr _ (List.getElem_mem hi)
    refine ⟨(longs rows.length rows).take (i + 1), ?_, rfl⟩
    unfold F125_1_B appZ
    have hz : List.replicate ((rows.length : Int)).toNat (0 : Int) = zv rows.length := by simp [zv]
    have hzl : (zv rows.length).length = rows.length := by simp [zv]
    have e : ((x2.length : Int) + (i : Int)) = ((rows[i].length + i : Nat) : Int) := by rw [hx, hri.len]; omega
    rw [getI_nat hi, Option.bind_some, F96_eq (by rw [hri.len]; omega), Option.bind_some, if_pos ⟨by omega, by omega, by omega⟩, hz, app_ok (by rw [hri.len, hzl]; omega) (by rw [hri.len, hzl]; omega), Option.bind_some, chk_ok (by rw [hx]; omega) (by rw [hx]; omega), Option.bind_some, e, getI_nat (by rw [List.length_append, hzl]; omega), Option.bind_some,
      setI_nat (by rw [List.length_append, hzl]; omega), Option.bind_some, app_ok (by simp; omega) (by simp; omega), Option.bind_some, set_app_right]
    congr 2
    rw [← List.take_append_getElem (show i < (longs rows.length rows).length by omega), longs_at, rowAt_lt hi]
    rfl) (by
    rintro s rfl
    exact ⟨_, rfl, by rw [List.take_of_length_le (by omega)]⟩)
  rw [g1, g2]
theorem F122_1_eq {p : Int} {w : Nat} {rows : List (List Int)} (hr : Rows p w rows) (hw : w ≤ 1000) (hn : rows.length ≤ 1000) :
    forR 0 (rows.length : Int) (F122_1_B p rows.length rows) (F122_1_D p rows.length rows) ([], 0) = some (longs rows.length rows, if rows.length = 0 then 0 else (w : Int)) := by
  have hl := longs_len rows.length rows
  obtain ⟨t, g1, g2⟩ := forR_inv (B := F122_1_B p rows.length rows) (D := F122_1_D p rows.length rows) rows.length rfl (by omega) (fun i s => s = ((longs rows.length rows).take i, if i = 0 then 0 else (w : Int))) (fun t => t = (longs rows.length rows, if rows.length = 0 then 0 else (w : Int))) (s := ([], 0)) (by simp) (by
    rintro i s hi rfl
    left
    have hri := hr _ (List.getElem_mem hi)
    refine ⟨((longs rows.length rows).take (i + 1), if i + 1 = 0 then 0 else (w : Int)), ?_, rfl⟩
    unfold F122_1_B
    simp only
    have hzl : (zv rows.length).length = rows.length := by simp [zv]
    rw [mkL_ok rows.length rfl (by omega) (by omega), Option.bind_some]
    change (getI (zv rows.length) (i : Int)).bind _ = _
    rw [getI_nat (by omega), Option.bind_some]
    change (setI (zv rows.length) (i : Int) 1).bind _ = _
    rw [setI_nat (by omega), Option.bind_some, getI_nat hi, Option.bind_some, F94_eq (by rw [hri.len]; omega), Option.bind_some, app_ok (by simp [zv, hri.len]; omega) (by simp [zv, hri.len]; omega), Option.bind_some, app_ok (by simp; omega) (by simp; omega), Option.bind_some, if_neg (by omega), hri.len]
    congr 3
    rw [← List.take_append_getElem (show i < (longs rows.length rows).length by omega), longs_at, rowAt_lt hi]
    rfl) (by
    rintro s rfl
    exact ⟨_, rfl, by rw [List.take_of_length_le (by omega)]⟩)
  rw [g1, g2]
theorem tails_take {w i : Nat} {E : List (List Int)} (hi : i < E.length) : tails w (E.take (i + 1)) = if w ≤ ld E[i] then tails w (E.take i) ++ [E[i].drop w] else tails w (E.take i) := by
  unfold tails
  rw [← List.take_append_getElem hi, List.filter_append, List.map_append]
  by_cases h : w ≤ ld E[i]
  · rw [if_pos h]; simp [h]
  · rw [if_neg h]; simp [h]
theorem tails_len {w : Nat} {E : List (List Int)} : (tails w E).length ≤ E.length := by
  unfold tails
  rw [List.length_map]; exact List.length_filter_le _ _
theorem F122_2_eq {p : Int} {w n : Nat} {E : List (List Int)} (h : Red p (w + n) E) (hw : w + n ≤ 10000) :
    forR 0 (E.length : Int) (F122_2_B w E) (F122_2_D w E) [] = some (tails w E) := by
  have hE := red_len h
  obtain ⟨t, g1, g2⟩ := forR_inv (B := F122_2_B w E) (D := F122_2_D w E) E.length rfl (by omega) (fun i s => s = tails w (E.take i)) (fun t => t = tails w E) (s := []) (by simp [tails]) (by
    rintro i s hi rfl
    left
    have hk := h.ok _ (List.getElem_mem hi)
    have ho := h.one _ (List.getElem_mem hi)
    have htl : (tails w (E.take i)).length ≤ 10000 := by have := tails_len (w := w) (E := E.take i); simp at this; omega
    refine ⟨tails w (E.take (i + 1)), ?_, rfl⟩
    rw [tails_take hi]
    unfold F122_2_B
    rw [getI_nat hi, Option.bind_some, F81_ld (by rw [hk.len]; omega), if_pos (by rw [hk.len]; exact ho.1), Option.bind_some]
    by_cases q : w ≤ ld E[i]
    · rw [if_pos (by omega), if_pos q]
      unfold slI
      rw [if_pos ⟨by omega, by rw [hk.len]; omega, Int.le_refl _⟩, Option.bind_some, Int.toNat_natCast, Int.toNat_natCast, List.take_length, F94_eq (by simp [hk.len]; omega), Option.bind_some, app_ok (by simp; omega) (by simp; omega), Option.bind_some]
    · rw [if_neg (by omega), if_neg q]) (by
    rintro s rfl
    exact ⟨_, rfl, by rw [List.take_length]⟩)
  rw [g1, g2]
theorem isZero_take {r : List Int} {w : Nat} (h : w ≤ r.length) : (∀ x ∈ r.take w, x = 0) ↔ w ≤ ld r := by
  constructor
  · intro hx
    refine Nat.le_of_not_lt fun q => ?_
    have hl : ld r < r.length := by omega
    refine ld_ne hl (by rw [nth_lt hl]; exact hx _ (List.mem_take_iff_getElem.2 ⟨ld r, by omega, rfl⟩))
  · intro q x hx
    obtain ⟨i, hi, rfl⟩ := List.mem_take_iff_getElem.1 hx
    have := ld_zero (r := r) (j := i) (by omega)
    rwa [nth_lt (by omega)] at this
theorem F125_2_eq {p : Int} {w n : Nat} {E : List (List Int)} (h : Red p (w + n) E) (hw : w + n ≤ 10000) {x2 : List Int} (hx : x2.length = w) :
    forR 0 (E.length : Int) (F125_2_B p x2 E) (F125_2_D p x2 E) [] = some (tails w E) := by
  have hE := red_len h
  obtain ⟨t, g1, g2⟩ := forR_inv (B := F125_2_B p x2 E) (D := F125_2_D p x2 E) E.length rfl (by omega) (fun i s => s = tails w (E.take i)) (fun t => t = tails w E) (s := []) (by simp [tails]) (by
    rintro i s hi rfl
    left
    have hk := h.ok _ (List.getElem_mem hi)
    have ho := h.one _ (List.getElem_mem hi)
    have htl : (tails w (E.take i)).length ≤ 10000 := by have := tails_len (w := w) (E := E.take i); simp at this; omega
    refine ⟨tails w (E.take (i + 1)), ?_, rfl⟩
    rw [tails_take hi]
    unfold F125_2_B slI
    rw [getI_nat hi, Option.bind_some, hx, if_pos ⟨by omega, by omega, by rw [hk.len]; omega⟩, Option.bind_some, Int.toNat_natCast, Int.toNat_zero, List.drop_zero]
    rcases ((F92_tells (l := E[i].take w) (by simp; omega)).iff (isZero_take (by rw [hk.len]; omega))).case with ⟨e, q⟩ | ⟨e, q⟩
    · rw [e, Option.bind_some, if_pos rfl, if_pos q, if_pos ⟨by omega, by rw [hk.len]; omega, Int.le_refl _⟩, Option.bind_some, Int.toNat_natCast, List.take_length, app_ok (by simp; omega) (by simp; omega), Option.bind_some]
    · rw [e, Option.bind_some, if_neg Bool.false_ne_true, if_neg q]) (by
    rintro s rfl
    exact ⟨_, rfl, by rw [List.take_length]⟩)
  rw [g1, g2]
theorem kernel_same {p : Int} {w : Nat} (hp : IsP p) {rows : List (List Int)} (hr : Rows p w rows) (hw : w ≤ 1000) (hn : rows.length ≤ 1000) : ∃ K, F122 p rows.length rows = some K ∧ F125 p rows = some K ∧ Red p rows.length K := by
  have hp1 : 1 < p := by have := hp.range; omega
  unfold F122 F125
  rw [F122_1_eq hr hw hn, Option.bind_some]
  simp only
  by_cases h0 : rows.length = 0
  · have : rows = [] := List.eq_nil_of_length_eq_zero h0
    subst this
    have e : (longs ([] : List (List Int)).length []) = [] := by simp [longs]
    obtain ⟨E, e1, -, e3⟩ := reduce_same hp (rows := []) (w := 0 + 0) (fun r h => (nomatch h)) (by omega) (by simp)
    have hE : E = [] := List.eq_nil_of_length_eq_zero (by have := red_len e3.red; omega)
    subst hE
    rw [e, e1, Option.bind_some, if_pos (by simp), if_pos (by simp)]
    have := F122_2_eq (w := 0) (n := 0) e3.red (by omega)
    have h2 : forR 0 ((([] : List (List Int)).length : Nat) : Int) (F122_2_B 0 []) (F122_2_D 0 []) [] = some [] := this
    rw [h2]
    exact ⟨[], rfl, rfl, ⟨fun r h => (nomatch h), fun r h => (nomatch h), .nil⟩⟩
  · rw [if_neg h0, if_neg (by omega)]
    obtain ⟨E, e1, e2, e3⟩ := reduce_same hp (longs_ok hp1 hr) (by omega) (by rw [longs_len]; omega)
    have hpos : 0 < rows.length := by omega
    have hx0 := (hr _ (List.getElem_mem hpos)).len
    have ht := tails_red e3.red
    rw [show (0 : Int) = ((0 : Nat) : Int) from rfl, getI_nat hpos, Option.bind_some, show ((0 : Nat) : Int) = (0 : Int) from rfl, e1, Option.bind_some, F122_2_eq e3.red (by omega), Option.bind_some, F125_1_eq hr hx0 hw hn, Option.bind_some, e2, Option.bind_some, F125_2_eq e3.red (by omega) hx0, Option.bind_some, F133_self hp ht (by omega) (by have := red_len ht; omega), Option.bind_some]
    exact ⟨_, rfl, rfl, ht⟩
theorem RowOK.vec {p w : Int} {row : List Int} (h : RowOK p w row) : VecOK p w.toNat row := by
  have h1 := h.1
  refine ⟨by omega, fun j hj => ?_⟩
  have hj' : j < row.length := by omega
  rw [nth_lt hj']
  have := h.2 _ (List.getElem_mem hj')
  omega
theorem ValidC.dim {x : GComplex} (h : ValidC x) {n : Nat} (hn : n < x.Dims.length) : 0 ≤ x.Dims.getD n 0 ∧ x.Dims.getD n 0 ≤ 8 := h.dims _ (getD_mem hn 0)
theorem F99_at {x : GComplex} (hs : x.Dims.length ≤ 1048576) {n : Nat} (hn : n < x.Dims.length) : F99 x (n : Int) = some (x.Dims.getD n 0) := by
  unfold F99
  rw [chk_ok (by omega) (by omega), Option.bind_some, F54_eq, Option.bind_some, if_pos (by simp; omega), getI_getD hn 0, Option.bind_some]
theorem F102_at {x : GComplex} (hs : x.Dims.length ≤ 1048576) {n : Nat} (hn : n < x.Dims.length) : F102 x (n : Int) = some (x.Dims.getD n 0) := by
  unfold F102
  rw [F86_eq hs, Option.bind_some, F56_eq, Option.bind_some, if_pos (by simp; omega), getI_getD hn 0, Option.bind_some]
theorem F76_0 {x : GComplex} (hs : x.Dims.length ≤ 1048576) (hl : 0 < x.Dims.length) {n : Nat} (hn : x.Dims.getD 0 0 = n) (hn8 : n ≤ 1000) : F76 x 0 = some (List.replicate n []) := by
  unfold F76
  rw [chk_ok (by omega) (by omega), Option.bind_some, F54_eq, Option.bind_some, if_neg (by simp)]
  have h99 : F99 x 0 = some (n : Int) := by have := F99_at hs hl; rw [hn] at this; exact this
  obtain ⟨t, g1, g2⟩ := loopW_inv (S := F76_1_S x 0) (fun s => (n - s.2).toNat) (fun s => 0 ≤ s.2 ∧ s.2 ≤ n ∧ s.1 = List.replicate s.2.toNat []) (fun t => t = List.replicate n []) (s := ([], 0)) ⟨Int.le_refl _, by omega, rfl⟩ (by
    rintro ⟨l, j⟩ ⟨p1, p2, p3⟩
    simp only at p1 p2 p3
    subst p3
    unfold F76_1_S
    simp only
    rw [h99, Option.bind_some]
    by_cases hj : j < (n : Int)
    · left
      rw [if_pos hj, app_ok (by simp; omega) (by simp; omega), Option.bind_some, chk_ok (by omega) (by omega), Option.bind_some]
      refine ⟨_, rfl, ⟨by simp only; omega, by simp only; omega, ?_⟩, by simp only; omega⟩
      simp only
      rw [show (j + 1).toNat = j.toNat + 1 from by omega, List.replicate_succ']
    · right
      rw [if_neg hj]
      have : j.toNat = n := by omega
      rw [this]
      exact ⟨_, rfl, rfl⟩)
  rw [g1, Option.bind_some, g2]
theorem forR_map {α β : Type} {l : List α} (g : α → β) {B : Int → List β → Option (List β ⊕ List β)} {D : Int → List β → Option (List β)} {s0 : List β} (hl : l.length ≤ 1000000)
    (hB : ∀ (k : Nat) (hk : k < l.length) (s : List β), s.length = s0.length + k → B k s = some (.inl (s ++ [g l[k]]))) (hD : ∀ i s, D i s = some s) : forR 0 (l.length : Int) B D s0 = some (s0 ++ l.map g) := by
  have hlen : l.length < 4611686018427387904 := by omega
  obtain ⟨t, g1, g2⟩ := forR_inv (B := B) (D := D) l.length rfl hlen (fun i s => s = s0 ++ (l.map g).take i) (fun t => t = s0 ++ l.map g) (s := s0) (by simp) (by
    rintro i s hi rfl
    left
    refine ⟨_, hB i hi _ (by simp; omega), ?_⟩
    have : i < (l.map g).length := by simpa using hi
    rw [← List.take_append_getElem this]
    simp) (by
    rintro s rfl
    exact ⟨_, hD _ _, by rw [List.take_of_length_le (by simp)]⟩)
  rw [g1, g2]
def coll {β : Type} (n : Nat) (f : Nat → List β) : List β := (List.range n).flatMap f
theorem coll_succ {β : Type} (n : Nat) (f : Nat → List β) : coll (n + 1) f = coll n f ++ f n := by
  unfold coll; rw [List.range_succ, List.flatMap_append]; simp
theorem coll_len {β : Type} {f : Nat → List β} (h : ∀ i, (f i).length ≤ 1) : ∀ n, (coll n f).length ≤ n
  | 0 => by simp [coll]
  | n + 1 => by rw [coll_succ, List.length_append]; have := coll_len h n; have := h n; omega
theorem mem_coll {β : Type} {n : Nat} {f : Nat → List β} {b : β} : b ∈ coll n f ↔ ∃ i, i < n ∧ b ∈ f i := by simp [coll]
theorem coll_map {β γ : Type} {n : Nat} {f : Nat → List β} (g : β → γ) : (coll n f).map g = coll n fun i => (f i).map g := by simp [coll, List.map_flatMap]
theorem coll_congr {β : Type} {n : Nat} {f g : Nat → List β} (h : ∀ i, i < n → f i = g i) : coll n f = coll n g := by
  induction n with
  | zero => rfl
  | succ n ih => rw [coll_succ, coll_succ, ih fun i hi => h i (by omega), h n (by omega)]
theorem forR_coll {β : Type} {n : Nat} (f : Nat → List β) {B : Int → List β → Option (List β ⊕ List β)} {D : Int → List β → Option (List β)} (hn : n ≤ 1000000) (h1 : ∀ i, (f i).length ≤ 1)
    (hB : ∀ (i : Nat) (s : List β), i < n → s.length ≤ i → B i s = some (.inl (s ++ f i))) (hD : ∀ i s, D i s = some s) : forR 0 (n : Int) B D [] = some (coll n f) := by
  have hlen : n < 4611686018427387904 := by omega
  obtain ⟨t, g1, g2⟩ := forR_inv (B := B) (D := D) n rfl hlen (fun i s => s = coll i f) (fun t => t = coll n f) (s := []) (by simp [coll]) (by
    rintro i s hi rfl
    left
    exact ⟨_, hB i _ hi (coll_len h1 i), (coll_succ i f).symm⟩) (by
    rintro s rfl
    exact ⟨_, hD _ _, rfl⟩)
  rw [g1, g2]
theorem loopW_coll {β : Type} {n : Nat} (f : Nat → List β) {S : List β × Int → Option ((List β × Int) ⊕ List β)} (h1 : ∀ i, (f i).length ≤ 1)
    (hB : ∀ (i : Nat) (s : List β), i < n → s.length ≤ i → S (s, (i : Int)) = some (.inl (s ++ f i, (i : Int) + 1))) (hD : ∀ s : List β, S (s, (n : Int)) = some (.inr s)) : loopW S ([], 0) = some (coll n f) := by
  obtain ⟨t, g1, g2⟩ := loopW_inv (S := S) (fun s => (n - s.2).toNat) (fun s => ∃ i : Nat, s.2 = i ∧ i ≤ n ∧ s.1 = coll i f) (fun t => t = coll n f) (s := ([], 0)) ⟨0, rfl, Nat.zero_le _, by simp [coll]⟩ (by
    rintro ⟨s, j⟩ ⟨i, p1, p2, p3⟩
    simp only at p1 p3
    subst p1; subst p3
    by_cases hi : i < n
    · left
      refine ⟨_, hB i _ hi (coll_len h1 i), ⟨i + 1, by simp, hi, (coll_succ i f).symm⟩, by simp only; omega⟩
    · right
      have : i = n := by omega
      subst this
      exact ⟨_, hD _, rfl⟩)
  rw [g1, g2]
def dm (x : GFiltered) (n : Nat) : Nat := (x.Complex.Dims.getD n 0).toNat
def lv (x : GFiltered) (n j : Nat) : Int := (x.Levels.getD n []).getD j 0
def mt (x : GFiltered) (n : Nat) : List (List Int) := x.Complex.Maps.getD (n - 1) []
theorem dm_eq {x : GFiltered} (h : ValidF x) {n : Nat} (hn : n < x.Levels.length) : x.Complex.Dims.getD n 0 = (dm x n : Int) ∧ dm x n ≤ 8 ∧ (x.Levels.getD n []).length = dm x n := by
  have h1 := h.vc.dim (n := n) (by rw [← h.ll]; exact hn)
  have h2 := (h.lv n hn).1
  unfold dm; omega
theorem F99_dm {x : GFiltered} (hs : SmallF x) (h : ValidF x) {n : Nat} (hn : n < x.Levels.length) : F99 x.Complex (n : Int) = some (dm x n : Int) := by
  rw [F99_at hs.c.d (by rw [← h.ll]; exact hn), (dm_eq h hn).1]
theorem F102_dm {x : GFiltered} (hs : SmallF x) (h : ValidF x) {n : Nat} (hn : n < x.Levels.length) : F102 x.Complex (n : Int) = some (dm x n : Int) := by
  rw [F102_at hs.c.d (by rw [← h.ll]; exact hn), (dm_eq h hn).1]
theorem F77_lv {x : GFiltered} (h : ValidF x) {n j : Nat} (hn : n < x.Levels.length) (hj : j < dm x n) : F77 x (n : Int) (j : Int) = some (lv x n j) :=
  F77_eq hn (by rw [(dm_eq h hn).2.2]; exact hj)
def keptL (x : GFiltered) (n : Nat) (q : Int) : List Int := coll (dm x n) fun j => if lv x n j ≤ q then [(j : Int)] else []
theorem one_len {c : Prop} [Decidable c] {β : Type} (a : β) : (if c then [a] else []).length ≤ 1 := by split <;> simp
theorem keptL_len {x : GFiltered} {n : Nat} {q : Int} : (keptL x n q).length ≤ dm x n := coll_len (fun j => one_len _) _
theorem mem_keptL {x : GFiltered} {n : Nat} {q v : Int} : v ∈ keptL x n q ↔ ∃ j, j < dm x n ∧ lv x n j ≤ q ∧ v = (j : Int) := by
  unfold keptL
  rw [mem_coll]
  constructor
  · rintro ⟨j, h1, h2⟩
    split at h2
    · rename_i hq; exact ⟨j, h1, hq, by simpa using h2⟩
    · simp at h2
  · rintro ⟨j, h1, h2, rfl⟩
    exact ⟨j, h1, by simp [h2]⟩
theorem F310_eq {x : GFiltered} (hs : SmallF x) (h : ValidF x) {n : Nat} (hn : n < x.Levels.length) (q : Int) : F310 x (n : Int) q = some (keptL x n q) := by
  unfold F310 keptL
  have hd := (dm_eq h hn).2.1
  rw [loopW_coll (n := dm x n) (fun j => if lv x n j ≤ q then [(j : Int)] else []) (fun j => one_len _) (by
    intro i s hi hl
    unfold F310_1_S
    simp only
    rw [F99_dm hs h hn, Option.bind_some, if_pos (by omega), F77_lv h hn hi, Option.bind_some]
    by_cases c : lv x n i ≤ q
    · rw [if_pos c, if_pos c, app_ok (by simp; omega) (by simp; omega), Option.bind_some, chk_ok (by omega) (by omega), Option.bind_some]
    · rw [if_neg c, if_neg c, chk_ok (by omega) (by omega), Option.bind_some, List.append_nil]) (by
    intro s
    unfold F310_1_S
    simp only
    rw [F99_dm hs h hn, Option.bind_some, if_neg (by omega)]), Option.bind_some]
theorem F202_eq {x : GFiltered} (hs : SmallF x) (h : ValidF x) {n : Nat} (hn : n < x.Levels.length) (q : Int) : F202 x (n : Int) q = some (keptL x n q) := by
  unfold F202 keptL
  have hd := dm_eq h hn
  have hll := h.ll
  rw [F86_eq hs.c.d, Option.bind_some, F56_eq, Option.bind_some, if_pos (by simp; omega), getI_getD hn [], Option.bind_some, hd.2.2,
    forR_coll (n := dm x n) (B := F202_1_B q (x.Levels.getD n [])) (D := F202_1_D q (x.Levels.getD n [])) (fun j => if lv x n j ≤ q then [(j : Int)] else []) (by omega) (fun j => one_len _) (by
    intro i s hi hl
    unfold F202_1_B
    rw [getI_getD (by rw [hd.2.2]; exact hi) 0, Option.bind_some]
    change (if lv x n i ≤ q then _ else _) = _
    by_cases c : lv x n i ≤ q
    · rw [if_pos c, if_pos c, app_ok (by simp; omega) (by simp; omega), Option.bind_some]
    · rw [if_neg c, if_neg c, List.append_nil]) (by intro i s; rfl), Option.bind_some]
theorem F202_out {x : GFiltered} (hs : SmallF x) (h : ValidF x) {n : Int} (hn : n < 0 ∨ x.Levels.length ≤ n) (q : Int) : F202 x n q = some [] := by
  unfold F202
  have hll := h.ll
  rw [F86_eq hs.c.d, Option.bind_some, F56_eq, Option.bind_some, if_neg (by simp; omega)]
theorem F203_eq {l : List Int} (hl : l.length ≤ 1000000) (v : Int) : F203 l v = some (decide (v ∈ l)) := by
  unfold F203 F211
  have hlen : l.length < 4611686018427387904 := by omega
  obtain ⟨t, g1, g2⟩ := forR_inv (B := F211_1_B l v) (D := F211_1_D l v) l.length rfl hlen (fun i _ => v ∉ l.take i) (fun t => (t = .inl () ∧ v ∉ l) ∨ ∃ m : Nat, t = .inr (m : Int) ∧ v ∈ l) (s := ()) (by simp) (by
    rintro i _ hi hI
    unfold F211_1_B
    rw [getI_nat hi, Option.bind_some]
    by_cases q : v = l[i]
    · right
      rw [if_pos q]
      exact ⟨_, rfl, .inr ⟨i, rfl, by rw [q]; exact List.getElem_mem hi⟩⟩
    · left
      rw [if_neg q]
      refine ⟨(), rfl, fun hr => ?_⟩
      rw [← List.take_append_getElem hi] at hr
      rcases List.mem_append.1 hr with h | h
      · exact hI h
      · exact q (by simpa using h)) (by
    rintro _ hI
    rw [List.take_length] at hI
    exact ⟨_, rfl, .inl ⟨rfl, hI⟩⟩)
  rw [g1, Option.bind_some]
  rcases g2 with ⟨rfl, h⟩ | ⟨m, rfl, h⟩
  · simp [h]
  · simp [h]
def farL (x : GFiltered) (n : Nat) (t : Int) : List Int := coll (if n = 0 then 0 else dm x (n - 1)) fun j => if t < lv x (n - 1) j then [(j : Int)] else []
theorem mem_farL {x : GFiltered} {n : Nat} {t v : Int} (h : v ∈ farL x n t) : n ≠ 0 ∧ ∃ j, j < dm x (n - 1) ∧ v = (j : Int) := by
  unfold farL at h
  rw [mem_coll] at h
  obtain ⟨j, h1, h2⟩ := h
  split at h1
  · omega
  · rename_i hn
    split at h2
    · exact ⟨hn, j, h1, by simpa using h2⟩
    · simp at h2
theorem farL_len {x : GFiltered} (h : ValidF x) {n : Nat} (hn : n ≤ x.Levels.length) {t : Int} : (farL x n t).length ≤ 8 := by
  have h1 : (farL x n t).length ≤ if n = 0 then 0 else dm x (n - 1) := coll_len (fun j => one_len _) _
  split at h1
  · omega
  · have := dm_eq h (n := n - 1) (by omega)
    omega
theorem F184_1_eq {x : GFiltered} (hs : SmallF x) (h : ValidF x) {n : Nat} (hn : n ≤ x.Levels.length) {r q : Int} (hr : -100 ≤ r ∧ r ≤ 100) (hq : -100 ≤ q ∧ q ≤ 100) (k : List Int) :
    ∃ d, (chk ((n : Int) - 1)) = some ((n : Int) - 1) ∧ F102 x.Complex ((n : Int) - 1) = some d ∧ forR 0 d (F184_1_B x r (n : Int) q k d) (F184_1_D x r (n : Int) q k d) [] = some (farL x n (q - r)) := by
  have hll := hs.l
  have hl := h.ll
  rcases Nat.eq_zero_or_pos n with h0 | h0
  · subst h0
    refine ⟨0, chk_ok (by omega) (by omega), ?_, ?_⟩
    · unfold F102
      rw [F86_eq hs.c.d, Option.bind_some, F56_eq, Option.bind_some, if_neg (by simp)]
    · rfl
  · obtain ⟨m, rfl⟩ : ∃ m, n = m + 1 := ⟨n - 1, by omega⟩
    have hm : m < x.Levels.length := by omega
    have hd := dm_eq h hm
    have e : ((m + 1 : Nat) : Int) - 1 = (m : Int) := by omega
    refine ⟨(dm x m : Int), chk_ok (by omega) (by omega), by rw [e, F102_dm hs h hm], ?_⟩
    have hk := keptL_len (x := x) (n := m) (q := q - r)
    unfold farL
    rw [if_neg (by omega), Nat.add_sub_cancel]
    refine forR_coll _ (by omega) (fun j => one_len _) (fun i s hi hls => ?_) (by intro i s; rfl)
    unfold F184_1_B
    rw [chk_ok (by omega) (by omega), Option.bind_some, chk_ok (by omega) (by omega), Option.bind_some, e, F202_eq hs h hm, Option.bind_some, F203_eq (by omega), Option.bind_some]
    by_cases c : q - r < lv x m i
    · rw [if_neg (by simp only [decide_eq_true_eq]; rw [mem_keptL]; rintro ⟨j, -, h2, h3⟩; have : i = j := by omega
                     subst this; omega), if_pos c, app_ok (by simp; omega) (by simp; omega), Option.bind_some]
    · rw [if_pos (by simp only [decide_eq_true_eq]; rw [mem_keptL]; exact ⟨i, hi, by omega, rfl⟩), if_neg c, List.append_nil]
def rowF (x : GFiltered) (n : Nat) (t : Int) (i : Int) : List Int := (farL x n t).map fun j => nth (rowAt (mt x n) i.toNat) j.toNat
def rowsF (x : GFiltered) (n : Nat) (r q : Int) : List (List Int) := (keptL x n q).map (rowF x n (q - r))
theorem mt_ok {x : GFiltered} (h : ValidF x) {m : Nat} (hm : m + 1 < x.Levels.length) : m < x.Complex.Maps.length ∧ (mt x (m + 1)).length = dm x (m + 1) ∧ Rows x.Complex.Prime (dm x m) (mt x (m + 1)) := by
  have hml := h.vc.ml
  have hl := h.ll
  have h1 : m < x.Complex.Maps.length := by omega
  have ht := h.vc.tab m h1
  have hd := dm_eq h hm
  refine ⟨h1, ?_, fun r hr => (ht.2 r hr).vec⟩
  have h2 := ht.1
  rw [hd.1] at h2
  show (x.Complex.Maps.getD (m + 1 - 1) []).length = _
  rw [Nat.add_sub_cancel]; omega
theorem keep_get {x : GFiltered} {n : Nat} {q : Int} {k : Nat} (hk : k < (keptL x n q).length) : ∃ i, i < dm x n ∧ (keptL x n q)[k] = (i : Int) := by
  obtain ⟨i, h1, -, h2⟩ := mem_keptL.1 (List.getElem_mem hk)
  exact ⟨i, h1, h2⟩
theorem far_get {x : GFiltered} {n : Nat} {t : Int} {k : Nat} (hk : k < (farL x n t).length) : n ≠ 0 ∧ ∃ j, j < dm x (n - 1) ∧ (farL x n t)[k] = (j : Int) := mem_farL (List.getElem_mem hk)
theorem nth_map {α : Type} {l : List α} {g : α → Int} {j : Nat} (hj : j < l.length) : nth (l.map g) j = g l[j] := by simp [nth, hj]
theorem rowsF_ok {x : GFiltered} (h : ValidF x) {n : Nat} (hn : n ≤ x.Levels.length) (r q : Int) (hk : n = x.Levels.length → keptL x n q = []) : Rows x.Complex.Prime (farL x n (q - r)).length (rowsF x n r q) := by
  intro row hrow
  unfold rowsF at hrow
  obtain ⟨v, hv, rfl⟩ := List.mem_map.1 hrow
  obtain ⟨i, hi, -, rfl⟩ := mem_keptL.1 hv
  have hn' : n < x.Levels.length := by
    rcases Nat.lt_or_ge n x.Levels.length with c | c
    · exact c
    · rw [hk (by omega)] at hv; simp at hv
  refine ⟨by simp [rowF], fun j hj => ?_⟩
  unfold rowF
  rw [nth_map hj]
  obtain ⟨n0, c, hc, hce⟩ := far_get hj
  rw [hce, Int.toNat_natCast, Int.toNat_natCast]
  obtain ⟨m, rfl⟩ : ∃ m, n = m + 1 := ⟨n - 1, by omega⟩
  obtain ⟨-, h2, h3⟩ := mt_ok h hn'
  have h4 := h3 _ (row_mem (show i < (mt x (m + 1)).length by omega))
  exact h4.rng c (by simpa using hc)
theorem F280_2_eq {x : GFiltered} (hs : SmallF x) (h : ValidF x) {n : Nat} (hn : n < x.Levels.length) {r q : Int} (hr : -100 ≤ r ∧ r ≤ 100) (hq : -100 ≤ q ∧ q ≤ 100) (d : Int) (m5 : List (List Int)) (hm5 : n ≠ 0 → m5 = mt x n) (o : List (List Int)) {k : Nat} (hk : k < (keptL x n q).length) :
    loopW (F280_2_S x r (n : Int) q d (keptL x n q) m5 o (k : Int)) ([], 0) = some (rowF x n (q - r) (keptL x n q)[k]) := by
  obtain ⟨i, hi, hie⟩ := keep_get hk
  unfold rowF farL
  rw [coll_map]
  refine loopW_coll _ (fun j => by rw [List.length_map]; exact one_len _) (fun j s hj hl => ?_) fun s => ?_
  · split at hj
    · omega
    · rename_i n0
      obtain ⟨m, rfl⟩ : ∃ m, n = m + 1 := ⟨n - 1, by omega⟩
      have hm : m < x.Levels.length := by omega
      have hsl0 := hs.l
      obtain ⟨h1, h2, h3⟩ := mt_ok h hn
      have hd := dm_eq h hm
      rw [Nat.add_sub_cancel] at hj
      have e : ((m + 1 : Nat) : Int) - 1 = (m : Int) := by omega
      have hrow := h3 _ (row_mem (show i < (mt x (m + 1)).length by omega))
      have hrl := hrow.len
      have hm5' := hm5 n0
      subst hm5'
      unfold F280_2_S
      simp only
      rw [if_pos (by omega), chk_ok (by omega) (by omega), Option.bind_some, e, F99_dm hs h hm, Option.bind_some, if_pos (by omega), F77_lv h hm hj, Option.bind_some, chk_ok (by omega) (by omega), Option.bind_some, Nat.add_sub_cancel]
      by_cases c : q - r < lv x m j
      · rw [if_pos c, if_pos c, getI_nat hk, Option.bind_some, hie, getI_getD (show i < (mt x (m + 1)).length by omega) [], Option.bind_some, getI_getD (show j < ((mt x (m + 1)).getD i []).length by unfold rowAt at hrl; omega) 0, Option.bind_some, app_ok (by simp; omega) (by simp; omega), Option.bind_some, chk_ok (by omega) (by omega), Option.bind_some]
        rfl
      · rw [if_neg c, if_neg c, chk_ok (by omega) (by omega), Option.bind_some, List.map_nil, List.append_nil]
  · unfold F280_2_S
    simp only
    by_cases n0 : n = 0
    · subst n0
      rw [if_neg (by simp)]
    · obtain ⟨m, rfl⟩ : ∃ m, n = m + 1 := ⟨n - 1, by omega⟩
      have hm : m < x.Levels.length := by omega
      have hsl0 := hs.l
      have e : ((m + 1 : Nat) : Int) - 1 = (m : Int) := by omega
      rw [if_pos (by omega), chk_ok (by omega) (by omega), Option.bind_some, e, F99_dm hs h hm, Option.bind_some, if_neg n0, Nat.add_sub_cancel, if_neg (by omega)]
theorem F280_1_eq {x : GFiltered} (hs : SmallF x) (h : ValidF x) {n : Nat} (hn : n < x.Levels.length) {r q : Int} (hr : -100 ≤ r ∧ r ≤ 100) (hq : -100 ≤ q ∧ q ≤ 100) (d : Int) (m5 : List (List Int)) (hm5 : n ≠ 0 → m5 = mt x n) :
    forR 0 ((keptL x n q).length : Int) (F280_1_B x r (n : Int) q d (keptL x n q) m5) (F280_1_D x r (n : Int) q d (keptL x n q) m5) [] = some (rowsF x n r q) := by
  have hk := keptL_len (x := x) (n := n) (q := q)
  have hd := dm_eq h hn
  rw [forR_map (rowF x n (q - r)) (by omega) (fun k hk s hsl => by
    unfold F280_1_B
    rw [F280_2_eq hs h hn hr hq d m5 hm5 s hk, Option.bind_some, app_ok (by simp; simp at hsl; omega) (by simp; simp at hsl; omega), Option.bind_some]) (by intro i s; rfl)]
  rfl
theorem F184_2_eq {x : GFiltered} (hs : SmallF x) (h : ValidF x) {n : Nat} (hn : n < x.Levels.length) (r q : Int) :
    forR 0 ((keptL x n q).length : Int) (F184_2_B x (n : Int) (keptL x n q) (farL x n (q - r))) (F184_2_D x (n : Int) (keptL x n q) (farL x n (q - r))) [] = some (rowsF x n r q) := by
  have hk := keptL_len (x := x) (n := n) (q := q)
  have hd := dm_eq h hn
  have hfl := farL_len h (n := n) (by omega) (t := q - r)
  rw [forR_map (rowF x n (q - r)) (by omega) (fun k hk s hsl => by
    obtain ⟨i, hi, hie⟩ := keep_get hk
    unfold F184_2_B
    rw [getI_nat hk, Option.bind_some, hie, forR_map (l := farL x n (q - r)) (fun j => nth (rowAt (mt x n) i) j.toNat) (by omega) (fun c hc s2 hs2 => by
      obtain ⟨n0, j, hj, hje⟩ := far_get hc
      obtain ⟨m, rfl⟩ : ∃ m, n = m + 1 := ⟨n - 1, by omega⟩
      rw [Nat.add_sub_cancel] at hj
      have hsl0 := hs.l
      obtain ⟨h1, h2, h3⟩ := mt_ok h hn
      have hrl := (h3 _ (row_mem (show i < (mt x (m + 1)).length by omega))).len
      have e : ((m + 1 : Nat) : Int) - 1 = (m : Int) := by omega
      unfold F184_3_B
      rw [getI_nat hc, Option.bind_some, chk_ok (by omega) (by omega), Option.bind_some, e, getI_getD h1 [], Option.bind_some, show x.Complex.Maps.getD m [] = mt x (m + 1) from rfl, getI_getD (show i < (mt x (m + 1)).length by omega) [], Option.bind_some, hje, getI_getD (show j < ((mt x (m + 1)).getD i []).length by unfold rowAt at hrl; omega) 0, Option.bind_some, app_ok (by simp; simp at hs2; omega) (by simp; simp at hs2; omega), Option.bind_some]
      rfl) (by intro i s; rfl), Option.bind_some, List.nil_append, app_ok (by simp; simp at hsl; omega) (by simp; simp at hsl; omega), Option.bind_some]
    rfl) (by intro i s; rfl)]
  rfl
def wideN (keep : List Int) (row : List Int) (w : Nat) : Nat → List Int
  | 0 => zv w
  | k + 1 => (wideN keep row w k).set (keep.getD k 0).toNat (nth row k)
theorem wideN_len {keep row : List Int} {w : Nat} : ∀ k, (wideN keep row w k).length = w
  | 0 => by simp [wideN, zv]
  | k + 1 => by rw [wideN, List.length_set]; exact wideN_len k
theorem nth_set {l : List Int} {i : Nat} {v : Int} (j : Nat) : nth (l.set i v) j = if i = j ∧ j < l.length then v else nth l j := by
  unfold nth
  rw [List.getD_eq_getElem?_getD, List.getElem?_set, List.getD_eq_getElem?_getD]
  by_cases h1 : i = j
  · subst h1
    by_cases h2 : i < l.length
    · simp [h2]
    · simp [h2]
  · simp [h1]
theorem wideN_ok {p : Int} (hp : 0 < p) {keep row : List Int} {w m : Nat} (hr : VecOK p m row) : ∀ k, k ≤ m → VecOK p w (wideN keep row w k)
  | 0, _ => zv_ok hp w
  | k + 1, hk => ⟨wideN_len _, fun j hj => by
      have ih := (wideN_ok hp (keep := keep) hr k (by omega)).rng j hj
      rw [wideN, nth_set]
      split
      · exact hr.rng k (by omega)
      · exact ih⟩
def wides (keep : List Int) (w : Nat) (K : List (List Int)) : List (List Int) := K.map fun row => wideN keep row w keep.length
theorem wide_loop {keep row : List Int} {w : Nat} (hk : keep.length ≤ 1000000) (hv : ∀ v ∈ keep, 0 ≤ v ∧ v < w) {B : Int → List Int → Option (List Int ⊕ List Int)} {D : Int → List Int → Option (List Int)}
    (hB : ∀ (k : Nat) (s : List Int), k < keep.length → s.length = w → B k s = some (.inl (s.set (keep.getD k 0).toNat (nth row k)))) (hD : ∀ i s, D i s = some s) : forR 0 (keep.length : Int) B D (zv w) = some (wideN keep row w keep.length) := by
  have hlen : keep.length < 4611686018427387904 := by omega
  obtain ⟨t, g1, g2⟩ := forR_inv (B := B) (D := D) keep.length rfl hlen (fun i s => s = wideN keep row w i) (fun t => t = wideN keep row w keep.length) (s := zv w) rfl (by
    rintro i s hi rfl
    exact .inl ⟨_, hB i _ hi (wideN_len i), rfl⟩) (by
    rintro s rfl
    exact ⟨_, hD _ _, rfl⟩)
  rw [g1, g2]
theorem F311_eq {keep : List Int} {w : Nat} {K : List (List Int)} (hk : keep.length ≤ 1000) (hw : w ≤ 1000) (hK : K.length ≤ 1000) (hv : ∀ v ∈ keep, 0 ≤ v ∧ v < w) (hr : ∀ r ∈ K, r.length = keep.length) : F311 K keep (w : Int) = some (wides keep w K) := by
  unfold F311
  rw [forR_map (fun row => wideN keep row w keep.length) (by omega) (fun k hk2 s hsl => by
    have hrl := hr _ (List.getElem_mem hk2)
    unfold F311_1_B
    rw [mkL_ok w rfl (by omega) (by omega), Option.bind_some]
    change (forR 0 (keep.length : Int) _ _ (zv w)).bind _ = _
    rw [wide_loop (row := K[k]) (by omega) hv (by
      intro j s2 hj hs2
      have hvj := hv _ (getD_mem hj 0)
      obtain ⟨c, hc⟩ : ∃ c : Nat, keep.getD j 0 = c := ⟨(keep.getD j 0).toNat, by omega⟩
      unfold F311_2_B
      rw [getI_getD hj 0, Option.bind_some, getI_nat hk2, Option.bind_some, getI_nat (show j < K[k].length by omega), Option.bind_some, hc, getI_nat (show c < s2.length by omega), Option.bind_some, setI_nat (show c < s2.length by omega), Option.bind_some, Int.toNat_natCast, nth_lt (by omega)]) (by intro i s; rfl), Option.bind_some, app_ok (by simp; simp at hsl; omega) (by simp; simp at hsl; omega), Option.bind_some]) (by intro i s; rfl), Option.bind_some]
  rfl
theorem F184_4_eq {x : GFiltered} (hs : SmallF x) (h : ValidF x) {n : Nat} (hn : n < x.Levels.length) {keep far : List Int} {K : List (List Int)} (hk : keep.length ≤ 1000) (hK : K.length ≤ 1000) (hv : ∀ v ∈ keep, 0 ≤ v ∧ v < dm x n) (hr : ∀ r ∈ K, r.length = keep.length) :
    forR 0 (K.length : Int) (F184_4_B x (n : Int) keep far K) (F184_4_D x (n : Int) keep far K) [] = some (wides keep (dm x n) K) := by
  have hd := dm_eq h hn
  rw [forR_map (fun row => wideN keep row (dm x n) keep.length) (by omega) (fun k hk2 s hsl => by
    have hrl := hr _ (List.getElem_mem hk2)
    unfold F184_4_B
    rw [getI_nat hk2, Option.bind_some, F102_dm hs h hn, Option.bind_some, mkL_ok (dm x n) rfl (by omega) (by omega), Option.bind_some]
    change (forR 0 (keep.length : Int) _ _ (zv (dm x n))).bind _ = _
    rw [wide_loop (row := K[k]) (by omega) hv (by
      intro j s2 hj hs2
      have hvj := hv _ (getD_mem hj 0)
      obtain ⟨c, hc⟩ : ∃ c : Nat, keep.getD j 0 = c := ⟨(keep.getD j 0).toNat, by omega⟩
      unfold F184_5_B
      rw [getI_getD hj 0, Option.bind_some, getI_nat (show j < K[k].length by omega), Option.bind_some, hc, getI_nat (show c < s2.length by omega), Option.bind_some, setI_nat (show c < s2.length by omega), Option.bind_some, Int.toNat_natCast, nth_lt (by omega)]) (by intro i s; rfl), Option.bind_some, app_ok (by simp; simp at hsl; omega) (by simp; simp at hsl; omega), Option.bind_some]) (by intro i s; rfl)]
  rfl
theorem F76_at {x : GFiltered} (hs : SmallF x) (h : ValidF x) {n : Nat} (hn : n < x.Levels.length) : ∃ m, F76 x.Complex (n : Int) = some m ∧ (n ≠ 0 → m = mt x n) := by
  have hl := h.ll
  have hd := dm_eq h hn
  rcases Nat.eq_zero_or_pos n with h0 | h0
  · subst h0
    exact ⟨_, F76_0 hs.c.d (by omega) hd.1 (by omega), fun h => absurd rfl h⟩
  · obtain ⟨m, rfl⟩ : ∃ m, n = m + 1 := ⟨n - 1, by omega⟩
    exact ⟨_, F76_eq hs.c.d (by omega) (by have := h.vc.ml; omega), fun _ => rfl⟩
theorem near_same {x : GFiltered} (hs : SmallF x) (h : ValidF x) {n : Nat} (hn : n < x.Levels.length) {r q : Int} (hr : -100 ≤ r ∧ r ≤ 100) (hq : -100 ≤ q ∧ q ≤ 100) :
    ∃ N, F184 x r (n : Int) q = some N ∧ F280 x r (n : Int) q = some N ∧ Red x.Complex.Prime (dm x n) N := by
  have hp := h.vc.p
  have hp1 : 1 < x.Complex.Prime := by have := hp.range; omega
  have hd := dm_eq h hn
  have hk := keptL_len (x := x) (n := n) (q := q)
  have hf := farL_len h (n := n) (by omega) (t := q - r)
  obtain ⟨d, c1, c2, c3⟩ := F184_1_eq hs h (n := n) (by omega) hr hq (keptL x n q)
  obtain ⟨m, m1, m2⟩ := F76_at hs h hn
  have hrl : (rowsF x n r q).length = (keptL x n q).length := by simp [rowsF]
  have hrows := rowsF_ok h (n := n) (by omega) r q (fun e => by omega)
  obtain ⟨K, k1, k2, k3⟩ := kernel_same hp hrows (by omega) (by omega)
  rw [hrl] at k1 k3
  have hKl := red_len k3
  have hv : ∀ v ∈ keptL x n q, 0 ≤ v ∧ v < dm x n := fun v hv => by
    obtain ⟨j, h1, -, rfl⟩ := mem_keptL.1 hv
    omega
  have hKr : ∀ r ∈ K, r.length = (keptL x n q).length := fun r hr => (k3.ok r hr).len
  have hw : Rows x.Complex.Prime (dm x n) (wides (keptL x n q) (dm x n) K) := fun r hr => by
    obtain ⟨row, hrow, rfl⟩ := List.mem_map.1 hr
    exact wideN_ok (by omega) (k3.ok row hrow) _ (Nat.le_refl _)
  have hwl : (wides (keptL x n q) (dm x n) K).length = K.length := by simp [wides]
  obtain ⟨N, n1, n2, n3⟩ := reduce_same hp hw (by omega) (by omega)
  refine ⟨N, ?_, ?_, n3.red⟩
  · unfold F184
    rw [F202_eq hs h hn, Option.bind_some, c1, Option.bind_some, c2, Option.bind_some, c3, Option.bind_some, F184_2_eq hs h hn, Option.bind_some, k2, Option.bind_some, F184_4_eq hs h hn (by omega) (by omega) hv hKr, Option.bind_some, n2, Option.bind_some]
  · unfold F280
    rw [F99_dm hs h hn, Option.bind_some, F310_eq hs h hn, Option.bind_some, m1, Option.bind_some, F280_1_eq hs h hn hr hq _ m m2, Option.bind_some, k1, Option.bind_some, F311_eq (by omega) (by omega) (by omega) hv hKr, Option.bind_some, n1, Option.bind_some]
theorem near_top {x : GFiltered} (hs : SmallF x) (h : ValidF x) {r q : Int} (hr : -100 ≤ r ∧ r ≤ 100) (hq : -100 ≤ q ∧ q ≤ 100) : F184 x r (x.Levels.length : Int) q = some [] := by
  have hp := h.vc.p
  have hp1 : 1 < x.Complex.Prime := by have := hp.range; omega
  obtain ⟨d, c1, c2, c3⟩ := F184_1_eq hs h (n := x.Levels.length) (Nat.le_refl _) hr hq []
  obtain ⟨K, -, k2, k3⟩ := kernel_same (p := x.Complex.Prime) (w := 0) hp (rows := []) (fun r hr => (nomatch hr)) (by omega) (by simp)
  have hK : K = [] := by have := red_len k3; simpa using this
  subst hK
  obtain ⟨N, -, n2, n3⟩ := reduce_same (p := x.Complex.Prime) (w := 0) hp (rows := []) (fun r hr => (nomatch hr)) (by omega) (by simp)
  have hN : N = [] := List.eq_nil_of_length_eq_zero (by have := red_len n3.red; omega)
  subst hN
  unfold F184
  rw [F202_out hs h (.inr (Int.le_refl _)), Option.bind_some, c1, Option.bind_some, c2, Option.bind_some, c3, Option.bind_some]
  change ((some []).bind _) = _
  rw [Option.bind_some, k2, Option.bind_some]
  change ((some []).bind _) = _
  rw [Option.bind_some, n2, Option.bind_some]
def low (x : GFiltered) (n : Nat) (N : List (List Int)) : List (List Int) := N.map fun v => lin x.Complex.Prime (dm x n) v (mt x (n + 1))
theorem low_lin {x : GFiltered} (h : ValidF x) {n : Nat} (hn : n + 1 < x.Levels.length) {N : List (List Int)} (hN : Red x.Complex.Prime (dm x (n + 1)) N) {v : List Int} (hv : v ∈ N) : LinOK x.Complex.Prime (dm x n) v (mt x (n + 1)) := by
  obtain ⟨h1, h2, h3⟩ := mt_ok h hn
  have hd := dm_eq h (n := n) (by omega)
  have hd1 := dm_eq h hn
  have hv' := hN.ok v hv
  have hvl := hv'.len
  refine ⟨h.vc.p.range, fun y hy => ?_, by omega, fun l hl => ⟨(h3 l hl).len, fun y hy => ?_⟩, by omega, by omega⟩
  · obtain ⟨k, hk, rfl⟩ := List.getElem_of_mem hy
    have := hv'.rng k (by omega)
    rwa [nth_lt hk] at this
  · have hl' := h3 l hl
    have hll := hl'.len
    obtain ⟨k, hk, rfl⟩ := List.getElem_of_mem hy
    have := hl'.rng k (by omega)
    rwa [nth_lt hk] at this
theorem low_ok {x : GFiltered} (h : ValidF x) {n : Nat} (hn : n + 1 < x.Levels.length) {N : List (List Int)} (hN : Red x.Complex.Prime (dm x (n + 1)) N) : Rows x.Complex.Prime (dm x n) (low x n N) := by
  intro r hr
  obtain ⟨v, hv, rfl⟩ := List.mem_map.1 hr
  have H := low_lin h hn hN hv
  have hok := linN_ok H v.length (Nat.le_refl _)
  refine ⟨hok.1, fun j hj => ?_⟩
  have hj' : j < (lin x.Complex.Prime (dm x n) v (mt x (n + 1))).length := by rw [lin_len H]; exact hj
  rw [nth_lt hj']
  exact hok.2 _ (List.getElem_mem hj')
theorem F281_eq {x : GFiltered} (hs : SmallF x) (h : ValidF x) {n : Nat} (hn : n + 1 < x.Levels.length) {N : List (List Int)} (hN : Red x.Complex.Prime (dm x (n + 1)) N) : F281 x ((n + 1 : Nat) : Int) N = some (low x n N) := by
  have hl := h.ll
  have hNl := red_len hN
  have hsl := hs.l
  have hd1 := dm_eq h hn
  unfold F281
  rw [forR_map (fun v => lin x.Complex.Prime (dm x n) v (mt x (n + 1))) (by omega) (fun k hk s hsl2 => by
    unfold F281_1_B
    have e : F76 x.Complex ((n + 1 : Nat) : Int) = some (mt x (n + 1)) := F76_eq hs.c.d (by omega) (by have := h.vc.ml; omega)
    rw [e, Option.bind_some, getI_nat hk, Option.bind_some, chk_ok (by omega) (by omega), Option.bind_some, show ((n + 1 : Nat) : Int) - 1 = (n : Int) by omega, F99_dm hs h (by omega), Option.bind_some, F80_eq (low_lin h hn hN (List.getElem_mem hk)) rfl, Option.bind_some, app_ok (by simp; simp at hsl2; omega) (by simp; simp at hsl2; omega), Option.bind_some]) (by intro i s; rfl), Option.bind_some]
  rfl
theorem F185_1_eq {x : GFiltered} (hs : SmallF x) (h : ValidF x) {n : Nat} (hn : n + 1 < x.Levels.length) {N A : List (List Int)} (hN : Red x.Complex.Prime (dm x (n + 1)) N) (hA : A.length ≤ 1000) :
    forR 0 (N.length : Int) (F185_1_B x (n : Int) N) (F185_1_D x (n : Int) N) A = some (A ++ low x n N) := by
  have hl := h.ll
  have hNl := red_len hN
  have hsl := hs.l
  have hd1 := dm_eq h hn
  rw [forR_map (fun v => lin x.Complex.Prime (dm x n) v (mt x (n + 1))) (by omega) (fun k hk s hsl2 => by
    have hd := dm_eq h (n := n) (by omega)
    unfold F185_1_B F91
    rw [getI_nat hk, Option.bind_some, chk_ok (by omega) (by omega), Option.bind_some, if_neg (by omega), F86_eq hs.c.d, Option.bind_some, if_neg (by omega), chk_ok (by omega) (by omega), Option.bind_some, show ((n : Int) + 1 - 1) = (n : Int) by omega, getI_getD (show n < x.Complex.Dims.length by omega) 0, Option.bind_some, getI_getD (show n < x.Complex.Maps.length by have := h.vc.ml; omega) [], Option.bind_some, hd.1]
    change (((F119 _ _ _ (mt x (n + 1))).bind _).bind _) = _
    rw [F119_eq (low_lin h hn hN (List.getElem_mem hk)) rfl, Option.bind_some, Option.bind_some, app_ok (by simp; omega) (by simp; omega), Option.bind_some]) (by intro i s; rfl)]
  rfl
theorem bottom_same {x : GFiltered} (hs : SmallF x) (h : ValidF x) {n : Nat} (hn : n < x.Levels.length) {r q : Int} (hr : -40 ≤ r ∧ r ≤ 40) (hq : -40 ≤ q ∧ q ≤ 40) :
    ∃ N, F185 x r (n : Int) q = some N ∧ F279 x r (n : Int) q = some N ∧ Red x.Complex.Prime (dm x n) N := by
  have hp := h.vc.p
  have hd := dm_eq h hn
  have hsl := hs.l
  obtain ⟨A, a1, a2, a3⟩ := near_same hs h hn (r := r - 1) (q := q - 1) (by omega) (by omega)
  have hAl := red_len a3
  unfold F185 F279
  rw [chk_ok (by omega) (by omega), Option.bind_some, Option.bind_some, chk_ok (by omega) (by omega), Option.bind_some, Option.bind_some, a1, a2, Option.bind_some, Option.bind_some, app_ok (by simp; omega) (by simp; omega), Option.bind_some, chk_ok (by omega) (by omega), Option.bind_some, Option.bind_some, chk_ok (by omega) (by omega), Option.bind_some, chk_ok (by omega) (by omega), Option.bind_some, List.nil_append]
  by_cases c : n + 1 < x.Levels.length
  · obtain ⟨B, b1, b2, b3⟩ := near_same hs h c (r := r - 1) (q := q + r - 1) (by omega) (by omega)
    have hBl := red_len b3
    have hd1 := dm_eq h c
    have e : (n : Int) + 1 = ((n + 1 : Nat) : Int) := by omega
    have hrows : Rows x.Complex.Prime (dm x n) (A ++ low x n B) := fun v hv => by
      rcases List.mem_append.1 hv with hv | hv
      · exact a3.ok v hv
      · exact low_ok h c b3 v hv
    have hll : (low x n B).length = B.length := by simp [low]
    obtain ⟨N, n1, n2, n3⟩ := reduce_same hp hrows (by omega) (by rw [List.length_append]; omega)
    refine ⟨N, ?_, ?_, n3.red⟩
    · rw [e, b1, Option.bind_some, F185_1_eq hs h c b3 (by omega), Option.bind_some, n2, Option.bind_some]
    · rw [if_pos (by omega), Option.bind_some, chk_ok (by omega) (by omega), Option.bind_some, e, b2, Option.bind_some, F281_eq hs h c b3, Option.bind_some, app_ok (by omega) (by omega), Option.bind_some, n1, Option.bind_some]
  · have hnl : (n : Int) + 1 = (x.Levels.length : Int) := by omega
    obtain ⟨N, n1, n2, n3⟩ := reduce_same hp a3.ok (by omega) (by omega)
    rw [if_neg (by omega), hnl, near_top hs h (by omega) (by omega), Option.bind_some]
    refine ⟨N, ?_, ?_, n3.red⟩
    · change ((some A).bind _) = _
      rw [Option.bind_some, n2, Option.bind_some]
    · rw [n1, Option.bind_some]
theorem number_same {x : GFiltered} (hs : SmallF x) (h : ValidF x) {n : Nat} (hn : n < x.Levels.length) {r q : Int} (hr : -40 ≤ r ∧ r ≤ 40) (hq : -40 ≤ q ∧ q ≤ 40) : F169 x r (n : Int) q = some ((F169 x r (n : Int) q).getD 0) ∧ F297 x r (n : Int) q = some ((F169 x r (n : Int) q).getD 0) := by
  have hd := dm_eq h hn
  obtain ⟨A, a1, a2, a3⟩ := near_same hs h hn (r := r) (q := q) (by omega) (by omega)
  obtain ⟨B, b1, b2, b3⟩ := bottom_same hs h hn hr hq
  have hAl := red_len a3
  have hBl := red_len b3
  have e1 : F169 x r (n : Int) q = some ((A.length : Int) - (B.length : Int)) := by
    unfold F169
    rw [a1, Option.bind_some, b1, Option.bind_some, chk_ok (by omega) (by omega), Option.bind_some]
  have e2 : F297 x r (n : Int) q = some ((A.length : Int) - (B.length : Int)) := by
    unfold F297
    rw [a2, Option.bind_some, b2, Option.bind_some, chk_ok (by omega) (by omega), Option.bind_some]
  rw [e1, e2]
  exact ⟨rfl, rfl⟩
theorem IsP.inv {p : Int} (hp : IsP p) : HasInv p := by
  intro a h0 h1
  have key : ∀ k m : Int, a * k = 1 + p * m → ∃ k, Cg p (a * k) 1 := fun k m e => ⟨k, m, by omega⟩
  unfold IsP at hp
  rcases hp with rfl | rfl | rfl | rfl
  · have : a = 1 := by omega
    subst this; exact key 1 0 (by decide)
  · have : a = 1 ∨ a = 2 := by omega
    rcases this with rfl | rfl
    · exact key 1 0 (by decide)
    · exact key 2 1 (by decide)
  · have : a = 1 ∨ a = 2 ∨ a = 3 ∨ a = 4 := by omega
    rcases this with rfl | rfl | rfl | rfl
    · exact key 1 0 (by decide)
    · exact key 3 1 (by decide)
    · exact key 2 1 (by decide)
    · exact key 4 3 (by decide)
  · have : a = 1 ∨ a = 2 ∨ a = 3 ∨ a = 4 ∨ a = 5 ∨ a = 6 := by omega
    rcases this with rfl | rfl | rfl | rfl | rfl | rfl
    · exact key 1 0 (by decide)
    · exact key 4 1 (by decide)
    · exact key 5 2 (by decide)
    · exact key 2 1 (by decide)
    · exact key 3 2 (by decide)
    · exact key 6 5 (by decide)
theorem kernel_full {p : Int} {w : Nat} (hp : IsP p) {rows : List (List Int)} (hr : Rows p w rows) (hw : w ≤ 1000) (hn : rows.length ≤ 1000) : ∃ K, F122 p rows.length rows = some K ∧ F125 p rows = some K ∧ Red p rows.length K ∧ ∀ c, Sp p rows.length K c ↔ VecOK p rows.length c ∧ ∀ j, j < w → Cg p (dot (nth c) rows rows.length j) 0 := by
  have hp1 : 1 < p := by have := hp.range; omega
  unfold F122 F125
  rw [F122_1_eq hr hw hn, Option.bind_some]
  simp only
  by_cases h0 : rows.length = 0
  · have : rows = [] := List.eq_nil_of_length_eq_zero h0
    subst this
    have e : (longs ([] : List (List Int)).length []) = [] := by simp [longs]
    obtain ⟨E, e1, -, e3⟩ := reduce_same hp (rows := []) (w := 0 + 0) (fun r h => (nomatch h)) (by omega) (by simp)
    have hE : E = [] := List.eq_nil_of_length_eq_zero (by have := red_len e3.red; omega)
    subst hE
    rw [e, e1, Option.bind_some, if_pos (by simp), if_pos (by simp)]
    have := F122_2_eq (w := 0) (n := 0) e3.red (by omega)
    have h2 : forR 0 ((([] : List (List Int)).length : Nat) : Int) (F122_2_B 0 []) (F122_2_D 0 []) [] = some [] := this
    rw [h2]
    refine ⟨[], rfl, rfl, ⟨fun r h => (nomatch h), fun r h => (nomatch h), .nil⟩, fun c => ⟨fun hc => ⟨hc.ok (by omega) (fun r h => absurd h List.not_mem_nil), fun j _ => .refl _ _⟩, fun hc => ?_⟩⟩
    have : c = zv 0 := List.eq_nil_of_length_eq_zero hc.1.len
    rw [this]
    exact .zero
  · rw [if_neg h0, if_neg (by omega)]
    obtain ⟨E, e1, e2, e3⟩ := reduce_same hp (longs_ok hp1 hr) (by omega) (by rw [longs_len]; omega)
    have hpos : 0 < rows.length := by omega
    have hx0 := (hr _ (List.getElem_mem hpos)).len
    have ht := tails_red e3.red
    rw [show (0 : Int) = ((0 : Nat) : Int) from rfl, getI_nat hpos, Option.bind_some, show ((0 : Nat) : Int) = (0 : Int) from rfl, e1, Option.bind_some, F122_2_eq e3.red (by omega), Option.bind_some, F125_1_eq hr hx0 hw hn, Option.bind_some, e2, Option.bind_some, F125_2_eq e3.red (by omega) hx0, Option.bind_some, F133_self hp ht (by omega) (by have := red_len ht; omega), Option.bind_some]
    exact ⟨_, rfl, rfl, ht, fun c => kernel_sp hp1 hr e3⟩
abbrev kf (c : Nat → Prop) [DecidablePred c] (i : Nat) : List Int := if c i then [(i : Int)] else []
theorem coll_get {c : Nat → Prop} [DecidablePred c] : ∀ {n k : Nat}, k < (coll n (kf c)).length → ∃ i, i < n ∧ c i ∧ (coll n (kf c)).getD k 0 = (i : Int) ∧ (coll i (kf c)).length = k
  | 0, k, h => absurd h (by simp [coll])
  | n + 1, k, h => by
    rw [coll_succ] at h ⊢
    by_cases q : k < (coll n (kf c)).length
    · obtain ⟨i, h1, h2, h3, h4⟩ := coll_get q
      refine ⟨i, by omega, h2, ?_, h4⟩
      rw [← h3, List.getD_eq_getElem?_getD, List.getElem?_append_left q, List.getD_eq_getElem?_getD]
    · by_cases hc : c n
      · have e : kf c n = [(n : Int)] := if_pos hc
        rw [e] at h ⊢
        have hk : k = (coll n (kf c)).length := by simp at h; omega
        subst hk
        exact ⟨n, by omega, hc, by rw [List.getD_eq_getElem?_getD]; simp, rfl⟩
      · have e : kf c n = [] := if_neg hc
        rw [e, List.append_nil] at h
        exact absurd h q
theorem coll_at {c : Nat → Prop} [DecidablePred c] {i : Nat} (hc : c i) : ∀ {n : Nat}, i < n → (coll i (kf c)).length < (coll n (kf c)).length ∧ (coll n (kf c)).getD (coll i (kf c)).length 0 = (i : Int)
  | 0, h => absurd h (Nat.not_lt_zero _)
  | n + 1, h => by
    rw [coll_succ]
    by_cases q : i = n
    · subst q
      have e : kf c i = [(i : Int)] := if_pos hc
      rw [e]
      exact ⟨by simp, by rw [List.getD_eq_getElem?_getD]; simp⟩
    · obtain ⟨h1, h2⟩ := coll_at hc (n := n) (by omega)
      refine ⟨by rw [List.length_append]; omega, ?_⟩
      rw [← h2, List.getD_eq_getElem?_getD, List.getElem?_append_left h1, List.getD_eq_getElem?_getD]
theorem wide_at {w : Nat} {c : Nat → Prop} [DecidablePred c] {cc : List Int} {i : Nat} (hi : i < w) : ∀ {k : Nat}, k ≤ (coll w (kf c)).length → nth (wideN (coll w (kf c)) cc w k) i = if c i ∧ (coll i (kf c)).length < k then nth cc (coll i (kf c)).length else 0
  | 0, _ => by rw [wideN, nth_zv, if_neg (by omega)]
  | k + 1, hk => by
    obtain ⟨i', h1, h2, h3, h4⟩ := coll_get (c := c) (n := w) (k := k) (by omega)
    rw [wideN, nth_set, h3, Int.toNat_natCast, wideN_len, wide_at hi (by omega)]
    by_cases q : i' = i
    · subst q
      rw [if_pos ⟨rfl, hi⟩, if_pos ⟨h2, by omega⟩, h4]
    · rw [if_neg (by omega)]
      by_cases e : c i ∧ (coll i (kf c)).length < k
      · rw [if_pos e, if_pos ⟨e.1, by omega⟩]
      · rw [if_neg e, if_neg]
        rintro ⟨e1, e2⟩
        have e3 : (coll i (kf c)).length = k := by
          have : ¬ (coll i (kf c)).length < k := fun q => e ⟨e1, q⟩
          omega
        have h5 := (coll_at e1 hi).2
        rw [e3, h3] at h5
        omega
theorem wide_lin {p : Int} {w : Nat} {c : Nat → Prop} [DecidablePred c] (hp : 0 < p) : Lin p (coll w (kf c)).length w fun cc => wideN (coll w (kf c)) cc w (coll w (kf c)).length := by
  refine ⟨fun u hu => wideN_ok hp hu _ (Nat.le_refl _), fun u v k hu hv => ?_⟩
  refine nth_ext (by simp [subv, wideN_len]) fun i hi => ?_
  rw [wideN_len] at hi
  rw [wide_at hi (Nat.le_refl _), nth_sub (wideN_len _) (wideN_len _) hi, wide_at hi (Nat.le_refl _), wide_at hi (Nat.le_refl _)]
  by_cases e : c i ∧ (coll i (kf c)).length < (coll w (kf c)).length
  · rw [if_pos e, if_pos e, if_pos e, nth_sub hu.len hv.len e.2]
  · rw [if_neg e, if_neg e, if_neg e]; simp
theorem dot_kept {c : Nat → Prop} [DecidablePred c] {g : Nat → Int} {m : List (List Int)} {j n : Nat} : ∀ {d : Nat}, d ≤ n → dot (fun i => if c i then g (coll i (kf c)).length else 0) m d j = sumI (fun k => g k * nth (rowAt m ((coll n (kf c)).getD k 0).toNat) j) (coll d (kf c)).length
  | 0, _ => by simp [dot, sumI, coll]
  | d + 1, hd => by
    have ih := dot_kept (c := c) (g := g) (m := m) (j := j) (n := n) (d := d) (by omega)
    unfold dot at ih ⊢
    show sumI _ d + _ = _
    rw [ih, coll_succ]
    simp only
    by_cases hc : c d
    · have e : kf c d = [(d : Int)] := if_pos hc
      have h2 := (coll_at hc (n := n) (by omega)).2
      rw [e, if_pos hc, List.length_append, List.length_singleton]
      show _ = sumI _ _ + _
      simp only
      rw [h2, Int.toNat_natCast]
    · have e : kf c d = [] := if_neg hc
      rw [e, if_neg hc, List.append_nil]; simp
def NearP (x : GFiltered) (r : Int) (n : Nat) (q : Int) (v : List Int) : Prop :=
  VecOK x.Complex.Prime (dm x n) v ∧ (∀ i, i < dm x n → q < lv x n i → nth v i = 0) ∧ (n ≠ 0 → ∀ j, j < dm x (n - 1) → q - r < lv x (n - 1) j → Cg x.Complex.Prime (dot (nth v) (mt x n) (dm x n) j) 0)
theorem near_sp {x : GFiltered} (hs : SmallF x) (h : ValidF x) {n : Nat} (hn : n < x.Levels.length) {r q : Int} (hr : -100 ≤ r ∧ r ≤ 100) (hq : -100 ≤ q ∧ q ≤ 100) {N : List (List Int)} (hN : F184 x r (n : Int) q = some N) : ∀ v, Sp x.Complex.Prime (dm x n) N v ↔ NearP x r n q v := by
  have hp := h.vc.p
  have hp0 : 0 < x.Complex.Prime := by have := hp.range; omega
  have hd := dm_eq h hn
  have hk := keptL_len (x := x) (n := n) (q := q)
  have hf := farL_len h (n := n) (by omega) (t := q - r)
  obtain ⟨d, c1, c2, c3⟩ := F184_1_eq hs h (n := n) (by omega) hr hq (keptL x n q)
  have hrl : (rowsF x n r q).length = (keptL x n q).length := by simp [rowsF]
  have hrows := rowsF_ok h (n := n) (by omega) r q (fun e => by omega)
  obtain ⟨K, k1, k2, k3, k4⟩ := kernel_full hp hrows (by omega) (by omega)
  rw [hrl] at k1 k3 k4
  have hKl := red_len k3
  have hv : ∀ v ∈ keptL x n q, 0 ≤ v ∧ v < dm x n := fun v hv => by
    obtain ⟨j, h1, -, rfl⟩ := mem_keptL.1 hv
    omega
  have hKr : ∀ r ∈ K, r.length = (keptL x n q).length := fun r hr => (k3.ok r hr).len
  have hw : Rows x.Complex.Prime (dm x n) (wides (keptL x n q) (dm x n) K) := fun r hr => by
    obtain ⟨row, hrow, rfl⟩ := List.mem_map.1 hr
    exact wideN_ok hp0 (k3.ok row hrow) _ (Nat.le_refl _)
  have hwl : (wides (keptL x n q) (dm x n) K).length = K.length := by simp [wides]
  obtain ⟨N', -, n2, n3⟩ := reduce_same hp hw (by omega) (by omega)
  have e : F184 x r (n : Int) q = some N' := by
    unfold F184
    rw [F202_eq hs h hn, Option.bind_some, c1, Option.bind_some, c2, Option.bind_some, c3, Option.bind_some, F184_2_eq hs h hn, Option.bind_some, k2, Option.bind_some, F184_4_eq hs h hn (by omega) (by omega) hv hKr, Option.bind_some, n2, Option.bind_some]
  rw [hN] at e
  obtain rfl := Option.some.inj e
  have hL : Lin x.Complex.Prime (keptL x n q).length (dm x n) fun cc => wideN (keptL x n q) cc (dm x n) (keptL x n q).length := wide_lin (c := fun i => lv x n i ≤ q) hp0
  have hat : ∀ (cc : List Int) (i : Nat), i < dm x n → nth (wideN (keptL x n q) cc (dm x n) (keptL x n q).length) i = if lv x n i ≤ q then nth cc (coll i (kf fun i => lv x n i ≤ q)).length else 0 := fun cc i hi => by
    have := wide_at (c := fun i => lv x n i ≤ q) (cc := cc) hi (Nat.le_refl _)
    refine this.trans ?_
    by_cases q1 : lv x n i ≤ q
    · rw [if_pos ⟨q1, (coll_at (c := fun i => lv x n i ≤ q) q1 hi).1⟩, if_pos q1]
    · rw [if_neg (fun e => q1 e.1), if_neg q1]
  -- the numbers at places far below
  have hdot : ∀ (cc : List Int) (jj : Nat) (hjj : jj < (farL x n (q - r)).length), dot (nth (wideN (keptL x n q) cc (dm x n) (keptL x n q).length)) (mt x n) (dm x n) ((farL x n (q - r))[jj]).toNat = dot (nth cc) (rowsF x n r q) (keptL x n q).length jj := fun cc jj hjj => by
    have h1 : dot (nth (wideN (keptL x n q) cc (dm x n) (keptL x n q).length)) (mt x n) (dm x n) ((farL x n (q - r))[jj]).toNat = dot (fun i => if lv x n i ≤ q then nth cc (coll i (kf fun i => lv x n i ≤ q)).length else 0) (mt x n) (dm x n) ((farL x n (q - r))[jj]).toNat := sumI_congr fun i hi => by rw [hat cc i hi]
    rw [h1, dot_kept (c := fun i => lv x n i ≤ q) (g := nth cc) (Nat.le_refl (dm x n))]
    refine sumI_congr fun k hk2 => ?_
    have hk3 : k < (keptL x n q).length := hk2
    have e1 : rowAt (rowsF x n r q) k = rowF x n (q - r) (keptL x n q)[k] := by rw [rowAt_lt (by rw [hrl]; exact hk3)]; simp [rowsF]
    have e2 : (coll (dm x n) (kf fun i => lv x n i ≤ q)).getD k 0 = (keptL x n q)[k] := by
      change (keptL x n q).getD k 0 = _
      simp [hk3]
    rw [e1, e2]
    unfold rowF
    rw [nth_map hjj]
  intro v
  rw [n3.sp v]
  constructor
  · intro hv'
    obtain ⟨cc, s1, rfl⟩ := hL.lift hp0 (R := K) k3.ok hv'
    obtain ⟨s2, s3⟩ := (k4 cc).1 s1
    refine ⟨hL.ok cc s2, fun i hi hlt => ?_, fun n0 j hj hlt => ?_⟩
    · rw [hat cc i hi, if_neg (by omega)]
    · have hfe : farL x n (q - r) = coll (dm x (n - 1)) (kf fun j => q - r < lv x (n - 1) j) := by unfold farL; rw [if_neg n0]
      obtain ⟨f1, f2⟩ := coll_at (c := fun j => q - r < lv x (n - 1) j) hlt hj
      rw [← hfe] at f1 f2
      have f3 := s3 _ f1
      rw [← hdot cc _ f1] at f3
      have f4 : (farL x n (q - r))[(coll j (kf fun j => q - r < lv x (n - 1) j)).length] = (j : Int) := by
        rw [← f2]; simp [f1]
      rwa [f4, Int.toNat_natCast] at f3
  · rintro ⟨v1, v2, v3⟩
    let cc := (keptL x n q).map fun i => nth v i.toNat
    have hcc : VecOK x.Complex.Prime (keptL x n q).length cc := ⟨by simp [cc], fun k hk2 => by
      obtain ⟨i, hi, hie⟩ := keep_get hk2
      rw [nth_map hk2, hie, Int.toNat_natCast]
      exact v1.rng i hi⟩
    have hcv : wideN (keptL x n q) cc (dm x n) (keptL x n q).length = v := nth_ext (by rw [wideN_len, v1.len]) fun i hi => by
      rw [wideN_len] at hi
      rw [hat cc i hi]
      by_cases q1 : lv x n i ≤ q
      · obtain ⟨f1, f2⟩ := coll_at (c := fun i => lv x n i ≤ q) q1 hi
        have f1' : (coll i (kf fun i => lv x n i ≤ q)).length < (keptL x n q).length := f1
        have f2' : (keptL x n q)[(coll i (kf fun i => lv x n i ≤ q)).length] = (i : Int) := by
          have : (keptL x n q).getD (coll i (kf fun i => lv x n i ≤ q)).length 0 = (i : Int) := f2
          rw [← this]; simp [f1']
        rw [if_pos q1, nth_map f1', f2', Int.toNat_natCast]
      · rw [if_neg q1, v2 i hi (by omega)]
    have hS : Sp x.Complex.Prime (keptL x n q).length K cc := (k4 cc).2 ⟨hcc, fun jj hjj => by
      rw [← hdot cc jj hjj, hcv]
      obtain ⟨n0, j, hj, hje⟩ := far_get hjj
      have hjm := List.getElem_mem hjj
      have hlt : q - r < lv x (n - 1) j := by
        rw [hje] at hjm
        unfold farL at hjm
        rw [if_neg n0, mem_coll] at hjm
        obtain ⟨j2, -, h2⟩ := hjm
        split at h2
        · rename_i q2
          have h3 : (j : Int) = (j2 : Int) := by simpa using h2
          have : j = j2 := by omega
          subst this; exact q2
        · simp at h2
      rw [hje, Int.toNat_natCast]
      exact v3 n0 j hj hlt⟩
    have := hL.sp hp0 (R := K) k3.ok hS
    rw [hcv] at this
    exact this
theorem lin_at {p : Int} {n : Nat} {v : List Int} {m : List (List Int)} (H : LinOK p n v m) {j : Nat} (hj : j < n) : Cg p (nth (lin p n v m) j) (dot (nth v) m v.length j) := by
  have key : ∀ i, i ≤ v.length → Cg p (nth (linN p n v m i) j) (dot (nth v) m i j) := by
    intro i
    induction i with
    | zero => intro _; simp only [linN]; rw [show nth (List.replicate n (0 : Int)) j = 0 from nth_zv n j]; exact .refl _ _
    | succ i ih =>
      intro hi
      obtain ⟨h1, h2⟩ := linN_ok H i (by omega)
      have hm : i < m.length := by have := H.hl; omega
      have hr := H.hr _ (List.getElem_mem hm)
      have e1 : v.getD i 0 = v[i] := by simp [show i < v.length by omega]
      have e2 : m.getD i [] = m[i] := by simp [hm]
      have hx := H.hv _ (List.getElem_mem (show i < v.length by omega))
      have ho := h2 _ (List.getElem_mem (show j < (linN p n v m i).length by omega))
      have hy := hr.2 _ (List.getElem_mem (show j < m[i].length by omega))
      obtain ⟨-, -, t1, -⟩ := small_mul H.hp hx hy ho
      have e3 : nth (linN p n v m (i + 1)) j = ((linN p n v m i)[j] + v[i] * (m[i])[j]).tmod p := by
        simp only [linN, e1, e2]
        rw [nth_lt (by unfold addRow; rw [List.length_zipWith, h1, hr.1]; omega)]
        simp [addRow]
      have h0 : 0 ≤ (linN p n v m i)[j] + v[i] * (m[i])[j] := by have := Int.mul_nonneg hx.1 hy.1; omega
      rw [e3, Int.tmod_eq_emod_of_nonneg h0]
      refine (Cg.mod _ _).trans ?_
      show Cg p _ (sumI _ (i + 1))
      unfold sumI
      refine .add ?_ ?_
      · have := ih (by omega)
        rwa [nth_lt (by omega)] at this
      · rw [nth_lt (show i < v.length by omega), rowAt_lt hm, nth_lt (show j < m[i].length by omega)]; exact .refl _ _
  exact key v.length (Nat.le_refl _)
def df (x : GFiltered) (n : Nat) (v : List Int) : List Int := lin x.Complex.Prime (dm x n) v (mt x (n + 1))
theorem df_linok {x : GFiltered} (h : ValidF x) {n : Nat} (hn : n + 1 < x.Levels.length) {v : List Int} (hv : VecOK x.Complex.Prime (dm x (n + 1)) v) : LinOK x.Complex.Prime (dm x n) v (mt x (n + 1)) := by
  obtain ⟨h1, h2, h3⟩ := mt_ok h hn
  have hd := dm_eq h (n := n) (by omega)
  have hd1 := dm_eq h hn
  have hvl := hv.len
  refine ⟨h.vc.p.range, fun y hy => ?_, by omega, fun l hl => ⟨(h3 l hl).len, fun y hy => ?_⟩, by omega, by omega⟩
  · obtain ⟨k, hk, rfl⟩ := List.getElem_of_mem hy
    have := hv.rng k (by omega)
    rwa [nth_lt hk] at this
  · have hl' := h3 l hl
    have hll := hl'.len
    obtain ⟨k, hk, rfl⟩ := List.getElem_of_mem hy
    have := hl'.rng k (by omega)
    rwa [nth_lt hk] at this
theorem df_at {x : GFiltered} (h : ValidF x) {n : Nat} (hn : n + 1 < x.Levels.length) {v : List Int} (hv : VecOK x.Complex.Prime (dm x (n + 1)) v) {j : Nat} (hj : j < dm x n) : Cg x.Complex.Prime (nth (df x n v) j) (dot (nth v) (mt x (n + 1)) (dm x (n + 1)) j) := by
  have := lin_at (df_linok h hn hv) hj
  rwa [hv.len] at this
theorem df_ok {x : GFiltered} (h : ValidF x) {n : Nat} (hn : n + 1 < x.Levels.length) {v : List Int} (hv : VecOK x.Complex.Prime (dm x (n + 1)) v) : VecOK x.Complex.Prime (dm x n) (df x n v) := by
  have H := df_linok h hn hv
  have hok := linN_ok H v.length (Nat.le_refl _)
  refine ⟨hok.1, fun j hj => ?_⟩
  have hj' : j < (df x n v).length := by unfold df; rw [lin_len H]; exact hj
  rw [nth_lt hj']
  exact hok.2 _ (List.getElem_mem hj')
theorem df_lin {x : GFiltered} (h : ValidF x) {n : Nat} (hn : n + 1 < x.Levels.length) : Lin x.Complex.Prime (dm x (n + 1)) (dm x n) (df x n) := by
  have hp0 : 0 < x.Complex.Prime := by have := h.vc.p.range; omega
  refine ⟨fun u hu => df_ok h hn hu, fun u v k hu hv => ?_⟩
  have h1 := sub_ok hp0 hu.len hv.len (k := k)
  have d1 := df_ok h hn hu
  have d2 := df_ok h hn hv
  refine (df_ok h hn h1).ext (sub_ok hp0 d1.len d2.len) fun j hj => ?_
  refine (df_at h hn h1 hj).trans (Cg.trans (dot_cg fun i hi => sub_cg hu.len hv.len hi) ?_)
  rw [dot_lin]
  exact Cg.symm ((sub_cg d1.len d2.len hj).trans (.sub (df_at h hn hu hj) (.mul (.refl _ _) (df_at h hn hv hj))))
theorem units_sp {p : Int} (hp : 1 < p) {n : Nat} {v : List Int} (hv : VecOK p n v) : Sp p n (units n) v := by
  have hp0 : 0 < p := by omega
  have hu := units_red hp n
  refine (rest_zero hp0 hu hv).1 ((rest_ok hp0 hu.ok hv).ext (zv_ok hp0 n) fun j hj => ?_)
  have hm : unitv n j ∈ units n := List.mem_map.2 ⟨j, List.mem_range.2 hj, rfl⟩
  have := rest_lead hp0 hu hv _ hm
  rw [ld_unit hj] at this
  rw [this, nth_zv]; exact .refl _ _
theorem Sp.zeros {p : Int} {w : Nat} (hp : 0 < p) {R : List (List Int)} (h : ∀ r ∈ R, r = zv w) {v : List Int} (hv : Sp p w R v) : v = zv w := by
  induction hv with
  | zero => rfl
  | @sub v r k hv hr ih =>
    rw [ih, h r hr]
    exact (sub_ok hp (zv_ok hp w).len (zv_ok hp w).len).ext (zv_ok hp w) fun j hj => (sub_cg (zv_ok hp w).len (zv_ok hp w).len hj).trans (by rw [nth_zv]; exact ⟨0, by simp⟩)
theorem df_unit {x : GFiltered} (h : ValidF x) {n : Nat} (hn : n + 1 < x.Levels.length) {i : Nat} (hi : i < dm x (n + 1)) : df x n (unitv (dm x (n + 1)) i) = rowAt (mt x (n + 1)) i := by
  have hp1 : 1 < x.Complex.Prime := by have := h.vc.p.range; omega
  obtain ⟨h1, h2, h3⟩ := mt_ok h hn
  have hu := unitv_ok hp1 hi
  refine (df_ok h hn hu).ext (h3 _ (row_mem (by omega))) fun j hj => ?_
  refine (df_at h hn hu hj).trans ?_
  rw [show dot (nth (unitv (dm x (n + 1)) i)) (mt x (n + 1)) (dm x (n + 1)) j = nth (rowAt (mt x (n + 1)) i) j by
    rw [← dot_unit (m := mt x (n + 1)) (j := j) hi]
    exact sumI_congr fun k _ => by simp only; rw [nth_unit hi]]
  exact .refl _ _
theorem df_df {x : GFiltered} (h : ValidF x) {n : Nat} (hn : n + 2 < x.Levels.length) {v : List Int} (hv : VecOK x.Complex.Prime (dm x (n + 2)) v) : df x n (df x (n + 1) v) = zv (dm x n) := by
  have hp1 : 1 < x.Complex.Prime := by have := h.vc.p.range; omega
  have hp0 : 0 < x.Complex.Prime := by omega
  have hL := (df_lin h (n := n + 1) hn).comp (df_lin h (n := n) (by omega))
  have hS := hL.sp hp0 (units_red hp1 (dm x (n + 2))).ok (units_sp hp1 hv)
  refine Sp.zeros hp0 (fun r hr => ?_) hS
  obtain ⟨u, hu, rfl⟩ := List.mem_map.1 hr
  obtain ⟨i, hi, rfl⟩ := List.mem_map.1 hu
  have hi' := List.mem_range.1 hi
  rw [df_unit h (n := n + 1) hn hi']
  obtain ⟨h1, h2, h3⟩ := mt_ok h hn
  have hm := row_mem (l := mt x (n + 2)) (i := i) (by rw [h2]; exact hi')
  have hsq := h.vc.sq (n + 1) (by omega) h1 _ hm
  have hd := dm_eq h (n := n) (by omega)
  have hrow := h3 _ hm
  have hok := df_ok h (n := n) (by omega) hrow
  refine nth_ext (by rw [hok.len]; simp [zv]) fun j hj => ?_
  rw [nth_zv, nth_lt hj]
  refine hsq _ ?_
  have : df x n (rowAt (mt x (n + 2)) i) = lin x.Complex.Prime (x.Complex.Dims.getD (n + 1 - 1) 0).toNat (rowAt (mt x (n + 2)) i) (x.Complex.Maps.getD (n + 1 - 1) []) := rfl
  rw [← this]
  exact List.getElem_mem hj
theorem bottom_full {x : GFiltered} (hs : SmallF x) (h : ValidF x) {n : Nat} (hn : n < x.Levels.length) {r q : Int} (hr : -40 ≤ r ∧ r ≤ 40) (hq : -40 ≤ q ∧ q ≤ 40) :
    ∃ N A, F185 x r (n : Int) q = some N ∧ F279 x r (n : Int) q = some N ∧ Red x.Complex.Prime (dm x n) N ∧ F184 x (r - 1) (n : Int) (q - 1) = some A ∧ Red x.Complex.Prime (dm x n) A ∧
      (n + 1 < x.Levels.length → ∃ B, F184 x (r - 1) ((n + 1 : Nat) : Int) (q + r - 1) = some B ∧ Red x.Complex.Prime (dm x (n + 1)) B ∧ EchOf x.Complex.Prime (dm x n) (A ++ low x n B) N) ∧ (¬ n + 1 < x.Levels.length → EchOf x.Complex.Prime (dm x n) A N) := by
  have hp := h.vc.p
  have hd := dm_eq h hn
  have hsl := hs.l
  obtain ⟨A, a1, a2, a3⟩ := near_same hs h hn (r := r - 1) (q := q - 1) (by omega) (by omega)
  have hAl := red_len a3
  by_cases c : n + 1 < x.Levels.length
  · obtain ⟨B, b1, b2, b3⟩ := near_same hs h c (r := r - 1) (q := q + r - 1) (by omega) (by omega)
    have hBl := red_len b3
    have hd1 := dm_eq h c
    have e : (n : Int) + 1 = ((n + 1 : Nat) : Int) := by omega
    have hrows : Rows x.Complex.Prime (dm x n) (A ++ low x n B) := fun v hv => by
      rcases List.mem_append.1 hv with hv | hv
      · exact a3.ok v hv
      · exact low_ok h c b3 v hv
    have hll : (low x n B).length = B.length := by simp [low]
    obtain ⟨N, n1, n2, n3⟩ := reduce_same hp hrows (by omega) (by rw [List.length_append]; omega)
    refine ⟨N, A, ?_, ?_, n3.red, a1, a3, fun _ => ⟨B, b1, b3, n3⟩, fun q => absurd c q⟩
    · unfold F185
      rw [chk_ok (by omega) (by omega), Option.bind_some, chk_ok (by omega) (by omega), Option.bind_some, a1, Option.bind_some, chk_ok (by omega) (by omega), Option.bind_some, chk_ok (by omega) (by omega), Option.bind_some, chk_ok (by omega) (by omega), Option.bind_some, e, b1, Option.bind_some, F185_1_eq hs h c b3 (by omega), Option.bind_some, n2, Option.bind_some]
    · unfold F279
      rw [chk_ok (by omega) (by omega), Option.bind_some, chk_ok (by omega) (by omega), Option.bind_some, a2, Option.bind_some, app_ok (by simp; omega) (by simp; omega), Option.bind_some, chk_ok (by omega) (by omega), Option.bind_some, if_pos (by omega), chk_ok (by omega) (by omega), Option.bind_some, chk_ok (by omega) (by omega), Option.bind_some, List.nil_append, e, b2, Option.bind_some, F281_eq hs h c b3, Option.bind_some, app_ok (by omega) (by omega), Option.bind_some, n1, Option.bind_some]
  · have hnl : (n : Int) + 1 = (x.Levels.length : Int) := by omega
    obtain ⟨N, n1, n2, n3⟩ := reduce_same hp a3.ok (by omega) (by omega)
    refine ⟨N, A, ?_, ?_, n3.red, a1, a3, fun q => absurd q c, fun _ => n3⟩
    · unfold F185
      rw [chk_ok (by omega) (by omega), Option.bind_some, chk_ok (by omega) (by omega), Option.bind_some, a1, Option.bind_some, chk_ok (by omega) (by omega), Option.bind_some, chk_ok (by omega) (by omega), Option.bind_some, chk_ok (by omega) (by omega), Option.bind_some, hnl, near_top hs h (by omega) (by omega), Option.bind_some]
      change ((some A).bind _) = _
      rw [Option.bind_some, n2, Option.bind_some]
    · unfold F279
      rw [chk_ok (by omega) (by omega), Option.bind_some, chk_ok (by omega) (by omega), Option.bind_some, a2, Option.bind_some, app_ok (by simp; omega) (by simp; omega), Option.bind_some, chk_ok (by omega) (by omega), Option.bind_some, if_neg (by omega), List.nil_append, n1, Option.bind_some]
theorem df_near {x : GFiltered} (h : ValidF x) {m : Nat} (hm : m + 1 < x.Levels.length) {t : Int} (r' : Int) {z : List Int} (hz : VecOK x.Complex.Prime (dm x (m + 1)) z) (hd : ∀ j, j < dm x m → t < lv x m j → Cg x.Complex.Prime (dot (nth z) (mt x (m + 1)) (dm x (m + 1)) j) 0) : NearP x r' m t (df x m z) := by
  have hp0 : 0 < x.Complex.Prime := by have := h.vc.p.range; omega
  have hok := df_ok h hm hz
  refine ⟨hok, fun i hi hlt => ?_, fun m0 j hj _ => ?_⟩
  · exact ((df_at h hm hz hi).trans (hd i hi hlt)).eq (hok.rng i hi).1 (hok.rng i hi).2 (Int.le_refl _) hp0
  · obtain ⟨k, rfl⟩ : ∃ k, m = k + 1 := ⟨m - 1, by omega⟩
    rw [Nat.add_sub_cancel] at hj
    have h1 := df_at h (n := k) (by omega) hok hj
    rw [df_df h hm hz, nth_zv] at h1
    exact h1.symm
def LTells (o : Option (Unit ⊕ (Unit ⊕ Bool))) (P : Prop) : Prop := ∃ b : Bool, o = some (if b = true then .inl () else .inr (.inr false)) ∧ (b = true ↔ P)
theorem LTells.iff {o : Option (Unit ⊕ (Unit ⊕ Bool))} {P Q : Prop} (h : LTells o P) (e : P ↔ Q) : LTells o Q := by
  obtain ⟨b, h1, h2⟩ := h; exact ⟨b, h1, h2.trans e⟩
theorem LTells.yes : LTells (some (.inl ())) True := ⟨true, rfl, by simp⟩
theorem Tells.then_L {o : Option Bool} {k : Option (Unit ⊕ (Unit ⊕ Bool))} {P Q : Prop} (T : Tells o P) (hk : P → LTells k Q) : LTells (o.bind fun b => if b = true then k else some (.inr (.inr false))) (P ∧ Q) := by
  rcases T.case with ⟨e, q⟩ | ⟨e, q⟩
  · rw [e, Option.bind_some, if_pos rfl]
    exact (hk q).iff ⟨fun h => ⟨q, h⟩, fun h => h.2⟩
  · rw [e, Option.bind_some, if_neg Bool.false_ne_true]
    exact ⟨false, rfl, by simp only [Bool.false_eq_true, false_iff]; exact fun h => q h.1⟩
theorem LTells.ite {a b : Int} {k : Option (Unit ⊕ (Unit ⊕ Bool))} {Q : Prop} (hk : a = b → LTells k Q) : LTells (if a = b then k else some (.inr (.inr false))) (a = b ∧ Q) := by
  by_cases c : a = b
  · rw [if_pos c]; exact (hk c).iff ⟨fun h => ⟨c, h⟩, fun h => h.2⟩
  · rw [if_neg c]; exact ⟨false, rfl, by simp [c]⟩
def WTells (o : Option (Int ⊕ (Unit ⊕ Bool))) (i : Int) (P : Prop) : Prop := ∃ b : Bool, o = some (if b = true then .inl (i + 1) else .inr (.inr false)) ∧ (b = true ↔ P)
theorem WTells.iff {o : Option (Int ⊕ (Unit ⊕ Bool))} {i : Int} {P Q : Prop} (h : WTells o i P) (e : P ↔ Q) : WTells o i Q := by
  obtain ⟨b, h1, h2⟩ := h; exact ⟨b, h1, h2.trans e⟩
theorem WTells.yes {i : Int} : WTells (some (.inl (i + 1))) i True := ⟨true, rfl, by simp⟩
theorem all_for {n : Nat} {B : Int → Unit → Option (Unit ⊕ (Unit ⊕ Bool))} {D : Int → Unit → Option (Unit ⊕ Bool)} (P : Nat → Prop) (hn : n ≤ 1000000) (hB : ∀ i : Nat, i < n → LTells (B i ()) (P i)) (hD : ∀ i, D i () = some (.inl ())) :
    ∃ b : Bool, forR 0 (n : Int) B D () = some (if b = true then .inl () else .inr false) ∧ (b = true ↔ ∀ i, i < n → P i) := by
  obtain ⟨t, h1, b, h2, h3⟩ := forR_inv (B := B) (D := D) n rfl (by omega) (fun i _ => ∀ k, k < i → P k) (fun t => ∃ b : Bool, t = (if b = true then .inl () else .inr false) ∧ (b = true ↔ ∀ i, i < n → P i)) (s := ()) (fun k hk => by omega) (by
    rintro i _ hi hI
    obtain ⟨b, e, q⟩ := hB i hi
    cases b with
    | true =>
      left
      refine ⟨(), e, fun k hk => ?_⟩
      by_cases c : k = i
      · subst c; exact q.1 rfl
      · exact hI k (by omega)
    | false =>
      right
      refine ⟨.inr false, e, false, rfl, ?_⟩
      simp only [Bool.false_eq_true, false_iff]
      intro h
      have := q.2 (h i hi)
      cases this) (by
    rintro _ hI
    exact ⟨.inl (), hD _, true, rfl, by simp only [true_iff]; exact hI⟩)
  subst h2
  exact ⟨b, h1, h3⟩
def dc (x : GComplex) (n : Nat) : Nat := (x.Dims.getD n 0).toNat
theorem dc_le {x : GComplex} (h : ValidC x) (n : Nat) : dc x n ≤ 8 := by
  unfold dc
  by_cases hn : n < x.Dims.length
  · have := h.dim hn; omega
  · rw [List.getD_eq_getElem?_getD, List.getElem?_eq_none (by omega)]; simp
theorem dc_at {x : GComplex} (h : ValidC x) {n : Nat} (hn : n < x.Dims.length) : x.Dims.getD n 0 = (dc x n : Int) := by
  have := h.dim hn
  unfold dc; omega
theorem F99_dc {x : GComplex} (hx : SmallC x) (h : ValidC x) {n : Nat} (hn : n ≤ x.Dims.length) : F99 x (n : Int) = some (dc x n : Int) := by
  have hd := hx.d
  by_cases c : n < x.Dims.length
  · rw [F99_at hx.d c, dc_at h c]
  · have e : n = x.Dims.length := by omega
    subst e
    have : dc x x.Dims.length = 0 := by unfold dc; rw [List.getD_eq_getElem?_getD, List.getElem?_eq_none (by omega)]; rfl
    unfold F99
    rw [chk_ok (by omega) (by omega), Option.bind_some, F54_eq, Option.bind_some, if_neg (by simp; omega), this]
    rfl
theorem bounds_same {x : GComplex} (hx : SmallC x) (h : ValidC x) {n : Nat} (hn : n < x.Dims.length) : ∃ B, F251 x (n : Int) = some B ∧ F186 x (n : Int) = some B ∧ Red x.Prime (dc x n) B := by
  have hd := hx.d
  have hml := h.ml
  have hdl := h.dl
  unfold F251 F186
  rw [chk_ok (by omega) (by omega), Option.bind_some, if_neg (by omega), F86_eq hx.d, Option.bind_some]
  by_cases c : n + 1 < x.Dims.length
  · have ht := h.tab n (by omega)
    have hr : Rows x.Prime (dc x n) (x.Maps.getD n []) := fun r hr => (ht.2 r hr).vec
    have hl := ht.1
    have hd1 := h.dim c
    have := dc_le h n
    obtain ⟨B, b1, b2, b3⟩ := reduce_same h.p hr (by omega) (by omega)
    rw [show (n : Int) + 1 = ((n + 1 : Nat) : Int) by omega, F76_eq hx.d c (by omega), Option.bind_some, b1, Option.bind_some, if_neg (by omega), getI_getD (show n < x.Maps.length by omega) [], Option.bind_some, b2, Option.bind_some]
    exact ⟨B, rfl, rfl, b3.red⟩
  · obtain ⟨N, n1, -, n3⟩ := reduce_same (p := x.Prime) (w := dc x n) h.p (rows := []) (fun r hr => (nomatch hr)) (by have := dc_le h n; omega) (by simp)
    have hN : N = [] := by have := n3.same (by have := h.p.range; omega) (EchOf.nil x.Prime (dc x n)); exact this
    subst hN
    have e : F76 x ((n : Int) + 1) = some [] := by
      unfold F76
      rw [chk_ok (by omega) (by omega), Option.bind_some, F54_eq, Option.bind_some, if_neg (by simp; omega)]
      have h99 := F99_dc hx h (n := n + 1) (by omega)
      have h0 : dc x (n + 1) = 0 := by unfold dc; rw [List.getD_eq_getElem?_getD, List.getElem?_eq_none (by omega)]; rfl
      rw [h0] at h99
      obtain ⟨t, g1, g2⟩ := loopW_inv (S := F76_1_S x ((n : Int) + 1)) (fun s => 0) (fun s => s = ([], 0)) (fun t => t = []) (s := ([], 0)) rfl (by
        rintro s rfl
        right
        unfold F76_1_S
        simp only
        rw [show (n : Int) + 1 = ((n + 1 : Nat) : Int) by omega, h99, Option.bind_some, if_neg (by simp)]
        exact ⟨_, rfl, rfl⟩)
      rw [g1, Option.bind_some, g2]
    rw [e, Option.bind_some, n1, Option.bind_some, if_pos (by omega)]
    exact ⟨[], rfl, rfl, n3.red⟩
def hN (c : GContraction) (n : Nat) : Nat := (c.Up.getD n []).length
def bkF (x : GComplex) (c : GContraction) (n : Nat) (v : List Int) : List Int := lin x.Prime (dc x (n + 1)) v (c.Back.getD n [])
def dfF (x : GComplex) (n : Nat) (v : List Int) : List Int := if n = 0 then [] else lin x.Prime (dc x (n - 1)) v (x.Maps.getD (n - 1) [])
def first (x : GComplex) (c : GContraction) (n : Nat) (v : List Int) : List Int := if n + 1 < x.Dims.length then dfF x (n + 1) (bkF x c n v) else zv (dc x n)
structure PT (s0 ms : T3s) (φ : Nat → Nat → Nat → Nat × Nat × Nat) (val : Nat → Nat → Nat → Int) (D : Nat → Nat → Nat → Prop) (s : T3s) : Prop where
  shp : Shp s s0
  at' : ∀ k i j, InT ms k i j → (D k i j → numAt s (φ k i j).1 (φ k i j).2.1 (φ k i j).2.2 = val k i j) ∧ (¬ D k i j → numAt s (φ k i j).1 (φ k i j).2.1 (φ k i j).2.2 = numAt s0 (φ k i j).1 (φ k i j).2.1 (φ k i j).2.2)
  out : ∀ a b c, InT s0 a b c → (∀ k i j, InT ms k i j → φ k i j ≠ (a, b, c)) → numAt s a b c = numAt s0 a b c
theorem PT.zero {s0 ms : T3s} {φ : Nat → Nat → Nat → Nat × Nat × Nat} {val : Nat → Nat → Nat → Int} : PT s0 ms φ val (fun _ _ _ => False) s0 := ⟨.refl _, fun k i j _ => ⟨fun x => x.elim, fun _ => rfl⟩, fun _ _ _ _ _ => rfl⟩
theorem bounds_full {x : GComplex} (hx : SmallC x) (h : ValidC x) {n : Nat} (hn : n < x.Dims.length) : ∃ B, F251 x (n : Int) = some B ∧ F186 x (n : Int) = some B ∧ Red x.Prime (dc x n) B ∧ (n + 1 < x.Dims.length → EchOf x.Prime (dc x n) (x.Maps.getD n []) B) ∧ (¬ n + 1 < x.Dims.length → B = []) := by
  have hd := hx.d
  have hml := h.ml
  have hdl := h.dl
  obtain ⟨B, b1, b2, b3⟩ := bounds_same hx h hn
  refine ⟨B, b1, b2, b3, fun c => ?_, fun c => ?_⟩
  · have ht := h.tab n (by omega)
    have hr : Rows x.Prime (dc x n) (x.Maps.getD n []) := fun r hr => (ht.2 r hr).vec
    have hl := ht.1
    have hd1 := h.dim c
    have := dc_le h n
    obtain ⟨B', b1', b2', b3'⟩ := reduce_same h.p hr (by omega) (by omega)
    unfold F186 at b2
    rw [F86_eq hx.d, Option.bind_some, if_neg (by omega), if_neg (by omega), getI_getD (show n < x.Maps.length by omega) [], Option.bind_some, b2', Option.bind_some] at b2
    have := Option.some.inj b2
    subst this
    exact b3'
  · unfold F186 at b2
    rw [F86_eq hx.d, Option.bind_some, if_neg (by omega), if_pos (by omega)] at b2
    exact (Option.some.inj b2).symm
def CycP (x : GFiltered) (n : Nat) (q : Int) (v : List Int) : Prop :=
  VecOK x.Complex.Prime (dm x n) v ∧ (∀ i, i < dm x n → q < lv x n i → nth v i = 0) ∧ (n ≠ 0 → ∀ j, j < dm x (n - 1) → Cg x.Complex.Prime (dot (nth v) (mt x n) (dm x n) j) 0)
theorem lv_rng {x : GFiltered} (h : ValidF x) {n i : Nat} (hn : n < x.Levels.length) (hi : i < dm x n) : 0 ≤ lv x n i ∧ lv x n i ≤ 5 := by
  have hd := dm_eq h hn
  unfold lv
  exact (h.lv n hn).2 _ (getD_mem (by omega) 0)
theorem near_cyc {x : GFiltered} (h : ValidF x) {n : Nat} (hn : n < x.Levels.length) {r q : Int} (hrq : q < r) (v : List Int) : NearP x r n q v ↔ CycP x n q v := by
  unfold NearP CycP
  refine and_congr_right fun _ => and_congr_right fun _ => ⟨fun g h0 j hj => g h0 j hj ?_, fun g h0 j hj _ => g h0 j hj⟩
  have := (lv_rng h (n := n - 1) (by omega) hj).1
  omega
theorem near_far {x : GFiltered} (hs : SmallF x) (h : ValidF x) {n : Nat} (hn : n < x.Levels.length) {r r' q : Int} (hr : -100 ≤ r ∧ r ≤ 100) (hr' : -100 ≤ r' ∧ r' ≤ 100) (hq : -100 ≤ q ∧ q ≤ 100) (h1 : q < r) (h2 : q < r') {N N' : List (List Int)} (e1 : F184 x r (n : Int) q = some N) (e2 : F184 x r' (n : Int) q = some N') : N = N' := by
  have hp0 : 0 < x.Complex.Prime := by have := h.vc.p.range; omega
  obtain ⟨A, a1, -, a3⟩ := near_same hs h hn hr hq
  obtain ⟨B, b1, -, b3⟩ := near_same hs h hn hr' hq
  rw [e1] at a1
  rw [e2] at b1
  cases a1
  cases b1
  exact Red.unique hp0 a3 b3 fun v => ((near_sp hs h hn hr hq e1 v).trans (near_cyc h hn h1 v)).trans (((near_sp hs h hn hr' hq e2 v).trans (near_cyc h hn h2 v)).symm)
theorem bound_img {x : GFiltered} (h : ValidF x) {n : Nat} (hn : n + 1 < x.Levels.length) {v : List Int} : Sp x.Complex.Prime (dm x n) (mt x (n + 1)) v ↔ ∃ z, VecOK x.Complex.Prime (dm x (n + 1)) z ∧ df x n z = v := by
  have hp1 : 1 < x.Complex.Prime := by have := h.vc.p.range; omega
  have hp0 : 0 < x.Complex.Prime := by omega
  obtain ⟨h1, h2, h3⟩ := mt_ok h hn
  have hL := df_lin h hn
  have hU := (units_red hp1 (dm x (n + 1))).ok
  have e : ∀ r, r ∈ mt x (n + 1) ↔ r ∈ (units (dm x (n + 1))).map (df x n) := fun r => by
    rw [mem_row]
    constructor
    · rintro ⟨i, hi, rfl⟩
      rw [← df_unit h hn (i := i) (by omega)]
      exact List.mem_map_of_mem (List.mem_map_of_mem (List.mem_range.2 (by omega)))
    · intro q
      obtain ⟨u, hu, rfl⟩ := List.mem_map.1 q
      obtain ⟨i, hi, rfl⟩ := List.mem_map.1 hu
      have hi' := List.mem_range.1 hi
      exact ⟨i, by omega, (df_unit h hn hi').symm⟩
  constructor
  · intro hv
    obtain ⟨z, hz, rfl⟩ := hL.lift hp0 hU (hv.mono fun r hr => (e r).1 hr)
    exact ⟨z, hz.ok hp0 hU, rfl⟩
  · rintro ⟨z, hz, rfl⟩
    exact (hL.sp hp0 hU (units_sp hp1 hz)).mono fun r hr => (e r).2 hr
theorem page6 {x : GFiltered} (hs : SmallF x) (h : ValidF x) {n : Nat} (hn : n < x.Levels.length) {q : Int} (hq : 0 ≤ q ∧ q ≤ 5) {Z Y T B W1 W2 : List (List Int)}
    (hZ : F184 x 6 (n : Int) q = some Z) (hY : F184 x 6 (n : Int) (q - 1) = some Y) (hT : F185 x 6 (n : Int) q = some T) (hB : F186 x.Complex (n : Int) = some B)
    (hW1 : EchOf x.Complex.Prime (dm x n) (Z ++ B) W1) (hW2 : EchOf x.Complex.Prime (dm x n) (Y ++ B) W2) : Z.length + W2.length = W1.length + T.length := by
  have hp := h.vc.p
  have hp1 : 1 < x.Complex.Prime := by have := hp.range; omega
  have hp0 : 0 < x.Complex.Prime := by omega
  have hll := h.ll
  obtain ⟨T', A, t1, -, tr, a1, ar, tt, tn⟩ := bottom_full hs h hn (r := 6) (q := q) (by omega) (by omega)
  rw [hT] at t1
  cases t1
  have hA : A = Y := near_far hs h hn (r := 6 - 1) (r' := 6) (q := q - 1) (by omega) (by omega) (by omega) (by omega) (by omega) a1 hY
  subst hA
  obtain ⟨Z', z1, -, zr⟩ := near_same hs h hn (r := 6) (q := q) (by omega) (by omega)
  rw [hZ] at z1
  cases z1
  have zsp := fun v => (near_sp hs h hn (by omega) (by omega) hZ v).trans (near_cyc h hn (r := 6) (q := q) (by omega) v)
  have ysp := fun v => (near_sp hs h hn (by omega) (by omega) hY v).trans (near_cyc h hn (r := 6) (q := q - 1) (by omega) v)
  obtain ⟨B', -, b2, br, bb, bn⟩ := bounds_full hs.c h.vc (n := n) (by omega)
  rw [hB] at b2
  cases b2
  have hYZ : ∀ v ∈ A, Sp x.Complex.Prime (dm x n) Z v := fun v hv => by
    obtain ⟨v1, v2, v3⟩ := (ysp v).1 (.mem hp0 ar.ok hv)
    exact (zsp v).2 ⟨v1, fun i hi hl => v2 i hi (by omega), v3⟩
  by_cases c : n + 1 < x.Levels.length
  · obtain ⟨N, n1, nr, ne⟩ := tt c
    have bE := bb (by omega)
    have nsp := near_sp hs h c (r := 6 - 1) (q := q + 6 - 1) (by omega) (by omega) n1
    have hXm : ∀ v ∈ low x n N, ∃ z, Sp x.Complex.Prime (dm x (n + 1)) N z ∧ df x n z = v := fun v hv => by
      obtain ⟨z, hz, rfl⟩ := List.mem_map.1 hv
      exact ⟨z, .mem hp0 nr.ok hz, rfl⟩
    have hXZ : ∀ v ∈ low x n N, Sp x.Complex.Prime (dm x n) Z v := fun v hv => by
      obtain ⟨z, hz, rfl⟩ := hXm v hv
      obtain ⟨v1, v2, v3⟩ := (nsp z).1 hz
      refine (near_sp hs h hn (by omega) (by omega) hZ _).2 (df_near h c 6 v1 fun j hj hlt => ?_)
      exact v3 (by omega) j hj (by rw [Nat.add_sub_cancel]; omega)
    have hXB : ∀ v ∈ low x n N, Sp x.Complex.Prime (dm x n) B v := fun v hv => by
      obtain ⟨z, hz, rfl⟩ := hXm v hv
      exact (bE.sp _).2 ((bound_img h c).2 ⟨z, hz.ok hp0 nr.ok, rfl⟩)
    have hBX : ∀ v, Sp x.Complex.Prime (dm x n) B v → Sp x.Complex.Prime (dm x n) Z v → Sp x.Complex.Prime (dm x n) (low x n N) v := fun v hb hz => by
      obtain ⟨z, zo, rfl⟩ := (bound_img h c).1 ((bE.sp _).1 hb)
      obtain ⟨v1, v2, v3⟩ := (zsp _).1 hz
      refine (df_lin h c).sp hp0 nr.ok ((nsp z).2 ⟨zo, fun i hi hl => ?_, fun _ j hj hl => ?_⟩)
      · have := (lv_rng h c hi).2; omega
      · rw [Nat.add_sub_cancel] at hj hl
        have e := v2 j hj (by omega)
        have := df_at h c zo hj
        rw [e] at this
        exact this.symm
    exact rank_mod hp1 hp.inv ar.ok (low_ok h c nr) br.ok zr hYZ hXZ hXB hBX ne hW2 hW1
  · have hb := bn (by omega)
    subst hb
    have ne := tn c
    exact rank_mod hp1 hp.inv ar.ok (X := []) (B := []) (fun r hr => (nomatch hr)) (fun r hr => (nomatch hr)) zr hYZ (fun r hr => (nomatch hr)) (fun r hr => (nomatch hr)) (fun v hv _ => hv) (by rw [List.append_nil]; exact ne) hW2 hW1
structure WideC (x : GComplex) : Prop where
  p : IsP x.Prime
  dl : 1 ≤ x.Dims.length ∧ x.Dims.length ≤ 100
  ml : x.Maps.length + 1 = x.Dims.length
  dims : ∀ d ∈ x.Dims, 0 ≤ d ∧ d ≤ 100
  tab : ∀ k, k < x.Maps.length → TabAt x k
theorem WideC.dim {x : GComplex} (h : WideC x) {n : Nat} (hn : n < x.Dims.length) : 0 ≤ x.Dims.getD n 0 ∧ x.Dims.getD n 0 ≤ 100 := h.dims _ (getD_mem hn 0)
theorem concat2 {a b : List (List Int)} (ha : a.length ≤ 10000) (hb : b.length ≤ 10000) : F200 [a, b] = some (a ++ b) := by
  unfold F200
  have h1 : forR 0 ((([a, b] : List (List (List Int))).length : Nat) : Int) (F200_1_B [a, b]) F200_1_D 0 = some (((a.length + b.length : Nat) : Int)) := by
    obtain ⟨t, g1, g2⟩ := forR_inv (B := F200_1_B [a, b]) (D := F200_1_D) (hi := (([a, b] : List (List (List Int))).length : Int)) 2 rfl (by decide) (fun i s => s = (((([a, b] : List (List (List Int))).take i).map List.length).sum : Nat)) (fun t => t = (((a.length + b.length : Nat) : Int))) (s := 0) rfl (by
      rintro i s hi rfl
      left
      unfold F200_1_B
      match i, hi with
      | 0, _ => exact ⟨_, by rw [show ((0 : Nat) : Int) = ((0 : Nat) : Int) from rfl, getI_nat (l := [a, b]) (i := 0) (by simp), Option.bind_some, chk_ok (by simp <;> omega) (by simp <;> omega), Option.bind_some, if_neg (by simp <;> omega)], by simp⟩
      | 1, _ => exact ⟨_, by rw [getI_nat (l := [a, b]) (i := 1) (by simp), Option.bind_some, chk_ok (by simp <;> omega) (by simp <;> omega), Option.bind_some, if_neg (by simp <;> omega)], by simp⟩) (by
      rintro s rfl
      exact ⟨_, rfl, by simp⟩)
    rw [g1, g2]
  have h2 : forR 0 ((([a, b] : List (List (List Int))).length : Nat) : Int) (F200_2_B [a, b]) F200_2_D [] = some (a ++ b) := by
    obtain ⟨t, g1, g2⟩ := forR_inv (B := F200_2_B [a, b]) (D := F200_2_D) (hi := (([a, b] : List (List (List Int))).length : Int)) 2 rfl (by decide) (fun i s => s = (([a, b] : List (List (List Int))).take i).flatten) (fun t => t = a ++ b) (s := []) rfl (by
      rintro i s hi rfl
      left
      unfold F200_2_B
      match i, hi with
      | 0, _ => exact ⟨_, by rw [getI_nat (l := [a, b]) (i := 0) (by simp), Option.bind_some, app_ok (by simp; omega) (by simp; omega), Option.bind_some], by simp⟩
      | 1, _ => exact ⟨_, by rw [getI_nat (l := [a, b]) (i := 1) (by simp), Option.bind_some, app_ok (by simp; omega) (by simp; omega), Option.bind_some], by simp⟩) (by
      rintro s rfl
      exact ⟨_, rfl, by simp⟩)
    rw [g1, g2]
  rw [h1, Option.bind_some, if_pos (by omega), h2]
theorem coll_single {β : Type} (n : Nat) (h : Nat → β) : (coll n fun i => [h i]) = (List.range n).map h := by
  induction n with
  | zero => rfl
  | succ n ih => rw [coll_succ, ih, List.range_succ, List.map_append]; rfl
def tab6 (l : Nat) (g : Nat → Nat → Int) : List (List Int) := coll l fun n => [coll 6 fun q => [g n q]]
theorem tab6_eq {l : Nat} {g h : Nat → Nat → Int} : tab6 l g = tab6 l h ↔ ∀ n, n < l → ∀ q, q < 6 → g n q = h n q := by
  unfold tab6
  rw [coll_single l fun n => coll 6 fun q => [g n q], coll_single l fun n => coll 6 fun q => [h n q]]
  constructor
  · intro e n hn q hq
    have e1 := congrArg (fun t => (t.getD n []).getD q 0) e
    simp only [List.getD_eq_getElem?_getD, List.getElem?_map, List.getElem?_range hn, Option.map_some, Option.getD_some] at e1
    rw [coll_single 6 (g n), coll_single 6 (h n)] at e1
    simpa only [List.getElem?_map, List.getElem?_range hq, Option.map_some, Option.getD_some] using e1
  · intro e
    refine List.map_congr_left fun n hn => ?_
    have hn' := List.mem_range.1 hn
    exact coll_congr fun q hq => by rw [e n hn' q hq]
theorem tab6_len {l : Nat} {g : Nat → Nat → Int} : (tab6 l g).length = l := by unfold tab6; rw [coll_single l fun n => coll 6 fun q => [g n q]]; simp
theorem tab6_row {l n : Nat} {g : Nat → Nat → Int} (hn : n < l) : getI (tab6 l g) (n : Int) = some ((List.range 6).map (g n)) := by
  have e : tab6 l g = (List.range l).map fun n => coll 6 fun q => [g n q] := by unfold tab6; rw [coll_single l fun n => coll 6 fun q => [g n q]]
  rw [e, getI_nat (by simpa using hn), List.getElem_map, List.getElem_range, coll_single]
theorem tab6_rows {l : Nat} {g : Nat → Nat → Int} : ∀ r ∈ tab6 l g, r.length = 6 := fun r hr => by
  have e : tab6 l g = (List.range l).map fun n => coll 6 fun q => [g n q] := by unfold tab6; rw [coll_single l fun n => coll 6 fun q => [g n q]]
  rw [e] at hr
  obtain ⟨n, -, rfl⟩ := List.mem_map.1 hr
  rw [coll_single]; simp
theorem table_eq {x : GFiltered} (h : ValidF x) {f : Int → Int → Option Int} {g : Nat → Nat → Int} (hf : ∀ n q : Nat, n < x.Levels.length → q < 6 → f (n : Int) (q : Int) = some (g n q)) : F162 x f = some (tab6 x.Levels.length g) := by
  have hl := h.ll
  have hdl := h.vc.dl
  unfold F162
  rw [forR_coll (n := x.Levels.length) (fun (n : Nat) => [coll 6 fun (q : Nat) => [g n q]]) (by omega) (fun n => by simp) (by
    intro n s hn hsl
    unfold F162_1_B
    have e : forR 0 6 (F162_2_B x s (n : Int) f) (F162_2_D x s (n : Int) f) [] = some (coll 6 fun (q : Nat) => [g n q]) := by
      refine forR_coll (n := 6) _ (by omega) (fun n => by simp) (fun q s2 hq hs2 => ?_) fun i s => rfl
      unfold F162_2_B
      rw [hf n q hn hq, Option.bind_some, app_ok (by simp; omega) (by simp; omega), Option.bind_some]
    rw [e, Option.bind_some, app_ok (by simp; omega) (by simp; omega), Option.bind_some]) (by intro i s; rfl), Option.bind_some]
  rfl
theorem table_spec {x : GFiltered} (h : ValidF x) {r : Int} {g : Nat → Nat → Int} (hf : ∀ n q : Nat, n < x.Levels.length → q < 6 → F297 x r (n : Int) (q : Int) = some (g n q)) : F260 x r = some (tab6 x.Levels.length g) := by
  have hl := h.ll
  have hdl := h.vc.dl
  unfold F260
  rw [forR_coll (n := x.Levels.length) (fun (n : Nat) => [coll 6 fun (q : Nat) => [g n q]]) (by omega) (fun n => by simp) (by
    intro n s hn hsl
    unfold F260_1_B
    have e : loopW (F260_2_S x r s (n : Int)) ([], 0) = some (coll 6 fun (q : Nat) => [g n q]) := by
      refine loopW_coll (n := 6) _ (fun n => by simp) (fun q s2 hq hs2 => ?_) fun s2 => ?_
      · unfold F260_2_S
        simp only
        rw [if_pos (by omega), hf n q hn hq, Option.bind_some, app_ok (by simp; omega) (by simp; omega), Option.bind_some, chk_ok (by omega) (by omega), Option.bind_some]
      · unfold F260_2_S
        simp only
        rw [if_neg (by omega)]
    rw [e, Option.bind_some, app_ok (by simp; omega) (by simp; omega), Option.bind_some]) (by intro i s; rfl), Option.bind_some]
  rfl
theorem F165_t {a b : List Int} (ha : a.length ≤ 1000) : Tells (F165 a b) (a = b) := by
  unfold F165
  by_cases hl : (a.length : Int) = b.length
  case neg => rw [if_neg hl]; exact .of_false rfl fun e => hl (by rw [e])
  rw [if_pos hl]
  obtain ⟨t, h1, h2⟩ := all_for (B := F165_1_B a b) (D := F165_1_D a b) (fun i => nth a i = nth b i) (show a.length ≤ 1000000 by omega) (fun i hi => by
    unfold F165_1_B
    rw [getI_nat hi, Option.bind_some, getI_nat (show i < b.length by omega), Option.bind_some, nth_lt hi, nth_lt (show i < b.length by omega)]
    refine LTells.iff (LTells.ite fun e => .yes) (by simp)) fun i => rfl
  rw [h1, Option.bind_some]
  have hl' : a.length = b.length := by omega
  cases t with
  | true => exact .of_true rfl (nth_ext hl' fun i hi => h2.1 rfl i hi)
  | false => exact .of_false rfl fun e => (by have := h2.2 (fun i _ => (by rw [e])); cases this)
theorem F164_t {a b : List (List Int)} (ha : a.length ≤ 1000) (hr : ∀ r ∈ a, r.length ≤ 1000) : Tells (F164 a b fun x y => F165 x y) (a = b) := by
  unfold F164
  by_cases hl : (a.length : Int) = b.length
  case neg => rw [if_neg hl]; exact .of_false rfl fun e => hl (by rw [e])
  rw [if_pos hl]
  obtain ⟨t, h1, h2⟩ := all_for (B := F164_1_B a b fun x y => F165 x y) (D := F164_1_D a b fun x y => F165 x y) (fun i => a.getD i [] = b.getD i []) (show a.length ≤ 1000000 by omega) (fun i hi => by
    unfold F164_1_B
    rw [getI_getD hi [], Option.bind_some, getI_getD (show i < b.length by omega) [], Option.bind_some]
    refine LTells.iff ((F165_t (hr _ (getD_mem hi []))).then_L fun _ => .yes) (by simp)) fun i => rfl
  rw [h1, Option.bind_some]
  have hl' : a.length = b.length := by omega
  cases t with
  | true => exact .of_true rfl (getD_ext [] hl' fun i hi => h2.1 rfl i (by omega))
  | false => exact .of_false rfl fun e => (by have := h2.2 (fun i _ => (by rw [e])); cases this)
noncomputable def held (x : GFiltered) (n : Nat) (q : Int) : Int := (F331 x (n : Int) q).getD 0
theorem held_eq {x : GFiltered} (hs : SmallF x) (h : ValidF x) {n : Nat} (hn : n < x.Levels.length) {q : Int} (hq : -1 ≤ q ∧ q ≤ 5) : ∃ Z B W, F184 x 6 (n : Int) q = some Z ∧ F186 x.Complex (n : Int) = some B ∧ EchOf x.Complex.Prime (dm x n) (Z ++ B) W ∧ F331 x (n : Int) q = some (W.length : Int) ∧ F183 q x.Complex x (n : Int) = some (W.length : Int) ∧ W.length ≤ 8 ∧ held x n q = (W.length : Int) := by
  have hp := h.vc.p
  have hd := dm_eq h hn
  have hll := h.ll
  obtain ⟨Z, z1, -, z3⟩ := near_same hs h hn (r := 6) (q := q) (by omega) (by omega)
  obtain ⟨Z', y1, y2, y3⟩ := near_same hs h hn (r := 13) (q := q) (by omega) (by omega)
  have e : Z = Z' := near_far hs h hn (r := 6) (r' := 13) (by omega) (by omega) (by omega) (by omega) (by omega) z1 y1
  subst e
  obtain ⟨B, b1, b2, b3, -⟩ := bounds_full hs.c h.vc (n := n) (by omega)
  have hZl := red_len z3
  have hBl := red_len b3
  have hdd : dc x.Complex n = dm x n := rfl
  have hr : Rows x.Complex.Prime (dm x n) (Z ++ B) := fun r hr => by
    rcases List.mem_append.1 hr with q | q
    · exact z3.ok r q
    · exact b3.ok r q
  obtain ⟨W, w1, w2, w3⟩ := reduce_same hp hr (by omega) (by rw [List.length_append]; omega)
  have hWl := red_len w3.red
  have e1 : F331 x (n : Int) q = some (W.length : Int) := by
    unfold F331
    rw [y2, Option.bind_some, app_ok (by simp; omega) (by simp; omega), Option.bind_some, List.nil_append, b1, Option.bind_some, app_ok (by omega) (by omega), Option.bind_some, w1, Option.bind_some]
  refine ⟨Z, B, W, z1, b2, w3, e1, ?_, by omega, by unfold held; rw [e1]; rfl⟩
  unfold F183
  rw [z1, Option.bind_some, b2, Option.bind_some, concat2 (by omega) (by omega), Option.bind_some, w2, Option.bind_some]
noncomputable def limN (x : GFiltered) (n q : Nat) : Int := held x n (q : Int) - held x n ((q : Int) - 1)
theorem lim_eq {x : GFiltered} (hs : SmallF x) (h : ValidF x) {n q : Nat} (hn : n < x.Levels.length) (hq : q < 6) : F161 x (n : Int) (q : Int) = some (limN x n q) := by
  obtain ⟨Z, B, W, -, -, -, -, w1, w2, w3⟩ := held_eq hs h hn (q := (q : Int)) (by omega)
  obtain ⟨Z', B', W', -, -, -, -, y1, y2, y3⟩ := held_eq hs h hn (q := (q : Int) - 1) (by omega)
  unfold F161 limN
  rw [w1, Option.bind_some, chk_ok (by omega) (by omega), Option.bind_some, y1, Option.bind_some, chk_ok (by omega) (by omega), w3, y3]
noncomputable def numN (x : GFiltered) (r : Int) (n q : Nat) : Int := (F169 x r (n : Int) (q : Int)).getD 0
theorem six {x : GFiltered} (hs : SmallF x) (h : ValidF x) {n q : Nat} (hn : n < x.Levels.length) (hq : q < 6) : numN x 6 n q = limN x n q := by
  obtain ⟨Z, B, W, z1, b1, w0, -, w1, w2, w3⟩ := held_eq hs h hn (q := (q : Int)) (by omega)
  obtain ⟨Y, B', W', y0, b1', w0', -, y1, y2, y3⟩ := held_eq hs h hn (q := (q : Int) - 1) (by omega)
  rw [b1] at b1'
  cases b1'
  obtain ⟨T, t1, -, t3⟩ := bottom_same hs h hn (r := 6) (q := (q : Int)) (by omega) (by omega)
  have hd := dm_eq h hn
  have hTl := red_len t3
  have := page6 hs h hn (q := (q : Int)) (by omega) z1 y0 t1 b1 w0 w0'
  have e : F169 x 6 (n : Int) (q : Int) = some ((Z.length : Int) - (T.length : Int)) := by
    obtain ⟨Z2, q1, -, q3⟩ := near_same hs h hn (r := 6) (q := (q : Int)) (by omega) (by omega)
    rw [z1] at q1
    cases q1
    have hZl := red_len q3
    unfold F169
    rw [z1, Option.bind_some, t1, Option.bind_some, chk_ok (by omega) (by omega), Option.bind_some]
  unfold numN limN
  rw [e, w3, y3]
  show (Z.length : Int) - (T.length : Int) = _
  omega
def AllSame (x : GFiltered) (r : Int) : Prop := ∀ n, n < x.Levels.length → ∀ q, q < 6 → numN x r n q = limN x n q
theorem impl_step {x : GFiltered} (hs : SmallF x) (h : ValidF x) {r : Int} (hr : 0 ≤ r ∧ r ≤ 6) : ∃ b : Bool, F147_S x (tab6 x.Levels.length (limN x)) r = some (if b = true then .inr r else .inl (r + 1)) ∧ (b = true ↔ AllSame x r) := by
  have hl := h.ll
  have hdl := h.vc.dl
  have hsl := hs.l
  have e1 : (F162 x fun a b => F163 a b x r) = some (tab6 x.Levels.length (numN x r)) := table_eq h fun n q hn hq => by
    unfold F163
    rw [(number_same hs h hn (by omega) (by omega)).1, Option.bind_some]; rfl
  obtain ⟨b, b1, b2⟩ := F164_t (a := tab6 x.Levels.length (numN x r)) (b := tab6 x.Levels.length (limN x)) (by rw [tab6_len]; omega) fun l hl => by rw [tab6_rows l hl]; omega
  refine ⟨b, ?_, b2.trans tab6_eq⟩
  unfold F147_S
  rw [e1, Option.bind_some, b1, Option.bind_some]
  cases b with
  | true => rw [if_pos rfl, if_pos rfl]
  | false => rw [if_neg Bool.false_ne_true, if_neg Bool.false_ne_true, chk_ok (by omega) (by omega), Option.bind_some]
theorem spec_row {x : GFiltered} (hs : SmallF x) (h : ValidF x) {r : Int} {n : Nat} (hn : n < x.Levels.length) (s : Bool) : ∃ b : Bool, loopW (F325_3_S x (tab6 x.Levels.length (numN x r)) (n : Int)) (0, s) = some b ∧ (b = true ↔ s = true ∧ ∀ q, q < 6 → numN x r n q = limN x n q) := by
  obtain ⟨t, g1, g2⟩ := loopW_inv (S := F325_3_S x (tab6 x.Levels.length (numN x r)) (n : Int)) (fun s => (6 - s.1).toNat) (fun u => ∃ k : Nat, u.1 = k ∧ k ≤ 6 ∧ (u.2 = true ↔ s = true ∧ ∀ q, q < k → numN x r n q = limN x n q)) (fun t => t = true ↔ s = true ∧ ∀ q, q < 6 → numN x r n q = limN x n q) (s := (0, s)) ⟨0, rfl, by omega, by simp⟩ (by
    rintro ⟨q, same⟩ ⟨k, rfl, hk, hs'⟩
    simp only at hs'
    unfold F325_3_S
    simp only
    by_cases c : k < 6
    · left
      rw [if_pos (by omega)]
      cases same with
      | false =>
        rw [if_neg Bool.false_ne_true, chk_ok (by omega) (by omega), Option.bind_some]
        refine ⟨_, rfl, ⟨k + 1, by simp, by omega, ?_⟩, by simp only; omega⟩
        simp only [Bool.false_eq_true, false_iff] at hs' ⊢
        exact fun e => hs' ⟨e.1, fun q hq => e.2 q (by omega)⟩
      | true =>
        obtain ⟨Z, B, W, -, -, -, w0, w1, w2, w3⟩ := held_eq hs h hn (q := (k : Int)) (by omega)
        obtain ⟨Z', B', W', -, -, -, y0, y1, y2, y3⟩ := held_eq hs h hn (q := (k : Int) - 1) (by omega)
        rw [if_pos rfl, tab6_row hn, Option.bind_some, getI_nat (show k < ((List.range 6).map (numN x r n)).length by simpa using c), Option.bind_some, w0, Option.bind_some, chk_ok (by omega) (by omega), Option.bind_some, y0, Option.bind_some, chk_ok (by omega) (by omega), Option.bind_some, chk_ok (by omega) (by omega), Option.bind_some]
        refine ⟨_, rfl, ⟨k + 1, by simp, by omega, ?_⟩, by simp only; omega⟩
        have e : (W.length : Int) - (W'.length : Int) = limN x n k := by unfold limN; rw [w3, y3]
        rw [e]
        simp only [List.getElem_map, List.getElem_range, decide_eq_true_eq]
        simp only [true_iff] at hs'
        constructor
        · exact fun e => ⟨hs'.1, fun q hq => by
            by_cases c2 : q = k
            · subst c2; exact e
            · exact hs'.2 q (by omega)⟩
        · exact fun e => e.2 k (by omega)
    · right
      have : k = 6 := by omega
      subst this
      rw [if_neg (by omega)]
      exact ⟨_, rfl, hs'⟩)
  exact ⟨t, g1, g2⟩
theorem spec_step {x : GFiltered} (hs : SmallF x) (h : ValidF x) {r : Int} (hr : 0 ≤ r ∧ r ≤ 6) : ∃ b : Bool, F325_1_S x r = some (if b = true then .inr r else .inl (r + 1)) ∧ (b = true ↔ AllSame x r) := by
  have hl := h.ll
  have hdl := h.vc.dl
  have hsl := hs.l
  have e1 : F260 x r = some (tab6 x.Levels.length (numN x r)) := table_spec h fun n q hn hq => (number_same hs h hn (by omega) (by omega)).2
  obtain ⟨b, g1, g2⟩ := loopW_inv (S := F325_2_S x (tab6 x.Levels.length (numN x r))) (fun s => ((x.Levels.length : Int) - s.1).toNat) (fun u => ∃ k : Nat, u.1 = k ∧ k ≤ x.Levels.length ∧ (u.2 = true ↔ ∀ n, n < k → ∀ q, q < 6 → numN x r n q = limN x n q)) (fun t => t = true ↔ AllSame x r) (s := (0, true)) ⟨0, rfl, by omega, by simp⟩ (by
    rintro ⟨n, same⟩ ⟨k, rfl, hk, hs'⟩
    simp only at hs'
    unfold F325_2_S
    simp only
    rw [tab6_len]
    by_cases c : k < x.Levels.length
    · left
      obtain ⟨b, b1, b2⟩ := spec_row hs h (r := r) c same
      rw [if_pos (by omega), b1, Option.bind_some, chk_ok (by omega) (by omega), Option.bind_some]
      refine ⟨_, rfl, ⟨k + 1, by simp, by omega, ?_⟩, by simp only; omega⟩
      simp only
      rw [b2, hs']
      constructor
      · rintro ⟨e1, e2⟩ n hn
        by_cases c2 : n = k
        · subst c2; exact e2
        · exact e1 n (by omega)
      · exact fun e => ⟨fun n hn => e n (by omega), e k (by omega)⟩
    · right
      have : k = x.Levels.length := by omega
      subst this
      rw [if_neg (by omega)]
      exact ⟨_, rfl, hs'⟩)
  refine ⟨b, ?_, g2⟩
  unfold F325_1_S
  rw [e1, Option.bind_some, g1, Option.bind_some]
  cases b with
  | true => rw [if_pos rfl, if_pos rfl]
  | false => rw [if_neg Bool.false_ne_true, if_neg Bool.false_ne_true, chk_ok (by omega) (by omega), Option.bind_some]
theorem search {S : Int → Option (Int ⊕ Int)} {P : Int → Prop} (hS : ∀ r, 0 ≤ r ∧ r ≤ 6 → ∃ b : Bool, S r = some (if b = true then .inr r else .inl (r + 1)) ∧ (b = true ↔ P r)) (h6 : P 6) : ∃ t, loopW S 0 = some t ∧ (0 ≤ t ∧ t ≤ 6) ∧ P t ∧ ∀ u, 0 ≤ u → u < t → ¬ P u := by
  obtain ⟨t, g1, g2⟩ := loopW_inv (S := S) (fun s => (6 - s).toNat) (fun s => (0 ≤ s ∧ s ≤ 6) ∧ ∀ u, 0 ≤ u → u < s → ¬ P u) (fun t => (0 ≤ t ∧ t ≤ 6) ∧ P t ∧ ∀ u, 0 ≤ u → u < t → ¬ P u) (s := 0) ⟨by omega, fun u h1 h2 => by omega⟩ (by
    rintro s ⟨h1, h2⟩
    obtain ⟨b, b1, b2⟩ := hS s h1
    cases b with
    | true => right; exact ⟨s, by rw [b1, if_pos rfl], h1, b2.1 rfl, h2⟩
    | false =>
      left
      have hn : ¬ P s := fun q => by have := b2.2 q; cases this
      have : s ≠ 6 := fun e => hn (by rw [e]; exact h6)
      refine ⟨s + 1, by rw [b1, if_neg Bool.false_ne_true], ⟨by omega, fun u u1 u2 => ?_⟩, by omega⟩
      by_cases c : u = s
      · rw [c]; exact hn
      · exact h2 u u1 (by omega))
  exact ⟨t, g1, g2⟩
theorem last_same {x : GFiltered} (hs : SmallF x) : ∃ r c, F325 x = some ⟨r, c⟩ ∧ F147 x = some ⟨r, c⟩ := by
  obtain ⟨b, d1, d2, d3⟩ := (F38_tells hs).same (F41_tells hs)
  unfold F325 F147
  rw [d1, d2, Option.bind_some, Option.bind_some]
  cases b with
  | false =>
    rw [if_neg Bool.false_ne_true, if_neg Bool.false_ne_true]
    exact ⟨_, _, rfl, rfl⟩
  | true =>
    have h := d3.1 rfl
    have e1 : (F162 x fun a b => F161 x a b) = some (tab6 x.Levels.length (limN x)) := table_eq h fun n q hn hq => lim_eq hs h hn hq
    have h6 : AllSame x 6 := fun n hn q hq => six hs h hn hq
    obtain ⟨t, t1, t2, t3, t4⟩ := search (fun r hr => spec_step hs h hr) h6
    obtain ⟨u, u1, u2, u3, u4⟩ := search (fun r hr => impl_step hs h hr) h6
    have e : t = u := by
      rcases Int.lt_trichotomy t u with c | c | c
      · exact absurd t3 (u4 t t2.1 c)
      · exact c
      · exact absurd u3 (t4 u u2.1 c)
    subst e
    rw [if_pos rfl, if_pos rfl, t1, Option.bind_some, e1, Option.bind_some, u1, Option.bind_some]
    exact ⟨_, _, rfl, rfl⟩
theorem law13 {x : GFiltered} (hx : LongF x) : F338 x = some true := by
  unfold F338
  obtain ⟨z, a1, a2⟩ := F37_eq hx (s := 1048576) (by decide) (by decide)
  rw [a1, Option.bind_some]
  rcases a2 with a2 | ⟨a2, a3, hx'⟩
  · rw [if_pos a2]
  obtain ⟨r, c, s1, s2⟩ := last_same hx'
  rw [if_neg (by omega), F40_eq hx', Option.bind_some, s1, s2, Option.bind_some, Option.bind_some, if_pos rfl, if_pos rfl, F25_same hx', Option.bind_some, if_pos rfl]
end Rv
