/- The plain law: what the typed functions answer -/
import Derived.Test.YthdaojcekpelgaaFfs1
/- Plain laws. -/
namespace Rv
set_option linter.unusedVariables false
set_option linter.unusedSimpArgs false
set_option maxRecDepth 10000

theorem forI_inv {σ τ : Type} {B : Int → σ → Option (σ ⊕ τ)} {D : Int → σ → Option τ} (Inv : Nat → σ → Prop) (Q : τ → Prop) (n : Nat) :
    ∀ (k i : Nat) (s : σ), i + k = n → Inv i s → (∀ i s, i < n → Inv i s → (∃ s', B i s = some (.inl s') ∧ Inv (i + 1) s') ∨ ∃ t, B i s = some (.inr t) ∧ Q t) → (∀ s, Inv n s → ∃ t, D n s = some t ∧ Q t) → ∃ t, forI B D k i s = some t ∧ Q t := by
  intro k
  induction k with
  | zero =>
    intro i s hk hI hb hd
    have : i = n := by omega
    subst this
    exact hd s hI
  | succ k ih =>
    intro i s hk hI hb hd
    simp only [forI]
    rcases hb i s (by omega) hI with ⟨s', h1, h2⟩ | ⟨t, h1, h2⟩
    · rw [h1]
      have := ih (i + 1) s' (by omega) h2 hb hd
      simpa using this
    · rw [h1]; exact ⟨t, rfl, h2⟩
/-- A loop from 0 up to n. -/
theorem forR_inv {σ τ : Type} {B : Int → σ → Option (σ ⊕ τ)} {D : Int → σ → Option τ} {hi : Int} (n : Nat) (hn : hi = n) (hs : n < 4611686018427387904) (Inv : Nat → σ → Prop) (Q : τ → Prop) {s : σ} (h0 : Inv 0 s)
    (hb : ∀ (i : Nat) s, i < n → Inv i s → (∃ s', B i s = some (.inl s') ∧ Inv (i + 1) s') ∨ ∃ t, B i s = some (.inr t) ∧ Q t) (hd : ∀ s, Inv n s → ∃ t, D n s = some t ∧ Q t) : ∃ t, forR 0 hi B D s = some t ∧ Q t := by
  subst hn
  unfold forR
  rw [if_pos (by omega)]
  have e : ((n : Int) - 0).toNat = n := by omega
  rw [e]
  exact forI_inv Inv Q n n 0 s (by omega) h0 hb hd
/-- A loop from a number up to n. -/
theorem forR_from {σ τ : Type} {B : Int → σ → Option (σ ⊕ τ)} {D : Int → σ → Option τ} {lo hi : Int} (l n : Nat) (hl : lo = l) (hn : hi = n) (hln : l ≤ n) (hs : n < 4611686018427387904) (Inv : Nat → σ → Prop) (Q : τ → Prop) {s : σ} (h0 : Inv l s)
    (hb : ∀ (i : Nat) s, i < n → Inv i s → (∃ s', B i s = some (.inl s') ∧ Inv (i + 1) s') ∨ ∃ t, B i s = some (.inr t) ∧ Q t) (hd : ∀ s, Inv n s → ∃ t, D n s = some t ∧ Q t) : ∃ t, forR lo hi B D s = some t ∧ Q t := by
  subst hn; subst hl
  unfold forR
  rw [if_pos (by omega)]
  have e : ((n : Int) - (l : Int)).toNat = n - l := by omega
  rw [e]
  exact forI_inv Inv Q n (n - l) l s (by omega) h0 hb hd
/-- A loop with a number of rounds left at most. -/
theorem loopW_inv {σ τ : Type} {S : σ → Option (σ ⊕ τ)} (μ : σ → Nat) (Inv : σ → Prop) (Q : τ → Prop) {s : σ} (h0 : Inv s)
    (hb : ∀ s, Inv s → (∃ s', S s = some (.inl s') ∧ Inv s' ∧ μ s' < μ s) ∨ ∃ t, S s = some (.inr t) ∧ Q t) : ∃ t, loopW S s = some t ∧ Q t := by
  suffices ∀ k s, μ s ≤ k → Inv s → ∃ t, loopW S s = some t ∧ Q t from this _ s (Nat.le_refl _) h0
  intro k
  induction k with
  | zero =>
    intro s hk hI
    rcases hb s hI with ⟨s', h1, h2, h3⟩ | ⟨t, h1, h2⟩
    · omega
    · exact ⟨t, loopW_eq.2 (.inr h1), h2⟩
  | succ k ih =>
    intro s hk hI
    rcases hb s hI with ⟨s', h1, h2, h3⟩ | ⟨t, h1, h2⟩
    · obtain ⟨t, h4, h5⟩ := ih s' (by omega) h2
      exact ⟨t, loopW_eq.2 (.inl ⟨s', h1, h4⟩), h5⟩
    · exact ⟨t, loopW_eq.2 (.inr h1), h2⟩
theorem getI_nat {α : Type} {l : List α} {i : Nat} (h : i < l.length) : getI l (i : Int) = some l[i] := by
  unfold getI
  rw [if_pos (by omega)]
  simp [h]
theorem getI_getD {α : Type} {l : List α} {i : Nat} (h : i < l.length) (d : α) : getI l (i : Int) = some (l.getD i d) := by
  rw [getI_nat h]; simp [h]
theorem chk_ok {n : Int} (h0 : -9223372036854775808 ≤ n) (h1 : n < 9223372036854775808) : chk n = some n := by
  unfold chk; rw [if_pos ⟨h0, h1⟩]
theorem setI_nat {α : Type} {l : List α} {i : Nat} (h : i < l.length) (y : α) : setI l (i : Int) y = some (l.set i y) := by
  unfold setI
  rw [if_pos (by omega), Int.toNat_natCast]
theorem remI_ok {a b : Int} (h : b ≠ 0) : remI a b = some (a.tmod b) := by unfold remI; rw [if_neg h]
theorem mkL_ok {α : Type} {b : Nat} {n : Int} {z : α} (k : Nat) (hn : n = k) (h : k * b ≤ 1099511627776) (h2 : k ≤ 1099511627776) : mkL b n z = some (List.replicate k z) := by
  subst hn
  unfold mkL
  rw [if_pos ⟨by omega, by omega, by omega⟩, Int.toNat_natCast]
theorem app_ok {α : Type} {b : Nat} {l l' : List α} (h : (l.length + l'.length) * b ≤ 1099511627776) (h2 : l.length + l'.length ≤ 1099511627776) : app b l l' = some (l ++ l') := by
  unfold app; rw [if_pos ⟨h, h2⟩]
/-- What a test answers. -/
def Tells (o : Option Bool) (P : Prop) : Prop := ∃ b, o = some b ∧ (b = true ↔ P)
theorem Tells.of_true {o : Option Bool} {P : Prop} (h : o = some true) (p : P) : Tells o P := ⟨true, h, by simp [p]⟩
theorem Tells.of_false {o : Option Bool} {P : Prop} (h : o = some false) (p : ¬ P) : Tells o P := ⟨false, h, by simp [p]⟩
theorem Tells.same {o o' : Option Bool} {P : Prop} (h : Tells o P) (h' : Tells o' P) : ∃ b, o = some b ∧ o' = some b ∧ (b = true ↔ P) := by
  obtain ⟨b, h1, h2⟩ := h
  obtain ⟨b', h3, h4⟩ := h'
  have : b = b' := by rw [Bool.eq_iff_iff]; exact h2.trans h4.symm
  exact ⟨b, h1, by rw [this]; exact h3, h2⟩
theorem Tells.case {o : Option Bool} {P : Prop} (h : Tells o P) : (o = some true ∧ P) ∨ (o = some false ∧ ¬ P) := by
  obtain ⟨b, h1, h2⟩ := h
  cases b with
  | true => exact .inl ⟨h1, h2.1 rfl⟩
  | false => exact .inr ⟨h1, fun p => by have := h2.2 p; cases this⟩
def IsP (p : Int) : Prop := p = 2 ∨ p = 3 ∨ p = 5 ∨ p = 7
theorem IsP.range {p : Int} (h : IsP p) : 2 ≤ p ∧ p ≤ 7 := by unfold IsP at h; omega
def RowOK (p w : Int) (row : List Int) : Prop := (row.length : Int) = w ∧ ∀ x ∈ row, 0 ≤ x ∧ x < p
def TableOK (p c w : Int) (m : List (List Int)) : Prop := (m.length : Int) = c ∧ ∀ row ∈ m, RowOK p w row
theorem F54_eq (n lo hi : Int) : F54 n lo hi = some (decide (lo ≤ n ∧ n ≤ hi)) := by
  unfold F54; by_cases h : lo ≤ n <;> simp [h]
theorem F56_eq (n lo hi : Int) : F56 n lo hi = some (decide (lo ≤ n ∧ n ≤ hi)) := by
  unfold F56; by_cases h : lo ≤ n <;> simp [h]
theorem F78_tells (p : Int) : Tells (F78 p) (IsP p) := by
  unfold F78 IsP
  split
  · exact .of_true rfl (by omega)
  split
  · exact .of_true rfl (by omega)
  split
  · exact .of_true rfl (by omega)
  · exact ⟨_, rfl, by simp; omega⟩
theorem F67_tells (p : Int) : Tells (F67 p) (IsP p) := by
  unfold F67 IsP
  split
  · exact .of_true rfl (by omega)
  split
  · exact .of_true rfl (by omega)
  split
  · exact .of_true rfl (by omega)
  · exact ⟨_, rfl, by simp; omega⟩
theorem F79_2 {p w : Int} {m : List (List Int)} (hp : 2 ≤ p ∧ p ≤ 7) {i : Nat} (hi : i < m.length) (hs : m[i].length ≤ 1099511627776) :
    ∃ t, loopW (F79_2_S p m w i) 0 = some t ∧ ((t = .inl () ∧ ∀ x ∈ m[i], 0 ≤ x ∧ x < p) ∨ (t = .inr false ∧ ¬ ∀ x ∈ m[i], 0 ≤ x ∧ x < p)) := by
  refine loopW_inv (fun j : Int => (m[i].length - j).toNat) (fun j => ∃ n : Nat, j = n ∧ n ≤ m[i].length ∧ ∀ k (hk : k < n) (h2 : k < m[i].length), 0 ≤ m[i][k] ∧ m[i][k] < p) _ ⟨0, rfl, by omega, fun k hk => by omega⟩ ?_
  rintro _ ⟨n, rfl, hn, hall⟩
  unfold F79_2_S
  simp only [getI_nat hi, Option.bind_some]
  by_cases hlt : (n : Int) < m[i].length
  · have hnl : n < m[i].length := by omega
    simp only [if_pos hlt, getI_nat hnl, Option.bind_some, chk_ok (show (-9223372036854775808 : Int) ≤ p - 1 by omega) (show p - 1 < 9223372036854775808 by omega), F54_eq]
    by_cases hx : 0 ≤ m[i][n] ∧ m[i][n] ≤ p - 1
    · left
      refine ⟨n + 1, ?_, ⟨n + 1, rfl, hnl, fun k hk h2 => ?_⟩, by omega⟩
      · simp only [hx, and_self, decide_true, if_true, chk_ok (show (-9223372036854775808 : Int) ≤ (n : Int) + 1 by omega) (show (n : Int) + 1 < 9223372036854775808 by omega), Option.bind_some]
      · by_cases e : k = n
        · subst e; omega
        · exact hall k (by omega) h2
    · right
      refine ⟨.inr false, ?_, .inr ⟨rfl, fun ha => hx ?_⟩⟩
      · simp [hx]
      · have := ha _ (List.getElem_mem hnl); omega
  · right
    refine ⟨.inl (), by simp only [if_neg hlt], .inl ⟨rfl, fun x hx => ?_⟩⟩
    obtain ⟨k, hk, rfl⟩ := List.getElem_of_mem hx
    exact hall k (by omega) hk
theorem F79_tells {p c w : Int} {m : List (List Int)} (hp : 2 ≤ p ∧ p ≤ 7) (hm : m.length ≤ 1099511627776) (hs : ∀ r ∈ m, r.length ≤ 1099511627776) : Tells (F79 p m c w) (TableOK p c w m) := by
  unfold F79
  by_cases hc : (m.length : Int) = c
  case neg => rw [if_neg hc]; exact .of_false rfl fun h => hc h.1
  rw [if_pos hc]
  obtain ⟨t, h1, h2⟩ := forR_inv (B := F79_1_B p m w) (D := F79_1_D p m w) (hi := m.length) m.length rfl (by omega) (fun i _ => ∀ k (hk : k < i) (h2 : k < m.length), RowOK p w m[k]) (fun t => (t = .inl () ∧ ∀ r ∈ m, RowOK p w r) ∨ (t = .inr false ∧ ¬ ∀ r ∈ m, RowOK p w r)) (s := ()) (fun k hk => by omega) (fun i _ hi hI => by
    unfold F79_1_B
    simp only [getI_nat hi, Option.bind_some]
    by_cases hw : (m[i].length : Int) = w
    · rw [if_pos hw]
      obtain ⟨t, h1, h2⟩ := F79_2 (w := w) hp hi (hs _ (List.getElem_mem hi))
      rw [h1]
      rcases h2 with ⟨rfl, h2⟩ | ⟨rfl, h2⟩
      · left
        refine ⟨(), rfl, fun k hk h3 => ?_⟩
        by_cases e : k = i
        · subst e; exact ⟨hw, h2⟩
        · exact hI k (by omega) h3
      · right
        exact ⟨_, rfl, .inr ⟨rfl, fun ha => h2 (ha _ (List.getElem_mem hi)).2⟩⟩
    · rw [if_neg hw]
      right
      exact ⟨_, rfl, .inr ⟨rfl, fun ha => hw (ha _ (List.getElem_mem hi)).1⟩⟩) (fun _ hI => ⟨.inl (), rfl, .inl ⟨rfl, fun r hr => by
        obtain ⟨k, hk, rfl⟩ := List.getElem_of_mem hr
        exact hI k hk hk⟩⟩)
  rw [h1]
  rcases h2 with ⟨rfl, h2⟩ | ⟨rfl, h2⟩
  · exact .of_true rfl ⟨hc, h2⟩
  · exact .of_false rfl fun h => h2 h.2
def addRow (p x : Int) (out row : List Int) : List Int := List.zipWith (fun o y => (o + x * y).tmod p) out row
/-- The numbers of v times rows, the first i of them. -/
def linN (p : Int) (n : Nat) (v : List Int) (m : List (List Int)) : Nat → List Int
  | 0 => List.replicate n 0
  | i + 1 => addRow p (v.getD i 0) (linN p n v m i) (m.getD i [])
/-- The sum of the numbers of v times rows of n numbers. -/
def lin (p : Int) (n : Nat) (v : List Int) (m : List (List Int)) : List Int := linN p n v m v.length
structure LinOK (p : Int) (n : Nat) (v : List Int) (m : List (List Int)) : Prop where
  hp : 2 ≤ p ∧ p ≤ 7
  hv : ∀ x ∈ v, 0 ≤ x ∧ x < p
  hl : v.length ≤ m.length
  hr : ∀ l ∈ m, l.length = n ∧ ∀ y ∈ l, 0 ≤ y ∧ y < p
  hn : n ≤ 1048576
  hvl : v.length ≤ 1048576
theorem small_mul {p x y o : Int} (hp : 2 ≤ p ∧ p ≤ 7) (hx : 0 ≤ x ∧ x < p) (hy : 0 ≤ y ∧ y < p) (ho : 0 ≤ o ∧ o < p) :
    chk (x * y) = some (x * y) ∧ chk (o + x * y) = some (o + x * y) ∧ 0 ≤ (o + x * y).tmod p ∧ (o + x * y).tmod p < p := by
  have h1 : 0 ≤ x * y := Int.mul_nonneg hx.1 hy.1
  have h2 : x * y ≤ 6 * 6 := Int.mul_le_mul (by omega) (by omega) hy.1 (by omega)
  exact ⟨chk_ok (by omega) (by omega), chk_ok (by omega) (by omega), Int.tmod_nonneg _ (by omega), Int.tmod_lt_of_pos _ (by omega)⟩
theorem addRow_len {p x : Int} {out row : List Int} (h : row.length = out.length) : (addRow p x out row).length = out.length := by simp [addRow, h]
theorem addRow_ok {p x : Int} (hp : 2 ≤ p ∧ p ≤ 7) (hx : 0 ≤ x ∧ x < p) {out row : List Int} (ho : ∀ o ∈ out, 0 ≤ o ∧ o < p) (hy : ∀ y ∈ row, 0 ≤ y ∧ y < p) : ∀ o ∈ addRow p x out row, 0 ≤ o ∧ o < p := by
  intro o hm
  unfold addRow at hm
  obtain ⟨i, hi, rfl⟩ := List.getElem_of_mem hm
  simp at hi ⊢
  exact (small_mul hp hx (hy _ (List.getElem_mem (by omega))) (ho _ (List.getElem_mem (by omega)))).2.2
theorem linN_ok {p : Int} {n : Nat} {v : List Int} {m : List (List Int)} (H : LinOK p n v m) : ∀ i, i ≤ v.length → (linN p n v m i).length = n ∧ ∀ o ∈ linN p n v m i, 0 ≤ o ∧ o < p := by
  intro i
  induction i with
  | zero => intro _; refine ⟨by simp [linN], fun o ho => ?_⟩; simp [linN] at ho; obtain ⟨_, rfl⟩ := ho; have := H.hp; omega
  | succ i ih =>
    intro hi
    obtain ⟨h1, h2⟩ := ih (by omega)
    have e1 : v.getD i 0 = v[i] := by simp [show i < v.length by omega]
    have hm : i < m.length := by have := H.hl; omega
    have e2 : m.getD i [] = m[i] := by simp [hm]
    have hr := H.hr _ (List.getElem_mem hm)
    simp only [linN, e1, e2]
    exact ⟨by rw [addRow_len (by rw [hr.1, h1]), h1], addRow_ok H.hp (H.hv _ (List.getElem_mem _)) h2 hr.2⟩
/-- A row under way: the first k numbers are new. -/
def upTo (p x : Int) (out row : List Int) (k : Nat) : List Int := (addRow p x out row).take k ++ out.drop k
theorem upTo_len {p x : Int} {out row : List Int} (h : row.length = out.length) (k : Nat) (hk : k ≤ out.length) : (upTo p x out row k).length = out.length := by
  simp [upTo, addRow_len h]; omega
theorem upTo_at {p x : Int} {out row : List Int} (h : row.length = out.length) {k : Nat} (hk : k < out.length) (h2 : k < (upTo p x out row k).length) : (upTo p x out row k)[k] = out[k] := by
  have e : (upTo p x out row k)[k]? = some out[k] := by
    unfold upTo
    rw [List.getElem?_append_right (by simp [addRow_len h]; omega)]
    simp [addRow_len h, Nat.min_eq_left (Nat.le_of_lt hk), hk]
  rw [List.getElem?_eq_getElem h2] at e
  exact Option.some.inj e
theorem upTo_set {p x : Int} {out row : List Int} (h : row.length = out.length) {k : Nat} (hk : k < out.length) :
    (upTo p x out row k).set k ((out[k] + x * (row[k]'(by omega))).tmod p) = upTo p x out row (k + 1) := by
  have hl := addRow_len (p := p) (x := x) h
  unfold upTo
  rw [List.set_append_right _ _ (by simp [hl]; omega), List.take_succ_eq_append_getElem (by omega : k < (addRow p x out row).length)]
  have e1 : ((addRow p x out row).take k).length = k := by simp [hl]; omega
  rw [e1, Nat.sub_self]
  simp [addRow]
  rw [List.drop_eq_getElem_cons hk]
  rfl
theorem upTo_zero {p x : Int} {out row : List Int} : upTo p x out row 0 = out := by simp [upTo]
theorem upTo_all {p x : Int} {out row : List Int} (h : row.length = out.length) : upTo p x out row out.length = addRow p x out row := by
  have hl := addRow_len (p := p) (x := x) h
  unfold upTo
  rw [List.take_of_length_le (by omega), List.drop_of_length_le (by omega), List.append_nil]
theorem F80_eq {p : Int} {n : Nat} {v : List Int} {m : List (List Int)} (H : LinOK p n v m) {w : Int} (hw : w = n) : F80 p m v w = some (lin p n v m) := by
  have hn := H.hn
  have hvl := H.hvl
  have hlm := H.hl
  unfold F80
  rw [mkL_ok n hw (by omega) (by omega), Option.bind_some]
  obtain ⟨t, h1, rfl⟩ := forR_inv (B := F80_1_B p m v) (D := F80_1_D p m v) (hi := v.length) v.length rfl (by omega) (fun i s => s = linN p n v m i) (fun t => t = lin p n v m) (s := List.replicate n 0) rfl (fun i s hi hI => by
    subst hI
    left
    obtain ⟨q1, q2⟩ := linN_ok H i (by omega)
    have hm : i < m.length := by omega
    obtain ⟨r1, r2⟩ := H.hr _ (List.getElem_mem hm)
    have hx := H.hv _ (List.getElem_mem hi)
    have e1 : v.getD i 0 = v[i] := by simp [hi]
    have e2 : m.getD i [] = m[i] := by simp [hm]
    refine ⟨_, ?_, rfl⟩
    unfold F80_1_B
    have hlen : m[i].length = (linN p n v m i).length := by omega
    obtain ⟨t, h1, rfl⟩ := loopW_inv (S := F80_2_S p m v i) (fun s => (n - s.2).toNat) (fun s => ∃ k : Nat, k ≤ n ∧ s = (upTo p v[i] (linN p n v m i) m[i] k, (k : Int))) (fun t => t = linN p n v m (i + 1)) (s := (linN p n v m i, 0)) ⟨0, by omega, by rw [upTo_zero]; rfl⟩ (by
      rintro _ ⟨k, hk, rfl⟩
      unfold F80_2_S
      have hul := upTo_len (p := p) (x := v[i]) hlen k (by omega)
      simp only
      by_cases hlt : (k : Int) < (upTo p v[i] (linN p n v m i) m[i] k).length
      · rw [if_pos hlt]
        have hk1 : k < (upTo p v[i] (linN p n v m i) m[i] k).length := by omega
        have hk2 : k < (linN p n v m i).length := by omega
        have hk3 : k < m[i].length := by omega
        obtain ⟨s1, s2, s3, s4⟩ := small_mul H.hp hx (r2 _ (List.getElem_mem hk3)) (q2 _ (List.getElem_mem hk2))
        have hp0 : p ≠ 0 := by have := H.hp; omega
        left
        refine ⟨(upTo p v[i] (linN p n v m i) m[i] (k + 1), ((k + 1 : Nat) : Int)), ?_, ⟨k + 1, by omega, rfl⟩, by simp only; omega⟩
        simp only [getI_nat hk1, upTo_at hlen hk2 hk1, getI_nat hi, getI_nat hm, getI_nat hk3, Option.bind_some, s1, s2, remI_ok hp0, setI_nat hk1, upTo_set hlen hk2, chk_ok (show (-9223372036854775808 : Int) ≤ (k : Int) + 1 by omega) (show (k : Int) + 1 < 9223372036854775808 by omega)]
        rfl
      · rw [if_neg hlt]
        right
        have hkn : k = (linN p n v m i).length := by omega
        refine ⟨_, rfl, ?_⟩
        rw [hkn, upTo_all hlen]
        simp only [linN, e1, e2])
    rw [h1]
    rfl) (fun s hI => ⟨_, rfl, hI⟩)
  rw [h1]
  rfl
theorem F119_2_eq {p : Int} {n : Nat} {v : List Int} {m : List (List Int)} (H : LinOK p n v m) {i : Nat} (hi : i < v.length) (hm : i < m.length) :
    forR 0 (m[i].length : Int) (F119_2_B p v m i v[i] m[i]) (F119_2_D p v m i v[i] m[i]) (linN p n v m i) = some (linN p n v m (i + 1)) := by
  have hn := H.hn
  obtain ⟨q1, q2⟩ := linN_ok H i (by omega)
  obtain ⟨r1, r2⟩ := H.hr _ (List.getElem_mem hm)
  have hx := H.hv _ (List.getElem_mem hi)
  have e1 : v.getD i 0 = v[i] := by simp [hi]
  have e2 : m.getD i [] = m[i] := by simp [hm]
  have hlen : m[i].length = (linN p n v m i).length := by omega
  have hp0 : p ≠ 0 := by have := H.hp; omega
  obtain ⟨t, h1, rfl⟩ := forR_inv (B := F119_2_B p v m i v[i] m[i]) (D := F119_2_D p v m i v[i] m[i]) (hi := m[i].length) m[i].length rfl (by omega) (fun k s => s = upTo p v[i] (linN p n v m i) m[i] k) (fun t => t = linN p n v m (i + 1)) (s := linN p n v m i) upTo_zero.symm (by
    intro k s hk hI
    subst hI
    left
    have hul := upTo_len (p := p) (x := v[i]) hlen k (by omega)
    have hk1 : k < (upTo p v[i] (linN p n v m i) m[i] k).length := by omega
    have hk2 : k < (linN p n v m i).length := by omega
    obtain ⟨s1, s2, s3, s4⟩ := small_mul H.hp hx (r2 _ (List.getElem_mem hk)) (q2 _ (List.getElem_mem hk2))
    refine ⟨_, ?_, rfl⟩
    unfold F119_2_B
    simp only [getI_nat hk, getI_nat hk1, upTo_at hlen hk2 hk1, Option.bind_some, s1, s2, remI_ok hp0, setI_nat hk1, upTo_set hlen hk2]) (by
    intro s hI
    refine ⟨s, rfl, ?_⟩
    rw [hI, hlen, upTo_all hlen]
    simp only [linN, e1, e2])
  exact h1
theorem F119_1_eq {p : Int} {n : Nat} {v : List Int} {m : List (List Int)} (H : LinOK p n v m) (i : Nat) (hi : i < v.length) : F119_1_B p v m (i : Int) (linN p n v m i) = some (.inl (linN p n v m (i + 1))) := by
  have hlm := H.hl
  have hm : i < m.length := by omega
  unfold F119_1_B
  rw [getI_nat hi, Option.bind_some, getI_nat hm, Option.bind_some, F119_2_eq H hi hm, Option.bind_some]
theorem F119_eq {p : Int} {n : Nat} {v : List Int} {m : List (List Int)} (H : LinOK p n v m) {w : Int} (hw : w = n) : F119 p w v m = some (lin p n v m) := by
  have hn := H.hn
  have hvl := H.hvl
  have hs : v.length < 4611686018427387904 := by omega
  unfold F119
  rw [mkL_ok n hw (by omega) (by omega), Option.bind_some]
  obtain ⟨t, h1, rfl⟩ := forR_inv (B := F119_1_B p v m) (D := F119_1_D p v m) (hi := v.length) v.length rfl hs (fun i s => s = linN p n v m i) (fun t => t = lin p n v m) (s := List.replicate n 0) rfl (by
    intro i s hi hI
    subst hI
    left
    exact ⟨_, F119_1_eq H i hi, rfl⟩) (fun s hI => ⟨s, by unfold F119_1_D; rfl, hI⟩)
  rw [h1, Option.bind_some]
theorem F115_eq {l : List Int} {f : Int → Option Bool} (P : Int → Bool) (hl : l.length ≤ 1099511627776) (hf : ∀ x ∈ l, f x = some (P x)) : ∃ i : Int, F115 l f = some i ∧ (0 ≤ i ↔ ∃ x ∈ l, P x = true) := by
  unfold F115
  have hs : l.length < 4611686018427387904 := by omega
  obtain ⟨t, h1, h2⟩ := forR_inv (B := F115_1_B l f) (D := F115_1_D l f) (hi := l.length) l.length rfl hs (fun i _ => ∀ k (hk : k < i) (h2 : k < l.length), P l[k] = false) (fun t => (t = .inl () ∧ ∀ x ∈ l, P x = false) ∨ ∃ i : Nat, t = .inr (i : Int) ∧ ∃ x ∈ l, P x = true) (s := ()) (fun k hk => by omega) (by
    intro i _ hi hI
    unfold F115_1_B
    rw [getI_nat hi, Option.bind_some, hf _ (List.getElem_mem hi), Option.bind_some]
    cases hp : P l[i] with
    | true => right; exact ⟨_, rfl, .inr ⟨i, rfl, _, List.getElem_mem hi, hp⟩⟩
    | false =>
      left
      refine ⟨(), rfl, fun k hk h2 => ?_⟩
      by_cases e : k = i
      · subst e; exact hp
      · exact hI k (by omega) h2) (by
    intro _ hI
    refine ⟨.inl (), rfl, .inl ⟨rfl, fun x hx => ?_⟩⟩
    obtain ⟨k, hk, rfl⟩ := List.getElem_of_mem hx
    exact hI k hk hk)
  rw [h1]
  rcases h2 with ⟨rfl, h2⟩ | ⟨i, rfl, h2⟩
  · exact ⟨-1, rfl, ⟨fun h => by omega, fun ⟨x, hx, hp⟩ => by rw [h2 x hx] at hp; cases hp⟩⟩
  · exact ⟨i, rfl, ⟨fun _ => h2, fun _ => Int.natCast_nonneg i⟩⟩
theorem F82_eq {l : List Int} {f : Int → Option Bool} (P : Int → Bool) (hl : l.length ≤ 1099511627776) (hf : ∀ x ∈ l, f x = some (P x)) : F82 l f = some (l.any P) := by
  obtain ⟨i, h1, h2⟩ := F115_eq P hl hf
  unfold F82
  rw [h1, Option.bind_some]
  have : decide (0 ≤ i) = l.any P := by
    rw [Bool.eq_iff_iff]
    simp only [decide_eq_true_eq, List.any_eq_true]
    exact h2
  rw [this]
theorem F128_eq {l : List (List Int)} {f : List Int → Option Bool} (P : List Int → Bool) (hl : l.length ≤ 1099511627776) (hf : ∀ x ∈ l, f x = some (P x)) : ∃ i : Int, F128 l f = some i ∧ (0 ≤ i ↔ ∃ x ∈ l, P x = true) := by
  unfold F128
  have hs : l.length < 4611686018427387904 := by omega
  obtain ⟨t, h1, h2⟩ := forR_inv (B := F128_1_B l f) (D := F128_1_D l f) (hi := l.length) l.length rfl hs (fun i _ => ∀ k (hk : k < i) (h2 : k < l.length), P l[k] = false) (fun t => (t = .inl () ∧ ∀ x ∈ l, P x = false) ∨ ∃ i : Nat, t = .inr (i : Int) ∧ ∃ x ∈ l, P x = true) (s := ()) (fun k hk => by omega) (by
    intro i _ hi hI
    unfold F128_1_B
    rw [getI_nat hi, Option.bind_some, hf _ (List.getElem_mem hi), Option.bind_some]
    cases hp : P l[i] with
    | true => right; exact ⟨_, rfl, .inr ⟨i, rfl, _, List.getElem_mem hi, hp⟩⟩
    | false =>
      left
      refine ⟨(), rfl, fun k hk h2 => ?_⟩
      by_cases e : k = i
      · subst e; exact hp
      · exact hI k (by omega) h2) (by
    intro _ hI
    refine ⟨.inl (), rfl, .inl ⟨rfl, fun x hx => ?_⟩⟩
    obtain ⟨k, hk, rfl⟩ := List.getElem_of_mem hx
    exact hI k hk hk)
  rw [h1]
  rcases h2 with ⟨rfl, h2⟩ | ⟨i, rfl, h2⟩
  · exact ⟨-1, rfl, ⟨fun h => by omega, fun ⟨x, hx, hp⟩ => by rw [h2 x hx] at hp; cases hp⟩⟩
  · exact ⟨i, rfl, ⟨fun _ => h2, fun _ => Int.natCast_nonneg i⟩⟩
theorem F117_eq {l : List (List Int)} {f : List Int → Option Bool} (P : List Int → Bool) (hl : l.length ≤ 1099511627776) (hf : ∀ x ∈ l, f x = some (P x)) : F117 l f = some (l.any P) := by
  obtain ⟨i, h1, h2⟩ := F128_eq P hl hf
  unfold F117
  rw [h1, Option.bind_some]
  have : decide (0 ≤ i) = l.any P := by
    rw [Bool.eq_iff_iff]
    simp only [decide_eq_true_eq, List.any_eq_true]
    exact h2
  rw [this]
def rowB (p w : Int) (row : List Int) : Bool := decide ((row.length : Int) = w) && row.all fun x => decide (0 ≤ x ∧ x < p)
theorem rowB_iff {p w : Int} {row : List Int} : rowB p w row = true ↔ RowOK p w row := by
  unfold rowB RowOK
  simp only [Bool.and_eq_true, decide_eq_true_eq, List.all_eq_true]
theorem F130_eq {p : Int} (hp : 2 ≤ p ∧ p ≤ 7) (x : Int) : F130 x p = some (!decide (0 ≤ x ∧ x < p)) := by
  unfold F130
  rw [chk_ok (by omega) (by omega), Option.bind_some, F56_eq, Option.bind_some]
  congr 3
  exact propext ⟨fun h => ⟨h.1, by omega⟩, fun h => ⟨h.1, by omega⟩⟩
theorem F129_eq {p w : Int} (hp : 2 ≤ p ∧ p ≤ 7) {l : List Int} (hl : l.length ≤ 1099511627776) : F129 p w l = some (rowB p w l) := by
  unfold F129 rowB
  by_cases h : (l.length : Int) = w
  · rw [if_pos h, F82_eq (fun x => !decide (0 ≤ x ∧ x < p)) hl (fun x _ => F130_eq hp x), Option.bind_some]
    simp [h, List.not_any_eq_all_not]
  · rw [if_neg h]; simp [h]
theorem F116_eq {p w : Int} (hp : 2 ≤ p ∧ p ≤ 7) {l : List Int} (hl : l.length ≤ 1099511627776) : F116 l p w = some (!rowB p w l) := by
  unfold F116; rw [F129_eq hp hl, Option.bind_some]
theorem F90_eq {p w : Int} (hp : 2 ≤ p ∧ p ≤ 7) {m : List (List Int)} (hm : m.length ≤ 1099511627776) (hs : ∀ r ∈ m, r.length ≤ 1099511627776) : F90 p w m = some (m.all (rowB p w)) := by
  unfold F90
  rw [F117_eq (fun r => !rowB p w r) hm (fun r hr => F116_eq hp (hs r hr)), Option.bind_some]
  simp [List.not_any_eq_all_not]
theorem F90_tells {p w : Int} (hp : 2 ≤ p ∧ p ≤ 7) {m : List (List Int)} (hm : m.length ≤ 1099511627776) (hs : ∀ r ∈ m, r.length ≤ 1099511627776) : Tells (F90 p w m) (∀ r ∈ m, RowOK p w r) :=
  ⟨_, F90_eq hp hm hs, by simp only [List.all_eq_true, rowB_iff]⟩
theorem F92_tells {l : List Int} (hl : l.length ≤ 1099511627776) : Tells (F92 l) (∀ x ∈ l, x = 0) := by
  unfold F92
  have h : F82 l (fun x => F118 x) = some (l.any fun x => !decide (x = 0)) := F82_eq _ hl (fun x _ => rfl)
  rw [h, Option.bind_some]
  exact ⟨_, rfl, by simp [List.not_any_eq_all_not]⟩
theorem F81_tells {l : List Int} (hl : l.length ≤ 1099511627776) : ∃ i, F81 l = some i ∧ (0 ≤ i ↔ ¬ ∀ x ∈ l, x = 0) := by
  unfold F81
  have hs : l.length < 4611686018427387904 := by omega
  obtain ⟨t, h1, h2⟩ := forR_inv (B := F81_1_B l) (D := F81_1_D l) (hi := l.length) l.length rfl hs (fun i _ => ∀ k (hk : k < i) (h2 : k < l.length), l[k] = 0) (fun t => (t = .inl () ∧ ∀ x ∈ l, x = 0) ∨ ∃ i : Nat, t = .inr (i : Int) ∧ ¬ ∀ x ∈ l, x = 0) (s := ()) (fun k hk => by omega) (by
    intro i _ hi hI
    unfold F81_1_B
    rw [getI_nat hi, Option.bind_some]
    by_cases hp : l[i] = 0
    · rw [if_pos hp]
      left
      refine ⟨(), rfl, fun k hk h2 => ?_⟩
      by_cases e : k = i
      · subst e; exact hp
      · exact hI k (by omega) h2
    · rw [if_neg hp]
      right
      exact ⟨_, rfl, .inr ⟨i, rfl, fun ha => hp (ha _ (List.getElem_mem hi))⟩⟩) (by
    intro _ hI
    refine ⟨.inl (), rfl, .inl ⟨rfl, fun x hx => ?_⟩⟩
    obtain ⟨k, hk, rfl⟩ := List.getElem_of_mem hx
    exact hI k hk hk)
  rw [h1]
  rcases h2 with ⟨rfl, h2⟩ | ⟨i, rfl, h2⟩
  · exact ⟨-1, rfl, ⟨fun h => by omega, fun h => absurd h2 h⟩⟩
  · exact ⟨i, rfl, ⟨fun _ => h2, fun _ => Int.natCast_nonneg i⟩⟩
structure SmallC (x : GComplex) : Prop where
  d : x.Dims.length ≤ 1048576
  m : x.Maps.length ≤ 1048576
  r : ∀ m ∈ x.Maps, m.length ≤ 1048576 ∧ ∀ l ∈ m, l.length ≤ 1048576
/-- The dimensions and the tables fit. -/
structure ShapeC (x : GComplex) : Prop where
  p : IsP x.Prime
  dl : 1 ≤ x.Dims.length ∧ x.Dims.length ≤ 6
  ml : x.Maps.length + 1 = x.Dims.length
  dims : ∀ d ∈ x.Dims, 0 ≤ d ∧ d ≤ 8
def TabAt (x : GComplex) (k : Nat) : Prop := TableOK x.Prime (x.Dims.getD (k + 1) 0) (x.Dims.getD k 0) (x.Maps.getD k [])
def SqAt (x : GComplex) (k : Nat) : Prop := ∀ row ∈ x.Maps.getD k [], ∀ y ∈ lin x.Prime (x.Dims.getD (k - 1) 0).toNat row (x.Maps.getD (k - 1) []), y = 0
structure ValidC (x : GComplex) : Prop extends ShapeC x where
  tab : ∀ k, k < x.Maps.length → TabAt x k
  sq : ∀ k, 0 < k → k < x.Maps.length → SqAt x k
theorem lin_len {p : Int} {n : Nat} {v : List Int} {m : List (List Int)} (H : LinOK p n v m) : (lin p n v m).length = n := (linN_ok H _ (Nat.le_refl _)).1
/-- Rows of a table whose neighbour below is a table. -/
theorem linOK_of {x : GComplex} (hs : ShapeC x) {k : Nat} (h1 : 0 < k) (h2 : k < x.Maps.length) (t1 : TabAt x (k - 1)) (t2 : TabAt x k) {row : List Int} (hr : row ∈ x.Maps.getD k []) :
    LinOK x.Prime (x.Dims.getD (k - 1) 0).toNat row (x.Maps.getD (k - 1) []) ∧ 0 ≤ x.Dims.getD (k - 1) 0 ∧ x.Dims.getD (k - 1) 0 ≤ 8 := by
  have hd : ∀ j, j < x.Dims.length → 0 ≤ x.Dims.getD j 0 ∧ x.Dims.getD j 0 ≤ 8 := fun j hj => by
    have := hs.dims _ (List.getElem_mem hj)
    simpa [hj] using this
  have hml := hs.ml
  have d1 := hd (k - 1) (by omega)
  have d2 := hd k (by omega)
  obtain ⟨q1, q2⟩ := t2.2 row hr
  refine ⟨⟨hs.p.range, q2, ?_, fun l hl => ?_, ?_, ?_⟩, d1⟩
  · have := t1.1
    have e : k - 1 + 1 = k := by omega
    rw [e] at this
    omega
  · obtain ⟨r1, r2⟩ := t1.2 l hl
    exact ⟨by omega, r2⟩
  · omega
  · omega
theorem F86_eq {x : GComplex} (h : x.Dims.length ≤ 1048576) : F86 x = some ((x.Dims.length : Int) - 1) := by
  unfold F86; rw [chk_ok (by omega) (by omega), Option.bind_some]
theorem mapsD {x : GComplex} {k : Nat} (h : k < x.Maps.length) : x.Maps.getD k [] = x.Maps[k] := by simp [h]
theorem F39_3_eq {x : GComplex} (hs : ShapeC x) {k : Nat} (h2 : k < x.Maps.length) (t1 : 0 < k → TabAt x (k - 1)) (t2 : TabAt x k) (hsm : SmallC x) :
    ∃ t, loopW (F39_3_S x (k : Int)) 0 = some t ∧ ((t = .inl () ∧ (0 < k → SqAt x k)) ∨ (t = .inr false ∧ 0 < k ∧ ¬ SqAt x k)) := by
  have hml := hs.ml
  have hdl := hs.dl
  have hk := (hsm.r _ (List.getElem_mem h2)).1
  refine loopW_inv (fun j : Int => (x.Maps[k].length - j).toNat) (fun j => ∃ n : Nat, j = n ∧ n ≤ x.Maps[k].length ∧ (0 < k → ∀ i (hi : i < n) (h3 : i < x.Maps[k].length), ∀ y ∈ lin x.Prime (x.Dims.getD (k - 1) 0).toNat x.Maps[k][i] (x.Maps.getD (k - 1) []), y = 0)) _ ⟨0, rfl, by omega, fun _ i hi => by omega⟩ ?_
  rintro _ ⟨n, rfl, hn, hall⟩
  unfold F39_3_S
  rw [getI_nat h2, Option.bind_some]
  by_cases hlt : (n : Int) < x.Maps[k].length
  · rw [if_pos hlt]
    have hnl : n < x.Maps[k].length := by omega
    by_cases h0 : 0 < k
    · rw [if_pos (by omega)]
      obtain ⟨H, d0, d8⟩ := linOK_of hs h0 h2 (t1 h0) t2 (row := x.Maps[k][n]) (by rw [mapsD h2]; exact List.getElem_mem hnl)
      have e1 : ((k : Int) - 1) = ((k - 1 : Nat) : Int) := by omega
      rw [chk_ok (by omega) (by omega), Option.bind_some, e1, getI_getD (show k - 1 < x.Maps.length by omega) [], Option.bind_some, getI_nat hnl, Option.bind_some, getI_getD (show k - 1 < x.Dims.length by omega) 0, Option.bind_some,
        F80_eq H (by omega), Option.bind_some]
      obtain ⟨i, g1, g2⟩ := F81_tells (l := lin x.Prime (x.Dims.getD (k - 1) 0).toNat x.Maps[k][n] (x.Maps.getD (k - 1) [])) (by rw [lin_len H]; omega)
      rw [g1, Option.bind_some]
      by_cases hz : 0 ≤ i
      · rw [if_pos hz]
        right
        refine ⟨_, rfl, .inr ⟨rfl, h0, fun ha => g2.1 hz (ha _ (by rw [mapsD h2]; exact List.getElem_mem hnl))⟩⟩
      · rw [if_neg hz]
        left
        rw [chk_ok (by omega) (by omega), Option.bind_some]
        refine ⟨_, rfl, ⟨n + 1, rfl, hnl, fun _ i hi h3 => ?_⟩, by omega⟩
        by_cases e : i = n
        · subst e
          exact Classical.byContradiction fun hq => hz (g2.2 hq)
        · exact hall h0 i (by omega) h3
    · rw [if_neg (by omega)]
      right
      exact ⟨_, rfl, .inl ⟨rfl, fun h => absurd h h0⟩⟩
  · rw [if_neg hlt]
    right
    refine ⟨_, rfl, .inl ⟨rfl, fun h0 row hr => ?_⟩⟩
    rw [mapsD h2] at hr
    obtain ⟨i, hi, rfl⟩ := List.getElem_of_mem hr
    exact hall h0 i (by omega) hi
theorem F39_2_eq {x : GComplex} (hs : ShapeC x) (hsm : SmallC x) :
    ∃ t, forR 0 (x.Maps.length : Int) (F39_2_B x) (F39_2_D x) () = some t ∧ ((t = .inl () ∧ (∀ k, k < x.Maps.length → TabAt x k) ∧ ∀ k, 0 < k → k < x.Maps.length → SqAt x k) ∨ (t = .inr false ∧ ¬ ((∀ k, k < x.Maps.length → TabAt x k) ∧ ∀ k, 0 < k → k < x.Maps.length → SqAt x k))) := by
  have hml := hs.ml
  have hm := hsm.m
  have hlen : x.Maps.length < 4611686018427387904 := by omega
  refine forR_inv x.Maps.length rfl hlen (fun i _ => (∀ k, k < i → TabAt x k) ∧ ∀ k, 0 < k → k < i → SqAt x k) _ ⟨fun k hk => by omega, fun k _ hk => by omega⟩ ?_ ?_
  · rintro i _ hi ⟨ht, hq⟩
    unfold F39_2_B
    have e2 : ((i : Int) + 1) = ((i + 1 : Nat) : Int) := by omega
    have hr := hsm.r _ (List.getElem_mem hi)
    rw [getI_nat hi, Option.bind_some, e2, getI_getD (show i + 1 < x.Dims.length by omega) 0, Option.bind_some, getI_getD (show i < x.Dims.length by omega) 0, Option.bind_some]
    have hT := F79_tells (p := x.Prime) (c := x.Dims.getD (i + 1) 0) (w := x.Dims.getD i 0) (m := x.Maps[i]) hs.p.range (by omega) (fun r h => by have := hr.2 r h; omega)
    rcases hT.case with ⟨h1, h2⟩ | ⟨h1, h2⟩
    · rw [h1, Option.bind_some, if_pos rfl]
      have hti : TabAt x i := by unfold TabAt; rw [mapsD hi]; exact h2
      obtain ⟨t, g1, g2⟩ := F39_3_eq hs hi (fun h0 => ht _ (by omega)) hti hsm
      rw [g1, Option.bind_some]
      rcases g2 with ⟨rfl, g2⟩ | ⟨rfl, g0, g2⟩
      · left
        refine ⟨(), rfl, fun k hk => ?_, fun k h0 hk => ?_⟩
        · by_cases e : k = i
          · subst e; exact hti
          · exact ht k (by omega)
        · by_cases e : k = i
          · subst e; exact g2 h0
          · exact hq k h0 (by omega)
      · right
        exact ⟨_, rfl, .inr ⟨rfl, fun ha => g2 (ha.2 i g0 hi)⟩⟩
    · rw [h1, Option.bind_some, if_neg Bool.false_ne_true]
      right
      refine ⟨_, rfl, .inr ⟨rfl, fun ha => h2 ?_⟩⟩
      have := ha.1 i hi
      unfold TabAt at this
      rw [mapsD hi] at this
      exact this
  · rintro _ ⟨ht, hq⟩
    exact ⟨.inl (), rfl, .inl ⟨rfl, ht, hq⟩⟩
theorem F39_1_eq {x : GComplex} (hsm : SmallC x) : ∃ t, forR 0 (x.Dims.length : Int) (F39_1_B x) (F39_1_D x) () = some t ∧ ((t = .inl () ∧ ∀ d ∈ x.Dims, 0 ≤ d ∧ d ≤ 8) ∨ (t = .inr false ∧ ¬ ∀ d ∈ x.Dims, 0 ≤ d ∧ d ≤ 8)) := by
  have hm := hsm.d
  have hlen : x.Dims.length < 4611686018427387904 := by omega
  refine forR_inv x.Dims.length rfl hlen (fun i _ => ∀ k (hk : k < i) (h2 : k < x.Dims.length), 0 ≤ x.Dims[k] ∧ x.Dims[k] ≤ 8) _ (fun k hk => by omega) ?_ ?_
  · rintro i _ hi hI
    unfold F39_1_B
    rw [getI_nat hi, Option.bind_some, F54_eq, Option.bind_some]
    by_cases h : 0 ≤ x.Dims[i] ∧ x.Dims[i] ≤ 8
    · rw [if_pos (by simpa using h)]
      left
      refine ⟨(), rfl, fun k hk h2 => ?_⟩
      by_cases e : k = i
      · subst e; exact h
      · exact hI k (by omega) h2
    · rw [if_neg (by simpa using h)]
      right
      exact ⟨_, rfl, .inr ⟨rfl, fun ha => h (ha _ (List.getElem_mem hi))⟩⟩
  · rintro _ hI
    refine ⟨.inl (), rfl, .inl ⟨rfl, fun d hd => ?_⟩⟩
    obtain ⟨k, hk, rfl⟩ := List.getElem_of_mem hd
    exact hI k hk hk
theorem F39_tells {x : GComplex} (hsm : SmallC x) : Tells (F39 x) (ValidC x) := by
  have hd := hsm.d
  unfold F39
  rcases (F78_tells x.Prime).case with ⟨h1, hp⟩ | ⟨h1, hp⟩
  case inr => rw [h1, Option.bind_some, if_neg Bool.false_ne_true]; exact .of_false rfl fun h => hp h.p
  rw [h1, Option.bind_some, if_pos rfl]
  by_cases c1 : (x.Dims.length : Int) < 1
  · rw [if_pos c1]; exact .of_false rfl fun h => by have := h.dl; omega
  rw [if_neg c1]
  by_cases c2 : 6 < (x.Dims.length : Int)
  · rw [if_pos c2]; exact .of_false rfl fun h => by have := h.dl; omega
  rw [if_neg c2, chk_ok (by omega) (by omega), Option.bind_some]
  by_cases c3 : (x.Maps.length : Int) = (x.Dims.length : Int) - 1
  case neg => rw [if_neg c3]; exact .of_false rfl fun h => by have := h.ml; omega
  rw [if_pos c3]
  obtain ⟨t, g1, g2⟩ := F39_1_eq hsm
  rw [g1, Option.bind_some]
  rcases g2 with ⟨rfl, g2⟩ | ⟨rfl, g2⟩
  case inr => exact .of_false rfl fun h => g2 h.dims
  have hs : ShapeC x := ⟨hp, by omega, by omega, g2⟩
  obtain ⟨t, k1, k2⟩ := F39_2_eq hs hsm
  simp only
  rw [k1, Option.bind_some]
  rcases k2 with ⟨rfl, k2, k3⟩ | ⟨rfl, k2⟩
  · exact .of_true rfl ⟨hs, k2, k3⟩
  · exact .of_false rfl fun h => k2 ⟨h.tab, h.sq⟩
theorem F42_1_eq {x : GComplex} (hs : ShapeC x) (hsm : SmallC x) :
    ∃ t, forR 0 (x.Maps.length : Int) (F42_1_B x) (F42_1_D x) () = some t ∧ ((t = .inl () ∧ ∀ k, k < x.Maps.length → TabAt x k) ∨ (t = .inr false ∧ ¬ ∀ k, k < x.Maps.length → TabAt x k)) := by
  have hml := hs.ml
  have hm := hsm.m
  have hlen : x.Maps.length < 4611686018427387904 := by omega
  refine forR_inv x.Maps.length rfl hlen (fun i _ => ∀ k, k < i → TabAt x k) _ (fun k hk => by omega) ?_ ?_
  · rintro i _ hi ht
    unfold F42_1_B
    have e2 : ((i : Int) + 1) = ((i + 1 : Nat) : Int) := by omega
    have hr := hsm.r _ (List.getElem_mem hi)
    rw [getI_nat hi, Option.bind_some, e2, getI_getD (show i + 1 < x.Dims.length by omega) 0, Option.bind_some]
    have hti : TabAt x i ↔ ((x.Maps[i].length : Int) = x.Dims.getD (i + 1) 0 ∧ ∀ r ∈ x.Maps[i], RowOK x.Prime (x.Dims.getD i 0) r) := by unfold TabAt; rw [mapsD hi]; rfl
    by_cases hc : (x.Maps[i].length : Int) = x.Dims.getD (i + 1) 0
    · rw [if_pos hc, getI_getD (show i < x.Dims.length by omega) 0, Option.bind_some]
      have hT := F90_tells (p := x.Prime) (w := x.Dims.getD i 0) (m := x.Maps[i]) hs.p.range (by omega) (fun r h => by have := hr.2 r h; omega)
      rcases hT.case with ⟨h1, h2⟩ | ⟨h1, h2⟩
      · rw [h1, Option.bind_some, if_pos rfl]
        left
        refine ⟨(), rfl, fun k hk => ?_⟩
        by_cases e : k = i
        · subst e; exact hti.2 ⟨hc, h2⟩
        · exact ht k (by omega)
      · rw [h1, Option.bind_some, if_neg Bool.false_ne_true]
        right
        exact ⟨_, rfl, .inr ⟨rfl, fun ha => h2 (hti.1 (ha i hi)).2⟩⟩
    · rw [if_neg hc]
      right
      exact ⟨_, rfl, .inr ⟨rfl, fun ha => hc (hti.1 (ha i hi)).1⟩⟩
  · rintro _ ht
    exact ⟨.inl (), rfl, .inl ⟨rfl, ht⟩⟩
theorem F91_eq {x : GComplex} (hs : ShapeC x) (hsm : SmallC x) {k : Nat} (h1 : 0 < k) (h2 : k < x.Maps.length) (t1 : TabAt x (k - 1)) (t2 : TabAt x k) {row : List Int} (hr : row ∈ x.Maps.getD k []) :
    F91 x (k : Int) row = some (lin x.Prime (x.Dims.getD (k - 1) 0).toNat row (x.Maps.getD (k - 1) [])) := by
  have hml := hs.ml
  have hdl := hs.dl
  obtain ⟨H, d0, d8⟩ := linOK_of hs h1 h2 t1 t2 hr
  unfold F91
  have e1 : ((k : Int) - 1) = ((k - 1 : Nat) : Int) := by omega
  rw [if_neg (by omega), F86_eq hsm.d, Option.bind_some, if_neg (by omega), chk_ok (by omega) (by omega), Option.bind_some, e1, getI_getD (show k - 1 < x.Dims.length by omega) 0, Option.bind_some, getI_getD (show k - 1 < x.Maps.length by omega) [], Option.bind_some,
    F119_eq H (by omega), Option.bind_some]
theorem F42_3_eq {x : GComplex} (hs : ShapeC x) (hsm : SmallC x) (ht : ∀ k, k < x.Maps.length → TabAt x k) {n : Nat} (hn : 2 ≤ n) (h2 : n - 1 < x.Maps.length) :
    ∃ t, forR 0 ((x.Maps[n - 1].length : Nat) : Int) (F42_3_B x (n : Int) x.Maps[n - 1]) (F42_3_D x (n : Int) x.Maps[n - 1]) () = some t ∧ ((t = .inl () ∧ SqAt x (n - 1)) ∨ (t = .inr false ∧ ¬ SqAt x (n - 1))) := by
  have hml := hs.ml
  have hdl := hs.dl
  have hk := (hsm.r _ (List.getElem_mem h2)).1
  have hlen : x.Maps[n - 1].length < 4611686018427387904 := by omega
  refine forR_inv x.Maps[n - 1].length rfl hlen (fun i _ => ∀ j (hj : j < i) (h3 : j < x.Maps[n - 1].length), ∀ y ∈ lin x.Prime (x.Dims.getD (n - 1 - 1) 0).toNat x.Maps[n - 1][j] (x.Maps.getD (n - 1 - 1) []), y = 0) _ (fun j hj => by omega) ?_ ?_
  · rintro i _ hi hI
    unfold F42_3_B
    have hrow : x.Maps[n - 1][i] ∈ x.Maps.getD (n - 1) [] := by rw [mapsD h2]; exact List.getElem_mem hi
    have e1 : ((n : Int) - 1) = ((n - 1 : Nat) : Int) := by omega
    have t1 := ht (n - 1 - 1) (by omega)
    have t2 := ht (n - 1) h2
    obtain ⟨H, d0, d8⟩ := linOK_of hs (by omega) h2 t1 t2 hrow
    rw [getI_nat hi, Option.bind_some, chk_ok (by omega) (by omega), Option.bind_some, e1, F91_eq hs hsm (by omega) h2 t1 t2 hrow, Option.bind_some]
    rcases (F92_tells (l := lin x.Prime (x.Dims.getD (n - 1 - 1) 0).toNat x.Maps[n - 1][i] (x.Maps.getD (n - 1 - 1) [])) (by rw [lin_len H]; omega)).case with ⟨g1, g2⟩ | ⟨g1, g2⟩
    · rw [g1, Option.bind_some, if_pos rfl]
      left
      refine ⟨(), rfl, fun j hj h3 => ?_⟩
      by_cases e : j = i
      · subst e; exact g2
      · exact hI j (by omega) h3
    · rw [g1, Option.bind_some, if_neg Bool.false_ne_true]
      right
      exact ⟨_, rfl, .inr ⟨rfl, fun ha => g2 (ha _ hrow)⟩⟩
  · rintro _ hI
    refine ⟨.inl (), rfl, .inl ⟨rfl, fun row hr => ?_⟩⟩
    rw [mapsD h2] at hr
    obtain ⟨j, hj, rfl⟩ := List.getElem_of_mem hr
    exact hI j hj hj
theorem F42_2_eq {x : GComplex} (hs : ShapeC x) (hsm : SmallC x) (ht : ∀ k, k < x.Maps.length → TabAt x k) :
    ∃ t, loopW (F42_2_S x) 2 = some t ∧ ((t = .inl () ∧ ∀ k, 0 < k → k < x.Maps.length → SqAt x k) ∨ (t = .inr false ∧ ¬ ∀ k, 0 < k → k < x.Maps.length → SqAt x k)) := by
  have hml := hs.ml
  have hdl := hs.dl
  refine loopW_inv (fun j : Int => (x.Dims.length + 2 - j).toNat) (fun j => ∃ n : Nat, j = n ∧ 2 ≤ n ∧ n ≤ x.Dims.length + 1 ∧ ∀ k, 0 < k → k < n - 1 → k < x.Maps.length → SqAt x k) _ ⟨2, rfl, by omega, by omega, fun k h0 hk => by omega⟩ ?_
  rintro _ ⟨n, rfl, hn, hn2, hall⟩
  unfold F42_2_S
  rw [F86_eq hsm.d, Option.bind_some]
  by_cases hlt : (n : Int) ≤ (x.Dims.length : Int) - 1
  · rw [if_pos hlt]
    have e1 : ((n : Int) - 1) = ((n - 1 : Nat) : Int) := by omega
    have h2 : n - 1 < x.Maps.length := by omega
    rw [chk_ok (by omega) (by omega), Option.bind_some, e1, getI_nat h2, Option.bind_some]
    obtain ⟨t, g1, g2⟩ := F42_3_eq hs hsm ht hn h2
    rw [g1, Option.bind_some]
    rcases g2 with ⟨rfl, g2⟩ | ⟨rfl, g2⟩
    · left
      refine ⟨((n + 1 : Nat) : Int), ?_, ⟨n + 1, rfl, by omega, by omega, fun k h0 hk h3 => ?_⟩, by omega⟩
      · simp only
        rw [chk_ok (by omega) (by omega), Option.bind_some]
        rfl
      · by_cases e : k = n - 1
        · subst e; exact g2
        · exact hall k h0 (by omega) h3
    · right
      exact ⟨_, rfl, .inr ⟨rfl, fun ha => g2 (ha _ (by omega) h2)⟩⟩
  · rw [if_neg hlt]
    right
    exact ⟨_, rfl, .inl ⟨rfl, fun k h0 hk => hall k h0 (by omega) hk⟩⟩
theorem F42_tells {x : GComplex} (hsm : SmallC x) : Tells (F42 x) (ValidC x) := by
  have hd := hsm.d
  unfold F42
  rcases (F67_tells x.Prime).case with ⟨h1, hp⟩ | ⟨h1, hp⟩
  case inr => rw [h1, Option.bind_some, if_neg Bool.false_ne_true]; exact .of_false rfl fun h => hp h.p
  rw [h1, Option.bind_some, if_pos rfl, F86_eq hd, Option.bind_some, F56_eq, Option.bind_some]
  by_cases c1 : 0 ≤ (x.Dims.length : Int) - 1 ∧ (x.Dims.length : Int) - 1 ≤ 5
  case neg => rw [if_neg (by simpa using c1)]; exact .of_false rfl fun h => by have := h.dl; omega
  rw [if_pos (by simpa using c1)]
  by_cases c3 : (x.Maps.length : Int) = (x.Dims.length : Int) - 1
  case neg => rw [if_neg c3]; exact .of_false rfl fun h => by have := h.ml; omega
  rw [if_pos c3]
  have h88 : F82 x.Dims (fun y => F88 y) = some (x.Dims.any fun d => !decide (0 ≤ d ∧ d ≤ 8)) := F82_eq _ (by omega) (fun d _ => by unfold F88; rw [F56_eq, Option.bind_some])
  rw [h88, Option.bind_some]
  have hany : (x.Dims.any fun d => !decide (0 ≤ d ∧ d ≤ 8)) = true ↔ ¬ ∀ d ∈ x.Dims, 0 ≤ d ∧ d ≤ 8 := by
    simp only [List.any_eq_true, Bool.not_eq_true', decide_eq_false_iff_not]
    constructor
    · rintro ⟨d, h1, h2⟩ ha; exact h2 (ha d h1)
    · intro hn
      exact Classical.byContradiction fun hc => hn fun d hd => Classical.byContradiction fun h => hc ⟨d, hd, h⟩
  by_cases c4 : (x.Dims.any fun d => !decide (0 ≤ d ∧ d ≤ 8)) = true
  · rw [if_pos c4]; exact .of_false rfl fun h => hany.1 c4 h.dims
  rw [if_neg c4]
  have hdims : ∀ d ∈ x.Dims, 0 ≤ d ∧ d ≤ 8 := Classical.byContradiction fun hc => c4 (hany.2 hc)
  have hs : ShapeC x := ⟨hp, by omega, by omega, hdims⟩
  obtain ⟨t, g1, g2⟩ := F42_1_eq hs hsm
  rw [g1, Option.bind_some]
  rcases g2 with ⟨rfl, ht⟩ | ⟨rfl, ht⟩
  case inr => exact .of_false rfl fun h => ht h.tab
  obtain ⟨t, k1, k2⟩ := F42_2_eq hs hsm ht
  simp only
  rw [k1, Option.bind_some]
  rcases k2 with ⟨rfl, k2⟩ | ⟨rfl, k2⟩
  · exact .of_true rfl ⟨hs, ht, k2⟩
  · exact .of_false rfl fun h => k2 h.sq
def numAt (ms : List (List (List Int))) (k i j : Nat) : Int := ((ms.getD k []).getD i []).getD j 0
/-- A place in tables. -/
def InT (ms : List (List (List Int))) (k i j : Nat) : Prop := k < ms.length ∧ i < (ms.getD k []).length ∧ j < ((ms.getD k []).getD i []).length
theorem getD_mem {α : Type} {l : List α} {i : Nat} (h : i < l.length) (d : α) : l.getD i d ∈ l := by
  rw [List.getD_eq_getElem?_getD, List.getElem?_eq_getElem h]; exact List.getElem_mem h
abbrev Long0 (n : Int) : Prop := -9223372036854775808 ≤ n ∧ n ≤ 9223372036854775807
abbrev LongL {α : Type} (L : α → Prop) (l : List α) : Prop := l.length ≤ 9223372036854775807 ∧ ∀ y ∈ l, L y
structure LongC (x : GComplex) : Prop where
  p : Long0 x.Prime
  d : LongL Long0 x.Dims
  m : LongL (LongL (LongL Long0)) x.Maps
theorem F43_eq {a : List Int} (ha : a.length ≤ 9223372036854775807) {s : Int} (h0 : 0 ≤ s) (h1 : s ≤ 1048576) : ∃ z, F43 a s = some z ∧ (z < 0 ∨ (0 ≤ z ∧ z ≤ 1048576 ∧ a.length ≤ 1048576)) := by
  unfold F43
  rw [chk_ok (by omega) (by omega), Option.bind_some]
  by_cases h : s - (a.length : Int) < 0
  · rw [if_pos h]; exact ⟨_, rfl, .inl (by decide)⟩
  · rw [if_neg h]; exact ⟨_, rfl, .inr ⟨by omega, by omega, by omega⟩⟩
/-- The shape of a size's loop. -/
theorem sz_loop {α : Type} {l : List α} (S : α → Prop) {B : Int → Int → Option (Int ⊕ (Int ⊕ Int))} {D : Int → Int → Option (Int ⊕ Int)} (hl : l.length ≤ 1048576)
    (hB : ∀ (i : Nat) (hi : i < l.length) (v : Int), 0 ≤ v → v ≤ 1048576 → (∃ z, B i v = some (.inl z) ∧ 0 ≤ z ∧ z ≤ 1048576 ∧ S l[i]) ∨ B i v = some (.inr (.inr (-1)))) (hD : ∀ v, D (l.length : Int) v = some (.inl v) ∨ ∀ i v, D i v = some (.inl v)) (hD' : ∀ i v, D i v = some (.inl v))
    {s : Int} (h0 : 0 ≤ s) (h1 : s ≤ 1048576) : ∃ t, forR 0 (l.length : Int) B D s = some t ∧ ((∃ z, t = .inl z ∧ 0 ≤ z ∧ z ≤ 1048576 ∧ ∀ y ∈ l, S y) ∨ t = .inr (-1)) := by
  have hlen : l.length < 4611686018427387904 := by omega
  refine forR_inv l.length rfl hlen (fun i v => 0 ≤ v ∧ v ≤ 1048576 ∧ ∀ k (h : k < l.length), k < i → S l[k]) _ ⟨h0, h1, fun k _ hk => by omega⟩ ?_ ?_
  · rintro i v hi ⟨p0, p1, p2⟩
    rcases hB i hi v p0 p1 with ⟨z, q1, q2, q3, q4⟩ | q
    · left
      refine ⟨z, q1, q2, q3, fun k h hk => ?_⟩
      by_cases e : k = i
      · subst e; exact q4
      · exact p2 k h (by omega)
    · right
      exact ⟨_, q, .inr rfl⟩
  · rintro v ⟨p0, p1, p2⟩
    refine ⟨_, hD' _ _, .inl ⟨v, rfl, p0, p1, fun y hy => ?_⟩⟩
    obtain ⟨k, hk, rfl⟩ := List.getElem_of_mem hy
    exact p2 k hk hk
theorem F44_eq {a : List (List Int)} (ha : LongL (LongL Long0) a) {s : Int} (h0 : 0 ≤ s) (h1 : s ≤ 1048576) : ∃ z, F44 a s = some z ∧ (z < 0 ∨ (0 ≤ z ∧ z ≤ 1048576 ∧ a.length ≤ 1048576 ∧ ∀ r ∈ a, r.length ≤ 1048576)) := by
  have hal := ha.1
  unfold F44
  rw [chk_ok (by omega) (by omega), Option.bind_some]
  by_cases h : s - (a.length : Int) < 0
  · rw [if_pos h]; exact ⟨_, rfl, .inl (by decide)⟩
  · rw [if_neg h]
    obtain ⟨t, g1, g2⟩ := sz_loop (l := a) (B := F44_1_B a) (D := F44_1_D a) (fun r => r.length ≤ 1048576) (by omega) (fun i hi v v0 v1 => by
      unfold F44_1_B
      obtain ⟨z, k1, k2⟩ := F43_eq (ha.2 _ (List.getElem_mem hi)).1 v0 v1
      rw [getI_nat hi, Option.bind_some, k1, Option.bind_some]
      rcases k2 with k2 | ⟨k2, k3, k4⟩
      · rw [if_pos k2]; exact .inr rfl
      · rw [if_neg (by omega)]; exact .inl ⟨z, rfl, k2, k3, k4⟩) (fun v => .inl rfl) (fun i v => rfl) (show 0 ≤ s - (a.length : Int) by omega) (by omega)
    rw [g1, Option.bind_some]
    rcases g2 with ⟨z, rfl, q1, q2, q3⟩ | rfl
    · exact ⟨z, rfl, .inr ⟨q1, q2, by omega, q3⟩⟩
    · exact ⟨_, rfl, .inl (by decide)⟩
theorem F11_eq {a : List (List (List Int))} (ha : LongL (LongL (LongL Long0)) a) {s : Int} (h0 : 0 ≤ s) (h1 : s ≤ 1048576) : ∃ z, F11 a s = some z ∧ (z < 0 ∨ (0 ≤ z ∧ z ≤ 1048576 ∧ a.length ≤ 1048576 ∧ ∀ m ∈ a, m.length ≤ 1048576 ∧ ∀ r ∈ m, r.length ≤ 1048576)) := by
  have hal := ha.1
  unfold F11
  rw [chk_ok (by omega) (by omega), Option.bind_some]
  by_cases h : s - (a.length : Int) < 0
  · rw [if_pos h]; exact ⟨_, rfl, .inl (by decide)⟩
  · rw [if_neg h]
    obtain ⟨t, g1, g2⟩ := sz_loop (l := a) (B := F11_1_B a) (D := F11_1_D a) (fun m => m.length ≤ 1048576 ∧ ∀ r ∈ m, r.length ≤ 1048576) (by omega) (fun i hi v v0 v1 => by
      unfold F11_1_B
      obtain ⟨z, k1, k2⟩ := F44_eq (ha.2 _ (List.getElem_mem hi)) v0 v1
      rw [getI_nat hi, Option.bind_some, k1, Option.bind_some]
      rcases k2 with k2 | ⟨k2, k3, k4⟩
      · rw [if_pos k2]; exact .inr rfl
      · rw [if_neg (by omega)]; exact .inl ⟨z, rfl, k2, k3, k4⟩) (fun v => .inl rfl) (fun i v => rfl) (show 0 ≤ s - (a.length : Int) by omega) (by omega)
    rw [g1, Option.bind_some]
    rcases g2 with ⟨z, rfl, q1, q2, q3⟩ | rfl
    · exact ⟨z, rfl, .inr ⟨q1, q2, by omega, q3⟩⟩
    · exact ⟨_, rfl, .inl (by decide)⟩
theorem F10_eq {x : GComplex} (hx : LongC x) {s : Int} (h0 : 0 ≤ s) (h1 : s ≤ 1048576) : ∃ z, F10 x s = some z ∧ (z < 0 ∨ (0 ≤ z ∧ z ≤ 1048576 ∧ SmallC x)) := by
  unfold F10
  obtain ⟨z, k1, k2⟩ := F43_eq hx.d.1 h0 h1
  rw [k1, Option.bind_some]
  rcases k2 with k2 | ⟨k2, k3, k4⟩
  · rw [if_pos k2]; exact ⟨_, rfl, .inl (by decide)⟩
  rw [if_neg (by omega)]
  obtain ⟨y, l1, l2⟩ := F11_eq hx.m k2 k3
  rw [l1, Option.bind_some]
  rcases l2 with l2 | ⟨l2, l3, l4, l5⟩
  · rw [if_pos l2]; exact ⟨_, rfl, .inl (by decide)⟩
  rw [if_neg (by omega)]
  exact ⟨y, rfl, .inr ⟨l2, l3, ⟨k4, l4, l5⟩⟩⟩
/-- The shape of a copy's loop. -/
theorem to_loop {α : Type} {l : List α} {B : Int → List α → Option (List α ⊕ List α)} {D : Int → List α → Option (List α)} (hl : l.length ≤ 1048576)
    (hB : ∀ (i : Nat) (hi : i < l.length) (s : List α), s.length = l.length → B i s = some (.inl (s.set i l[i]))) (hD : ∀ i s, D i s = some s) {s : List α} (hs : s.length = l.length) : forR 0 (l.length : Int) B D s = some l := by
  have hlen : l.length < 4611686018427387904 := by omega
  obtain ⟨t, h1, h2⟩ := forR_inv (B := B) (D := D) l.length rfl hlen (fun i s => s.length = l.length ∧ ∀ k, k < i → s[k]? = l[k]?) (fun t => t = l) (s := s) ⟨hs, fun k hk => by omega⟩ (by
    rintro i s hi ⟨p1, p2⟩
    left
    refine ⟨_, hB i hi s p1, by rw [List.length_set]; exact p1, fun k hk => ?_⟩
    rw [List.getElem?_set]
    by_cases e : i = k
    · subst e; rw [if_pos rfl, if_pos (by omega)]; simp [hi]
    · rw [if_neg e]; exact p2 k (by omega)) (by
    rintro s ⟨p1, p2⟩
    refine ⟨s, hD _ _, ?_⟩
    apply List.ext_getElem?
    intro k
    by_cases hk : k < l.length
    · exact p2 k hk
    · rw [List.getElem?_eq_none (by omega), List.getElem?_eq_none (by omega)])
  rw [h1, h2]
theorem F47_eq {l : List Int} (h : l.length ≤ 1048576) : F47 l = some l := by
  unfold F47
  rw [mkL_ok l.length rfl (by omega) (by omega), Option.bind_some, to_loop (l := l) (B := F47_1_B l) (D := F47_1_D l) h (fun i hi s hs => by
    unfold F47_1_B
    rw [getI_nat hi, Option.bind_some, getI_nat (show i < s.length by omega), Option.bind_some, setI_nat (by omega), Option.bind_some]) (fun i s => rfl) (List.length_replicate ..), Option.bind_some]
theorem F48_eq {l : List (List Int)} (h : l.length ≤ 1048576) (h2 : ∀ r ∈ l, r.length ≤ 1048576) : F48 l = some l := by
  unfold F48
  rw [mkL_ok l.length rfl (by omega) (by omega), Option.bind_some, to_loop (l := l) (B := F48_1_B l) (D := F48_1_D l) h (fun i hi s hs => by
    unfold F48_1_B
    rw [getI_nat hi, Option.bind_some, F47_eq (h2 _ (List.getElem_mem hi)), Option.bind_some, getI_nat (show i < s.length by omega), Option.bind_some, setI_nat (by omega), Option.bind_some]) (fun i s => rfl) (List.length_replicate ..), Option.bind_some]
theorem F13_eq {l : List (List (List Int))} (h : l.length ≤ 1048576) (h2 : ∀ m ∈ l, m.length ≤ 1048576 ∧ ∀ r ∈ m, r.length ≤ 1048576) : F13 l = some l := by
  unfold F13
  rw [mkL_ok l.length rfl (by omega) (by omega), Option.bind_some, to_loop (l := l) (B := F13_1_B l) (D := F13_1_D l) h (fun i hi s hs => by
    unfold F13_1_B
    rw [getI_nat hi, Option.bind_some, F48_eq (h2 _ (List.getElem_mem hi)).1 (h2 _ (List.getElem_mem hi)).2, Option.bind_some, getI_nat (show i < s.length by omega), Option.bind_some, setI_nat (by omega), Option.bind_some]) (fun i s => rfl) (List.length_replicate ..), Option.bind_some]
theorem F12_eq {x : GComplex} (h : SmallC x) : F12 x = some x := by
  unfold F12
  rw [F47_eq h.d, Option.bind_some, F13_eq h.m h.r, Option.bind_some]
theorem eq_loop {n : Nat} {B : Int → Unit → Option (Unit ⊕ (Unit ⊕ Bool))} {D : Int → Unit → Option (Unit ⊕ Bool)} (hn : n ≤ 1048576) (hB : ∀ (i : Nat) (s : Unit), i < n → B i s = some (.inl ())) (hD : ∀ i s, D i s = some (.inl ())) : forR 0 (n : Int) B D () = some (.inl ()) := by
  have hlen : n < 4611686018427387904 := by omega
  obtain ⟨t, h1, h2⟩ := forR_inv (B := B) (D := D) n rfl hlen (fun _ _ => True) (fun t => t = .inl ()) (s := ()) trivial (fun i s hi _ => .inl ⟨_, hB i s hi, trivial⟩) (fun s _ => ⟨_, hD _ _, rfl⟩)
  rw [h1, h2]
theorem F30_same {a : List Int} (h : a.length ≤ 1048576) : F30 a a = some true := by
  unfold F30
  rw [if_pos rfl, eq_loop (B := F30_1_B a a) (D := F30_1_D a a) h (fun i s hi => by unfold F30_1_B; rw [getI_nat hi, Option.bind_some, Option.bind_some, if_pos rfl]) (fun i s => rfl), Option.bind_some]
theorem F51_same {a : List (List Int)} (h : a.length ≤ 1048576) (h2 : ∀ r ∈ a, r.length ≤ 1048576) : F51 a a = some true := by
  unfold F51
  rw [if_pos rfl, eq_loop (B := F51_1_B a a) (D := F51_1_D a a) h (fun i s hi => by unfold F51_1_B; rw [getI_nat hi, Option.bind_some, Option.bind_some, F30_same (h2 _ (List.getElem_mem hi)), Option.bind_some, if_pos rfl]) (fun i s => rfl), Option.bind_some]
theorem F17_same {a : List (List (List Int))} (h : a.length ≤ 1048576) (h2 : ∀ m ∈ a, m.length ≤ 1048576 ∧ ∀ r ∈ m, r.length ≤ 1048576) : F17 a a = some true := by
  unfold F17
  rw [if_pos rfl, eq_loop (B := F17_1_B a a) (D := F17_1_D a a) h (fun i s hi => by unfold F17_1_B; rw [getI_nat hi, Option.bind_some, Option.bind_some, F51_same (h2 _ (List.getElem_mem hi)).1 (h2 _ (List.getElem_mem hi)).2, Option.bind_some, if_pos rfl]) (fun i s => rfl), Option.bind_some]
theorem F16_same {x : GComplex} (h : SmallC x) : F16 x x = some true := by
  unfold F16
  rw [if_pos rfl, F30_same h.d, Option.bind_some, if_pos rfl, F17_same h.m h.r, Option.bind_some, if_pos rfl]
structure SmallT (ms : List (List (List Int))) : Prop where
  m : ms.length ≤ 1048576
  r : ∀ m ∈ ms, m.length ≤ 1048576 ∧ ∀ r ∈ m, r.length ≤ 1048576
def TabM (x : GComplex) (ms : List (List (List Int))) (k : Nat) : Prop := TableOK x.Prime (x.Dims.getD (k + 1) 0) (x.Dims.getD k 0) (ms.getD k [])
structure MapsOK (x : GComplex) (ms : List (List (List Int))) : Prop where
  v : ValidC x
  l : ms.length = x.Maps.length
  t : ∀ k, k < ms.length → TabM x ms k
abbrev T3s := List (List (List Int))
structure Shp (s u : T3s) : Prop where
  l : s.length = u.length
  t : ∀ k, k < u.length → (s.getD k []).length = (u.getD k []).length
  r : ∀ k, k < u.length → ∀ i, i < (u.getD k []).length → ((s.getD k []).getD i []).length = ((u.getD k []).getD i []).length
theorem Shp.refl (s : T3s) : Shp s s := ⟨rfl, fun _ _ => rfl, fun _ _ _ _ => rfl⟩
theorem Shp.trans {a b c : T3s} (h : Shp a b) (k : Shp b c) : Shp a c :=
  ⟨h.l.trans k.l, fun n hn => (h.t n (by rw [k.l]; exact hn)).trans (k.t n hn), fun n hn i hi => (h.r n (by rw [k.l]; exact hn) i (by rw [k.t n hn]; exact hi)).trans (k.r n hn i hi)⟩
theorem Shp.symm {a b : T3s} (h : Shp a b) : Shp b a :=
  ⟨h.l.symm, fun n hn => (h.t n (by rw [← h.l]; exact hn)).symm, fun n hn i hi => (h.r n (by rw [← h.l]; exact hn) i (by rw [← h.t n (by rw [← h.l]; exact hn)]; exact hi)).symm⟩
theorem Shp.inT {s t : T3s} (h : Shp s t) {k i j : Nat} (q : InT t k i j) : InT s k i j := by
  obtain ⟨q1, q2, q3⟩ := q
  exact ⟨by rw [h.l]; exact q1, by rw [h.t k q1]; exact q2, by rw [h.r k q1 i q2]; exact q3⟩
theorem getD_ext {α : Type} {l l' : List α} (d : α) (h : l.length = l'.length) (hv : ∀ k, k < l'.length → l.getD k d = l'.getD k d) : l = l' := by
  apply List.ext_getElem h
  intro k h1 h2
  have := hv k h2
  simpa [h1, h2] using this
/-- The same shape and the same numbers: the same tables. -/
theorem Shp.eq {s t : T3s} (h : Shp s t) (hv : ∀ k i j, InT t k i j → numAt s k i j = numAt t k i j) : s = t := by
  refine getD_ext [] h.l fun k hk => getD_ext [] (h.t k hk) fun i hi => getD_ext 0 (h.r k hk i hi) fun j hj => hv k i j ⟨hk, hi, hj⟩
/-- One number put. -/
def put3 (s : T3s) (k i j : Nat) (z : Int) : T3s := s.set k ((s.getD k []).set i (((s.getD k []).getD i []).set j z))
theorem getD_set {α : Type} {l : List α} {k k' : Nat} {x d : α} (hk : k < l.length) : (l.set k x).getD k' d = if k' = k then x else l.getD k' d := by
  rw [List.getD_eq_getElem?_getD, List.getElem?_set]
  by_cases e : k = k'
  · subst e; rw [if_pos rfl, if_pos hk, if_pos rfl]; rfl
  · rw [if_neg e, if_neg (fun q => e q.symm), List.getD_eq_getElem?_getD]
theorem put3_shp {s : T3s} {k i j : Nat} (h : InT s k i j) (z : Int) : Shp (put3 s k i j z) s := by
  obtain ⟨h1, h2, h3⟩ := h
  refine ⟨by simp [put3], fun n hn => ?_, fun n hn m hm => ?_⟩
  · unfold put3; rw [getD_set h1]; split
    · rename_i e; subst e; simp
    · rfl
  · unfold put3; rw [getD_set h1]; split
    · rename_i e; subst e
      rw [getD_set h2]; split
      · rename_i e; subst e; simp
      · rfl
    · rfl
theorem put3_at {s : T3s} {k i j : Nat} (h : InT s k i j) (z : Int) (k' i' j' : Nat) : numAt (put3 s k i j z) k' i' j' = if k' = k ∧ i' = i ∧ j' = j then z else numAt s k' i' j' := by
  obtain ⟨h1, h2, h3⟩ := h
  unfold numAt put3
  rw [getD_set h1]
  by_cases e : k' = k
  · subst e
    rw [if_pos rfl, getD_set h2]
    by_cases e : i' = i
    · subst e
      rw [if_pos rfl, getD_set h3]
      by_cases e : j' = j
      · subst e; simp
      · rw [if_neg e, if_neg (by simp [e])]
    · rw [if_neg e, if_neg (by simp [e])]
  · rw [if_neg e, if_neg (by simp [e])]
def q0 (p a b : Int) : Int := (a + b).tmod p
def q1 (p a b : Int) : Int := ((a + b).tmod p + p).tmod p
theorem q0_range {p a b : Int} (hp : 2 ≤ p ∧ p ≤ 7) (ha : 0 ≤ a ∧ a < p) (hb : 0 ≤ b ∧ b < p) : 0 ≤ q0 p a b ∧ q0 p a b < p := by
  unfold q0
  rw [Int.tmod_eq_emod_of_nonneg (by omega)]
  exact ⟨Int.emod_nonneg _ (by omega), Int.emod_lt_of_pos _ (by omega)⟩
theorem q1_eq {p a b : Int} (hp : 2 ≤ p ∧ p ≤ 7) (ha : 0 ≤ a ∧ a < p) (hb : 0 ≤ b ∧ b < p) : q1 p a b = q0 p a b := by
  have h := q0_range hp ha hb
  unfold q0 at h
  unfold q1 q0
  rw [Int.tmod_eq_emod_of_nonneg (show 0 ≤ (a + b).tmod p + p by omega), Int.add_emod_right, Int.emod_eq_of_lt h.1 h.2]
theorem q1_zero {p b : Int} (hp : 2 ≤ p ∧ p ≤ 7) (hb : 0 ≤ b ∧ b < p) : q1 p 0 b = b := by
  rw [q1_eq hp (by omega) hb]
  unfold q0
  rw [Int.zero_add, Int.tmod_eq_emod_of_nonneg hb.1, Int.emod_eq_of_lt hb.1 hb.2]
def Rng (p : Int) (s : T3s) : Prop := ∀ k i j, InT s k i j → 0 ≤ numAt s k i j ∧ numAt s k i j < p
theorem F75_eq {p : Int} (hp : 2 ≤ p ∧ p ≤ 7) {s : T3s} {k i j : Nat} {v : Int} (h : InT s k i j) (hk : k ≤ 1048576) (ho : 0 ≤ numAt s k i j ∧ numAt s k i j < p) (hv : 0 ≤ v ∧ v < p) :
    F75 p ((k : Int) + 1) i j v s = some (put3 s k i j (q1 p (numAt s k i j) v)) := by
  obtain ⟨h1, h2, h3⟩ := h
  have e1 : ((k : Int) + 1 - 1) = (k : Int) := by omega
  have hq := q0_range hp ho hv
  have ho' : numAt s k i j = ((s.getD k []).getD i []).getD j 0 := rfl
  unfold q0 at hq
  rw [ho'] at hq ho
  unfold F75
  rw [chk_ok (by omega) (by omega), Option.bind_some, e1, getI_getD h1 [], Option.bind_some, getI_getD h2 [], Option.bind_some, getI_getD h3 0, Option.bind_some, chk_ok (by omega) (by omega), Option.bind_some, remI_ok (by omega), Option.bind_some, chk_ok (by omega) (by omega), Option.bind_some, remI_ok (by omega), Option.bind_some, setI_nat h3, Option.bind_some, setI_nat h2, Option.bind_some, setI_nat h1]
  rfl
/-- Some numbers are sums already. -/
def AT (q : Int → Int → Int) (s0 ms : T3s) (D : Nat → Nat → Nat → Prop) (s : T3s) : Prop :=
  Shp s s0 ∧ ∀ k i j, InT s0 k i j → (D k i j → numAt s k i j = q (numAt s0 k i j) (numAt ms k i j)) ∧ (¬ D k i j → numAt s k i j = numAt s0 k i j)
theorem AT.imp {q : Int → Int → Int} {s0 ms : T3s} {D D' : Nat → Nat → Nat → Prop} {s : T3s} (h : AT q s0 ms D s) (hd : ∀ k i j, InT s0 k i j → (D k i j ↔ D' k i j)) : AT q s0 ms D' s :=
  ⟨h.1, fun k i j hin => ⟨fun d => (h.2 k i j hin).1 ((hd k i j hin).2 d), fun d => (h.2 k i j hin).2 fun x => d ((hd k i j hin).1 x)⟩⟩
theorem AT.zero (q : Int → Int → Int) (s0 ms : T3s) : AT q s0 ms (fun _ _ _ => False) s0 := ⟨.refl _, fun k i j _ => ⟨fun x => x.elim, fun _ => rfl⟩⟩
theorem AT.step {q : Int → Int → Int} {s0 ms : T3s} {D D' : Nat → Nat → Nat → Prop} {s : T3s} (h : AT q s0 ms D s) {k i j : Nat} (hin : InT s0 k i j) (hn : ¬ D k i j) (hd : ∀ k' i' j', D' k' i' j' ↔ D k' i' j' ∨ (k' = k ∧ i' = i ∧ j' = j)) : AT q s0 ms D' (put3 s k i j (q (numAt s k i j) (numAt ms k i j))) := by
  have hs := h.1.inT hin
  refine ⟨(put3_shp hs _).trans h.1, fun k' i' j' hin' => ?_⟩
  rw [put3_at hs]
  by_cases e : k' = k ∧ i' = i ∧ j' = j
  · obtain ⟨rfl, rfl, rfl⟩ := e
    rw [if_pos ⟨rfl, rfl, rfl⟩, (h.2 _ _ _ hin').2 hn]
    exact ⟨fun _ => rfl, fun d => absurd ((hd _ _ _).2 (.inr ⟨rfl, rfl, rfl⟩)) d⟩
  · rw [if_neg e]
    refine ⟨fun d => (h.2 _ _ _ hin').1 (((hd _ _ _).1 d).resolve_right e), fun d => (h.2 _ _ _ hin').2 fun x => d ((hd _ _ _).2 (.inl x))⟩
/-- All numbers of the maps added by the program's loop. -/
theorem F85_add {p : Int} (hp : 2 ≤ p ∧ p ≤ 7) {s0 ms : T3s} (hs : SmallT ms) (hsh : Shp s0 ms) (h0 : Rng p s0) (h1 : Rng p ms) :
    ∃ r, F85 ms (fun n r pl v s => F75 p n r pl v s) s0 = some r ∧ AT (q1 p) s0 ms (fun _ _ _ => True) r := by
  unfold F85
  have hm := hs.m
  have hl1 : ms.length < 4611686018427387904 := by omega
  refine forR_inv (τ := T3s) (σ := T3s) ms.length rfl hl1 (fun n s => AT (q1 p) s0 ms (fun k _ _ => k < n) s) _ ((AT.zero _ _ _).imp fun k i j _ => by simp) ?_ ?_
  · intro k s hk hI
    left
    rw [getI_getD hk [], Option.bind_some]
    have hmem : ms.getD k [] ∈ ms := getD_mem hk []
    have hmr := hs.r _ hmem
    have hl2 : (ms.getD k []).length < 4611686018427387904 := by have := hmr.1; omega
    suffices hx : ∃ t, forR 0 ((ms.getD k []).length : Int) _ _ s = some t ∧ AT (q1 p) s0 ms (fun k' _ _ => k' < k + 1) t by
      obtain ⟨t, g1, g2⟩ := hx
      rw [g1, Option.bind_some]
      exact ⟨t, rfl, g2⟩
    refine forR_inv (τ := T3s) (σ := T3s) (ms.getD k []).length rfl hl2 (fun n s => AT (q1 p) s0 ms (fun k' i _ => k' < k ∨ (k' = k ∧ i < n)) s) _ (hI.imp fun k i j _ => by simp) ?_ ?_
    · intro i s hi hI2
      left
      rw [getI_getD hi [], Option.bind_some]
      have hmem2 : (ms.getD k []).getD i [] ∈ ms.getD k [] := getD_mem hi []
      have hl3 : ((ms.getD k []).getD i []).length < 4611686018427387904 := by have := hmr.2 _ hmem2; omega
      suffices hx : ∃ t, forR 0 (((ms.getD k []).getD i []).length : Int) _ _ s = some t ∧ AT (q1 p) s0 ms (fun k' i' _ => k' < k ∨ (k' = k ∧ i' < i + 1)) t by
        obtain ⟨t, g1, g2⟩ := hx
        rw [g1, Option.bind_some]
        exact ⟨t, rfl, g2⟩
      refine forR_inv (τ := T3s) (σ := T3s) ((ms.getD k []).getD i []).length rfl hl3 (fun n s => AT (q1 p) s0 ms (fun k' i' j => k' < k ∨ (k' = k ∧ (i' < i ∨ (i' = i ∧ j < n)))) s) _ (hI2.imp fun k i j _ => by simp) ?_ ?_
      · intro j s hj hI3
        left
        have hin : InT ms k i j := ⟨hk, hi, hj⟩
        have hin0 := hsh.inT hin
        have hnd : ¬ (k < k ∨ (k = k ∧ (i < i ∨ (i = i ∧ j < j)))) := by omega
        have hold := (hI3.2 k i j hin0).2 hnd
        rw [getI_getD hj 0, Option.bind_some, chk_ok (by omega) (by omega), Option.bind_some]
        have hv := h1 k i j hin
        have ho := h0 k i j hin0
        have e := F75_eq hp (v := numAt ms k i j) (hI3.1.inT hin0) (by omega) (by rw [hold]; exact ho) hv
        have e' : F75 p ((k : Int) + 1) i j (((ms.getD k []).getD i []).getD j 0) s = _ := e
        refine ⟨_, by rw [show (fun n r pl v s => F75 p n r pl v s) ((k : Int) + 1) (i : Int) (j : Int) (((ms.getD k []).getD i []).getD j 0) s = _ from e', Option.bind_some], hI3.step hin0 hnd fun k' i' j' => by omega⟩
      · intro s hI3
        refine ⟨s, rfl, hI3.imp fun k' i' j' hin' => ?_⟩
        constructor
        · omega
        · intro q
          by_cases e : k' = k ∧ i' = i
          · obtain ⟨rfl, rfl⟩ := e
            have hj := (hsh.symm.inT hin').2.2
            omega
          · omega
    · intro s hI2
      refine ⟨s, rfl, hI2.imp fun k' i' j' hin' => ?_⟩
      constructor
      · omega
      · intro q
        by_cases e : k' = k
        · subst e
          have hj := (hsh.symm.inT hin').2.1
          omega
        · omega
  · intro s hI
    refine ⟨s, rfl, hI.imp fun k i j hin => ?_⟩
    have := (hsh.symm.inT hin).1
    simp [this]
/-- The shape of a loop that appends. -/
theorem cpy_loop {α : Type} {l : List α} {B : Int → List α → Option (List α ⊕ List α)} {D : Int → List α → Option (List α)} (hl : l.length ≤ 1048576)
    (hB : ∀ (i : Nat) (hi : i < l.length) (s : List α), s.length = i → B i s = some (.inl (s ++ [l[i]]))) (hD : ∀ i s, D i s = some s) : forR 0 (l.length : Int) B D [] = some l := by
  have hlen : l.length < 4611686018427387904 := by omega
  obtain ⟨t, h1, h2⟩ := forR_inv (B := B) (D := D) l.length rfl hlen (fun i s => s = l.take i) (fun t => t = l) (s := []) (by simp) (by
    rintro i s hi rfl
    left
    refine ⟨_, hB i hi _ (by simp; omega), ?_⟩
    rw [List.take_append_getElem]) (by
    rintro s rfl
    exact ⟨_, hD _ _, by simp⟩)
  rw [h1, h2]
theorem app_nil {b : Nat} {α : Type} {l : List α} (h : l.length * b ≤ 1099511627776) (h2 : l.length ≤ 1099511627776) : app b [] l = some l := by
  rw [app_ok (by simpa using h) (by simpa using h2)]; rfl
theorem F94_eq {l : List Int} (h : l.length ≤ 1048576) : F94 l = some l := by
  unfold F94; rw [app_nil (by omega) (by omega), Option.bind_some]
theorem F96_eq {l : List Int} (h : l.length ≤ 1048576) : F96 l = some l := by
  unfold F96; rw [app_nil (by omega) (by omega)]
theorem F95_eq {l : List (List Int)} (h : l.length ≤ 1048576) (h2 : ∀ r ∈ l, r.length ≤ 1048576) : F95 l = some l := by
  unfold F95
  rw [cpy_loop (B := F95_1_B l) (D := F95_1_D l) h (fun i hi s hs => by
    unfold F95_1_B
    rw [getI_nat hi, Option.bind_some, F94_eq (h2 _ (List.getElem_mem hi)), Option.bind_some, app_ok (by simp; omega) (by simp; omega), Option.bind_some]) (fun i s => rfl), Option.bind_some]
theorem F55_eq {x : GComplex} (h : SmallC x) : F55 x = some x := by
  have hm := h.m
  have hlen : x.Maps.length < 4611686018427387904 := by omega
  unfold F55
  rw [F94_eq h.d, Option.bind_some]
  obtain ⟨t, h1, h2⟩ := forR_inv (B := F55_1_B x) (D := F55_1_D x) x.Maps.length rfl hlen (fun i s => s = (x.Maps.take i, x.Prime, x.Dims)) (fun t => t = (x.Maps, x.Prime, x.Dims)) (s := ([], x.Prime, x.Dims)) (by simp) (by
    rintro i s hi rfl
    left
    have hr := h.r _ (List.getElem_mem hi)
    have hlt : (x.Maps.take i).length = i := by simp; omega
    refine ⟨(x.Maps.take (i + 1), x.Prime, x.Dims), ?_, rfl⟩
    unfold F55_1_B
    simp only
    rw [getI_nat hi, Option.bind_some, F95_eq hr.1 hr.2, Option.bind_some, app_ok (by simp; omega) (by simp; omega), Option.bind_some, List.take_append_getElem]) (by
    rintro s rfl
    exact ⟨_, rfl, by simp⟩)
  rw [h1, h2, Option.bind_some]
theorem MapsOK.self {x : GComplex} (h : ValidC x) : MapsOK x x.Maps := ⟨h, rfl, fun k hk => h.tab k hk⟩
theorem MapsOK.rng {x : GComplex} {ms : T3s} (h : MapsOK x ms) : Rng x.Prime ms := by
  rintro k i j ⟨h1, h2, h3⟩
  exact ((h.t k h1).2 _ (getD_mem h2 [])).2 _ (getD_mem h3 0)
def zT (dims : List Int) (k : Nat) : List (List Int) := List.replicate (dims.getD (k + 1) 0).toNat (List.replicate (dims.getD k 0).toNat (0 : Int))
def zM (dims : List Int) : T3s := (List.range (dims.length - 1)).map (zT dims)
theorem F74_2_eq {dims : List Int} (o : T3s) (a b : Int) (c : List Int) {n : Nat} (h1 : 1 ≤ n) (hn : n < dims.length) (hs : dims.length ≤ 1048576) (hd : ∀ d ∈ dims, 0 ≤ d ∧ d ≤ 8) :
    forR 0 (dims.getD n 0) (F74_2_B dims o a c n b) (F74_2_D dims o a c n b) [] = some (zT dims (n - 1)) := by
  have q := hd _ (getD_mem hn 0)
  have q' := hd _ (getD_mem (show n - 1 < dims.length by omega) 0)
  have e1 : ((n : Int) - 1) = ((n - 1 : Nat) : Int) := by omega
  obtain ⟨t, g1, g2⟩ := forR_inv (B := F74_2_B dims o a c n b) (D := F74_2_D dims o a c n b) (hi := dims.getD n 0) (dims.getD n 0).toNat (by omega) (by omega) (fun j s => s = List.replicate j (List.replicate (dims.getD (n - 1) 0).toNat (0 : Int))) (fun t => t = zT dims (n - 1)) (s := []) (by simp) (by
    rintro j s hj rfl
    left
    refine ⟨List.replicate (j + 1) (List.replicate (dims.getD (n - 1) 0).toNat (0 : Int)), ?_, rfl⟩
    unfold F74_2_B
    rw [chk_ok (by omega) (by omega), Option.bind_some, e1, getI_getD (show n - 1 < dims.length by omega) 0, Option.bind_some, mkL_ok (dims.getD (n - 1) 0).toNat (by omega) (by omega) (by omega), Option.bind_some, app_ok (by simp; omega) (by simp; omega), Option.bind_some, List.replicate_succ']) (by
    rintro s rfl
    refine ⟨_, rfl, ?_⟩
    unfold zT
    rw [show n - 1 + 1 = n by omega])
  rw [g1, g2]
theorem F74_eq {p : Int} {dims : List Int} (h1 : 1 ≤ dims.length) (hs : dims.length ≤ 1048576) (hd : ∀ d ∈ dims, 0 ≤ d ∧ d ≤ 8) : F74 p dims = some ⟨p, dims, zM dims⟩ := by
  have hlen : dims.length < 4611686018427387904 := by omega
  unfold F74
  obtain ⟨t, g1, g2⟩ := forR_from (B := F74_1_B dims) (D := F74_1_D dims) 1 dims.length rfl rfl h1 hlen (fun n s => 1 ≤ n ∧ s = ((List.range (n - 1)).map (zT dims), p, dims)) (fun t => t = (zM dims, p, dims)) (s := ([], p, dims)) ⟨Nat.le_refl _, rfl⟩ (by
    rintro n s hn ⟨hn1, rfl⟩
    left
    refine ⟨((List.range n).map (zT dims), p, dims), ?_, by omega, rfl⟩
    unfold F74_1_B
    simp only
    rw [getI_getD hn 0, Option.bind_some, F74_2_eq _ _ _ _ hn1 hn hs hd, Option.bind_some, app_ok (by simp; omega) (by simp; omega), Option.bind_some]
    obtain ⟨m, rfl⟩ : ∃ m, n = m + 1 := ⟨n - 1, by omega⟩
    rw [List.range_succ, List.map_append]; rfl) (by
    rintro s ⟨_, rfl⟩
    exact ⟨_, rfl, rfl⟩)
  have g1' : forR 1 (dims.length : Int) (F74_1_B dims) (F74_1_D dims) ([], p, dims) = some t := g1
  rw [g1', g2, Option.bind_some]
theorem zM_at {dims : List Int} {k : Nat} (hk : k < dims.length - 1) : (zM dims).getD k [] = zT dims k := by
  unfold zM
  rw [List.getD_eq_getElem?_getD, List.getElem?_map, List.getElem?_range hk]; rfl
theorem zM_shp {x : GComplex} (h : ValidC x) : Shp (zM x.Dims) x.Maps := by
  have hml := h.ml
  have hdl := h.dl
  refine ⟨by simp [zM]; omega, fun k hk => ?_, fun k hk i hi => ?_⟩
  · rw [zM_at (by omega)]
    have a := (h.tab k hk).1
    unfold zT
    rw [List.length_replicate]; omega
  · rw [zM_at (by omega)]
    have a := (h.tab k hk).1
    have d := ((h.tab k hk).2 _ (getD_mem hi [])).1
    have hlt : i < (zT x.Dims k).length := by unfold zT; rw [List.length_replicate]; omega
    have e : (zT x.Dims k).getD i [] = List.replicate (x.Dims.getD k 0).toNat (0 : Int) := by
      unfold zT at hlt ⊢
      rw [List.getD_eq_getElem?_getD, List.getElem?_eq_getElem hlt, List.getElem_replicate]; rfl
    rw [e, List.length_replicate]; omega
theorem zM_num {x : GComplex} (h : ValidC x) {k i j : Nat} (hin : InT (zM x.Dims) k i j) : numAt (zM x.Dims) k i j = 0 := by
  obtain ⟨h1, h2, h3⟩ := hin
  have hk : k < x.Dims.length - 1 := by simpa [zM] using h1
  rw [zM_at hk] at h2 h3
  unfold numAt
  rw [zM_at hk]
  unfold zT at h2 h3 ⊢
  have e : (List.replicate (x.Dims.getD (k + 1) 0).toNat (List.replicate (x.Dims.getD k 0).toNat (0 : Int))).getD i [] = List.replicate (x.Dims.getD k 0).toNat (0 : Int) := by
    rw [List.getD_eq_getElem?_getD, List.getElem?_eq_getElem h2, List.getElem_replicate]; rfl
  rw [e] at h3 ⊢
  rw [List.getD_eq_getElem?_getD, List.getElem?_eq_getElem h3, List.getElem_replicate]; rfl
theorem F57_eq {x : GComplex} (hx : SmallC x) (hv : ValidC x) : F57 x = some x := by
  have hp := hv.p.range
  have hok := MapsOK.self hv
  unfold F57
  rw [F96_eq hx.d, Option.bind_some, F74_eq (by have := hv.dl; omega) hx.d hv.dims, Option.bind_some]
  have hz : Rng x.Prime (zM x.Dims) := fun k i j hin => by rw [zM_num hv hin]; omega
  obtain ⟨r, g1, g2, g3⟩ := F85_add hp (s0 := zM x.Dims) (ms := x.Maps) ⟨hx.m, hx.r⟩ (zM_shp hv) hz hok.rng
  have hr : r = x.Maps := (g2.trans (zM_shp hv)).eq fun k i j hin => by
    have hin0 := (zM_shp hv).inT hin
    rw [(g3 k i j hin0).1 trivial, zM_num hv hin0]
    exact q1_zero hp (hok.rng k i j hin)
  subst hr
  rw [g1, Option.bind_some]
/-- Elements one behind the other, from a number up to another one. -/
inductive Ch {α : Type} (R : α → Int → Int → Prop) : List α → Int → Int → Prop
  | nil (k : Int) : Ch R [] k k
  | cons {a : α} {l : List α} {k j m : Int} : R a k j → Ch R l j m → Ch R (a :: l) k m
theorem Ch.snoc {α : Type} {R : α → Int → Int → Prop} {a : α} {j m : Int} (h : R a j m) : ∀ {l : List α} {k : Int}, Ch R l k j → Ch R (l ++ [a]) k m
  | _, _, .nil _ => .cons h (.nil _)
  | _, _, .cons p q => .cons p (Ch.snoc h q)
theorem take_set_app {α : Type} {l : List α} {i : Nat} (hi : i < l.length) (a : α) : (l.set i a).take (i + 1) = l.take i ++ [a] := by
  rw [List.take_add_one, List.getElem?_set_self hi, List.take_set_of_le (Nat.le_refl _)]; rfl
/-- The shape of a mark's loop. -/
theorem mark_loop {α : Type} {l : List α} {R : α → Int → Int → Prop} {M k : Int} {B : Int → List α × Int → Option ((List α × Int) ⊕ (List α × Int))} {D : Int → List α × Int → Option (List α × Int)} (hl : l.length ≤ 1048576) (hM : 0 ≤ M)
    (hB : ∀ (i : Nat) (hi : i < l.length) (s : List α) (j : Int), s.length = l.length → s[i]? = some l[i] → k ≤ j → j ≤ k + i * M → ∃ a m, B i (s, j) = some (.inl (s.set i a, m)) ∧ R a j m ∧ j ≤ m ∧ m ≤ j + M) (hD : ∀ i s, D i s = some s) :
    ∃ r j, forR 0 (l.length : Int) B D (l, k) = some (r, j) ∧ Ch R r k j ∧ k ≤ j ∧ j ≤ k + l.length * M ∧ r.length = l.length := by
  have hlen : l.length < 4611686018427387904 := by omega
  obtain ⟨t, h1, h2, h3, h4, h5⟩ := forR_inv (B := B) (D := D) l.length rfl hlen (fun i s => s.1.length = l.length ∧ (∀ n, i ≤ n → s.1[n]? = l[n]?) ∧ Ch R (s.1.take i) k s.2 ∧ k ≤ s.2 ∧ s.2 ≤ k + i * M) (fun t => Ch R t.1 k t.2 ∧ k ≤ t.2 ∧ t.2 ≤ k + l.length * M ∧ t.1.length = l.length) (s := (l, k)) ⟨rfl, fun _ _ => rfl, by simpa using Ch.nil k, Int.le_refl _, by simp⟩ (by
    rintro i ⟨s, j⟩ hi ⟨p1, p2, p3, p4, p5⟩
    simp only at p1 p2 p3 p4 p5
    left
    obtain ⟨a, m, q1, q2, q3, q4⟩ := hB i hi s j p1 (by rw [p2 i (Nat.le_refl _)]; simp [hi]) p4 p5
    refine ⟨_, q1, by simp [p1], fun n hn => ?_, ?_, by simp only; omega, ?_⟩
    · simp only
      rw [List.getElem?_set_ne (by omega)]; exact p2 n (by omega)
    · simp only
      rw [take_set_app (by omega)]; exact p3.snoc q2
    · simp only
      rw [Int.natCast_add, Int.add_mul]; omega) (by
    rintro ⟨s, j⟩ ⟨p1, p2, p3, p4, p5⟩
    simp only at p1 p2 p3 p4 p5
    refine ⟨_, hD _ _, ?_, p4, p5, p1⟩
    rw [← p1, List.take_length] at p3
    exact p3)
  exact ⟨t.1, t.2, h1, h2, h3, h4, h5⟩
/-- The shape of the loop that finds them. -/
theorem held_loop {α : Type} {l : List α} {R : α → Int → Int → Prop} {k m : Int} {B : Int → Int → Option (Int ⊕ (Int ⊕ Int))} {D : Int → Int → Option (Int ⊕ Int)} (hl : l.length ≤ 1048576) (hc : Ch R l k m)
    (hB : ∀ (i : Nat) (hi : i < l.length) (s j : Int), k ≤ s → R l[i] s j → B i s = some (.inl j)) (hR : ∀ a s j, R a s j → s ≤ j) (hD : ∀ i s, D i s = some (.inl s)) : forR 0 (l.length : Int) B D k = some (.inl m) := by
  have hlen : l.length < 4611686018427387904 := by omega
  obtain ⟨t, h1, h2⟩ := forR_inv (B := B) (D := D) l.length rfl hlen (fun i s => k ≤ s ∧ Ch R (l.drop i) s m) (fun t => t = .inl m) (s := k) ⟨Int.le_refl _, hc⟩ (by
    rintro i s hi ⟨p0, p⟩
    left
    rw [List.drop_eq_getElem_cons hi] at p
    cases p with
    | cons p q =>
      rename_i j
      exact ⟨j, hB i hi s j p0 p, by have := hR _ _ _ p; omega, q⟩) (by
    rintro s ⟨_, p⟩
    rw [List.drop_length] at p
    cases p
    exact ⟨_, hD _ _, rfl⟩)
  rw [h1, h2]
def Mk0 (n : Int) (k m : Int) : Prop := n = k ∧ m = k + 1
def Mk1 (l : List Int) (k m : Int) : Prop := l.length ≤ 1048576 ∧ k ≤ m ∧ m ≤ k + 1048576 ∧ Ch Mk0 l k m
def Mk2 (l : List (List Int)) (k m : Int) : Prop := l.length ≤ 1048576 ∧ k ≤ m ∧ m ≤ k + 1099511627776 ∧ Ch Mk1 l k m
def Mk3 (l : List (List (List Int))) (k m : Int) : Prop := l.length ≤ 1048576 ∧ k ≤ m ∧ m ≤ k + 1152921504606846976 ∧ Ch Mk2 l k m
theorem F31_mk {l : List Int} (h : l.length ≤ 1048576) {k : Int} (h0 : 0 ≤ k) (h1 : k ≤ 4611686018427387904) : ∃ r m, F31 l k = some (r, m) ∧ Mk1 r k m := by
  obtain ⟨r, j, g1, g2, g3, g4, g5⟩ := mark_loop (R := Mk0) (k := k) (B := F31_1_B) (D := F31_1_D) (M := 1) h (by decide) (by
    intro i hi s j e1 e2 e3 e4
    unfold F31_1_B
    simp only
    rw [setI_nat (by omega), Option.bind_some, chk_ok (by omega) (by omega), Option.bind_some]
    exact ⟨_, _, rfl, ⟨rfl, rfl⟩, by omega, by omega⟩) (fun i s => rfl)
  exact ⟨r, j, g1, by omega, g3, by omega, g2⟩
theorem F52_mk {l : List (List Int)} (h : l.length ≤ 1048576) (h2 : ∀ r ∈ l, r.length ≤ 1048576) {k : Int} (h0 : 0 ≤ k) (h1 : k ≤ 4000000000000000000) : ∃ r m, F52 l k = some (r, m) ∧ Mk2 r k m := by
  obtain ⟨r, j, g1, g2, g3, g4, g5⟩ := mark_loop (R := Mk1) (k := k) (B := F52_1_B) (D := F52_1_D) (M := 1048576) h (by decide) (by
    intro i hi s j e1 e2 e3 e4
    unfold F52_1_B
    simp only
    obtain ⟨r, m, q1, q2⟩ := F31_mk (h2 _ (List.getElem_mem hi)) (k := j) (by omega) (by omega)
    have e5 : getI s (i : Int) = some l[i] := by unfold getI; rw [if_pos (by omega), Int.toNat_natCast]; exact e2
    rw [e5, Option.bind_some, q1, Option.bind_some, setI_nat (by omega), Option.bind_some]
    exact ⟨_, _, rfl, q2, q2.2.1, q2.2.2.1⟩) (fun i s => rfl)
  exact ⟨r, j, g1, by omega, g3, by omega, g2⟩
theorem F21_mk {l : List (List (List Int))} (h : l.length ≤ 1048576) (h2 : ∀ m ∈ l, m.length ≤ 1048576 ∧ ∀ r ∈ m, r.length ≤ 1048576) {k : Int} (h0 : 0 ≤ k) (h1 : k ≤ 2800000000000000000) : ∃ r m, F21 l k = some (r, m) ∧ Mk3 r k m := by
  obtain ⟨r, j, g1, g2, g3, g4, g5⟩ := mark_loop (R := Mk2) (k := k) (B := F21_1_B) (D := F21_1_D) (M := 1099511627776) h (by decide) (by
    intro i hi s j e1 e2 e3 e4
    unfold F21_1_B
    simp only
    have hh := h2 _ (List.getElem_mem hi)
    obtain ⟨r, m, q1, q2⟩ := F52_mk hh.1 hh.2 (k := j) (by omega) (by omega)
    have e5 : getI s (i : Int) = some l[i] := by unfold getI; rw [if_pos (by omega), Int.toNat_natCast]; exact e2
    rw [e5, Option.bind_some, q1, Option.bind_some, setI_nat (by omega), Option.bind_some]
    exact ⟨_, _, rfl, q2, q2.2.1, q2.2.2.1⟩) (fun i s => rfl)
  exact ⟨r, j, g1, by omega, g3, by omega, g2⟩
theorem F32_held {l : List Int} {k m : Int} (h : Mk1 l k m) (h0 : 0 ≤ k) (h1 : k ≤ 4611686018427387904) : F32 l k = some m := by
  obtain ⟨hl, h2, h3, hc⟩ := h
  unfold F32
  have := held_loop (B := F32_1_B l) (D := F32_1_D l) (k := k) (m := m) hl (R := fun a s j => Mk0 a s j ∧ j ≤ m) (by
    clear h0 h1 h2 h3 hl
    induction hc with
    | nil k => exact .nil k
    | cons p q ih =>
      refine .cons ⟨p, ?_⟩ ih
      clear ih p
      induction q with
      | nil => exact Int.le_refl _
      | cons p q ih => obtain ⟨rfl, rfl⟩ := p; omega) (by
    rintro i hi s j hs ⟨⟨p, rfl⟩, hj⟩
    unfold F32_1_B
    rw [getI_nat hi, Option.bind_some, if_pos p, chk_ok (by omega) (by omega), Option.bind_some]) (fun a s j p => by obtain ⟨⟨_, rfl⟩, _⟩ := p; omega) (fun i s => rfl)
  rw [this, Option.bind_some]
theorem Ch.le {α : Type} {R : α → Int → Int → Prop} (hR : ∀ a s j, R a s j → s ≤ j) : ∀ {l : List α} {k m : Int}, Ch R l k m → k ≤ m
  | _, _, _, .nil _ => Int.le_refl _
  | _, _, _, .cons p q => Int.le_trans (hR _ _ _ p) (Ch.le hR q)
theorem Ch.upto {α : Type} {R : α → Int → Int → Prop} (hR : ∀ a s j, R a s j → s ≤ j) : ∀ {l : List α} {k m : Int}, Ch R l k m → Ch (fun a s j => R a s j ∧ j ≤ m) l k m
  | _, _, _, .nil k => .nil k
  | _, _, _, .cons p q => .cons ⟨p, Ch.le hR q⟩ (Ch.upto hR q)
theorem F59_held {l : List (List Int)} {k m : Int} (h : Mk2 l k m) (h0 : 0 ≤ k) (h1 : m ≤ 4611686018427387904) : F59 l k = some m := by
  obtain ⟨hl, h2, h3, hc⟩ := h
  unfold F59
  rw [held_loop (B := F59_1_B l) (D := F59_1_D l) (k := k) (m := m) hl (hc.upto fun a s j p => p.2.1) (by
    rintro i hi s j hs ⟨p, hj⟩
    unfold F59_1_B
    have p2 := p.2.1
    rw [getI_nat hi, Option.bind_some, F32_held p (by omega) (by omega), Option.bind_some, if_neg (by omega)]) (fun a s j p => p.1.2.1) (fun i s => rfl), Option.bind_some]
theorem F53_held {l : List (List (List Int))} {k m : Int} (h : Mk3 l k m) (h0 : 0 ≤ k) (h1 : m ≤ 4611686018427387904) : F53 l k = some m := by
  obtain ⟨hl, h2, h3, hc⟩ := h
  unfold F53
  rw [held_loop (B := F53_1_B l) (D := F53_1_D l) (k := k) (m := m) hl (hc.upto fun a s j p => p.2.1) (by
    rintro i hi s j hs ⟨p, hj⟩
    unfold F53_1_B
    have p2 := p.2.1
    rw [getI_nat hi, Option.bind_some, F59_held p (by omega) (by omega), Option.bind_some, if_neg (by omega)]) (fun a s j p => p.1.2.1) (fun i s => rfl), Option.bind_some]
theorem FM20_mk {x : GComplex} (h : SmallC x) {k : Int} (h0 : 0 ≤ k) (h1 : k ≤ 1048576) : ∃ y m, FM20 x k = some (y, m) ∧ k ≤ m ∧ m ≤ k + 1152921504608000000 ∧ F22 y k = some m := by
  obtain ⟨d, j, g1, g2⟩ := F31_mk h.d (k := k) h0 (by omega)
  have b2 := g2.2.1
  have b3 := g2.2.2.1
  obtain ⟨ms, m, k1, k2⟩ := F21_mk h.m h.r (k := j) (by omega) (by omega)
  have b4 := k2.2.1
  have b5 := k2.2.2.1
  refine ⟨⟨x.Prime, d, ms⟩, m, ?_, by omega, by omega, ?_⟩
  · unfold FM20 F20
    rw [g1, Option.bind_some]
    simp only
    rw [k1, Option.bind_some, Option.bind_some]
  · unfold F22
    simp only
    rw [F32_held g2 h0 (by omega), Option.bind_some, if_neg (by omega), F53_held k2 (by omega) (by omega), Option.bind_some, if_neg (by omega)]
theorem SmallC.zero : SmallC (⟨0, [], []⟩ : GComplex) := ⟨by simp, by simp, by simp⟩
structure SmallF (x : GFiltered) : Prop where
  c : SmallC x.Complex
  l : x.Levels.length ≤ 1048576
  r : ∀ q ∈ x.Levels, q.length ≤ 1048576
theorem SmallF.zero : SmallF (⟨⟨0, [], []⟩, []⟩ : GFiltered) := ⟨.zero, by simp, by simp⟩
theorem F25_same {x : GFiltered} (h : SmallF x) : F25 x x = some true := by
  unfold F25
  rw [F16_same h.c, Option.bind_some, if_pos rfl, F51_same h.l h.r, Option.bind_some, if_pos rfl]
theorem FM26_mk {x : GFiltered} (h : SmallF x) {k : Int} (h0 : 0 ≤ k) (h1 : k ≤ 1048576) : ∃ y m, FM26 x k = some (y, m) ∧ k ≤ m ∧ m ≤ k + 1152922604120000000 ∧ F27 y k = some m := by
  obtain ⟨y, j, g1, g2, g3, g4⟩ := FM20_mk h.c h0 h1
  obtain ⟨l, m, k1, k2⟩ := F52_mk h.l h.r (k := j) (by omega) (by omega)
  have b4 := k2.2.1
  have b5 := k2.2.2.1
  refine ⟨⟨y, l⟩, m, ?_, by omega, by omega, ?_⟩
  · unfold FM26
    rw [g1, Option.bind_some]
    simp only
    have k1' : FM52 x.Levels j = some (l, m) := k1
    rw [k1', Option.bind_some]
  · unfold F27
    simp only
    rw [g4, Option.bind_some, if_neg (by omega), F59_held k2 (by omega) (by omega), Option.bind_some, if_neg (by omega)]
def flatL (q : Int) (dims : List Int) : List (List Int) := dims.map fun d => List.replicate d.toNat q
theorem F23_2_eq {x : GComplex} {q : Int} (o : List (List Int)) (a : Int) (b : List Int) (c : List (List (List Int))) {n : Nat} (hn : n < x.Dims.length) (hd : 0 ≤ x.Dims.getD n 0 ∧ x.Dims.getD n 0 ≤ 8) :
    loopW (F23_2_S x q o a b c n) ([], 0) = some (List.replicate (x.Dims.getD n 0).toNat q) := by
  obtain ⟨t, h1, h2⟩ := loopW_inv (S := F23_2_S x q o a b c n) (fun s => (8 - s.2).toNat) (fun s => 0 ≤ s.2 ∧ s.2 ≤ x.Dims.getD n 0 ∧ s.1 = List.replicate s.2.toNat q) (fun t => t = List.replicate (x.Dims.getD n 0).toNat q) (s := ([], 0)) ⟨Int.le_refl _, hd.1, rfl⟩ (by
    rintro ⟨l, j⟩ ⟨p1, p2, p3⟩
    simp only at p1 p2 p3
    subst p3
    unfold F23_2_S
    simp only
    rw [getI_getD hn 0, Option.bind_some]
    by_cases hj : j < x.Dims.getD n 0
    · left
      rw [if_pos hj, app_ok (by simp; omega) (by simp; omega), Option.bind_some, chk_ok (by omega) (by omega), Option.bind_some]
      refine ⟨_, rfl, ⟨by simp only; omega, by simp only; omega, ?_⟩, by simp only; omega⟩
      simp only
      rw [show (j + 1).toNat = j.toNat + 1 from by omega, List.replicate_succ']
    · right
      rw [if_neg hj]
      have : j = x.Dims.getD n 0 := by omega
      subst this
      exact ⟨_, rfl, rfl⟩)
  rw [h1, h2]
theorem flatL_take {q : Int} {dims : List Int} {i : Nat} (hi : i < dims.length) : (flatL q dims).take i ++ [List.replicate (dims.getD i 0).toNat q] = (flatL q dims).take (i + 1) := by
  have hl : i < (flatL q dims).length := by simpa [flatL] using hi
  rw [← List.take_append_getElem hl]
  congr 2
  simp [flatL, hi]
theorem flat_same {x : GComplex} {q : Int} (hx : SmallC x) : ∃ y c, F23 x q = some ⟨y, c⟩ ∧ F24 x q = some ⟨y, c⟩ ∧ SmallF y := by
  unfold F23 F24
  obtain ⟨b, d1, d2, d3⟩ := (F39_tells hx).same (F42_tells hx)
  rw [d1, d2, Option.bind_some, Option.bind_some]
  cases b with
  | false => exact ⟨_, _, if_neg Bool.false_ne_true, if_neg Bool.false_ne_true, .zero⟩
  | true =>
    have hv := d3.1 rfl
    have hdims := hv.dims
    rw [if_pos rfl, if_pos rfl, F54_eq, F56_eq, Option.bind_some, Option.bind_some]
    by_cases hq : (0 : Int) ≤ q ∧ q ≤ 5
    · rw [if_pos (by simpa using hq), if_pos (by simpa using hq), F55_eq hx, F57_eq hx hv, Option.bind_some, Option.bind_some]
      have hlen : x.Dims.length < 4611686018427387904 := by have := hx.d; omega
      have hfl : (flatL q x.Dims).length = x.Dims.length := by simp [flatL]
      have hd : ∀ i, i < x.Dims.length → 0 ≤ x.Dims.getD i 0 ∧ x.Dims.getD i 0 ≤ 8 := fun i hi => hdims _ (getD_mem hi 0)
      have hdl := hx.d
      obtain ⟨t, h1, h2⟩ := forR_inv (B := F23_1_B x q) (D := F23_1_D x q) x.Dims.length rfl hlen (fun i s => s = ((flatL q x.Dims).take i, x.Prime, x.Dims, x.Maps)) (fun t => t = (flatL q x.Dims, x.Prime, x.Dims, x.Maps)) (s := ([], x.Prime, x.Dims, x.Maps)) (by simp) (by
        rintro i s hi rfl
        left
        refine ⟨_, ?_, rfl⟩
        unfold F23_1_B
        simp only
        rw [F23_2_eq _ _ _ _ hi (hd i hi), Option.bind_some, app_ok (by simp; omega) (by simp; omega), Option.bind_some, flatL_take hi]) (by
        rintro s rfl
        refine ⟨_, rfl, ?_⟩
        rw [← hfl, List.take_length])
      obtain ⟨u, k1, k2⟩ := forR_inv (B := F24_1_B x q) (D := F24_1_D x q) x.Dims.length rfl hlen (fun i s => s = (flatL q x.Dims).take i) (fun t => t = flatL q x.Dims) (s := []) (by simp) (by
        rintro i s hi rfl
        left
        refine ⟨_, ?_, rfl⟩
        unfold F24_1_B F58
        simp only
        rw [getI_getD hi 0, Option.bind_some, if_pos (hd i hi), Option.bind_some, app_ok (by simp; omega) (by simp; omega), Option.bind_some, flatL_take hi]) (by
        rintro s rfl
        refine ⟨_, rfl, ?_⟩
        rw [← hfl, List.take_length])
      rw [h1, k1, Option.bind_some, Option.bind_some, h2, k2]
      refine ⟨_, _, rfl, rfl, hx, by rw [hfl]; exact hdl, fun r hr => ?_⟩
      obtain ⟨d, hd', rfl⟩ := List.mem_map.1 hr
      have := hdims d hd'
      rw [List.length_replicate]; omega
    · exact ⟨_, _, if_neg (by simpa using hq), if_neg (by simpa using hq), .zero⟩
theorem law5 {x : GComplex} {q : Int} (hx : LongC x) (hq : Long0 q) : L113 x q := by
  unfold L113
  obtain ⟨z, a1, a2⟩ := F10_eq hx (s := 1048576) (by decide) (by decide)
  rcases a2 with a2 | ⟨a2, a3, hx'⟩
  · exact .inl ⟨z, a1, a2⟩
  obtain ⟨w, c, s1, s2, hw⟩ := flat_same (q := q) hx'
  obtain ⟨x', m0, e1, e2, e3, -⟩ := FM20_mk hx' (k := 1) (by decide) (by decide)
  obtain ⟨w', mg, g1, g2, g3, g4⟩ := FM26_mk hw (k := 1) (by decide) (by decide)
  exact .inr ⟨z, x, w, c, (x', m0), (w', mg), a1, by omega, F12_eq hx', s1, s2, F25_same hw, F16_same hx', e1, by simp only; omega, g1, g4, by simp only; omega⟩
end Rv
