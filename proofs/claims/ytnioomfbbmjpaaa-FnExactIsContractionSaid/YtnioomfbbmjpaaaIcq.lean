/- The plain law: what the typed functions answer -/
import Derived.Test.YtnioomfbbmjpaaaIcs1
namespace Rv
set_option linter.unusedVariables false
set_option linter.unusedSimpArgs false
def Cg (p a b : Int) : Prop := ∃ m, a = b + p * m
theorem Cg.refl (p a : Int) : Cg p a a := ⟨0, by simp⟩
theorem Cg.symm {p a b : Int} (h : Cg p a b) : Cg p b a := by
  obtain ⟨m, rfl⟩ := h; exact ⟨-m, by grind⟩
theorem Cg.trans {p a b c : Int} (h : Cg p a b) (k : Cg p b c) : Cg p a c := by
  obtain ⟨m, rfl⟩ := h; obtain ⟨n, rfl⟩ := k; exact ⟨n + m, by grind⟩
theorem Cg.add {p a b c d : Int} (h : Cg p a b) (k : Cg p c d) : Cg p (a + c) (b + d) := by
  obtain ⟨m, rfl⟩ := h; obtain ⟨n, rfl⟩ := k; exact ⟨m + n, by grind⟩
theorem Cg.sub {p a b c d : Int} (h : Cg p a b) (k : Cg p c d) : Cg p (a - c) (b - d) := by
  obtain ⟨m, rfl⟩ := h; obtain ⟨n, rfl⟩ := k; exact ⟨m - n, by grind⟩
theorem Cg.mul {p a b c d : Int} (h : Cg p a b) (k : Cg p c d) : Cg p (a * c) (b * d) := by
  obtain ⟨m, rfl⟩ := h; obtain ⟨n, rfl⟩ := k; exact ⟨b * n + m * d + p * (m * n), by grind⟩
theorem Cg.mod (p a : Int) : Cg p (a % p) a := ⟨-(a / p), by have := Int.emod_add_mul_ediv a p; grind⟩
theorem Cg.eq {p a b : Int} (h : Cg p a b) (a0 : 0 ≤ a) (a1 : a < p) (b0 : 0 ≤ b) (b1 : b < p) : a = b := by
  obtain ⟨m, hm⟩ := h
  have : a % p = b % p := by rw [hm, Int.add_mul_emod_self_left]
  rwa [Int.emod_eq_of_lt a0 a1, Int.emod_eq_of_lt b0 b1] at this
theorem Cg.emod {p a b : Int} (h : Cg p a b) : a % p = b % p := by
  obtain ⟨m, rfl⟩ := h; rw [Int.add_mul_emod_self_left]
def nth (v : List Int) (j : Nat) : Int := v.getD j 0
theorem nth_lt {v : List Int} {j : Nat} (h : j < v.length) : nth v j = v[j] := by simp [nth, h]
theorem nth_out {v : List Int} {j : Nat} (h : v.length ≤ j) : nth v j = 0 := by simp [nth, h]
theorem nth_ext {u v : List Int} (hl : u.length = v.length) (h : ∀ j, j < u.length → nth u j = nth v j) : u = v := by
  apply List.ext_getElem hl
  intro j h1 h2
  have := h j h1
  rwa [nth_lt h1, nth_lt h2] at this
structure VecOK (p : Int) (w : Nat) (v : List Int) : Prop where
  len : v.length = w
  rng : ∀ j, j < w → 0 ≤ nth v j ∧ nth v j < p
theorem VecOK.ext {p : Int} {w : Nat} {u v : List Int} (hu : VecOK p w u) (hv : VecOK p w v) (h : ∀ j, j < w → Cg p (nth u j) (nth v j)) : u = v :=
  nth_ext (hu.len.trans hv.len.symm) fun j hj => by
    rw [hu.len] at hj
    exact (h j hj).eq (hu.rng j hj).1 (hu.rng j hj).2 (hv.rng j hj).1 (hv.rng j hj).2
def zv (w : Nat) : List Int := List.replicate w 0
theorem nth_zv (w j : Nat) : nth (zv w) j = 0 := by
  rcases Nat.lt_or_ge j w with h | h
  · simp [nth, zv, h]
  · exact nth_out (by simpa [zv] using h)
theorem zv_ok {p : Int} (hp : 0 < p) (w : Nat) : VecOK p w (zv w) := ⟨by simp [zv], fun j _ => by rw [nth_zv]; omega⟩
def subv (p : Int) (v u : List Int) (k : Int) : List Int := List.zipWith (fun a b => (a - k * b) % p) v u
theorem nth_sub {p : Int} {w : Nat} {v u : List Int} {k : Int} (hv : v.length = w) (hu : u.length = w) {j : Nat} (hj : j < w) : nth (subv p v u k) j = (nth v j - k * nth u j) % p := by
  have h1 : j < (subv p v u k).length := by simp [subv]; omega
  rw [nth_lt h1, nth_lt (show j < v.length by omega), nth_lt (show j < u.length by omega)]
  simp [subv]
theorem sub_cg {p : Int} {w : Nat} {v u : List Int} {k : Int} (hv : v.length = w) (hu : u.length = w) {j : Nat} (hj : j < w) : Cg p (nth (subv p v u k) j) (nth v j - k * nth u j) := by
  rw [nth_sub hv hu hj]; exact .mod _ _
theorem sub_ok {p : Int} (hp : 0 < p) {w : Nat} {v u : List Int} {k : Int} (hv : v.length = w) (hu : u.length = w) : VecOK p w (subv p v u k) :=
  ⟨by simp [subv, hv, hu], fun j hj => by rw [nth_sub hv hu hj]; exact ⟨Int.emod_nonneg _ (by omega), Int.emod_lt_of_pos _ hp⟩⟩
inductive Sp (p : Int) (w : Nat) (R : List (List Int)) : List Int → Prop
  | zero : Sp p w R (zv w)
  | sub {v r : List Int} (k : Int) : Sp p w R v → r ∈ R → Sp p w R (subv p v r k)
abbrev Rows (p : Int) (w : Nat) (R : List (List Int)) : Prop := ∀ r ∈ R, VecOK p w r
section
variable {p : Int} {w : Nat} {R : List (List Int)}
theorem Sp.ok (hp : 0 < p) (hR : Rows p w R) {v : List Int} (h : Sp p w R v) : VecOK p w v := by
  induction h with
  | zero => exact zv_ok hp w
  | sub k _ hr ih => exact sub_ok hp ih.len (hR _ hr).len
theorem Sp.lin (hp : 0 < p) (hR : Rows p w R) {u v : List Int} (hu : Sp p w R u) (hv : Sp p w R v) (k : Int) : Sp p w R (subv p u v k) := by
  induction hv generalizing u k with
  | zero =>
    have hu' := hu.ok hp hR
    have : subv p u (zv w) k = u := (sub_ok hp hu'.len (zv_ok hp w).len).ext hu' fun j hj => (sub_cg hu'.len (zv_ok hp w).len hj).trans (by rw [nth_zv]; exact ⟨0, by grind⟩)
    rw [this]; exact hu
  | @sub v r k' hv hr ih =>
    have hu' := hu.ok hp hR
    have hv' := hv.ok hp hR
    have hr' := hR _ hr
    have h1 := ih hu k
    have h1' := h1.ok hp hR
    have : subv p u (subv p v r k') k = subv p (subv p u v k) r (-(k * k')) := (sub_ok hp hu'.len (sub_ok hp hv'.len hr'.len).len).ext (sub_ok hp h1'.len hr'.len) fun j hj => by
      refine (sub_cg hu'.len (sub_ok hp hv'.len hr'.len).len hj).trans (Cg.trans (.sub (.refl _ _) (.mul (.refl _ _) (sub_cg hv'.len hr'.len hj))) (Cg.symm ((sub_cg h1'.len hr'.len hj).trans (Cg.trans (.sub (sub_cg hu'.len hv'.len hj) (.refl _ _)) ?_))))
      exact ⟨0, by grind⟩
    rw [this]
    exact .sub _ h1 hr
theorem Sp.mem (hp : 0 < p) (hR : Rows p w R) {r : List Int} (hr : r ∈ R) : Sp p w R r := by
  have h := Sp.sub (-1) (Sp.zero (p := p) (w := w) (R := R)) hr
  have hr' := hR _ hr
  have : subv p (zv w) r (-1) = r := (sub_ok hp (zv_ok hp w).len hr'.len).ext hr' fun j hj => (sub_cg (zv_ok hp w).len hr'.len hj).trans (by rw [nth_zv]; exact ⟨0, by grind⟩)
  rwa [this] at h
theorem Sp.scale (hp : 0 < p) (hR : Rows p w R) {v : List Int} (hv : Sp p w R v) (k : Int) : Sp p w R (subv p (zv w) v k) := Sp.lin hp hR .zero hv k
theorem Sp.into {T : List (List Int)} (hp : 0 < p) (hT : Rows p w T) (h : ∀ r ∈ R, Sp p w T r) {v : List Int} (hv : Sp p w R v) : Sp p w T v := by
  induction hv with
  | zero => exact .zero
  | sub k _ hr ih => exact Sp.lin hp hT ih (h _ hr) k
theorem Sp.mono {T : List (List Int)} (h : ∀ r ∈ R, r ∈ T) {v : List Int} (hv : Sp p w R v) : Sp p w T v := by
  induction hv with
  | zero => exact .zero
  | sub k _ hr ih => exact .sub k ih (h _ hr)
theorem sub_back (hp : 0 < p) {v u : List Int} (hv : VecOK p w v) (hu : VecOK p w u) (k : Int) : subv p (subv p v u k) u (-k) = v :=
  (sub_ok hp (sub_ok hp hv.len hu.len).len hu.len).ext hv fun j hj => (sub_cg (sub_ok hp hv.len hu.len).len hu.len hj).trans (Cg.trans (.sub (sub_cg hv.len hu.len hj) (.refl _ _)) ⟨0, by grind⟩)
theorem sub_iff (hp : 0 < p) {T : List (List Int)} (hT : Rows p w T) {v u : List Int} (hv : VecOK p w v) (hu : Sp p w T u) (k : Int) : Sp p w T (subv p v u k) ↔ Sp p w T v :=
  ⟨fun h => by have := Sp.lin hp hT h hu (-k); rwa [sub_back hp hv (hu.ok hp hT)] at this, fun h => Sp.lin hp hT h hu k⟩
end
def ld (r : List Int) : Nat := r.findIdx (fun x => x != 0)
theorem ld_zero {r : List Int} {j : Nat} (h : j < ld r) : nth r j = 0 := by
  have hj : j < r.length := Nat.lt_of_lt_of_le h List.findIdx_le_length
  have := List.not_of_lt_findIdx h
  rw [nth_lt hj]
  simpa using this
theorem ld_ne {r : List Int} (h : ld r < r.length) : nth r (ld r) ≠ 0 := by
  rw [nth_lt h]
  have h' : (r.findIdx fun x => x != 0) < r.length := h
  have := List.findIdx_getElem (w := h')
  intro e
  have e' : r[r.findIdx fun x => x != 0] = 0 := e
  rw [e'] at this
  simp at this
theorem ld_of {r : List Int} {l : Nat} (h0 : ∀ j, j < l → nth r j = 0) (h1 : nth r l ≠ 0) : ld r = l := by
  have hl : l < r.length := by
    rcases Nat.lt_or_ge l r.length with h | h
    · exact h
    · exact absurd (nth_out h) h1
  rcases Nat.lt_trichotomy (ld r) l with h | h | h
  · exact absurd (h0 _ h) (ld_ne (by omega))
  · exact h
  · exact absurd (ld_zero h) h1
structure Red (p : Int) (w : Nat) (R : List (List Int)) : Prop where
  ok : Rows p w R
  one : ∀ r ∈ R, ld r < w ∧ nth r (ld r) = 1
  ord : R.Pairwise fun r s => ld r < ld s ∧ nth r (ld s) = 0
def comb (R : List (List Int)) (v : List Int) (j : Nat) : Int := match R with
  | [] => 0
  | r :: R => nth v (ld r) * nth r j + comb R v j
theorem comb_zero {R : List (List Int)} {v : List Int} {j : Nat} (h : ∀ r ∈ R, nth v (ld r) = 0 ∨ nth r j = 0) : comb R v j = 0 := by
  induction R with
  | nil => rfl
  | cons r R ih =>
    unfold comb
    rw [ih fun s hs => h s (List.mem_cons_of_mem _ hs)]
    rcases h r List.mem_cons_self with h | h <;> rw [h] <;> simp
theorem comb_lin {p : Int} {w : Nat} {v u : List Int} {k : Int} (hv : v.length = w) (hu : u.length = w) {j : Nat} : ∀ {R : List (List Int)}, (∀ r ∈ R, ld r < w) → Cg p (comb R (subv p v u k) j) (comb R v j - k * comb R u j)
  | [], _ => ⟨0, by simp [comb]⟩
  | r :: R, h => by
    unfold comb
    refine Cg.trans (.add (.mul (sub_cg hv hu (h r List.mem_cons_self)) (.refl _ _)) (comb_lin hv hu fun s hs => h s (List.mem_cons_of_mem _ hs))) ⟨0, by grind⟩
theorem comb_self {p : Int} {w : Nat} {j : Nat} : ∀ {R : List (List Int)} (h : Red p w R) {s : List Int} (hs : s ∈ R), comb R s j = nth s j
  | r :: R, h, s, hs => by
    have hp := List.pairwise_cons.1 h.ord
    unfold comb
    rcases List.mem_cons.1 hs with rfl | hs
    · rw [(h.one _ List.mem_cons_self).2, comb_zero fun t ht => .inl (hp.1 t ht).2]; simp
    · rw [ld_zero (hp.1 s hs).1, comb_self ⟨fun t ht => h.ok t (List.mem_cons_of_mem _ ht), fun t ht => h.one t (List.mem_cons_of_mem _ ht), hp.2⟩ hs]; simp
theorem Red.coord {p : Int} {w : Nat} {R : List (List Int)} (hp : 0 < p) (h : Red p w R) {v : List Int} (hv : Sp p w R v) (j : Nat) (hj : j < w) : Cg p (nth v j) (comb R v j) := by
  induction hv with
  | zero => rw [nth_zv, comb_zero fun r _ => .inl (nth_zv _ _)]; exact .refl _ _
  | @sub v r k hv hr ih =>
    have hv' := hv.ok hp h.ok
    have hr' := h.ok _ hr
    refine (sub_cg hv'.len hr'.len hj).trans (Cg.trans (.sub ih (.refl _ _)) (Cg.symm ((comb_lin hv'.len hr'.len fun s hs => (h.one s hs).1).trans ?_)))
    rw [comb_self h hr]; exact .refl _ _
theorem Red.lead {p : Int} {w : Nat} {R : List (List Int)} (hp : 0 < p) (h : Red p w R) {v : List Int} (hv : Sp p w R v) (hl : ld v < w) : ∃ r ∈ R, ld r = ld v := by
  refine Classical.byContradiction fun hn => ?_
  have hv' := hv.ok hp h.ok
  have hc := h.coord hp hv (ld v) hl
  rw [comb_zero fun r hr => ?_] at hc
  · have := hc.eq (hv'.rng _ hl).1 (hv'.rng _ hl).2 (Int.le_refl _) hp
    exact ld_ne (by rw [hv'.len]; exact hl) this
  · rcases Nat.lt_trichotomy (ld r) (ld v) with q | q | q
    · exact .inl (ld_zero q)
    · exact absurd ⟨r, hr, q⟩ hn
    · exact .inr (ld_zero q)
theorem sorted_eq : ∀ {a b : List Nat}, a.Pairwise (· < ·) → b.Pairwise (· < ·) → (∀ x, x ∈ a ↔ x ∈ b) → a = b
  | [], [], _, _, _ => rfl
  | [], y :: b, _, _, h => by have := (h y).2 List.mem_cons_self; simp at this
  | x :: a, [], _, _, h => by have := (h x).1 List.mem_cons_self; simp at this
  | x :: a, y :: b, ha, hb, h => by
    obtain ⟨a1, a2⟩ := List.pairwise_cons.1 ha
    obtain ⟨b1, b2⟩ := List.pairwise_cons.1 hb
    have e : x = y := by
      rcases List.mem_cons.1 ((h x).1 List.mem_cons_self) with q | q
      · exact q
      · rcases List.mem_cons.1 ((h y).2 List.mem_cons_self) with q' | q'
        · exact q'.symm
        · have := b1 x q; have := a1 y q'; omega
    subst e
    rw [sorted_eq a2 b2 fun z => ⟨fun hz => ?_, fun hz => ?_⟩]
    · rcases List.mem_cons.1 ((h z).1 (List.mem_cons_of_mem _ hz)) with rfl | q
      · exact absurd (a1 _ hz) (Nat.lt_irrefl _)
      · exact q
    · rcases List.mem_cons.1 ((h z).2 (List.mem_cons_of_mem _ hz)) with rfl | q
      · exact absurd (b1 _ hz) (Nat.lt_irrefl _)
      · exact q
theorem Red.leads {p : Int} {w : Nat} {R : List (List Int)} (h : Red p w R) : (R.map ld).Pairwise (· < ·) := by
  rw [List.pairwise_map]
  exact h.ord.imp fun q => q.1
theorem Red.unique {p : Int} {w : Nat} {R S : List (List Int)} (hp : 0 < p) (hR : Red p w R) (hS : Red p w S) (h : ∀ v, Sp p w R v ↔ Sp p w S v) : R = S := by
  have hL : R.map ld = S.map ld := sorted_eq hR.leads hS.leads fun x => by
    constructor
    · intro hx
      obtain ⟨r, hr, rfl⟩ := List.mem_map.1 hx
      obtain ⟨s, hs, e⟩ := hS.lead hp ((h r).1 (.mem hp hR.ok hr)) (hR.one r hr).1
      exact List.mem_map.2 ⟨s, hs, e⟩
    · intro hx
      obtain ⟨r, hr, rfl⟩ := List.mem_map.1 hx
      obtain ⟨s, hs, e⟩ := hR.lead hp ((h r).2 (.mem hp hS.ok hr)) (hS.one r hr).1
      exact List.mem_map.2 ⟨s, hs, e⟩
  have hlen : R.length = S.length := by have := congrArg List.length hL; simpa using this
  apply List.ext_getElem hlen
  intro i h1 h2
  have hr := List.getElem_mem h1
  have hs := List.getElem_mem h2
  have r1 := hR.ok _ hr
  have s1 := hS.ok _ hs
  have ldq : ∀ k (a : k < R.length) (b : k < S.length), ld R[k] = ld S[k] := fun k a b => by
    have : (R.map ld)[k]'(by simpa using a) = (S.map ld)[k]'(by simpa using b) := by simp only [hL]
    simpa using this
  -- their difference
  have hd : Sp p w R (subv p R[i] S[i] 1) := Sp.lin hp hR.ok (.mem hp hR.ok hr) ((h _).2 (.mem hp hS.ok hs)) 1
  have hdk := hd.ok hp hR.ok
  have val : ∀ (T : List (List Int)) (hT : Red p w T) (a b : Nat) (ha : a < T.length) (hb : b < T.length), nth T[a] (ld T[b]) = if a = b then 1 else 0 := fun T hT a b ha hb => by
    rcases Nat.lt_trichotomy a b with q | q | q
    · rw [if_neg (by omega)]; exact (List.pairwise_iff_getElem.1 hT.ord a b ha hb q).2
    · subst q; rw [if_pos rfl]; exact (hT.one _ (List.getElem_mem ha)).2
    · rw [if_neg (by omega)]; exact ld_zero (List.pairwise_iff_getElem.1 hT.ord b a hb ha q).1
  refine r1.ext s1 fun j hj => ?_
  have hc := hR.coord hp hd j hj
  rw [comb_zero fun r hr' => .inl ?_] at hc
  · have := (sub_cg r1.len s1.len hj).symm.trans hc
    obtain ⟨m, hm⟩ := this
    exact ⟨m, by grind⟩
  · obtain ⟨k, hk, rfl⟩ := List.getElem_of_mem hr'
    have hkw := (hR.one _ (List.getElem_mem hk)).1
    have e1 := val R hR i k h1 hk
    have e2 := val S hS i k h2 (by omega)
    rw [← ldq k hk (by omega)] at e2
    have hcg := sub_cg (p := p) (k := 1) r1.len s1.len hkw
    rw [e1, e2] at hcg
    refine hcg.trans ⟨0, by grind⟩ |>.eq (hdk.rng _ hkw).1 (hdk.rng _ hkw).2 (Int.le_refl _) hp
end Rv
namespace Rv
set_option linter.unusedVariables false
set_option linter.unusedSimpArgs false
section
variable {p : Int} {w : Nat}
theorem sub_zero (hp : 0 < p) {v u : List Int} (hv : VecOK p w v) (hu : u.length = w) : subv p v u 0 = v :=
  (sub_ok hp hv.len hu).ext hv fun j hj => (sub_cg hv.len hu hj).trans ⟨0, by grind⟩
def scl (p : Int) (v : List Int) (k : Int) : List Int := v.map fun x => x * k % p
theorem scl_sub (hp : 0 < p) {v : List Int} (hv : VecOK p w v) (k : Int) : scl p v k = subv p (zv w) v (-k) := by
  have hl : (scl p v k).length = w := by simp [scl, hv.len]
  refine nth_ext (hl.trans (sub_ok hp (zv_ok hp w).len hv.len).len.symm) fun j hj => ?_
  rw [hl] at hj
  rw [nth_sub (zv_ok hp w).len hv.len hj, nth_zv, nth_lt (by rw [hl]; exact hj), nth_lt (show j < v.length by rw [hv.len]; exact hj)]
  simp only [scl, List.getElem_map]
  congr 1; grind
theorem nth_scl (hp : 0 < p) {v : List Int} (hv : VecOK p w v) (k : Int) {j : Nat} (hj : j < w) : Cg p (nth (scl p v k) j) (nth v j * k) := by
  rw [scl_sub hp hv]
  exact (sub_cg (zv_ok hp w).len hv.len hj).trans (by rw [nth_zv]; exact ⟨0, by grind⟩)
theorem scl_ok (hp : 0 < p) {v : List Int} (hv : VecOK p w v) (k : Int) : VecOK p w (scl p v k) := by
  rw [scl_sub hp hv]; exact sub_ok hp (zv_ok hp w).len hv.len
theorem scl_back (hp : 0 < p) {v : List Int} (hv : VecOK p w v) {k m : Int} (hk : Cg p (m * k) 1) : subv p (zv w) (scl p v k) (-m) = v :=
  (sub_ok hp (zv_ok hp w).len (scl_ok hp hv k).len).ext hv fun j hj => (sub_cg (zv_ok hp w).len (scl_ok hp hv k).len hj).trans (by
    rw [nth_zv]
    have h1 := Cg.mul (Cg.refl p m) (nth_scl hp hv k hj)
    have h2 := Cg.mul hk (Cg.refl p (nth v j))
    obtain ⟨a, ha⟩ := h1
    obtain ⟨b, hb⟩ := h2
    exact ⟨a + b, by grind⟩)
def rest (p : Int) (R : List (List Int)) (v : List Int) : List Int := R.foldl (fun v r => subv p v r (nth v (ld r))) v
theorem rest_ok (hp : 0 < p) : ∀ {R : List (List Int)} (hR : Rows p w R) {v : List Int} (hv : VecOK p w v), VecOK p w (rest p R v)
  | [], _, v, hv => hv
  | r :: R, hR, v, hv => rest_ok hp (R := R) (fun s hs => hR s (List.mem_cons_of_mem _ hs)) (sub_ok hp hv.len (hR r List.mem_cons_self).len)
theorem rest_iff (hp : 0 < p) {T : List (List Int)} (hT : Rows p w T) : ∀ {R : List (List Int)} (hR : Rows p w R) (h : ∀ r ∈ R, Sp p w T r) {v : List Int} (hv : VecOK p w v), Sp p w T (rest p R v) ↔ Sp p w T v
  | [], _, _, v, hv => Iff.rfl
  | r :: R, hR, h, v, hv => by
    have h1 := rest_iff hp hT (R := R) (fun s hs => hR s (List.mem_cons_of_mem _ hs)) (fun s hs => h s (List.mem_cons_of_mem _ hs)) (sub_ok hp hv.len (hR r List.mem_cons_self).len (k := nth v (ld r)))
    exact h1.trans (sub_iff hp hT hv (h r List.mem_cons_self) _)
theorem rest_keep (hp : 0 < p) {j : Nat} (hj : j < w) : ∀ {R : List (List Int)} (hR : Rows p w R) (h : ∀ r ∈ R, nth r j = 0) {v : List Int} (hv : VecOK p w v), nth v j = 0 → nth (rest p R v) j = 0
  | [], _, _, v, hv, h0 => h0
  | r :: R, hR, h, v, hv, h0 => by
    refine rest_keep hp hj (R := R) (fun s hs => hR s (List.mem_cons_of_mem _ hs)) (fun s hs => h s (List.mem_cons_of_mem _ hs)) (sub_ok hp hv.len (hR r List.mem_cons_self).len) ?_
    rw [nth_sub hv.len (hR r List.mem_cons_self).len hj, h0, h r List.mem_cons_self]; simp
theorem rest_lead (hp : 0 < p) : ∀ {R : List (List Int)} (hR : Red p w R) {v : List Int} (hv : VecOK p w v), ∀ r ∈ R, nth (rest p R v) (ld r) = 0
  | [], _, v, hv, r, hr => by cases hr
  | s :: R, hR, v, hv, r, hr => by
    obtain ⟨o1, o2⟩ := List.pairwise_cons.1 hR.ord
    have hR' : Red p w R := ⟨fun t ht => hR.ok t (List.mem_cons_of_mem _ ht), fun t ht => hR.one t (List.mem_cons_of_mem _ ht), o2⟩
    have hs := hR.ok s List.mem_cons_self
    have hv' : VecOK p w (subv p v s (nth v (ld s))) := sub_ok hp hv.len hs.len
    rcases List.mem_cons.1 hr with rfl | hr
    · refine rest_keep hp (hR.one _ List.mem_cons_self).1 hR'.ok (fun t ht => ld_zero (o1 t ht).1) hv' ?_
      rw [nth_sub hv.len hs.len (hR.one _ List.mem_cons_self).1, (hR.one _ List.mem_cons_self).2]; simp
    · exact rest_lead hp hR' hv' r hr
def insF (p : Int) (own : List Int) (a : Nat) (o : List Int) : List Int := subv p o own (nth o a)
def ins (p : Int) (own : List Int) (a : Nat) : List (List Int) → List (List Int)
  | [] => [own]
  | o :: out => if a < ld o then own :: insF p own a o :: out.map (insF p own a) else insF p own a o :: ins p own a out
theorem mem_ins {own : List Int} {a : Nat} {x : List Int} : ∀ {out : List (List Int)}, x ∈ ins p own a out ↔ x = own ∨ ∃ o ∈ out, x = insF p own a o
  | [] => by simp [ins]
  | o :: out => by
    unfold ins
    split
    · simp only [List.mem_cons, List.mem_map]
      constructor
      · rintro (h | h | ⟨q, h1, h2⟩)
        · exact .inl h
        · exact .inr ⟨o, .inl rfl, h⟩
        · exact .inr ⟨q, .inr h1, h2.symm⟩
      · rintro (h | ⟨q, rfl | h1, h2⟩)
        · exact .inl h
        · exact .inr (.inl h2)
        · exact .inr (.inr ⟨q, h1, h2.symm⟩)
    · simp only [List.mem_cons, mem_ins (out := out)]
      constructor
      · rintro (h | h | ⟨q, h1, h2⟩)
        · exact .inr ⟨o, .inl rfl, h⟩
        · exact .inl h
        · exact .inr ⟨q, .inr h1, h2⟩
      · rintro (h | ⟨q, rfl | h1, h2⟩)
        · exact .inr (.inl h)
        · exact .inl h2
        · exact .inr (.inr ⟨q, h1, h2⟩)
structure New (p : Int) (w : Nat) (R : List (List Int)) (own : List Int) (a : Nat) : Prop where
  ok : VecOK p w own
  lt : a < w
  z : ∀ j, j < a → nth own j = 0
  one : nth own a = 1
  zl : ∀ r ∈ R, nth own (ld r) = 0
theorem New.ld {R : List (List Int)} {own : List Int} {a : Nat} (n : New p w R own a) : Rv.ld own = a := ld_of n.z (by rw [n.one]; decide)
theorem insF_one (hp : 1 < p) {R : List (List Int)} {own : List Int} {a : Nat} (hR : Red p w R) (n : New p w R own a) {o : List Int} (ho : o ∈ R) : VecOK p w (insF p own a o) ∧ ld (insF p own a o) = ld o ∧ nth (insF p own a o) (ld o) = 1 ∧ nth (insF p own a o) a = 0 ∧ ld o ≠ a := by
  have hok := hR.ok o ho
  have hone := hR.one o ho
  have hne : Rv.ld o ≠ a := fun e => by have := n.zl o ho; rw [e, n.one] at this; cases this
  have h1 : nth (insF p own a o) (Rv.ld o) = 1 := by
    unfold insF
    rw [nth_sub hok.len n.ok.len hone.1, hone.2, n.zl o ho]
    simp only [Int.mul_zero, Int.sub_zero]
    exact Int.emod_eq_of_lt (by decide) hp
  refine ⟨sub_ok (by omega) hok.len n.ok.len, ?_, h1, ?_, hne⟩
  · refine ld_of (fun j hj => ?_) (by rw [h1]; decide)
    have hjw : j < w := by omega
    unfold insF
    rw [nth_sub hok.len n.ok.len hjw, ld_zero hj]
    rcases Nat.lt_or_gt_of_ne hne with q | q
    · rw [n.z j (by omega)]; simp
    · rw [ld_zero q]; simp
  · unfold insF
    rw [nth_sub hok.len n.ok.len n.lt, n.one]; simp
theorem insF_zero (hp : 1 < p) {R : List (List Int)} {own : List Int} {a : Nat} (hR : Red p w R) (n : New p w R own a) {o s : List Int} (ho : o ∈ R) (hs : s ∈ R) (h : nth o (ld s) = 0) : nth (insF p own a o) (ld s) = 0 := by
  unfold insF
  rw [nth_sub (hR.ok o ho).len n.ok.len (hR.one s hs).1, h, n.zl s hs]; simp
theorem ins_ord (hp : 1 < p) {R : List (List Int)} {own : List Int} {a : Nat} (hR : Red p w R) (n : New p w R own a) : ∀ {out : List (List Int)}, (∀ o ∈ out, o ∈ R) → out.Pairwise (fun r s => ld r < ld s ∧ nth r (ld s) = 0) → (ins p own a out).Pairwise fun r s => ld r < ld s ∧ nth r (ld s) = 0
  | [], _, _ => by simp [ins]
  | o :: out, hm, ho => by
    obtain ⟨o1, o2⟩ := List.pairwise_cons.1 ho
    have hoR := hm o List.mem_cons_self
    have hmap : ∀ {l : List (List Int)}, (∀ x ∈ l, x ∈ R) → l.Pairwise (fun r s => Rv.ld r < Rv.ld s ∧ nth r (Rv.ld s) = 0) → (l.map (insF p own a)).Pairwise fun r s => Rv.ld r < Rv.ld s ∧ nth r (Rv.ld s) = 0 := fun {l} hl hp' => by
      rw [List.pairwise_map]
      refine hp'.imp_of_mem fun hr hs q => ?_
      rw [(insF_one hp hR n (hl _ hr)).2.1, (insF_one hp hR n (hl _ hs)).2.1]
      exact ⟨q.1, insF_zero hp hR n (hl _ hr) (hl _ hs) q.2⟩
    unfold ins
    split
    · rename_i ha
      rw [← List.map_cons]
      refine List.pairwise_cons.2 ⟨fun x hx => ?_, hmap hm ho⟩
      obtain ⟨q, hq, rfl⟩ := List.mem_map.1 hx
      rw [(insF_one hp hR n (hm q hq)).2.1, n.ld]
      refine ⟨?_, n.zl q (hm q hq)⟩
      rcases List.mem_cons.1 hq with rfl | hq
      · exact ha
      · have := (o1 q hq).1; omega
    · rename_i ha
      have hf := insF_one hp hR n hoR
      refine List.pairwise_cons.2 ⟨fun x hx => ?_, ins_ord hp hR n (fun q hq => hm q (List.mem_cons_of_mem _ hq)) o2⟩
      rw [hf.2.1]
      rcases mem_ins.1 hx with rfl | ⟨q, hq, rfl⟩
      · rw [n.ld]; exact ⟨by have := hf.2.2.2.2; omega, hf.2.2.2.1⟩
      · have hqR := hm q (List.mem_cons_of_mem _ hq)
        rw [(insF_one hp hR n hqR).2.1]
        exact ⟨(o1 q hq).1, insF_zero hp hR n hoR hqR (o1 q hq).2⟩
theorem ins_red (hp : 1 < p) {R : List (List Int)} {own : List Int} {a : Nat} (hR : Red p w R) (n : New p w R own a) : Red p w (ins p own a R) := by
  refine ⟨fun x hx => ?_, fun x hx => ?_, ins_ord hp hR n (fun _ h => h) hR.ord⟩
  · rcases mem_ins.1 hx with rfl | ⟨q, hq, rfl⟩
    · exact n.ok
    · exact (insF_one hp hR n hq).1
  · rcases mem_ins.1 hx with rfl | ⟨q, hq, rfl⟩
    · rw [n.ld]; exact ⟨n.lt, n.one⟩
    · have h := insF_one hp hR n hq
      rw [h.2.1]; exact ⟨(hR.one q hq).1, h.2.2.1⟩
structure EchOf (p : Int) (w : Nat) (rows out : List (List Int)) : Prop where
  red : Red p w out
  sp : ∀ v, Sp p w out v ↔ Sp p w rows v
theorem EchOf.nil (p : Int) (w : Nat) : EchOf p w [] [] := ⟨⟨fun r h => (nomatch h), fun r h => (nomatch h), .nil⟩, fun v => Iff.rfl⟩
theorem EchOf.skip (hp : 1 < p) {rows out : List (List Int)} {row : List Int} (h : EchOf p w rows out) (hr : Rows p w rows) (hrow : VecOK p w row) (h0 : ∀ j, j < w → nth (rest p out row) j = 0) : EchOf p w (rows ++ [row]) out := by
  have hz : rest p out row = zv w := (rest_ok (by omega) h.red.ok hrow).ext (zv_ok (by omega) w) fun j hj => by rw [h0 j hj, nth_zv]; exact .refl _ _
  have hin : Sp p w out row := (rest_iff (by omega) h.red.ok h.red.ok (fun r hr => .mem (by omega) h.red.ok hr) hrow).1 (by rw [hz]; exact .zero)
  refine ⟨h.red, fun v => ⟨fun hv => ((h.sp v).1 hv).mono fun r hr => List.mem_append_left _ hr, fun hv => hv.into (by omega) h.red.ok fun r hr' => ?_⟩⟩
  rcases List.mem_append.1 hr' with q | q
  · exact (h.sp r).2 (.mem (by omega) hr q)
  · have : r = row := by simpa using q
    rw [this]; exact hin
theorem EchOf.new (hp : 1 < p) {rows out : List (List Int)} {row : List Int} (h : EchOf p w rows out) (hrow : VecOK p w row) {a : Nat} (ha : a < w) (hz : ∀ j, j < a → nth (rest p out row) j = 0) {k : Int} (hk : Cg p (nth (rest p out row) a * k) 1) :
    New p w out (scl p (rest p out row) k) a := by
  have hp0 : 0 < p := by omega
  have hrest := rest_ok hp0 h.red.ok hrow
  have hown := scl_ok hp0 hrest k
  refine ⟨hown, ha, fun j hj => ?_, ?_, fun r hr' => ?_⟩
  · have h1 := (nth_scl hp0 hrest k (show j < w by omega))
    rw [hz j hj] at h1
    exact (h1.trans ⟨0, by grind⟩).eq (hown.rng _ (by omega)).1 (hown.rng _ (by omega)).2 (Int.le_refl _) hp0
  · exact ((nth_scl hp0 hrest k ha).trans hk).eq (hown.rng _ ha).1 (hown.rng _ ha).2 (by decide) hp
  · have hl := (h.red.one r hr').1
    have h1 := nth_scl hp0 hrest k hl
    rw [rest_lead hp0 h.red hrow r hr'] at h1
    exact (h1.trans ⟨0, by grind⟩).eq (hown.rng _ hl).1 (hown.rng _ hl).2 (Int.le_refl _) hp0
theorem ins_len {own : List Int} {a : Nat} : ∀ {out : List (List Int)}, (ins p own a out).length = out.length + 1
  | [] => rfl
  | o :: out => by
    unfold ins
    split
    · simp
    · simp [ins_len (out := out)]
theorem EchOf.put (hp : 1 < p) {rows out : List (List Int)} {row : List Int} (h : EchOf p w rows out) (hr : Rows p w rows) (hrow : VecOK p w row) {a : Nat} (ha : a < w) (hz : ∀ j, j < a → nth (rest p out row) j = 0) {k : Int} (hk : Cg p (nth (rest p out row) a * k) 1) :
    EchOf p w (rows ++ [row]) (ins p (scl p (rest p out row) k) a out) := by
  have hp0 : 0 < p := by omega
  have hrest := rest_ok hp0 h.red.ok hrow
  have hown := scl_ok hp0 hrest k
  have n : New p w out (scl p (rest p out row) k) a := h.new hp hrow ha hz hk
  have hred := ins_red hp h.red n
  have hT : Rows p w (rows ++ [row]) := fun r hr' => by
    rcases List.mem_append.1 hr' with q | q
    · exact hr r q
    · have : r = row := by simpa using q
      rw [this]; exact hrow
  have hout : ∀ r ∈ out, Sp p w (rows ++ [row]) r := fun r hr' => ((h.sp r).1 (.mem hp0 h.red.ok hr')).mono fun s hs => List.mem_append_left _ hs
  have hro : Sp p w (rows ++ [row]) (scl p (rest p out row) k) := by
    rw [scl_sub hp0 hrest]
    exact ((rest_iff hp0 hT h.red.ok hout hrow).2 (.mem hp0 hT (List.mem_append_right _ List.mem_cons_self))).scale hp0 hT _
  have hown' : Sp p w (ins p (scl p (rest p out row) k) a out) (scl p (rest p out row) k) := .mem hp0 hred.ok (mem_ins.2 (.inl rfl))
  have hback : ∀ r ∈ out, Sp p w (ins p (scl p (rest p out row) k) a out) r := fun r hr' => by
    have h1 : Sp p w (ins p (scl p (rest p out row) k) a out) (insF p (scl p (rest p out row) k) a r) := .mem hp0 hred.ok (mem_ins.2 (.inr ⟨r, hr', rfl⟩))
    exact (sub_iff hp0 hred.ok (h.red.ok r hr') hown' _).1 h1
  refine ⟨hred, fun v => ⟨fun hv => hv.into hp0 hT fun r hr' => ?_, fun hv => hv.into hp0 hred.ok fun r hr' => ?_⟩⟩
  · rcases mem_ins.1 hr' with rfl | ⟨o, ho, rfl⟩
    · exact hro
    · exact Sp.lin hp0 hT (hout o ho) hro _
  · rcases List.mem_append.1 hr' with q | q
    · exact ((h.sp r).2 (.mem hp0 hr q)).into hp0 hred.ok hback
    · have e : r = row := by simpa using q
      rw [e]
      refine (rest_iff hp0 hred.ok h.red.ok hback hrow).1 ?_
      have := hown'.scale hp0 hred.ok (-(nth (rest p out row) a))
      rwa [scl_back hp0 hrest hk] at this
end
end Rv
namespace Rv
set_option linter.unusedVariables false
set_option linter.unusedSimpArgs false
def rowAt (l : List (List Int)) (i : Nat) : List Int := l.getD i []
theorem rowAt_lt {l : List (List Int)} {i : Nat} (h : i < l.length) : rowAt l i = l[i] := by simp [rowAt, h]
theorem mem_row {l : List (List Int)} {r : List Int} : r ∈ l ↔ ∃ i, i < l.length ∧ rowAt l i = r := by
  constructor
  · intro h
    obtain ⟨i, hi, rfl⟩ := List.getElem_of_mem h
    exact ⟨i, hi, rowAt_lt hi⟩
  · rintro ⟨i, hi, rfl⟩
    rw [rowAt_lt hi]; exact List.getElem_mem hi
theorem row_mem {l : List (List Int)} {i : Nat} (h : i < l.length) : rowAt l i ∈ l := mem_row.2 ⟨i, h, rfl⟩
section
variable {p : Int} {w : Nat}
structure GInv (p : Int) (w : Nat) (rows : List (List Int)) (c : Nat) (l : List (List Int)) (d : Nat) : Prop where
  ok : Rows p w l
  sp : ∀ v, Sp p w l v ↔ Sp p w rows v
  dn : d ≤ l.length
  cw : c ≤ w
  lead : ∀ k, k < d → ld (rowAt l k) < c ∧ nth (rowAt l k) (ld (rowAt l k)) = 1
  up : ∀ k m, k < m → m < d → ld (rowAt l k) < ld (rowAt l m)
  z1 : ∀ i k, i < l.length → k < d → i ≠ k → nth (rowAt l i) (ld (rowAt l k)) = 0
  z2 : ∀ i j, d ≤ i → i < l.length → j < c → nth (rowAt l i) j = 0
theorem GInv.start {rows : List (List Int)} (h : Rows p w rows) : GInv p w rows 0 rows 0 :=
  ⟨h, fun v => Iff.rfl, Nat.zero_le _, Nat.zero_le _, fun k hk => absurd hk (Nat.not_lt_zero _), fun k m _ hk => absurd hk (Nat.not_lt_zero _), fun i k _ hk => absurd hk (Nat.not_lt_zero _), fun i j _ _ hj => absurd hj (Nat.not_lt_zero _)⟩
theorem GInv.skip {rows l : List (List Int)} {c d : Nat} (g : GInv p w rows c l d) (hc : c < w) (h : ∀ i, d ≤ i → i < l.length → nth (rowAt l i) c = 0) : GInv p w rows (c + 1) l d :=
  ⟨g.ok, g.sp, g.dn, hc, fun k hk => ⟨Nat.lt_succ_of_lt (g.lead k hk).1, (g.lead k hk).2⟩, g.up, g.z1, fun i j h1 h2 h3 => by
    rcases Nat.lt_or_ge j c with q | q
    · exact g.z2 i j h1 h2 q
    · have : j = c := by omega
      subst this; exact h i h1 h2⟩
theorem GInv.done {rows l : List (List Int)} {c d : Nat} (hp : 1 < p) (g : GInv p w rows c l d) (h : c = w ∨ d = l.length) : EchOf p w rows (l.take d) := by
  have hp0 : 0 < p := by omega
  have hdl := g.dn
  have hm : ∀ r, r ∈ l.take d ↔ ∃ i, i < d ∧ rowAt l i = r := fun r => by
    rw [mem_row]
    have hl : (l.take d).length = d := by simp; omega
    rw [hl]
    constructor
    · rintro ⟨i, h1, h2⟩
      refine ⟨i, h1, ?_⟩
      rw [rowAt_lt (by omega)]
      rw [rowAt_lt (by omega), List.getElem_take] at h2; exact h2
    · rintro ⟨i, h1, h2⟩
      refine ⟨i, h1, ?_⟩
      rw [rowAt_lt (by omega)] at h2
      rw [rowAt_lt (by omega), List.getElem_take]; exact h2
  have hok : Rows p w (l.take d) := fun r hr => g.ok r (List.mem_of_mem_take hr)
  refine ⟨⟨hok, fun r hr => ?_, ?_⟩, fun v => (Iff.intro (fun hv => ?_) fun hv => ?_).trans (g.sp v)⟩
  · obtain ⟨i, hi, rfl⟩ := (hm r).1 hr
    have h1 := g.lead i hi
    have h2 := g.cw
    exact ⟨by omega, h1.2⟩
  · rw [List.pairwise_iff_getElem]
    intro i j h1 h2 hij
    have e1 : (l.take d)[i] = rowAt l i := by rw [List.getElem_take, rowAt_lt]
    have e2 : (l.take d)[j] = rowAt l j := by rw [List.getElem_take, rowAt_lt]
    simp only [List.length_take] at h1 h2
    rw [e1, e2]
    exact ⟨g.up i j hij (by omega), g.z1 i j (by omega) (by omega) (by omega)⟩
  · exact hv.mono fun r hr => List.mem_of_mem_take hr
  · refine hv.into hp0 hok fun r hr => ?_
    obtain ⟨i, hi, rfl⟩ := mem_row.1 hr
    rcases Nat.lt_or_ge i d with q | q
    · exact .mem hp0 hok ((hm _).2 ⟨i, q, rfl⟩)
    · rcases h with h | h
      · have hz : rowAt l i = zv w := (g.ok _ hr).ext (zv_ok hp0 w) fun j hj => by rw [g.z2 i j q hi (by omega), nth_zv]; exact .refl _ _
        rw [hz]; exact .zero
      · omega
def gstep (p : Int) (c d : Nat) (row : List Int) (l : List (List Int)) : List (List Int) := (l.set d row).mapIdx fun i r => if i = d then r else subv p r row (nth r c)
theorem gstep_len {c d : Nat} {row : List Int} {l : List (List Int)} : (gstep p c d row l).length = l.length := by simp [gstep]
theorem gstep_at {c d : Nat} {row : List Int} {l : List (List Int)} (hd : d < l.length) {i : Nat} (hi : i < l.length) : rowAt (gstep p c d row l) i = if i = d then row else subv p (rowAt l i) row (nth (rowAt l i) c) := by
  rw [rowAt_lt (by rw [gstep_len]; exact hi), rowAt_lt hi]
  simp only [gstep, List.getElem_mapIdx]
  split
  · rename_i e; subst e; simp
  · rename_i e; rw [List.getElem_set_ne (Ne.symm e)]
theorem GInv.put {rows l l2 : List (List Int)} {c d j : Nat} {k : Int} (hp : 1 < p) (g : GInv p w rows c l d) (hc : c < w) (hj : d ≤ j) (hjl : j < l.length) (hk : Cg p (nth (rowAt l j) c * k) 1)
    (h2l : l2.length = l.length) (h2 : ∀ i, i < l.length → rowAt l2 i = rowAt l (if i = j then d else if i = d then j else i)) : GInv p w rows (c + 1) (gstep p c d (scl p (rowAt l j) k) l2) (d + 1) := by
  have hp0 : 0 < p := by omega
  have hdl : d < l.length := by omega
  have hrj := g.ok _ (row_mem hjl)
  have hrow := scl_ok hp0 hrj k
  generalize hR : scl p (rowAt l j) k = row at *
  -- the new row
  have zr : ∀ m, m < c → nth row m = 0 := fun m hm => by
    have h1 := nth_scl hp0 hrj k (show m < w by omega)
    rw [hR, g.z2 j m hj hjl hm] at h1
    exact (h1.trans ⟨0, by grind⟩).eq (hrow.rng _ (by omega)).1 (hrow.rng _ (by omega)).2 (Int.le_refl _) hp0
  have or : nth row c = 1 := by
    have h1 := nth_scl hp0 hrj k hc
    rw [hR] at h1
    exact (h1.trans hk).eq (hrow.rng _ hc).1 (hrow.rng _ hc).2 (by decide) hp
  have lr : ld row = c := ld_of zr (by rw [or]; decide)
  have hL : (gstep p c d row l2).length = l.length := gstep_len.trans h2l
  have ha : ∀ i, i < l.length → rowAt (gstep p c d row l2) i = if i = d then row else subv p (rowAt l2 i) row (nth (rowAt l2 i) c) := fun i hi => gstep_at (by omega) (by omega)
  have ok2 : ∀ i, i < l.length → VecOK p w (rowAt l2 i) := fun i hi => by
    rw [h2 i hi]
    refine g.ok _ (row_mem ?_)
    split
    · exact hdl
    · split
      · exact hjl
      · exact hi
  have okn : Rows p w (gstep p c d row l2) := fun r hr => by
    obtain ⟨i, hi, rfl⟩ := mem_row.1 hr
    rw [hL] at hi
    rw [ha i hi]
    split
    · exact hrow
    · exact sub_ok hp0 (ok2 i hi).len hrow.len
  -- rows of before keep what they have before c
  have keep : ∀ i m, i < l.length → i ≠ d → m < c → nth (rowAt (gstep p c d row l2) i) m = nth (rowAt l2 i) m := fun i m hi hid hm => by
    have hr := (ok2 i hi).rng m (by omega)
    rw [ha i hi, if_neg hid, nth_sub (ok2 i hi).len hrow.len (by omega), zr m hm]
    simp only [Int.mul_zero, Int.sub_zero]
    exact Int.emod_eq_of_lt hr.1 hr.2
  have zc : ∀ i, i < l.length → i ≠ d → nth (rowAt (gstep p c d row l2) i) c = 0 := fun i hi hid => by
    rw [ha i hi, if_neg hid, nth_sub (ok2 i hi).len hrow.len hc, or]; simp
  have lo : ∀ i, i < d → rowAt l2 i = rowAt l i := fun i hi => by rw [h2 i (by omega), if_neg (by omega), if_neg (by omega)]
  have ldk : ∀ i, i < d → ld (rowAt (gstep p c d row l2) i) = ld (rowAt l i) ∧ nth (rowAt (gstep p c d row l2) i) (ld (rowAt l i)) = 1 := fun i hi => by
    have h1 := g.lead i hi
    have e1 : nth (rowAt (gstep p c d row l2) i) (ld (rowAt l i)) = 1 := by rw [keep i _ (by omega) (by omega) h1.1, lo i hi, h1.2]
    refine ⟨ld_of (fun m hm => ?_) (by rw [e1]; decide), e1⟩
    rw [keep i m (by omega) (by omega) (by omega), lo i hi, ld_zero hm]
  have rd : rowAt (gstep p c d row l2) d = row := by rw [ha d hdl, if_pos rfl]
  -- the space
  have hspR : Sp p w l row := by rw [← hR, scl_sub hp0 hrj]; exact (Sp.mem hp0 g.ok (row_mem hjl)).scale hp0 g.ok _
  have hspN : Sp p w (gstep p c d row l2) row := by
    have := row_mem (l := gstep p c d row l2) (i := d) (by omega)
    rw [rd] at this
    exact .mem hp0 okn this
  have back : ∀ i, i < l.length → i ≠ d → Sp p w (gstep p c d row l2) (rowAt l2 i) := fun i hi hid => by
    have := row_mem (l := gstep p c d row l2) (i := i) (by omega)
    rw [ha i hi, if_neg hid] at this
    exact (sub_iff hp0 okn (ok2 i hi) hspN _).1 (.mem hp0 okn this)
  have backj : Sp p w (gstep p c d row l2) (rowAt l j) := by
    have := hspN.scale hp0 okn (-(nth (rowAt l j) c))
    rw [← hR, scl_back hp0 hrj hk] at this
    rw [← hR]; exact this
  have hsw : ∀ i, i < l.length → ∃ m, m < l.length ∧ rowAt l2 m = rowAt l i := fun i hi => by
    by_cases e : i = j
    · exact ⟨d, hdl, by rw [h2 d hdl]; subst e; by_cases q : d = i <;> simp [q]⟩
    · by_cases e2 : i = d
      · exact ⟨j, hjl, by rw [h2 j hjl, if_pos rfl, e2]⟩
      · exact ⟨i, hi, by rw [h2 i hi, if_neg e, if_neg e2]⟩
  refine ⟨okn, fun v => (Iff.intro (fun hv => ?_) fun hv => ?_).trans (g.sp v), by omega, hc, fun k' hk' => ?_, fun k' m hkm hm => ?_, fun i k' hi hk' hne => ?_, fun i m h1 hi hm => ?_⟩
  · refine hv.into hp0 g.ok fun r hr => ?_
    obtain ⟨i, hi, rfl⟩ := mem_row.1 hr
    rw [hL] at hi
    rw [ha i hi]
    split
    · exact hspR
    · refine Sp.lin hp0 g.ok ?_ hspR _
      rw [h2 i hi]
      refine .mem hp0 g.ok (row_mem ?_)
      split
      · exact hdl
      · exact hi
  · refine hv.into hp0 okn fun r hr => ?_
    obtain ⟨i, hi, rfl⟩ := mem_row.1 hr
    by_cases e : i = j
    · subst e; exact backj
    · by_cases e2 : i = d
      · subst e2
        have := back j hjl (fun q => e q.symm)
        rwa [h2 j hjl, if_pos rfl] at this
      · have := back i hi e2
        rwa [h2 i hi, if_neg e, if_neg e2] at this
  · rcases Nat.lt_or_ge k' d with q | q
    · have := ldk k' q
      rw [this.1]
      exact ⟨by have := (g.lead k' q).1; omega, this.2⟩
    · have : k' = d := by omega
      subst this
      rw [rd, lr]; exact ⟨Nat.lt_succ_self _, or⟩
  · rcases Nat.lt_or_ge m d with q | q
    · rw [(ldk k' (by omega)).1, (ldk m q).1]; exact g.up k' m hkm q
    · have : m = d := by omega
      subst this
      rw [(ldk k' hkm).1, rd, lr]; exact (g.lead k' hkm).1
  · rw [hL] at hi
    rcases Nat.lt_or_ge k' d with q | q
    · rw [(ldk k' q).1]
      have hlc := (g.lead k' q).1
      by_cases e : i = d
      · subst e; rw [rd]; exact zr _ hlc
      · rw [keep i _ hi e hlc, h2 i hi]
        split
        · exact g.z1 d k' hdl q (by omega)
        · exact g.z1 i k' hi q hne
    · have : k' = d := by omega
      subst this
      rw [rd, lr]; exact zc i hi hne
  · rw [hL] at hi
    rcases Nat.lt_or_ge m c with q | q
    · rw [keep i m hi (by omega) q, h2 i hi]
      split
      · exact g.z2 d m (Nat.le_refl _) hdl q
      · split
        · omega
        · exact g.z2 i m (by omega) hi q
    · have : m = c := by omega
      subst this
      exact zc i hi (by omega)
end
theorem EchOf.same {p : Int} {w : Nat} (hp : 1 < p) {rows a b : List (List Int)} (ha : EchOf p w rows a) (hb : EchOf p w rows b) : a = b :=
  ha.red.unique (by omega) hb.red fun v => (ha.sp v).trans (hb.sp v).symm
end Rv
namespace Rv
set_option linter.unusedVariables false
set_option linter.unusedSimpArgs false
def unitv (n i : Nat) : List Int := (zv n).set i 1
theorem unitv_len (n i : Nat) : (unitv n i).length = n := by simp [unitv, zv]
theorem nth_unit {n i j : Nat} (hi : i < n) : nth (unitv n i) j = if j = i then 1 else 0 := by
  rcases Nat.lt_or_ge j n with hj | hj
  · rw [nth_lt (by rw [unitv_len]; exact hj)]
    unfold unitv
    rw [List.getElem_set]
    by_cases e : i = j
    · subst e; rw [if_pos rfl, if_pos rfl]
    · rw [if_neg e, if_neg (Ne.symm e)]; simp [zv]
  · rw [nth_out (by rw [unitv_len]; exact hj), if_neg (by omega)]
def units (n : Nat) : List (List Int) := (List.range n).map (unitv n)
theorem units_len (n : Nat) : (units n).length = n := by simp [units]
section
variable {p : Int}
theorem unitv_ok (hp : 1 < p) {n i : Nat} (hi : i < n) : VecOK p n (unitv n i) := ⟨unitv_len n i, fun j _ => by rw [nth_unit hi]; split <;> omega⟩
theorem ld_unit {n i : Nat} (hi : i < n) : ld (unitv n i) = i := ld_of (fun j hj => by rw [nth_unit hi, if_neg (by omega)]) (by rw [nth_unit hi, if_pos rfl]; decide)
theorem units_red (hp : 1 < p) (n : Nat) : Red p n (units n) := by
  have hm : ∀ r, r ∈ units n → ∃ i, i < n ∧ r = unitv n i := fun r hr => by
    obtain ⟨i, hi, rfl⟩ := List.mem_map.1 hr
    exact ⟨i, List.mem_range.1 hi, rfl⟩
  refine ⟨fun r hr => ?_, fun r hr => ?_, ?_⟩
  · obtain ⟨i, hi, rfl⟩ := hm r hr; exact unitv_ok hp hi
  · obtain ⟨i, hi, rfl⟩ := hm r hr
    rw [ld_unit hi, nth_unit hi, if_pos rfl]; exact ⟨hi, rfl⟩
  · rw [List.pairwise_iff_getElem]
    intro i j h1 h2 hij
    rw [units_len] at h1 h2
    have e1 : (units n)[i]'(by rw [units_len]; exact h1) = unitv n i := by simp [units]
    have e2 : (units n)[j]'(by rw [units_len]; exact h2) = unitv n j := by simp [units]
    rw [e1, e2, ld_unit h1, ld_unit h2, nth_unit h1, if_neg (by omega)]
    exact ⟨hij, rfl⟩
theorem nth_drop (r : List Int) (w j : Nat) : nth (r.drop w) j = nth r (w + j) := by simp [nth]
theorem nth_app {r s : List Int} {j : Nat} : nth (r ++ s) j = if j < r.length then nth r j else nth s (j - r.length) := by
  unfold nth
  rw [List.getD_eq_getElem?_getD, List.getD_eq_getElem?_getD, List.getD_eq_getElem?_getD]
  split
  · rename_i h; rw [List.getElem?_append_left h]
  · rename_i h; rw [List.getElem?_append_right (Nat.le_of_not_lt h)]
def tails (w : Nat) (E : List (List Int)) : List (List Int) := (E.filter fun r => decide (w ≤ ld r)).map (List.drop w)
theorem ld_drop {r : List Int} {w : Nat} (h : w ≤ ld r) (hl : ld r < r.length) : ld (r.drop w) = ld r - w := ld_of (fun j hj => by rw [nth_drop]; exact ld_zero (by omega)) (by rw [nth_drop, show w + (ld r - w) = ld r by omega]; exact ld_ne hl)
theorem tails_red {w n : Nat} {E : List (List Int)} (h : Red p (w + n) E) : Red p n (tails w E) := by
  have hm : ∀ x, x ∈ tails w E → ∃ r ∈ E, w ≤ ld r ∧ x = r.drop w := fun x hx => by
    obtain ⟨r, hr, rfl⟩ := List.mem_map.1 hx
    obtain ⟨h1, h2⟩ := List.mem_filter.1 hr
    exact ⟨r, h1, by simpa using h2, rfl⟩
  refine ⟨fun x hx => ?_, fun x hx => ?_, ?_⟩
  · obtain ⟨r, hr, h1, rfl⟩ := hm x hx
    have hk := h.ok r hr
    exact ⟨by rw [List.length_drop, hk.len]; omega, fun j hj => by rw [nth_drop]; exact hk.rng _ (by omega)⟩
  · obtain ⟨r, hr, h1, rfl⟩ := hm x hx
    have hk := h.ok r hr
    have ho := h.one r hr
    rw [ld_drop h1 (by rw [hk.len]; exact ho.1), nth_drop, show w + (ld r - w) = ld r by omega]
    exact ⟨by omega, ho.2⟩
  · unfold tails
    rw [List.pairwise_map]
    refine (h.ord.sublist List.filter_sublist).imp_of_mem fun hr hs q => ?_
    rename_i r s
    obtain ⟨r1, r2⟩ := List.mem_filter.1 hr
    obtain ⟨s1, s2⟩ := List.mem_filter.1 hs
    have r2' : w ≤ ld r := by simpa using r2
    have s2' : w ≤ ld s := by simpa using s2
    rw [ld_drop r2' (by rw [(h.ok r r1).len]; exact (h.one r r1).1), ld_drop s2' (by rw [(h.ok s s1).len]; exact (h.one s s1).1), nth_drop, show w + (ld s - w) = ld s by omega]
    exact ⟨by omega, q.2⟩
theorem EchOf.self {w : Nat} {E : List (List Int)} (h : Red p w E) : EchOf p w E E := ⟨h, fun v => Iff.rfl⟩
def longs (n : Nat) (rows : List (List Int)) : List (List Int) := (List.range n).map fun i => rowAt rows i ++ unitv n i
theorem longs_len (n : Nat) (rows : List (List Int)) : (longs n rows).length = n := by simp [longs]
theorem longs_at {n : Nat} {rows : List (List Int)} {i : Nat} (h : i < (longs n rows).length) : (longs n rows)[i] = rowAt rows i ++ unitv n i := by simp [longs]
theorem longs_ok (hp : 1 < p) {w : Nat} {rows : List (List Int)} (h : Rows p w rows) : Rows p (w + rows.length) (longs rows.length rows) := fun x hx => by
  obtain ⟨i, hi, rfl⟩ := List.mem_map.1 hx
  have hi' := List.mem_range.1 hi
  have hr := h _ (row_mem hi')
  have hu := unitv_ok hp hi'
  refine ⟨by rw [List.length_append, hr.len, hu.len], fun j hj => ?_⟩
  rw [nth_app, hr.len]
  split
  · rename_i q; exact hr.rng j q
  · exact hu.rng _ (by omega)
end
end Rv
namespace Rv
set_option linter.unusedVariables false
set_option linter.unusedSimpArgs false
section
variable {p : Int} {w w' : Nat}
structure Lin (p : Int) (w w' : Nat) (φ : List Int → List Int) : Prop where
  ok : ∀ u, VecOK p w u → VecOK p w' (φ u)
  sub : ∀ u v k, VecOK p w u → VecOK p w v → φ (subv p u v k) = subv p (φ u) (φ v) k
theorem sub_zv (hp : 0 < p) {w : Nat} : subv p (zv w) (zv w) 1 = zv w :=
  (sub_ok hp (zv_ok hp w).len (zv_ok hp w).len).ext (zv_ok hp w) fun j hj => (sub_cg (zv_ok hp w).len (zv_ok hp w).len hj).trans (by rw [nth_zv]; exact ⟨0, by simp⟩)
theorem sub_self (hp : 0 < p) {w : Nat} {v : List Int} (hv : VecOK p w v) : subv p v v 1 = zv w :=
  (sub_ok hp hv.len hv.len).ext (zv_ok hp w) fun j hj => (sub_cg hv.len hv.len hj).trans (by rw [nth_zv]; exact ⟨0, by grind⟩)
theorem Lin.zero (hp : 0 < p) {φ : List Int → List Int} (h : Lin p w w' φ) : φ (zv w) = zv w' := by
  have h0 := zv_ok hp w
  have := h.sub (zv w) (zv w) 1 h0 h0
  rw [sub_zv hp, sub_self hp (h.ok _ h0)] at this
  exact this
theorem Lin.rows {φ : List Int → List Int} (h : Lin p w w' φ) {R : List (List Int)} (hR : Rows p w R) : Rows p w' (R.map φ) := fun r hr => by
  obtain ⟨s, hs, rfl⟩ := List.mem_map.1 hr
  exact h.ok s (hR s hs)
theorem Lin.sp (hp : 0 < p) {φ : List Int → List Int} (h : Lin p w w' φ) {R : List (List Int)} (hR : Rows p w R) {v : List Int} (hv : Sp p w R v) : Sp p w' (R.map φ) (φ v) := by
  induction hv with
  | zero => rw [h.zero hp]; exact .zero
  | @sub v r k hv hr ih =>
    rw [h.sub v r k (hv.ok hp hR) (hR r hr)]
    exact .sub k ih (List.mem_map_of_mem hr)
theorem Lin.comp {w'' : Nat} {φ ψ : List Int → List Int} (h : Lin p w w' φ) (k : Lin p w' w'' ψ) : Lin p w w'' fun u => ψ (φ u) :=
  ⟨fun u hu => k.ok _ (h.ok u hu), fun u v c hu hv => by show ψ (φ (subv p u v c)) = subv p (ψ (φ u)) (ψ (φ v)) c; rw [h.sub u v c hu hv, k.sub _ _ _ (h.ok u hu) (h.ok v hv)]⟩
def sumI (f : Nat → Int) : Nat → Int
  | 0 => 0
  | n + 1 => sumI f n + f n
theorem sumI_cg {f g : Nat → Int} : ∀ {n : Nat}, (∀ i, i < n → Cg p (f i) (g i)) → Cg p (sumI f n) (sumI g n)
  | 0, _ => .refl _ _
  | n + 1, h => .add (sumI_cg fun i hi => h i (by omega)) (h n (by omega))
theorem sumI_congr {f g : Nat → Int} {n : Nat} (h : ∀ i, i < n → f i = g i) : sumI f n = sumI g n := by
  induction n with
  | zero => rfl
  | succ n ih => unfold sumI; rw [ih fun i hi => h i (by omega), h n (by omega)]
theorem sumI_zero {f : Nat → Int} {n : Nat} (h : ∀ i, i < n → f i = 0) : sumI f n = 0 := by
  induction n with
  | zero => rfl
  | succ n ih => unfold sumI; rw [ih fun i hi => h i (by omega), h n (by omega)]; rfl
theorem sumI_lin {f g : Nat → Int} {k : Int} : ∀ {n : Nat}, sumI (fun i => f i - k * g i) n = sumI f n - k * sumI g n
  | 0 => by simp [sumI]
  | n + 1 => by unfold sumI; rw [sumI_lin (n := n)]; grind
def dot (f : Nat → Int) (m : List (List Int)) (n j : Nat) : Int := sumI (fun i => f i * nth (rowAt m i) j) n
theorem dot_cg {f g : Nat → Int} {m : List (List Int)} {n j : Nat} (h : ∀ i, i < n → Cg p (f i) (g i)) : Cg p (dot f m n j) (dot g m n j) := sumI_cg fun i hi => .mul (h i hi) (.refl _ _)
theorem dot_lin {f g : Nat → Int} {k : Int} {m : List (List Int)} {n j : Nat} : dot (fun i => f i - k * g i) m n j = dot f m n j - k * dot g m n j := by
  unfold dot
  rw [← sumI_lin]
  exact sumI_congr fun i _ => by grind
theorem dot_zero {f : Nat → Int} {m : List (List Int)} {n j : Nat} (h : ∀ i, i < n → f i = 0) : dot f m n j = 0 := sumI_zero fun i hi => by rw [h i hi]; simp
structure Graph (p : Int) (w n : Nat) (rows : List (List Int)) (u : List Int) : Prop where
  ok : VecOK p (w + n) u
  at_ : ∀ j, j < w → Cg p (nth u j) (dot (fun i => nth u (w + i)) rows n j)
theorem Graph.sub (hp : 0 < p) {n : Nat} {rows : List (List Int)} {u v : List Int} (hu : Graph p w n rows u) (hv : Graph p w n rows v) (k : Int) : Graph p w n rows (subv p u v k) := by
  refine ⟨sub_ok hp hu.ok.len hv.ok.len, fun j hj => ?_⟩
  refine (sub_cg hu.ok.len hv.ok.len (by omega)).trans (Cg.trans (.sub (hu.at_ j hj) (.mul (.refl _ _) (hv.at_ j hj))) ?_)
  rw [← dot_lin]
  exact dot_cg fun i hi => (sub_cg hu.ok.len hv.ok.len (by omega)).symm
theorem Graph.zero (hp : 0 < p) {n : Nat} {rows : List (List Int)} : Graph p w n rows (zv (w + n)) :=
  ⟨zv_ok hp _, fun j hj => by rw [nth_zv, dot_zero fun i _ => nth_zv _ _]; exact .refl _ _⟩
theorem VecOK.drop {n : Nat} {u : List Int} (hu : VecOK p (w + n) u) : VecOK p n (u.drop w) := ⟨by rw [List.length_drop, hu.len]; omega, fun j hj => by rw [nth_drop]; exact hu.rng _ (by omega)⟩
end
end Rv
namespace Rv
set_option linter.unusedVariables false
set_option linter.unusedSimpArgs false
set_option maxRecDepth 10000
theorem forI_inv {σ τ : Type} {B : Int → σ → Option (σ ⊕ τ)} {D : Int → σ → Option τ} (Inv : Nat → σ → Prop) (Q : τ → Prop) (n : Nat) :
    ∀ (k i : Nat) (s : σ), i + k = n → Inv i s → (∀ i s, i < n → Inv i s → (∃ s', B i s = some (.inl s') ∧ Inv (i + 1) s') ∨ ∃ t, B i s = some (.inr t) ∧ Q t) → (∀ s, Inv n s → ∃ t, D n s = some t ∧ Q t) → ∃ t, forI B D k i s = some t ∧ Q t := by
  intro k
  induction k with
  | zero =>
    intro i s hk hI hb hd
    have : i = n := by omega
    subst this
    exact hd s hI
  | succ k ih =>
    intro i s hk hI hb hd
    simp only [forI]
    rcases hb i s (by omega) hI with ⟨s', h1, h2⟩ | ⟨t, h1, h2⟩
    · rw [h1]
      have := ih (i + 1) s' (by omega) h2 hb hd
      simpa using this
    · rw [h1]; exact ⟨t, rfl, h2⟩
theorem forR_inv {σ τ : Type} {B : Int → σ → Option (σ ⊕ τ)} {D : Int → σ → Option τ} {hi : Int} (n : Nat) (hn : hi = n) (hs : n < 4611686018427387904) (Inv : Nat → σ → Prop) (Q : τ → Prop) {s : σ} (h0 : Inv 0 s)
    (hb : ∀ (i : Nat) s, i < n → Inv i s → (∃ s', B i s = some (.inl s') ∧ Inv (i + 1) s') ∨ ∃ t, B i s = some (.inr t) ∧ Q t) (hd : ∀ s, Inv n s → ∃ t, D n s = some t ∧ Q t) : ∃ t, forR 0 hi B D s = some t ∧ Q t := by
  subst hn
  unfold forR
  rw [if_pos (by omega)]
  have e : ((n : Int) - 0).toNat = n := by omega
  rw [e]
  exact forI_inv Inv Q n n 0 s (by omega) h0 hb hd
theorem forR_from {σ τ : Type} {B : Int → σ → Option (σ ⊕ τ)} {D : Int → σ → Option τ} {lo hi : Int} (l n : Nat) (hl : lo = l) (hn : hi = n) (hln : l ≤ n) (hs : n < 4611686018427387904) (Inv : Nat → σ → Prop) (Q : τ → Prop) {s : σ} (h0 : Inv l s)
    (hb : ∀ (i : Nat) s, i < n → Inv i s → (∃ s', B i s = some (.inl s') ∧ Inv (i + 1) s') ∨ ∃ t, B i s = some (.inr t) ∧ Q t) (hd : ∀ s, Inv n s → ∃ t, D n s = some t ∧ Q t) : ∃ t, forR lo hi B D s = some t ∧ Q t := by
  subst hn; subst hl
  unfold forR
  rw [if_pos (by omega)]
  have e : ((n : Int) - (l : Int)).toNat = n - l := by omega
  rw [e]
  exact forI_inv Inv Q n (n - l) l s (by omega) h0 hb hd
theorem loopW_inv {σ τ : Type} {S : σ → Option (σ ⊕ τ)} (μ : σ → Nat) (Inv : σ → Prop) (Q : τ → Prop) {s : σ} (h0 : Inv s)
    (hb : ∀ s, Inv s → (∃ s', S s = some (.inl s') ∧ Inv s' ∧ μ s' < μ s) ∨ ∃ t, S s = some (.inr t) ∧ Q t) : ∃ t, loopW S s = some t ∧ Q t := by
  suffices ∀ k s, μ s ≤ k → Inv s → ∃ t, loopW S s = some t ∧ Q t from this _ s (Nat.le_refl _) h0
  intro k
  induction k with
  | zero =>
    intro s hk hI
    rcases hb s hI with ⟨s', h1, h2, h3⟩ | ⟨t, h1, h2⟩
    · omega
    · exact ⟨t, loopW_eq.2 (.inr h1), h2⟩
  | succ k ih =>
    intro s hk hI
    rcases hb s hI with ⟨s', h1, h2, h3⟩ | ⟨t, h1, h2⟩
    · obtain ⟨t, h4, h5⟩ := ih s' (by omega) h2
      exact ⟨t, loopW_eq.2 (.inl ⟨s', h1, h4⟩), h5⟩
    · exact ⟨t, loopW_eq.2 (.inr h1), h2⟩
theorem getI_nat {α : Type} {l : List α} {i : Nat} (h : i < l.length) : getI l (i : Int) = some l[i] := by
  unfold getI
  rw [if_pos (by omega)]
  simp [h]
theorem getI_getD {α : Type} {l : List α} {i : Nat} (h : i < l.length) (d : α) : getI l (i : Int) = some (l.getD i d) := by
  rw [getI_nat h]; simp [h]
theorem chk_ok {n : Int} (h0 : -9223372036854775808 ≤ n) (h1 : n < 9223372036854775808) : chk n = some n := by
  unfold chk; rw [if_pos ⟨h0, h1⟩]
theorem setI_nat {α : Type} {l : List α} {i : Nat} (h : i < l.length) (y : α) : setI l (i : Int) y = some (l.set i y) := by
  unfold setI
  rw [if_pos (by omega), Int.toNat_natCast]
theorem remI_ok {a b : Int} (h : b ≠ 0) : remI a b = some (a.tmod b) := by unfold remI; rw [if_neg h]
theorem mkL_ok {α : Type} {b : Nat} {n : Int} {z : α} (k : Nat) (hn : n = k) (h : k * b ≤ 1099511627776) (h2 : k ≤ 1099511627776) : mkL b n z = some (List.replicate k z) := by
  subst hn
  unfold mkL
  rw [if_pos ⟨by omega, by omega, by omega⟩, Int.toNat_natCast]
theorem app_ok {α : Type} {b : Nat} {l l' : List α} (h : (l.length + l'.length) * b ≤ 1099511627776) (h2 : l.length + l'.length ≤ 1099511627776) : app b l l' = some (l ++ l') := by
  unfold app; rw [if_pos ⟨h, h2⟩]
def Tells (o : Option Bool) (P : Prop) : Prop := ∃ b, o = some b ∧ (b = true ↔ P)
theorem Tells.of_true {o : Option Bool} {P : Prop} (h : o = some true) (p : P) : Tells o P := ⟨true, h, by simp [p]⟩
theorem Tells.of_false {o : Option Bool} {P : Prop} (h : o = some false) (p : ¬ P) : Tells o P := ⟨false, h, by simp [p]⟩
theorem Tells.iff {o : Option Bool} {P Q : Prop} (h : Tells o P) (e : P ↔ Q) : Tells o Q := by
  obtain ⟨b, h1, h2⟩ := h; exact ⟨b, h1, h2.trans e⟩
theorem Tells.same {o o' : Option Bool} {P : Prop} (h : Tells o P) (h' : Tells o' P) : ∃ b, o = some b ∧ o' = some b ∧ (b = true ↔ P) := by
  obtain ⟨b, h1, h2⟩ := h
  obtain ⟨b', h3, h4⟩ := h'
  have : b = b' := by rw [Bool.eq_iff_iff]; exact h2.trans h4.symm
  exact ⟨b, h1, by rw [this]; exact h3, h2⟩
theorem Tells.case {o : Option Bool} {P : Prop} (h : Tells o P) : (o = some true ∧ P) ∨ (o = some false ∧ ¬ P) := by
  obtain ⟨b, h1, h2⟩ := h
  cases b with
  | true => exact .inl ⟨h1, h2.1 rfl⟩
  | false => exact .inr ⟨h1, fun p => by have := h2.2 p; cases this⟩
def IsP (p : Int) : Prop := p = 2 ∨ p = 3 ∨ p = 5 ∨ p = 7
theorem IsP.range {p : Int} (h : IsP p) : 2 ≤ p ∧ p ≤ 7 := by unfold IsP at h; omega
def RowOK (p w : Int) (row : List Int) : Prop := (row.length : Int) = w ∧ ∀ x ∈ row, 0 ≤ x ∧ x < p
def TableOK (p c w : Int) (m : List (List Int)) : Prop := (m.length : Int) = c ∧ ∀ row ∈ m, RowOK p w row
theorem F54_eq (n lo hi : Int) : F54 n lo hi = some (decide (lo ≤ n ∧ n ≤ hi)) := by
  unfold F54; by_cases h : lo ≤ n <;> simp [h]
theorem F56_eq (n lo hi : Int) : F56 n lo hi = some (decide (lo ≤ n ∧ n ≤ hi)) := by
  unfold F56; by_cases h : lo ≤ n <;> simp [h]
theorem F78_tells (p : Int) : Tells (F78 p) (IsP p) := by
  unfold F78 IsP
  split
  · exact .of_true rfl (by omega)
  split
  · exact .of_true rfl (by omega)
  split
  · exact .of_true rfl (by omega)
  · exact ⟨_, rfl, by simp; omega⟩
theorem F67_tells (p : Int) : Tells (F67 p) (IsP p) := by
  unfold F67 IsP
  split
  · exact .of_true rfl (by omega)
  split
  · exact .of_true rfl (by omega)
  split
  · exact .of_true rfl (by omega)
  · exact ⟨_, rfl, by simp; omega⟩
theorem F79_2 {p w : Int} {m : List (List Int)} (hp : 2 ≤ p ∧ p ≤ 7) {i : Nat} (hi : i < m.length) (hs : m[i].length ≤ 1099511627776) :
    ∃ t, loopW (F79_2_S p m w i) 0 = some t ∧ ((t = .inl () ∧ ∀ x ∈ m[i], 0 ≤ x ∧ x < p) ∨ (t = .inr false ∧ ¬ ∀ x ∈ m[i], 0 ≤ x ∧ x < p)) := by
  refine loopW_inv (fun j : Int => (m[i].length - j).toNat) (fun j => ∃ n : Nat, j = n ∧ n ≤ m[i].length ∧ ∀ k (hk : k < n) (h2 : k < m[i].length), 0 ≤ m[i][k] ∧ m[i][k] < p) _ ⟨0, rfl, by omega, fun k hk => by omega⟩ ?_
  rintro _ ⟨n, rfl, hn, hall⟩
  unfold F79_2_S
  simp only [getI_nat hi, Option.bind_some]
  by_cases hlt : (n : Int) < m[i].length
  · have hnl : n < m[i].length := by omega
    simp only [if_pos hlt, getI_nat hnl, Option.bind_some, chk_ok (show (-9223372036854775808 : Int) ≤ p - 1 by omega) (show p - 1 < 9223372036854775808 by omega), F54_eq]
    by_cases hx : 0 ≤ m[i][n] ∧ m[i][n] ≤ p - 1
    · left
      refine ⟨n + 1, ?_, ⟨n + 1, rfl, hnl, fun k hk h2 => ?_⟩, by omega⟩
      · simp only [hx, and_self, decide_true, if_true, chk_ok (show (-9223372036854775808 : Int) ≤ (n : Int) + 1 by omega) (show (n : Int) + 1 < 9223372036854775808 by omega), Option.bind_some]
      · by_cases e : k = n
        · subst e; omega
        · exact hall k (by omega) h2
    · right
      refine ⟨.inr false, ?_, .inr ⟨rfl, fun ha => hx ?_⟩⟩
      · simp [hx]
      · have := ha _ (List.getElem_mem hnl); omega
  · right
    refine ⟨.inl (), by simp only [if_neg hlt], .inl ⟨rfl, fun x hx => ?_⟩⟩
    obtain ⟨k, hk, rfl⟩ := List.getElem_of_mem hx
    exact hall k (by omega) hk
theorem F79_tells {p c w : Int} {m : List (List Int)} (hp : 2 ≤ p ∧ p ≤ 7) (hm : m.length ≤ 1099511627776) (hs : ∀ r ∈ m, r.length ≤ 1099511627776) : Tells (F79 p m c w) (TableOK p c w m) := by
  unfold F79
  by_cases hc : (m.length : Int) = c
  case neg => rw [if_neg hc]; exact .of_false rfl fun h => hc h.1
  rw [if_pos hc]
  obtain ⟨t, h1, h2⟩ := forR_inv (B := F79_1_B p m w) (D := F79_1_D p m w) (hi := m.length) m.length rfl (by omega) (fun i _ => ∀ k (hk : k < i) (h2 : k < m.length), RowOK p w m[k]) (fun t => (t = .inl () ∧ ∀ r ∈ m, RowOK p w r) ∨ (t = .inr false ∧ ¬ ∀ r ∈ m, RowOK p w r)) (s := ()) (fun k hk => by omega) (fun i _ hi hI => by
    unfold F79_1_B
    simp only [getI_nat hi, Option.bind_some]
    by_cases hw : (m[i].length : Int) = w
    · rw [if_pos hw]
      obtain ⟨t, h1, h2⟩ := F79_2 (w := w) hp hi (hs _ (List.getElem_mem hi))
      rw [h1]
      rcases h2 with ⟨rfl, h2⟩ | ⟨rfl, h2⟩
      · left
        refine ⟨(), rfl, fun k hk h3 => ?_⟩
        by_cases e : k = i
        · subst e; exact ⟨hw, h2⟩
        · exact hI k (by omega) h3
      · right
        exact ⟨_, rfl, .inr ⟨rfl, fun ha => h2 (ha _ (List.getElem_mem hi)).2⟩⟩
    · rw [if_neg hw]
      right
      exact ⟨_, rfl, .inr ⟨rfl, fun ha => hw (ha _ (List.getElem_mem hi)).1⟩⟩) (fun _ hI => ⟨.inl (), rfl, .inl ⟨rfl, fun r hr => by
        obtain ⟨k, hk, rfl⟩ := List.getElem_of_mem hr
        exact hI k hk hk⟩⟩)
  rw [h1]
  rcases h2 with ⟨rfl, h2⟩ | ⟨rfl, h2⟩
  · exact .of_true rfl ⟨hc, h2⟩
  · exact .of_false rfl fun h => h2 h.2
def addRow (p x : Int) (out row : List Int) : List Int := List.zipWith (fun o y => (o + x * y).tmod p) out row
def linN (p : Int) (n : Nat) (v : List Int) (m : List (List Int)) : Nat → List Int
  | 0 => List.replicate n 0
  | i + 1 => addRow p (v.getD i 0) (linN p n v m i) (m.getD i [])
def lin (p : Int) (n : Nat) (v : List Int) (m : List (List Int)) : List Int := linN p n v m v.length
structure LinOK (p : Int) (n : Nat) (v : List Int) (m : List (List Int)) : Prop where
  hp : 2 ≤ p ∧ p ≤ 7
  hv : ∀ x ∈ v, 0 ≤ x ∧ x < p
  hl : v.length ≤ m.length
  hr : ∀ l ∈ m, l.length = n ∧ ∀ y ∈ l, 0 ≤ y ∧ y < p
  hn : n ≤ 1048576
  hvl : v.length ≤ 1048576
theorem small_mul {p x y o : Int} (hp : 2 ≤ p ∧ p ≤ 7) (hx : 0 ≤ x ∧ x < p) (hy : 0 ≤ y ∧ y < p) (ho : 0 ≤ o ∧ o < p) :
    chk (x * y) = some (x * y) ∧ chk (o + x * y) = some (o + x * y) ∧ 0 ≤ (o + x * y).tmod p ∧ (o + x * y).tmod p < p := by
  have h1 : 0 ≤ x * y := Int.mul_nonneg hx.1 hy.1
  have h2 : x * y ≤ 6 * 6 := Int.mul_le_mul (by omega) (by omega) hy.1 (by omega)
  exact ⟨chk_ok (by omega) (by omega), chk_ok (by omega) (by omega), Int.tmod_nonneg _ (by omega), Int.tmod_lt_of_pos _ (by omega)⟩
theorem addRow_len {p x : Int} {out row : List Int} (h : row.length = out.length) : (addRow p x out row).length = out.length := by simp [addRow, h]
theorem addRow_ok {p x : Int} (hp : 2 ≤ p ∧ p ≤ 7) (hx : 0 ≤ x ∧ x < p) {out row : List Int} (ho : ∀ o ∈ out, 0 ≤ o ∧ o < p) (hy : ∀ y ∈ row, 0 ≤ y ∧ y < p) : ∀ o ∈ addRow p x out row, 0 ≤ o ∧ o < p := by
  intro o hm
  unfold addRow at hm
  obtain ⟨i, hi, rfl⟩ := List.getElem_of_mem hm
  simp at hi ⊢
  exact (small_mul hp hx (hy _ (List.getElem_mem (by omega))) (ho _ (List.getElem_mem (by omega)))).2.2
theorem linN_ok {p : Int} {n : Nat} {v : List Int} {m : List (List Int)} (H : LinOK p n v m) : ∀ i, i ≤ v.length → (linN p n v m i).length = n ∧ ∀ o ∈ linN p n v m i, 0 ≤ o ∧ o < p := by
  intro i
  induction i with
  | zero => intro _; refine ⟨by simp [linN], fun o ho => ?_⟩; simp [linN] at ho; obtain ⟨_, rfl⟩ := ho; have := H.hp; omega
  | succ i ih =>
    intro hi
    obtain ⟨h1, h2⟩ := ih (by omega)
    have e1 : v.getD i 0 = v[i] := by simp [show i < v.length by omega]
    have hm : i < m.length := by have := H.hl; omega
    have e2 : m.getD i [] = m[i] := by simp [hm]
    have hr := H.hr _ (List.getElem_mem hm)
    simp only [linN, e1, e2]
    exact ⟨by rw [addRow_len (by rw [hr.1, h1]), h1], addRow_ok H.hp (H.hv _ (List.getElem_mem _)) h2 hr.2⟩
def upTo (p x : Int) (out row : List Int) (k : Nat) : List Int := (addRow p x out row).take k ++ out.drop k
theorem upTo_len {p x : Int} {out row : List Int} (h : row.length = out.length) (k : Nat) (hk : k ≤ out.length) : (upTo p x out row k).length = out.length := by
  simp [upTo, addRow_len h]; omega
theorem upTo_at {p x : Int} {out row : List Int} (h : row.length = out.length) {k : Nat} (hk : k < out.length) (h2 : k < (upTo p x out row k).length) : (upTo p x out row k)[k] = out[k] := by
  have e : (upTo p x out row k)[k]? = some out[k] := by
    unfold upTo
    rw [List.getElem?_append_right (by simp [addRow_len h]; omega)]
    simp [addRow_len h, Nat.min_eq_left (Nat.le_of_lt hk), hk]
  rw [List.getElem?_eq_getElem h2] at e
  exact Option.some.inj e
theorem upTo_set {p x : Int} {out row : List Int} (h : row.length = out.length) {k : Nat} (hk : k < out.length) :
    (upTo p x out row k).set k ((out[k] + x * (row[k]'(by omega))).tmod p) = upTo p x out row (k + 1) := by
  have hl := addRow_len (p := p) (x := x) h
  unfold upTo
  rw [List.set_append_right _ _ (by simp [hl]; omega), List.take_succ_eq_append_getElem (by omega : k < (addRow p x out row).length)]
  have e1 : ((addRow p x out row).take k).length = k := by simp [hl]; omega
  rw [e1, Nat.sub_self]
  simp [addRow]
  rw [List.drop_eq_getElem_cons hk]
  rfl
theorem upTo_zero {p x : Int} {out row : List Int} : upTo p x out row 0 = out := by simp [upTo]
theorem upTo_all {p x : Int} {out row : List Int} (h : row.length = out.length) : upTo p x out row out.length = addRow p x out row := by
  have hl := addRow_len (p := p) (x := x) h
  unfold upTo
  rw [List.take_of_length_le (by omega), List.drop_of_length_le (by omega), List.append_nil]
theorem F80_eq {p : Int} {n : Nat} {v : List Int} {m : List (List Int)} (H : LinOK p n v m) {w : Int} (hw : w = n) : F80 p m v w = some (lin p n v m) := by
  have hn := H.hn
  have hvl := H.hvl
  have hlm := H.hl
  unfold F80
  rw [mkL_ok n hw (by omega) (by omega), Option.bind_some]
  obtain ⟨t, h1, rfl⟩ := forR_inv (B := F80_1_B p m v) (D := F80_1_D p m v) (hi := v.length) v.length rfl (by omega) (fun i s => s = linN p n v m i) (fun t => t = lin p n v m) (s := List.replicate n 0) rfl (fun i s hi hI => by
    subst hI
    left
    obtain ⟨q1, q2⟩ := linN_ok H i (by omega)
    have hm : i < m.length := by omega
    obtain ⟨r1, r2⟩ := H.hr _ (List.getElem_mem hm)
    have hx := H.hv _ (List.getElem_mem hi)
    have e1 : v.getD i 0 = v[i] := by simp [hi]
    have e2 : m.getD i [] = m[i] := by simp [hm]
    refine ⟨_, ?_, rfl⟩
    unfold F80_1_B
    have hlen : m[i].length = (linN p n v m i).length := by omega
    obtain ⟨t, h1, rfl⟩ := loopW_inv (S := F80_2_S p m v i) (fun s => (n - s.2).toNat) (fun s => ∃ k : Nat, k ≤ n ∧ s = (upTo p v[i] (linN p n v m i) m[i] k, (k : Int))) (fun t => t = linN p n v m (i + 1)) (s := (linN p n v m i, 0)) ⟨0, by omega, by rw [upTo_zero]; rfl⟩ (by
      rintro _ ⟨k, hk, rfl⟩
      unfold F80_2_S
      have hul := upTo_len (p := p) (x := v[i]) hlen k (by omega)
      simp only
      by_cases hlt : (k : Int) < (upTo p v[i] (linN p n v m i) m[i] k).length
      · rw [if_pos hlt]
        have hk1 : k < (upTo p v[i] (linN p n v m i) m[i] k).length := by omega
        have hk2 : k < (linN p n v m i).length := by omega
        have hk3 : k < m[i].length := by omega
        obtain ⟨s1, s2, s3, s4⟩ := small_mul H.hp hx (r2 _ (List.getElem_mem hk3)) (q2 _ (List.getElem_mem hk2))
        have hp0 : p ≠ 0 := by have := H.hp; omega
        left
        refine ⟨(upTo p v[i] (linN p n v m i) m[i] (k + 1), ((k + 1 : Nat) : Int)), ?_, ⟨k + 1, by omega, rfl⟩, by simp only; omega⟩
        simp only [getI_nat hk1, upTo_at hlen hk2 hk1, getI_nat hi, getI_nat hm, getI_nat hk3, Option.bind_some, s1, s2, remI_ok hp0, setI_nat hk1, upTo_set hlen hk2, chk_ok (show (-9223372036854775808 : Int) ≤ (k : Int) + 1 by omega) (show (k : Int) + 1 < 9223372036854775808 by omega)]
        rfl
      · rw [if_neg hlt]
        right
        have hkn : k = (linN p n v m i).length := by omega
        refine ⟨_, rfl, ?_⟩
        rw [hkn, upTo_all hlen]
        simp only [linN, e1, e2])
    rw [h1]
    rfl) (fun s hI => ⟨_, rfl, hI⟩)
  rw [h1]
  rfl
theorem F119_2_eq {p : Int} {n : Nat} {v : List Int} {m : List (List Int)} (H : LinOK p n v m) {i : Nat} (hi : i < v.length) (hm : i < m.length) :
    forR 0 (m[i].length : Int) (F119_2_B p v m i v[i] m[i]) (F119_2_D p v m i v[i] m[i]) (linN p n v m i) = some (linN p n v m (i + 1)) := by
  have hn := H.hn
  obtain ⟨q1, q2⟩ := linN_ok H i (by omega)
  obtain ⟨r1, r2⟩ := H.hr _ (List.getElem_mem hm)
  have hx := H.hv _ (List.getElem_mem hi)
  have e1 : v.getD i 0 = v[i] := by simp [hi]
  have e2 : m.getD i [] = m[i] := by simp [hm]
  have hlen : m[i].length = (linN p n v m i).length := by omega
  have hp0 : p ≠ 0 := by have := H.hp; omega
  obtain ⟨t, h1, rfl⟩ := forR_inv (B := F119_2_B p v m i v[i] m[i]) (D := F119_2_D p v m i v[i] m[i]) (hi := m[i].length) m[i].length rfl (by omega) (fun k s => s = upTo p v[i] (linN p n v m i) m[i] k) (fun t => t = linN p n v m (i + 1)) (s := linN p n v m i) upTo_zero.symm (by
    intro k s hk hI
    subst hI
    left
    have hul := upTo_len (p := p) (x := v[i]) hlen k (by omega)
    have hk1 : k < (upTo p v[i] (linN p n v m i) m[i] k).length := by omega
    have hk2 : k < (linN p n v m i).length := by omega
    obtain ⟨s1, s2, s3, s4⟩ := small_mul H.hp hx (r2 _ (List.getElem_mem hk)) (q2 _ (List.getElem_mem hk2))
    refine ⟨_, ?_, rfl⟩
    unfold F119_2_B
    simp only [getI_nat hk, getI_nat hk1, upTo_at hlen hk2 hk1, Option.bind_some, s1, s2, remI_ok hp0, setI_nat hk1, upTo_set hlen hk2]) (by
    intro s hI
    refine ⟨s, rfl, ?_⟩
    rw [hI, hlen, upTo_all hlen]
    simp only [linN, e1, e2])
  exact h1
theorem F119_1_eq {p : Int} {n : Nat} {v : List Int} {m : List (List Int)} (H : LinOK p n v m) (i : Nat) (hi : i < v.length) : F119_1_B p v m (i : Int) (linN p n v m i) = some (.inl (linN p n v m (i + 1))) := by
  have hlm := H.hl
  have hm : i < m.length := by omega
  unfold F119_1_B
  rw [getI_nat hi, Option.bind_some, getI_nat hm, Option.bind_some, F119_2_eq H hi hm, Option.bind_some]
theorem F119_eq {p : Int} {n : Nat} {v : List Int} {m : List (List Int)} (H : LinOK p n v m) {w : Int} (hw : w = n) : F119 p w v m = some (lin p n v m) := by
  have hn := H.hn
  have hvl := H.hvl
  have hs : v.length < 4611686018427387904 := by omega
  unfold F119
  rw [mkL_ok n hw (by omega) (by omega), Option.bind_some]
  obtain ⟨t, h1, rfl⟩ := forR_inv (B := F119_1_B p v m) (D := F119_1_D p v m) (hi := v.length) v.length rfl hs (fun i s => s = linN p n v m i) (fun t => t = lin p n v m) (s := List.replicate n 0) rfl (by
    intro i s hi hI
    subst hI
    left
    exact ⟨_, F119_1_eq H i hi, rfl⟩) (fun s hI => ⟨s, by unfold F119_1_D; rfl, hI⟩)
  rw [h1, Option.bind_some]
theorem F115_eq {l : List Int} {f : Int → Option Bool} (P : Int → Bool) (hl : l.length ≤ 1099511627776) (hf : ∀ x ∈ l, f x = some (P x)) : ∃ i : Int, F115 l f = some i ∧ (0 ≤ i ↔ ∃ x ∈ l, P x = true) := by
  unfold F115
  have hs : l.length < 4611686018427387904 := by omega
  obtain ⟨t, h1, h2⟩ := forR_inv (B := F115_1_B l f) (D := F115_1_D l f) (hi := l.length) l.length rfl hs (fun i _ => ∀ k (hk : k < i) (h2 : k < l.length), P l[k] = false) (fun t => (t = .inl () ∧ ∀ x ∈ l, P x = false) ∨ ∃ i : Nat, t = .inr (i : Int) ∧ ∃ x ∈ l, P x = true) (s := ()) (fun k hk => by omega) (by
    intro i _ hi hI
    unfold F115_1_B
    rw [getI_nat hi, Option.bind_some, hf _ (List.getElem_mem hi), Option.bind_some]
    cases hp : P l[i] with
    | true => right; exact ⟨_, rfl, .inr ⟨i, rfl, _, List.getElem_mem hi, hp⟩⟩
    | false =>
      left
      refine ⟨(), rfl, fun k hk h2 => ?_⟩
      by_cases e : k = i
      · subst e; exact hp
      · exact hI k (by omega) h2) (by
    intro _ hI
    refine ⟨.inl (), rfl, .inl ⟨rfl, fun x hx => ?_⟩⟩
    obtain ⟨k, hk, rfl⟩ := List.getElem_of_mem hx
    exact hI k hk hk)
  rw [h1]
  rcases h2 with ⟨rfl, h2⟩ | ⟨i, rfl, h2⟩
  · exact ⟨-1, rfl, ⟨fun h => by omega, fun ⟨x, hx, hp⟩ => by rw [h2 x hx] at hp; cases hp⟩⟩
  · exact ⟨i, rfl, ⟨fun _ => h2, fun _ => Int.natCast_nonneg i⟩⟩
theorem F82_eq {l : List Int} {f : Int → Option Bool} (P : Int → Bool) (hl : l.length ≤ 1099511627776) (hf : ∀ x ∈ l, f x = some (P x)) : F82 l f = some (l.any P) := by
  obtain ⟨i, h1, h2⟩ := F115_eq P hl hf
  unfold F82
  rw [h1, Option.bind_some]
  have : decide (0 ≤ i) = l.any P := by
    rw [Bool.eq_iff_iff]
    simp only [decide_eq_true_eq, List.any_eq_true]
    exact h2
  rw [this]
theorem F128_eq {l : List (List Int)} {f : List Int → Option Bool} (P : List Int → Bool) (hl : l.length ≤ 1099511627776) (hf : ∀ x ∈ l, f x = some (P x)) : ∃ i : Int, F128 l f = some i ∧ (0 ≤ i ↔ ∃ x ∈ l, P x = true) := by
  unfold F128
  have hs : l.length < 4611686018427387904 := by omega
  obtain ⟨t, h1, h2⟩ := forR_inv (B := F128_1_B l f) (D := F128_1_D l f) (hi := l.length) l.length rfl hs (fun i _ => ∀ k (hk : k < i) (h2 : k < l.length), P l[k] = false) (fun t => (t = .inl () ∧ ∀ x ∈ l, P x = false) ∨ ∃ i : Nat, t = .inr (i : Int) ∧ ∃ x ∈ l, P x = true) (s := ()) (fun k hk => by omega) (by
    intro i _ hi hI
    unfold F128_1_B
    rw [getI_nat hi, Option.bind_some, hf _ (List.getElem_mem hi), Option.bind_some]
    cases hp : P l[i] with
    | true => right; exact ⟨_, rfl, .inr ⟨i, rfl, _, List.getElem_mem hi, hp⟩⟩
    | false =>
      left
      refine ⟨(), rfl, fun k hk h2 => ?_⟩
      by_cases e : k = i
      · subst e; exact hp
      · exact hI k (by omega) h2) (by
    intro _ hI
    refine ⟨.inl (), rfl, .inl ⟨rfl, fun x hx => ?_⟩⟩
    obtain ⟨k, hk, rfl⟩ := List.getElem_of_mem hx
    exact hI k hk hk)
  rw [h1]
  rcases h2 with ⟨rfl, h2⟩ | ⟨i, rfl, h2⟩
  · exact ⟨-1, rfl, ⟨fun h => by omega, fun ⟨x, hx, hp⟩ => by rw [h2 x hx] at hp; cases hp⟩⟩
  · exact ⟨i, rfl, ⟨fun _ => h2, fun _ => Int.natCast_nonneg i⟩⟩
theorem F117_eq {l : List (List Int)} {f : List Int → Option Bool} (P : List Int → Bool) (hl : l.length ≤ 1099511627776) (hf : ∀ x ∈ l, f x = some (P x)) : F117 l f = some (l.any P) := by
  obtain ⟨i, h1, h2⟩ := F128_eq P hl hf
  unfold F117
  rw [h1, Option.bind_some]
  have : decide (0 ≤ i) = l.any P := by
    rw [Bool.eq_iff_iff]
    simp only [decide_eq_true_eq, List.any_eq_true]
    exact h2
  rw [this]
def rowB (p w : Int) (row : List Int) : Bool := decide ((row.length : Int) = w) && row.all fun x => decide (0 ≤ x ∧ x < p)
theorem rowB_iff {p w : Int} {row : List Int} : rowB p w row = true ↔ RowOK p w row := by
  unfold rowB RowOK
  simp only [Bool.and_eq_true, decide_eq_true_eq, List.all_eq_true]
theorem F130_eq {p : Int} (hp : 2 ≤ p ∧ p ≤ 7) (x : Int) : F130 x p = some (!decide (0 ≤ x ∧ x < p)) := by
  unfold F130
  rw [chk_ok (by omega) (by omega), Option.bind_some, F56_eq, Option.bind_some]
  congr 3
  exact propext ⟨fun h => ⟨h.1, by omega⟩, fun h => ⟨h.1, by omega⟩⟩
theorem F129_eq {p w : Int} (hp : 2 ≤ p ∧ p ≤ 7) {l : List Int} (hl : l.length ≤ 1099511627776) : F129 p w l = some (rowB p w l) := by
  unfold F129 rowB
  by_cases h : (l.length : Int) = w
  · rw [if_pos h, F82_eq (fun x => !decide (0 ≤ x ∧ x < p)) hl (fun x _ => F130_eq hp x), Option.bind_some]
    simp [h, List.not_any_eq_all_not]
  · rw [if_neg h]; simp [h]
theorem F116_eq {p w : Int} (hp : 2 ≤ p ∧ p ≤ 7) {l : List Int} (hl : l.length ≤ 1099511627776) : F116 l p w = some (!rowB p w l) := by
  unfold F116; rw [F129_eq hp hl, Option.bind_some]
theorem F90_eq {p w : Int} (hp : 2 ≤ p ∧ p ≤ 7) {m : List (List Int)} (hm : m.length ≤ 1099511627776) (hs : ∀ r ∈ m, r.length ≤ 1099511627776) : F90 p w m = some (m.all (rowB p w)) := by
  unfold F90
  rw [F117_eq (fun r => !rowB p w r) hm (fun r hr => F116_eq hp (hs r hr)), Option.bind_some]
  simp [List.not_any_eq_all_not]
theorem F90_tells {p w : Int} (hp : 2 ≤ p ∧ p ≤ 7) {m : List (List Int)} (hm : m.length ≤ 1099511627776) (hs : ∀ r ∈ m, r.length ≤ 1099511627776) : Tells (F90 p w m) (∀ r ∈ m, RowOK p w r) :=
  ⟨_, F90_eq hp hm hs, by simp only [List.all_eq_true, rowB_iff]⟩
theorem F92_tells {l : List Int} (hl : l.length ≤ 1099511627776) : Tells (F92 l) (∀ x ∈ l, x = 0) := by
  unfold F92
  have h : F82 l (fun x => F118 x) = some (l.any fun x => !decide (x = 0)) := F82_eq _ hl (fun x _ => rfl)
  rw [h, Option.bind_some]
  exact ⟨_, rfl, by simp [List.not_any_eq_all_not]⟩
theorem F81_tells {l : List Int} (hl : l.length ≤ 1099511627776) : ∃ i, F81 l = some i ∧ (0 ≤ i ↔ ¬ ∀ x ∈ l, x = 0) := by
  unfold F81
  have hs : l.length < 4611686018427387904 := by omega
  obtain ⟨t, h1, h2⟩ := forR_inv (B := F81_1_B l) (D := F81_1_D l) (hi := l.length) l.length rfl hs (fun i _ => ∀ k (hk : k < i) (h2 : k < l.length), l[k] = 0) (fun t => (t = .inl () ∧ ∀ x ∈ l, x = 0) ∨ ∃ i : Nat, t = .inr (i : Int) ∧ ¬ ∀ x ∈ l, x = 0) (s := ()) (fun k hk => by omega) (by
    intro i _ hi hI
    unfold F81_1_B
    rw [getI_nat hi, Option.bind_some]
    by_cases hp : l[i] = 0
    · rw [if_pos hp]
      left
      refine ⟨(), rfl, fun k hk h2 => ?_⟩
      by_cases e : k = i
      · subst e; exact hp
      · exact hI k (by omega) h2
    · rw [if_neg hp]
      right
      exact ⟨_, rfl, .inr ⟨i, rfl, fun ha => hp (ha _ (List.getElem_mem hi))⟩⟩) (by
    intro _ hI
    refine ⟨.inl (), rfl, .inl ⟨rfl, fun x hx => ?_⟩⟩
    obtain ⟨k, hk, rfl⟩ := List.getElem_of_mem hx
    exact hI k hk hk)
  rw [h1]
  rcases h2 with ⟨rfl, h2⟩ | ⟨i, rfl, h2⟩
  · exact ⟨-1, rfl, ⟨fun h => by omega, fun h => absurd h2 h⟩⟩
  · exact ⟨i, rfl, ⟨fun _ => h2, fun _ => Int.natCast_nonneg i⟩⟩
structure SmallC (x : GComplex) : Prop where
  d : x.Dims.length ≤ 1048576
  m : x.Maps.length ≤ 1048576
  r : ∀ m ∈ x.Maps, m.length ≤ 1048576 ∧ ∀ l ∈ m, l.length ≤ 1048576
structure ShapeC (x : GComplex) : Prop where
  p : IsP x.Prime
  dl : 1 ≤ x.Dims.length ∧ x.Dims.length ≤ 6
  ml : x.Maps.length + 1 = x.Dims.length
  dims : ∀ d ∈ x.Dims, 0 ≤ d ∧ d ≤ 8
def TabAt (x : GComplex) (k : Nat) : Prop := TableOK x.Prime (x.Dims.getD (k + 1) 0) (x.Dims.getD k 0) (x.Maps.getD k [])
def SqAt (x : GComplex) (k : Nat) : Prop := ∀ row ∈ x.Maps.getD k [], ∀ y ∈ lin x.Prime (x.Dims.getD (k - 1) 0).toNat row (x.Maps.getD (k - 1) []), y = 0
structure ValidC (x : GComplex) : Prop extends ShapeC x where
  tab : ∀ k, k < x.Maps.length → TabAt x k
  sq : ∀ k, 0 < k → k < x.Maps.length → SqAt x k
theorem lin_len {p : Int} {n : Nat} {v : List Int} {m : List (List Int)} (H : LinOK p n v m) : (lin p n v m).length = n := (linN_ok H _ (Nat.le_refl _)).1
theorem linOK_of {x : GComplex} (hs : ShapeC x) {k : Nat} (h1 : 0 < k) (h2 : k < x.Maps.length) (t1 : TabAt x (k - 1)) (t2 : TabAt x k) {row : List Int} (hr : row ∈ x.Maps.getD k []) :
    LinOK x.Prime (x.Dims.getD (k - 1) 0).toNat row (x.Maps.getD (k - 1) []) ∧ 0 ≤ x.Dims.getD (k - 1) 0 ∧ x.Dims.getD (k - 1) 0 ≤ 8 := by
  have hd : ∀ j, j < x.Dims.length → 0 ≤ x.Dims.getD j 0 ∧ x.Dims.getD j 0 ≤ 8 := fun j hj => by
    have := hs.dims _ (List.getElem_mem hj)
    simpa [hj] using this
  have hml := hs.ml
  have d1 := hd (k - 1) (by omega)
  have d2 := hd k (by omega)
  obtain ⟨q1, q2⟩ := t2.2 row hr
  refine ⟨⟨hs.p.range, q2, ?_, fun l hl => ?_, ?_, ?_⟩, d1⟩
  · have := t1.1
    have e : k - 1 + 1 = k := by omega
    rw [e] at this
    omega
  · obtain ⟨r1, r2⟩ := t1.2 l hl
    exact ⟨by omega, r2⟩
  · omega
  · omega
theorem F86_eq {x : GComplex} (h : x.Dims.length ≤ 1048576) : F86 x = some ((x.Dims.length : Int) - 1) := by
  unfold F86; rw [chk_ok (by omega) (by omega), Option.bind_some]
theorem mapsD {x : GComplex} {k : Nat} (h : k < x.Maps.length) : x.Maps.getD k [] = x.Maps[k] := by simp [h]
theorem F39_3_eq {x : GComplex} (hs : ShapeC x) {k : Nat} (h2 : k < x.Maps.length) (t1 : 0 < k → TabAt x (k - 1)) (t2 : TabAt x k) (hsm : SmallC x) :
    ∃ t, loopW (F39_3_S x (k : Int)) 0 = some t ∧ ((t = .inl () ∧ (0 < k → SqAt x k)) ∨ (t = .inr false ∧ 0 < k ∧ ¬ SqAt x k)) := by
  have hml := hs.ml
  have hdl := hs.dl
  have hk := (hsm.r _ (List.getElem_mem h2)).1
  refine loopW_inv (fun j : Int => (x.Maps[k].length - j).toNat) (fun j => ∃ n : Nat, j = n ∧ n ≤ x.Maps[k].length ∧ (0 < k → ∀ i (hi : i < n) (h3 : i < x.Maps[k].length), ∀ y ∈ lin x.Prime (x.Dims.getD (k - 1) 0).toNat x.Maps[k][i] (x.Maps.getD (k - 1) []), y = 0)) _ ⟨0, rfl, by omega, fun _ i hi => by omega⟩ ?_
  rintro _ ⟨n, rfl, hn, hall⟩
  unfold F39_3_S
  rw [getI_nat h2, Option.bind_some]
  by_cases hlt : (n : Int) < x.Maps[k].length
  · rw [if_pos hlt]
    have hnl : n < x.Maps[k].length := by omega
    by_cases h0 : 0 < k
    · rw [if_pos (by omega)]
      obtain ⟨H, d0, d8⟩ := linOK_of hs h0 h2 (t1 h0) t2 (row := x.Maps[k][n]) (by rw [mapsD h2]; exact List.getElem_mem hnl)
      have e1 : ((k : Int) - 1) = ((k - 1 : Nat) : Int) := by omega
      rw [chk_ok (by omega) (by omega), Option.bind_some, e1, getI_getD (show k - 1 < x.Maps.length by omega) [], Option.bind_some, getI_nat hnl, Option.bind_some, getI_getD (show k - 1 < x.Dims.length by omega) 0, Option.bind_some,
        F80_eq H (by omega), Option.bind_some]
      obtain ⟨i, g1, g2⟩ := F81_tells (l := lin x.Prime (x.Dims.getD (k - 1) 0).toNat x.Maps[k][n] (x.Maps.getD (k - 1) [])) (by rw [lin_len H]; omega)
      rw [g1, Option.bind_some]
      by_cases hz : 0 ≤ i
      · rw [if_pos hz]
        right
        refine ⟨_, rfl, .inr ⟨rfl, h0, fun ha => g2.1 hz (ha _ (by rw [mapsD h2]; exact List.getElem_mem hnl))⟩⟩
      · rw [if_neg hz]
        left
        rw [chk_ok (by omega) (by omega), Option.bind_some]
        refine ⟨_, rfl, ⟨n + 1, rfl, hnl, fun _ i hi h3 => ?_⟩, by omega⟩
        by_cases e : i = n
        · subst e
          exact Classical.byContradiction fun hq => hz (g2.2 hq)
        · exact hall h0 i (by omega) h3
    · rw [if_neg (by omega)]
      right
      exact ⟨_, rfl, .inl ⟨rfl, fun h => absurd h h0⟩⟩
  · rw [if_neg hlt]
    right
    refine ⟨_, rfl, .inl ⟨rfl, fun h0 row hr => ?_⟩⟩
    rw [mapsD h2] at hr
    obtain ⟨i, hi, rfl⟩ := List.getElem_of_mem hr
    exact hall h0 i (by omega) hi
theorem F39_2_eq {x : GComplex} (hs : ShapeC x) (hsm : SmallC x) :
    ∃ t, forR 0 (x.Maps.length : Int) (F39_2_B x) (F39_2_D x) () = some t ∧ ((t = .inl () ∧ (∀ k, k < x.Maps.length → TabAt x k) ∧ ∀ k, 0 < k → k < x.Maps.length → SqAt x k) ∨ (t = .inr false ∧ ¬ ((∀ k, k < x.Maps.length → TabAt x k) ∧ ∀ k, 0 < k → k < x.Maps.length → SqAt x k))) := by
  have hml := hs.ml
  have hm := hsm.m
  have hlen : x.Maps.length < 4611686018427387904 := by omega
  refine forR_inv x.Maps.length rfl hlen (fun i _ => (∀ k, k < i → TabAt x k) ∧ ∀ k, 0 < k → k < i → SqAt x k) _ ⟨fun k hk => by omega, fun k _ hk => by omega⟩ ?_ ?_
  · rintro i _ hi ⟨ht, hq⟩
    unfold F39_2_B
    have e2 : ((i : Int) + 1) = ((i + 1 : Nat) : Int) := by omega
    have hr := hsm.r _ (List.getElem_mem hi)
    rw [getI_nat hi, Option.bind_some, e2, getI_getD (show i + 1 < x.Dims.length by omega) 0, Option.bind_some, getI_getD (show i < x.Dims.length by omega) 0, Option.bind_some]
    have hT := F79_tells (p := x.Prime) (c := x.Dims.getD (i + 1) 0) (w := x.Dims.getD i 0) (m := x.Maps[i]) hs.p.range (by omega) (fun r h => by have := hr.2 r h; omega)
    rcases hT.case with ⟨h1, h2⟩ | ⟨h1, h2⟩
    · rw [h1, Option.bind_some, if_pos rfl]
      have hti : TabAt x i := by unfold TabAt; rw [mapsD hi]; exact h2
      obtain ⟨t, g1, g2⟩ := F39_3_eq hs hi (fun h0 => ht _ (by omega)) hti hsm
      rw [g1, Option.bind_some]
      rcases g2 with ⟨rfl, g2⟩ | ⟨rfl, g0, g2⟩
      · left
        refine ⟨(), rfl, fun k hk => ?_, fun k h0 hk => ?_⟩
        · by_cases e : k = i
          · subst e; exact hti
          · exact ht k (by omega)
        · by_cases e : k = i
          · subst e; exact g2 h0
          · exact hq k h0 (by omega)
      · right
        exact ⟨_, rfl, .inr ⟨rfl, fun ha => g2 (ha.2 i g0 hi)⟩⟩
    · rw [h1, Option.bind_some, if_neg Bool.false_ne_true]
      right
      refine ⟨_, rfl, .inr ⟨rfl, fun ha => h2 ?_⟩⟩
      have := ha.1 i hi
      unfold TabAt at this
      rw [mapsD hi] at this
      exact this
  · rintro _ ⟨ht, hq⟩
    exact ⟨.inl (), rfl, .inl ⟨rfl, ht, hq⟩⟩
theorem F39_1_eq {x : GComplex} (hsm : SmallC x) : ∃ t, forR 0 (x.Dims.length : Int) (F39_1_B x) (F39_1_D x) () = some t ∧ ((t = .inl () ∧ ∀ d ∈ x.Dims, 0 ≤ d ∧ d ≤ 8) ∨ (t = .inr false ∧ ¬ ∀ d ∈ x.Dims, 0 ≤ d ∧ d ≤ 8)) := by
  have hm := hsm.d
  have hlen : x.Dims.length < 4611686018427387904 := by omega
  refine forR_inv x.Dims.length rfl hlen (fun i _ => ∀ k (hk : k < i) (h2 : k < x.Dims.length), 0 ≤ x.Dims[k] ∧ x.Dims[k] ≤ 8) _ (fun k hk => by omega) ?_ ?_
  · rintro i _ hi hI
    unfold F39_1_B
    rw [getI_nat hi, Option.bind_some, F54_eq, Option.bind_some]
    by_cases h : 0 ≤ x.Dims[i] ∧ x.Dims[i] ≤ 8
    · rw [if_pos (by simpa using h)]
      left
      refine ⟨(), rfl, fun k hk h2 => ?_⟩
      by_cases e : k = i
      · subst e; exact h
      · exact hI k (by omega) h2
    · rw [if_neg (by simpa using h)]
      right
      exact ⟨_, rfl, .inr ⟨rfl, fun ha => h (ha _ (List.getElem_mem hi))⟩⟩
  · rintro _ hI
    refine ⟨.inl (), rfl, .inl ⟨rfl, fun d hd => ?_⟩⟩
    obtain ⟨k, hk, rfl⟩ := List.getElem_of_mem hd
    exact hI k hk hk
theorem F39_tells {x : GComplex} (hsm : SmallC x) : Tells (F39 x) (ValidC x) := by
  have hd := hsm.d
  unfold F39
  rcases (F78_tells x.Prime).case with ⟨h1, hp⟩ | ⟨h1, hp⟩
  case inr => rw [h1, Option.bind_some, if_neg Bool.false_ne_true]; exact .of_false rfl fun h => hp h.p
  rw [h1, Option.bind_some, if_pos rfl]
  by_cases c1 : (x.Dims.length : Int) < 1
  · rw [if_pos c1]; exact .of_false rfl fun h => by have := h.dl; omega
  rw [if_neg c1]
  by_cases c2 : 6 < (x.Dims.length : Int)
  · rw [if_pos c2]; exact .of_false rfl fun h => by have := h.dl; omega
  rw [if_neg c2, chk_ok (by omega) (by omega), Option.bind_some]
  by_cases c3 : (x.Maps.length : Int) = (x.Dims.length : Int) - 1
  case neg => rw [if_neg c3]; exact .of_false rfl fun h => by have := h.ml; omega
  rw [if_pos c3]
  obtain ⟨t, g1, g2⟩ := F39_1_eq hsm
  rw [g1, Option.bind_some]
  rcases g2 with ⟨rfl, g2⟩ | ⟨rfl, g2⟩
  case inr => exact .of_false rfl fun h => g2 h.dims
  have hs : ShapeC x := ⟨hp, by omega, by omega, g2⟩
  obtain ⟨t, k1, k2⟩ := F39_2_eq hs hsm
  simp only
  rw [k1, Option.bind_some]
  rcases k2 with ⟨rfl, k2, k3⟩ | ⟨rfl, k2⟩
  · exact .of_true rfl ⟨hs, k2, k3⟩
  · exact .of_false rfl fun h => k2 ⟨h.tab, h.sq⟩
theorem F42_1_eq {x : GComplex} (hs : ShapeC x) (hsm : SmallC x) :
    ∃ t, forR 0 (x.Maps.length : Int) (F42_1_B x) (F42_1_D x) () = some t ∧ ((t = .inl () ∧ ∀ k, k < x.Maps.length → TabAt x k) ∨ (t = .inr false ∧ ¬ ∀ k, k < x.Maps.length → TabAt x k)) := by
  have hml := hs.ml
  have hm := hsm.m
  have hlen : x.Maps.length < 4611686018427387904 := by omega
  refine forR_inv x.Maps.length rfl hlen (fun i _ => ∀ k, k < i → TabAt x k) _ (fun k hk => by omega) ?_ ?_
  · rintro i _ hi ht
    unfold F42_1_B
    have e2 : ((i : Int) + 1) = ((i + 1 : Nat) : Int) := by omega
    have hr := hsm.r _ (List.getElem_mem hi)
    rw [getI_nat hi, Option.bind_some, e2, getI_getD (show i + 1 < x.Dims.length by omega) 0, Option.bind_some]
    have hti : TabAt x i ↔ ((x.Maps[i].length : Int) = x.Dims.getD (i + 1) 0 ∧ ∀ r ∈ x.Maps[i], RowOK x.Prime (x.Dims.getD i 0) r) := by unfold TabAt; rw [mapsD hi]; rfl
    by_cases hc : (x.Maps[i].length : Int) = x.Dims.getD (i + 1) 0
    · rw [if_pos hc, getI_getD (show i < x.Dims.length by omega) 0, Option.bind_some]
      have hT := F90_tells (p := x.Prime) (w := x.Dims.getD i 0) (m := x.Maps[i]) hs.p.range (by omega) (fun r h => by have := hr.2 r h; omega)
      rcases hT.case with ⟨h1, h2⟩ | ⟨h1, h2⟩
      · rw [h1, Option.bind_some, if_pos rfl]
        left
        refine ⟨(), rfl, fun k hk => ?_⟩
        by_cases e : k = i
        · subst e; exact hti.2 ⟨hc, h2⟩
        · exact ht k (by omega)
      · rw [h1, Option.bind_some, if_neg Bool.false_ne_true]
        right
        exact ⟨_, rfl, .inr ⟨rfl, fun ha => h2 (hti.1 (ha i hi)).2⟩⟩
    · rw [if_neg hc]
      right
      exact ⟨_, rfl, .inr ⟨rfl, fun ha => hc (hti.1 (ha i hi)).1⟩⟩
  · rintro _ ht
    exact ⟨.inl (), rfl, .inl ⟨rfl, ht⟩⟩
theorem F91_eq {x : GComplex} (hs : ShapeC x) (hsm : SmallC x) {k : Nat} (h1 : 0 < k) (h2 : k < x.Maps.length) (t1 : TabAt x (k - 1)) (t2 : TabAt x k) {row : List Int} (hr : row ∈ x.Maps.getD k []) :
    F91 x (k : Int) row = some (lin x.Prime (x.Dims.getD (k - 1) 0).toNat row (x.Maps.getD (k - 1) [])) := by
  have hml := hs.ml
  have hdl := hs.dl
  obtain ⟨H, d0, d8⟩ := linOK_of hs h1 h2 t1 t2 hr
  unfold F91
  have e1 : ((k : Int) - 1) = ((k - 1 : Nat) : Int) := by omega
  rw [if_neg (by omega), F86_eq hsm.d, Option.bind_some, if_neg (by omega), chk_ok (by omega) (by omega), Option.bind_some, e1, getI_getD (show k - 1 < x.Dims.length by omega) 0, Option.bind_some, getI_getD (show k - 1 < x.Maps.length by omega) [], Option.bind_some,
    F119_eq H (by omega), Option.bind_some]
theorem F42_3_eq {x : GComplex} (hs : ShapeC x) (hsm : SmallC x) (ht : ∀ k, k < x.Maps.length → TabAt x k) {n : Nat} (hn : 2 ≤ n) (h2 : n - 1 < x.Maps.length) :
    ∃ t, forR 0 ((x.Maps[n - 1].length : Nat) : Int) (F42_3_B x (n : Int) x.Maps[n - 1]) (F42_3_D x (n : Int) x.Maps[n - 1]) () = some t ∧ ((t = .inl () ∧ SqAt x (n - 1)) ∨ (t = .inr false ∧ ¬ SqAt x (n - 1))) := by
  have hml := hs.ml
  have hdl := hs.dl
  have hk := (hsm.r _ (List.getElem_mem h2)).1
  have hlen : x.Maps[n - 1].length < 4611686018427387904 := by omega
  refine forR_inv x.Maps[n - 1].length rfl hlen (fun i _ => ∀ j (hj : j < i) (h3 : j < x.Maps[n - 1].length), ∀ y ∈ lin x.Prime (x.Dims.getD (n - 1 - 1) 0).toNat x.Maps[n - 1][j] (x.Maps.getD (n - 1 - 1) []), y = 0) _ (fun j hj => by omega) ?_ ?_
  · rintro i _ hi hI
    unfold F42_3_B
    have hrow : x.Maps[n - 1][i] ∈ x.Maps.getD (n - 1) [] := by rw [mapsD h2]; exact List.getElem_mem hi
    have e1 : ((n : Int) - 1) = ((n - 1 : Nat) : Int) := by omega
    have t1 := ht (n - 1 - 1) (by omega)
    have t2 := ht (n - 1) h2
    obtain ⟨H, d0, d8⟩ := linOK_of hs (by omega) h2 t1 t2 hrow
    rw [getI_nat hi, Option.bind_some, chk_ok (by omega) (by omega), Option.bind_some, e1, F91_eq hs hsm (by omega) h2 t1 t2 hrow, Option.bind_some]
    rcases (F92_tells (l := lin x.Prime (x.Dims.getD (n - 1 - 1) 0).toNat x.Maps[n - 1][i] (x.Maps.getD (n - 1 - 1) [])) (by rw [lin_len H]; omega)).case with ⟨g1, g2⟩ | ⟨g1, g2⟩
    · rw [g1, Option.bind_some, if_pos rfl]
      left
      refine ⟨(), rfl, fun j hj h3 => ?_⟩
      by_cases e : j = i
      · subst e; exact g2
      · exact hI j (by omega) h3
    · rw [g1, Option.bind_some, if_neg Bool.false_ne_true]
      right
      exact ⟨_, rfl, .inr ⟨rfl, fun ha => g2 (ha _ hrow)⟩⟩
  · rintro _ hI
    refine ⟨.inl (), rfl, .inl ⟨rfl, fun row hr => ?_⟩⟩
    rw [mapsD h2] at hr
    obtain ⟨j, hj, rfl⟩ := List.getElem_of_mem hr
    exact hI j hj hj
theorem F42_2_eq {x : GComplex} (hs : ShapeC x) (hsm : SmallC x) (ht : ∀ k, k < x.Maps.length → TabAt x k) :
    ∃ t, loopW (F42_2_S x) 2 = some t ∧ ((t = .inl () ∧ ∀ k, 0 < k → k < x.Maps.length → SqAt x k) ∨ (t = .inr false ∧ ¬ ∀ k, 0 < k → k < x.Maps.length → SqAt x k)) := by
  have hml := hs.ml
  have hdl := hs.dl
  refine loopW_inv (fun j : Int => (x.Dims.length + 2 - j).toNat) (fun j => ∃ n : Nat, j = n ∧ 2 ≤ n ∧ n ≤ x.Dims.length + 1 ∧ ∀ k, 0 < k → k < n - 1 → k < x.Maps.length → SqAt x k) _ ⟨2, rfl, by omega, by omega, fun k h0 hk => by omega⟩ ?_
  rintro _ ⟨n, rfl, hn, hn2, hall⟩
  unfold F42_2_S
  rw [F86_eq hsm.d, Option.bind_some]
  by_cases hlt : (n : Int) ≤ (x.Dims.length : Int) - 1
  · rw [if_pos hlt]
    have e1 : ((n : Int) - 1) = ((n - 1 : Nat) : Int) := by omega
    have h2 : n - 1 < x.Maps.length := by omega
    rw [chk_ok (by omega) (by omega), Option.bind_some, e1, getI_nat h2, Option.bind_some]
    obtain ⟨t, g1, g2⟩ := F42_3_eq hs hsm ht hn h2
    rw [g1, Option.bind_some]
    rcases g2 with ⟨rfl, g2⟩ | ⟨rfl, g2⟩
    · left
      refine ⟨((n + 1 : Nat) : Int), ?_, ⟨n + 1, rfl, by omega, by omega, fun k h0 hk h3 => ?_⟩, by omega⟩
      · simp only
        rw [chk_ok (by omega) (by omega), Option.bind_some]
        rfl
      · by_cases e : k = n - 1
        · subst e; exact g2
        · exact hall k h0 (by omega) h3
    · right
      exact ⟨_, rfl, .inr ⟨rfl, fun ha => g2 (ha _ (by omega) h2)⟩⟩
  · rw [if_neg hlt]
    right
    exact ⟨_, rfl, .inl ⟨rfl, fun k h0 hk => hall k h0 (by omega) hk⟩⟩
theorem F42_tells {x : GComplex} (hsm : SmallC x) : Tells (F42 x) (ValidC x) := by
  have hd := hsm.d
  unfold F42
  rcases (F67_tells x.Prime).case with ⟨h1, hp⟩ | ⟨h1, hp⟩
  case inr => rw [h1, Option.bind_some, if_neg Bool.false_ne_true]; exact .of_false rfl fun h => hp h.p
  rw [h1, Option.bind_some, if_pos rfl, F86_eq hd, Option.bind_some, F56_eq, Option.bind_some]
  by_cases c1 : 0 ≤ (x.Dims.length : Int) - 1 ∧ (x.Dims.length : Int) - 1 ≤ 5
  case neg => rw [if_neg (by simpa using c1)]; exact .of_false rfl fun h => by have := h.dl; omega
  rw [if_pos (by simpa using c1)]
  by_cases c3 : (x.Maps.length : Int) = (x.Dims.length : Int) - 1
  case neg => rw [if_neg c3]; exact .of_false rfl fun h => by have := h.ml; omega
  rw [if_pos c3]
  have h88 : F82 x.Dims (fun y => F88 y) = some (x.Dims.any fun d => !decide (0 ≤ d ∧ d ≤ 8)) := F82_eq _ (by omega) (fun d _ => by unfold F88; rw [F56_eq, Option.bind_some])
  rw [h88, Option.bind_some]
  have hany : (x.Dims.any fun d => !decide (0 ≤ d ∧ d ≤ 8)) = true ↔ ¬ ∀ d ∈ x.Dims, 0 ≤ d ∧ d ≤ 8 := by
    simp only [List.any_eq_true, Bool.not_eq_true', decide_eq_false_iff_not]
    constructor
    · rintro ⟨d, h1, h2⟩ ha; exact h2 (ha d h1)
    · intro hn
      exact Classical.byContradiction fun hc => hn fun d hd => Classical.byContradiction fun h => hc ⟨d, hd, h⟩
  by_cases c4 : (x.Dims.any fun d => !decide (0 ≤ d ∧ d ≤ 8)) = true
  · rw [if_pos c4]; exact .of_false rfl fun h => hany.1 c4 h.dims
  rw [if_neg c4]
  have hdims : ∀ d ∈ x.Dims, 0 ≤ d ∧ d ≤ 8 := Classical.byContradiction fun hc => c4 (hany.2 hc)
  have hs : ShapeC x := ⟨hp, by omega, by omega, hdims⟩
  obtain ⟨t, g1, g2⟩ := F42_1_eq hs hsm
  rw [g1, Option.bind_some]
  rcases g2 with ⟨rfl, ht⟩ | ⟨rfl, ht⟩
  case inr => exact .of_false rfl fun h => ht h.tab
  obtain ⟨t, k1, k2⟩ := F42_2_eq hs hsm ht
  simp only
  rw [k1, Option.bind_some]
  rcases k2 with ⟨rfl, k2⟩ | ⟨rfl, k2⟩
  · exact .of_true rfl ⟨hs, ht, k2⟩
  · exact .of_false rfl fun h => k2 h.sq
def numAt (ms : List (List (List Int))) (k i j : Nat) : Int := ((ms.getD k []).getD i []).getD j 0
def InT (ms : List (List (List Int))) (k i j : Nat) : Prop := k < ms.length ∧ i < (ms.getD k []).length ∧ j < ((ms.getD k []).getD i []).length
theorem getD_mem {α : Type} {l : List α} {i : Nat} (h : i < l.length) (d : α) : l.getD i d ∈ l := by
  rw [List.getD_eq_getElem?_getD, List.getElem?_eq_getElem h]; exact List.getElem_mem h
abbrev Long0 (n : Int) : Prop := -9223372036854775808 ≤ n ∧ n ≤ 9223372036854775807
abbrev LongL {α : Type} (L : α → Prop) (l : List α) : Prop := l.length ≤ 9223372036854775807 ∧ ∀ y ∈ l, L y
structure LongC (x : GComplex) : Prop where
  p : Long0 x.Prime
  d : LongL Long0 x.Dims
  m : LongL (LongL (LongL Long0)) x.Maps
theorem F43_eq {a : List Int} (ha : a.length ≤ 9223372036854775807) {s : Int} (h0 : 0 ≤ s) (h1 : s ≤ 1048576) : ∃ z, F43 a s = some z ∧ (z < 0 ∨ (0 ≤ z ∧ z ≤ 1048576 ∧ a.length ≤ 1048576)) := by
  unfold F43
  rw [chk_ok (by omega) (by omega), Option.bind_some]
  by_cases h : s - (a.length : Int) < 0
  · rw [if_pos h]; exact ⟨_, rfl, .inl (by decide)⟩
  · rw [if_neg h]; exact ⟨_, rfl, .inr ⟨by omega, by omega, by omega⟩⟩
theorem sz_loop {α : Type} {l : List α} (S : α → Prop) {B : Int → Int → Option (Int ⊕ (Int ⊕ Int))} {D : Int → Int → Option (Int ⊕ Int)} (hl : l.length ≤ 1048576)
    (hB : ∀ (i : Nat) (hi : i < l.length) (v : Int), 0 ≤ v → v ≤ 1048576 → (∃ z, B i v = some (.inl z) ∧ 0 ≤ z ∧ z ≤ 1048576 ∧ S l[i]) ∨ B i v = some (.inr (.inr (-1)))) (hD : ∀ v, D (l.length : Int) v = some (.inl v) ∨ ∀ i v, D i v = some (.inl v)) (hD' : ∀ i v, D i v = some (.inl v))
    {s : Int} (h0 : 0 ≤ s) (h1 : s ≤ 1048576) : ∃ t, forR 0 (l.length : Int) B D s = some t ∧ ((∃ z, t = .inl z ∧ 0 ≤ z ∧ z ≤ 1048576 ∧ ∀ y ∈ l, S y) ∨ t = .inr (-1)) := by
  have hlen : l.length < 4611686018427387904 := by omega
  refine forR_inv l.length rfl hlen (fun i v => 0 ≤ v ∧ v ≤ 1048576 ∧ ∀ k (h : k < l.length), k < i → S l[k]) _ ⟨h0, h1, fun k _ hk => by omega⟩ ?_ ?_
  · rintro i v hi ⟨p0, p1, p2⟩
    rcases hB i hi v p0 p1 with ⟨z, q1, q2, q3, q4⟩ | q
    · left
      refine ⟨z, q1, q2, q3, fun k h hk => ?_⟩
      by_cases e : k = i
      · subst e; exact q4
      · exact p2 k h (by omega)
    · right
      exact ⟨_, q, .inr rfl⟩
  · rintro v ⟨p0, p1, p2⟩
    refine ⟨_, hD' _ _, .inl ⟨v, rfl, p0, p1, fun y hy => ?_⟩⟩
    obtain ⟨k, hk, rfl⟩ := List.getElem_of_mem hy
    exact p2 k hk hk
theorem F44_eq {a : List (List Int)} (ha : LongL (LongL Long0) a) {s : Int} (h0 : 0 ≤ s) (h1 : s ≤ 1048576) : ∃ z, F44 a s = some z ∧ (z < 0 ∨ (0 ≤ z ∧ z ≤ 1048576 ∧ a.length ≤ 1048576 ∧ ∀ r ∈ a, r.length ≤ 1048576)) := by
  have hal := ha.1
  unfold F44
  rw [chk_ok (by omega) (by omega), Option.bind_some]
  by_cases h : s - (a.length : Int) < 0
  · rw [if_pos h]; exact ⟨_, rfl, .inl (by decide)⟩
  · rw [if_neg h]
    obtain ⟨t, g1, g2⟩ := sz_loop (l := a) (B := F44_1_B a) (D := F44_1_D a) (fun r => r.length ≤ 1048576) (by omega) (fun i hi v v0 v1 => by
      unfold F44_1_B
      obtain ⟨z, k1, k2⟩ := F43_eq (ha.2 _ (List.getElem_mem hi)).1 v0 v1
      rw [getI_nat hi, Option.bind_some, k1, Option.bind_some]
      rcases k2 with k2 | ⟨k2, k3, k4⟩
      · rw [if_pos k2]; exact .inr rfl
      · rw [if_neg (by omega)]; exact .inl ⟨z, rfl, k2, k3, k4⟩) (fun v => .inl rfl) (fun i v => rfl) (show 0 ≤ s - (a.length : Int) by omega) (by omega)
    rw [g1, Option.bind_some]
    rcases g2 with ⟨z, rfl, q1, q2, q3⟩ | rfl
    · exact ⟨z, rfl, .inr ⟨q1, q2, by omega, q3⟩⟩
    · exact ⟨_, rfl, .inl (by decide)⟩
theorem F11_eq {a : List (List (List Int))} (ha : LongL (LongL (LongL Long0)) a) {s : Int} (h0 : 0 ≤ s) (h1 : s ≤ 1048576) : ∃ z, F11 a s = some z ∧ (z < 0 ∨ (0 ≤ z ∧ z ≤ 1048576 ∧ a.length ≤ 1048576 ∧ ∀ m ∈ a, m.length ≤ 1048576 ∧ ∀ r ∈ m, r.length ≤ 1048576)) := by
  have hal := ha.1
  unfold F11
  rw [chk_ok (by omega) (by omega), Option.bind_some]
  by_cases h : s - (a.length : Int) < 0
  · rw [if_pos h]; exact ⟨_, rfl, .inl (by decide)⟩
  · rw [if_neg h]
    obtain ⟨t, g1, g2⟩ := sz_loop (l := a) (B := F11_1_B a) (D := F11_1_D a) (fun m => m.length ≤ 1048576 ∧ ∀ r ∈ m, r.length ≤ 1048576) (by omega) (fun i hi v v0 v1 => by
      unfold F11_1_B
      obtain ⟨z, k1, k2⟩ := F44_eq (ha.2 _ (List.getElem_mem hi)) v0 v1
      rw [getI_nat hi, Option.bind_some, k1, Option.bind_some]
      rcases k2 with k2 | ⟨k2, k3, k4⟩
      · rw [if_pos k2]; exact .inr rfl
      · rw [if_neg (by omega)]; exact .inl ⟨z, rfl, k2, k3, k4⟩) (fun v => .inl rfl) (fun i v => rfl) (show 0 ≤ s - (a.length : Int) by omega) (by omega)
    rw [g1, Option.bind_some]
    rcases g2 with ⟨z, rfl, q1, q2, q3⟩ | rfl
    · exact ⟨z, rfl, .inr ⟨q1, q2, by omega, q3⟩⟩
    · exact ⟨_, rfl, .inl (by decide)⟩
theorem F10_eq {x : GComplex} (hx : LongC x) {s : Int} (h0 : 0 ≤ s) (h1 : s ≤ 1048576) : ∃ z, F10 x s = some z ∧ (z < 0 ∨ (0 ≤ z ∧ z ≤ 1048576 ∧ SmallC x)) := by
  unfold F10
  obtain ⟨z, k1, k2⟩ := F43_eq hx.d.1 h0 h1
  rw [k1, Option.bind_some]
  rcases k2 with k2 | ⟨k2, k3, k4⟩
  · rw [if_pos k2]; exact ⟨_, rfl, .inl (by decide)⟩
  rw [if_neg (by omega)]
  obtain ⟨y, l1, l2⟩ := F11_eq hx.m k2 k3
  rw [l1, Option.bind_some]
  rcases l2 with l2 | ⟨l2, l3, l4, l5⟩
  · rw [if_pos l2]; exact ⟨_, rfl, .inl (by decide)⟩
  rw [if_neg (by omega)]
  exact ⟨y, rfl, .inr ⟨l2, l3, ⟨k4, l4, l5⟩⟩⟩
theorem to_loop {α : Type} {l : List α} {B : Int → List α → Option (List α ⊕ List α)} {D : Int → List α → Option (List α)} (hl : l.length ≤ 1048576)
    (hB : ∀ (i : Nat) (hi : i < l.length) (s : List α), s.length = l.length → B i s = some (.inl (s.set i l[i]))) (hD : ∀ i s, D i s = some s) {s : List α} (hs : s.length = l.length) : forR 0 (l.length : Int) B D s = some l := by
  have hlen : l.length < 4611686018427387904 := by omega
  obtain ⟨t, h1, h2⟩ := forR_inv (B := B) (D := D) l.length rfl hlen (fun i s => s.length = l.length ∧ ∀ k, k < i → s[k]? = l[k]?) (fun t => t = l) (s := s) ⟨hs, fun k hk => by omega⟩ (by
    rintro i s hi ⟨p1, p2⟩
    left
    refine ⟨_, hB i hi s p1, by rw [List.length_set]; exact p1, fun k hk => ?_⟩
    rw [List.getElem?_set]
    by_cases e : i = k
    · subst e; rw [if_pos rfl, if_pos (by omega)]; simp [hi]
    · rw [if_neg e]; exact p2 k (by omega)) (by
    rintro s ⟨p1, p2⟩
    refine ⟨s, hD _ _, ?_⟩
    apply List.ext_getElem?
    intro k
    by_cases hk : k < l.length
    · exact p2 k hk
    · rw [List.getElem?_eq_none (by omega), List.getElem?_eq_none (by omega)])
  rw [h1, h2]
theorem F47_eq {l : List Int} (h : l.length ≤ 1048576) : F47 l = some l := by
  unfold F47
  rw [mkL_ok l.length rfl (by omega) (by omega), Option.bind_some, to_loop (l := l) (B := F47_1_B l) (D := F47_1_D l) h (fun i hi s hs => by
    unfold F47_1_B
    rw [getI_nat hi, Option.bind_some, getI_nat (show i < s.length by omega), Option.bind_some, setI_nat (by omega), Option.bind_some]) (fun i s => rfl) (List.length_replicate ..), Option.bind_some]
theorem F48_eq {l : List (List Int)} (h : l.length ≤ 1048576) (h2 : ∀ r ∈ l, r.length ≤ 1048576) : F48 l = some l := by
  unfold F48
  rw [mkL_ok l.length rfl (by omega) (by omega), Option.bind_some, to_loop (l := l) (B := F48_1_B l) (D := F48_1_D l) h (fun i hi s hs => by
    unfold F48_1_B
    rw [getI_nat hi, Option.bind_some, F47_eq (h2 _ (List.getElem_mem hi)), Option.bind_some, getI_nat (show i < s.length by omega), Option.bind_some, setI_nat (by omega), Option.bind_some]) (fun i s => rfl) (List.length_replicate ..), Option.bind_some]
theorem F13_eq {l : List (List (List Int))} (h : l.length ≤ 1048576) (h2 : ∀ m ∈ l, m.length ≤ 1048576 ∧ ∀ r ∈ m, r.length ≤ 1048576) : F13 l = some l := by
  unfold F13
  rw [mkL_ok l.length rfl (by omega) (by omega), Option.bind_some, to_loop (l := l) (B := F13_1_B l) (D := F13_1_D l) h (fun i hi s hs => by
    unfold F13_1_B
    rw [getI_nat hi, Option.bind_some, F48_eq (h2 _ (List.getElem_mem hi)).1 (h2 _ (List.getElem_mem hi)).2, Option.bind_some, getI_nat (show i < s.length by omega), Option.bind_some, setI_nat (by omega), Option.bind_some]) (fun i s => rfl) (List.length_replicate ..), Option.bind_some]
theorem F12_eq {x : GComplex} (h : SmallC x) : F12 x = some x := by
  unfold F12
  rw [F47_eq h.d, Option.bind_some, F13_eq h.m h.r, Option.bind_some]
theorem eq_loop {n : Nat} {B : Int → Unit → Option (Unit ⊕ (Unit ⊕ Bool))} {D : Int → Unit → Option (Unit ⊕ Bool)} (hn : n ≤ 1048576) (hB : ∀ (i : Nat) (s : Unit), i < n → B i s = some (.inl ())) (hD : ∀ i s, D i s = some (.inl ())) : forR 0 (n : Int) B D () = some (.inl ()) := by
  have hlen : n < 4611686018427387904 := by omega
  obtain ⟨t, h1, h2⟩ := forR_inv (B := B) (D := D) n rfl hlen (fun _ _ => True) (fun t => t = .inl ()) (s := ()) trivial (fun i s hi _ => .inl ⟨_, hB i s hi, trivial⟩) (fun s _ => ⟨_, hD _ _, rfl⟩)
  rw [h1, h2]
theorem F30_same {a : List Int} (h : a.length ≤ 1048576) : F30 a a = some true := by
  unfold F30
  rw [if_pos rfl, eq_loop (B := F30_1_B a a) (D := F30_1_D a a) h (fun i s hi => by unfold F30_1_B; rw [getI_nat hi, Option.bind_some, Option.bind_some, if_pos rfl]) (fun i s => rfl), Option.bind_some]
theorem F51_same {a : List (List Int)} (h : a.length ≤ 1048576) (h2 : ∀ r ∈ a, r.length ≤ 1048576) : F51 a a = some true := by
  unfold F51
  rw [if_pos rfl, eq_loop (B := F51_1_B a a) (D := F51_1_D a a) h (fun i s hi => by unfold F51_1_B; rw [getI_nat hi, Option.bind_some, Option.bind_some, F30_same (h2 _ (List.getElem_mem hi)), Option.bind_some, if_pos rfl]) (fun i s => rfl), Option.bind_some]
theorem F17_same {a : List (List (List Int))} (h : a.length ≤ 1048576) (h2 : ∀ m ∈ a, m.length ≤ 1048576 ∧ ∀ r ∈ m, r.length ≤ 1048576) : F17 a a = some true := by
  unfold F17
  rw [if_pos rfl, eq_loop (B := F17_1_B a a) (D := F17_1_D a a) h (fun i s hi => by unfold F17_1_B; rw [getI_nat hi, Option.bind_some, Option.bind_some, F51_same (h2 _ (List.getElem_mem hi)).1 (h2 _ (List.getElem_mem hi)).2, Option.bind_some, if_pos rfl]) (fun i s => rfl), Option.bind_some]
theorem F16_same {x : GComplex} (h : SmallC x) : F16 x x = some true := by
  unfold F16
  rw [if_pos rfl, F30_same h.d, Option.bind_some, if_pos rfl, F17_same h.m h.r, Option.bind_some, if_pos rfl]
def TabM (x : GComplex) (ms : List (List (List Int))) (k : Nat) : Prop := TableOK x.Prime (x.Dims.getD (k + 1) 0) (x.Dims.getD k 0) (ms.getD k [])
structure MapsOK (x : GComplex) (ms : List (List (List Int))) : Prop where
  v : ValidC x
  l : ms.length = x.Maps.length
  t : ∀ k, k < ms.length → TabM x ms k
theorem F93_eq (p c w : Int) (m : List (List Int)) : F93 p m c w = F79 p m c w := rfl
abbrev T3s := List (List (List Int))
structure Shp (s u : T3s) : Prop where
  l : s.length = u.length
  t : ∀ k, k < u.length → (s.getD k []).length = (u.getD k []).length
  r : ∀ k, k < u.length → ∀ i, i < (u.getD k []).length → ((s.getD k []).getD i []).length = ((u.getD k []).getD i []).length
theorem Shp.refl (s : T3s) : Shp s s := ⟨rfl, fun _ _ => rfl, fun _ _ _ _ => rfl⟩
theorem Shp.trans {a b c : T3s} (h : Shp a b) (k : Shp b c) : Shp a c :=
  ⟨h.l.trans k.l, fun n hn => (h.t n (by rw [k.l]; exact hn)).trans (k.t n hn), fun n hn i hi => (h.r n (by rw [k.l]; exact hn) i (by rw [k.t n hn]; exact hi)).trans (k.r n hn i hi)⟩
theorem Shp.symm {a b : T3s} (h : Shp a b) : Shp b a :=
  ⟨h.l.symm, fun n hn => (h.t n (by rw [← h.l]; exact hn)).symm, fun n hn i hi => (h.r n (by rw [← h.l]; exact hn) i (by rw [← h.t n (by rw [← h.l]; exact hn)]; exact hi)).symm⟩
def q1 (p a b : Int) : Int := ((a + b).tmod p + p).tmod p
def Rng (p : Int) (s : T3s) : Prop := ∀ k i j, InT s k i j → 0 ≤ numAt s k i j ∧ numAt s k i j < p
theorem cpy_loop {α : Type} {l : List α} {B : Int → List α → Option (List α ⊕ List α)} {D : Int → List α → Option (List α)} (hl : l.length ≤ 1048576)
    (hB : ∀ (i : Nat) (hi : i < l.length) (s : List α), s.length = i → B i s = some (.inl (s ++ [l[i]]))) (hD : ∀ i s, D i s = some s) : forR 0 (l.length : Int) B D [] = some l := by
  have hlen : l.length < 4611686018427387904 := by omega
  obtain ⟨t, h1, h2⟩ := forR_inv (B := B) (D := D) l.length rfl hlen (fun i s => s = l.take i) (fun t => t = l) (s := []) (by simp) (by
    rintro i s hi rfl
    left
    refine ⟨_, hB i hi _ (by simp; omega), ?_⟩
    rw [List.take_append_getElem]) (by
    rintro s rfl
    exact ⟨_, hD _ _, by simp⟩)
  rw [h1, h2]
theorem app_nil {b : Nat} {α : Type} {l : List α} (h : l.length * b ≤ 1099511627776) (h2 : l.length ≤ 1099511627776) : app b [] l = some l := by
  rw [app_ok (by simpa using h) (by simpa using h2)]; rfl
theorem F94_eq {l : List Int} (h : l.length ≤ 1048576) : F94 l = some l := by
  unfold F94; rw [app_nil (by omega) (by omega), Option.bind_some]
theorem F96_eq {l : List Int} (h : l.length ≤ 1048576) : F96 l = some l := by
  unfold F96; rw [app_nil (by omega) (by omega)]
theorem TabM.len {x : GComplex} {ms : T3s} {k : Nat} (h : TabM x ms k) : ((ms.getD k []).length : Int) = x.Dims.getD (k + 1) 0 := h.1
theorem MapsOK.self {x : GComplex} (h : ValidC x) : MapsOK x x.Maps := ⟨h, rfl, fun k hk => h.tab k hk⟩
theorem MapsOK.rng {x : GComplex} {ms : T3s} (h : MapsOK x ms) : Rng x.Prime ms := by
  rintro k i j ⟨h1, h2, h3⟩
  exact ((h.t k h1).2 _ (getD_mem h2 [])).2 _ (getD_mem h3 0)
theorem tmod_pos {a p : Int} (h : 0 ≤ a) : a.tmod p = a % p := Int.tmod_eq_emod_of_nonneg h
theorem tmod_cg {a p : Int} : Cg p (a.tmod p) a := ⟨-(a.tdiv p), by have := Int.tmod_add_mul_tdiv a p; grind⟩
theorem F127_eq {p x : Int} (hp : 2 ≤ p ∧ p ≤ 7) : F127 p x = some (x % p) := by
  have h1 := Int.tmod_lt_of_pos x (show 0 < p by omega)
  have h2 : -p < x.tmod p := by
    have h3 := Int.tmod_lt_of_pos (-x) (show 0 < p by omega)
    rw [Int.neg_tmod] at h3; omega
  unfold F127
  rw [remI_ok (by omega), Option.bind_some, chk_ok (by omega) (by omega), Option.bind_some, remI_ok (by omega), Option.bind_some, tmod_pos (by omega)]
  congr 1
  exact Cg.emod ((tmod_cg.add (Cg.refl p p)).trans ⟨1, by grind⟩)
theorem idx_loop {α : Type} {l : List α} (g : Nat → α → α) {B : Int → List α → Option (List α ⊕ List α)} {D : Int → List α → Option (List α)} (hl : l.length ≤ 1048576)
    (hB : ∀ (i : Nat) (hi : i < l.length) (s : List α), s.length = l.length → (∀ k, s[k]? = if k < i then (l[k]?).map (g k) else l[k]?) → B i s = some (.inl (s.set i (g i l[i])))) (hD : ∀ i s, D i s = some s) : forR 0 (l.length : Int) B D l = some (l.mapIdx g) := by
  obtain ⟨t, h1, h2⟩ := forR_inv (B := B) (D := D) l.length rfl (by omega) (fun i s => s.length = l.length ∧ ∀ k, s[k]? = if k < i then (l[k]?).map (g k) else l[k]?) (fun t => t = l.mapIdx g) (s := l) ⟨rfl, fun k => by simp⟩ (by
    rintro i s hi ⟨p1, p2⟩
    left
    refine ⟨_, hB i hi s p1 p2, by rw [List.length_set]; exact p1, fun k => ?_⟩
    rw [List.getElem?_set]
    by_cases e : i = k
    · subst e; rw [if_pos rfl, if_pos (by omega), if_pos (by omega)]; simp [hi]
    · rw [if_neg e, p2 k]
      by_cases q : k < i
      · rw [if_pos q, if_pos (by omega)]
      · rw [if_neg q, if_neg (by omega)]) (by
    rintro s ⟨p1, p2⟩
    refine ⟨s, hD _ _, ?_⟩
    apply List.ext_getElem?
    intro k
    rw [p2 k, List.getElem?_mapIdx]
    by_cases q : k < l.length
    · rw [if_pos q]
    · rw [if_neg q, List.getElem?_eq_none (by omega)]; rfl)
  rw [h1, h2]
theorem nth_get {v : List Int} {j : Nat} (h : j < v.length) : getI v (j : Int) = some (nth v j) := by rw [getI_nat h, nth_lt h]
theorem rng_mul {p a b : Int} (hp : 2 ≤ p ∧ p ≤ 7) (ha : 0 ≤ a ∧ a < p) (hb : 0 ≤ b ∧ b < p) : 0 ≤ a * b ∧ a * b ≤ 49 := by
  refine ⟨Int.mul_nonneg ha.1 hb.1, ?_⟩
  have := Int.mul_le_mul (show a ≤ 7 by omega) (show b ≤ 7 by omega) hb.1 (by decide)
  omega
theorem scl_loop {p k : Int} {w : Nat} (hp : 2 ≤ p ∧ p ≤ 7) (hk : 0 ≤ k ∧ k < p) {v : List Int} (hv : VecOK p w v) (hw : w ≤ 1048576) {B : Int → List Int → Option (List Int ⊕ List Int)} {D : Int → List Int → Option (List Int)}
    (hB : ∀ i row, B i row = (getI row i).bind fun x => (chk (x * k)).bind fun m => (remI m p).bind fun z => (setI row i z).bind fun r => some (.inl r)) (hD : ∀ i s, D i s = some s) : forR 0 (v.length : Int) B D v = some (scl p v k) := by
  have hl := hv.len
  rw [idx_loop (fun _ x => x * k % p) (by omega) (fun i hi s hs hk' => ?_) hD]
  · congr 1
    apply List.ext_getElem <;> simp [scl]
  · have h1 : s[i]? = v[i]? := by rw [hk' i, if_neg (Nat.lt_irrefl _)]
    have h2 : s[i]'(by omega) = v[i] := by
      have := h1
      rw [List.getElem?_eq_getElem (by omega), List.getElem?_eq_getElem hi] at this
      exact Option.some.inj this
    have hr := hv.rng i (by omega)
    rw [nth_lt hi] at hr
    have hm := rng_mul hp hr hk
    rw [hB, getI_nat (show i < s.length by omega), Option.bind_some, h2, chk_ok (by omega) (by omega), Option.bind_some, remI_ok (by omega), Option.bind_some, setI_nat (by omega), Option.bind_some, tmod_pos hm.1]
theorem F136_eq {p k : Int} {w : Nat} (hp : 2 ≤ p ∧ p ≤ 7) (hk : 0 ≤ k ∧ k < p) {v u : List Int} (hv : VecOK p w v) (hu : VecOK p w u) (hw : w ≤ 1048576) : F136 p v u k = some (subv p v u k) := by
  have hl := hv.len
  have hul := hu.len
  have hsl : (subv p v u k).length = w := by simp [subv, hl, hul]
  unfold F136
  obtain ⟨t, g1, g2⟩ := forR_inv (B := F136_1_B p v u k) (D := F136_1_D p v u k) v.length rfl (by omega) (fun i s => s = (subv p v u k).take i) (fun t => t = subv p v u k) (s := []) (by simp) (by
    rintro i s hi rfl
    left
    have hiw : i < w := by omega
    have h1 := hv.rng i hiw
    have h2 := hu.rng i hiw
    have hm := rng_mul hp hk h2
    refine ⟨(subv p v u k).take (i + 1), ?_, rfl⟩
    unfold F136_1_B
    rw [nth_get hi, Option.bind_some, nth_get (by omega), Option.bind_some, chk_ok (by omega) (by omega), Option.bind_some, chk_ok (by omega) (by omega), Option.bind_some, F127_eq hp, Option.bind_some, app_ok (by simp; omega) (by simp; omega), Option.bind_some]
    congr 2
    rw [← List.take_append_getElem (show i < (subv p v u k).length by omega)]
    congr 2
    have := nth_sub (p := p) (k := k) hl hul hiw
    rw [nth_lt (by omega)] at this
    exact this.symm) (by
    rintro s rfl
    refine ⟨_, rfl, ?_⟩
    rw [List.take_of_length_le (by omega)])
  rw [g1, Option.bind_some, g2]
theorem F81_ld {r : List Int} (hl : r.length ≤ 1048576) : F81 r = some (if ld r < r.length then (ld r : Int) else -1) := by
  unfold F81
  obtain ⟨t, g1, g2⟩ := forR_inv (B := F81_1_B r) (D := F81_1_D r) r.length rfl (by omega) (fun i _ => i ≤ ld r) (fun t => (t = .inl () ∧ r.length ≤ ld r) ∨ (t = .inr (ld r : Int) ∧ ld r < r.length)) (s := ()) (Nat.zero_le _) (by
    rintro i _ hi hI
    unfold F81_1_B
    rw [nth_get hi, Option.bind_some]
    by_cases h : nth r i = 0
    · left
      rw [if_pos h]
      refine ⟨(), rfl, ?_⟩
      rcases Nat.lt_or_ge i (ld r) with q | q
      · exact q
      · have : i = ld r := by omega
        subst this
        exact absurd h (ld_ne hi)
    · right
      rw [if_neg h]
      refine ⟨_, rfl, .inr ?_⟩
      have : ld r = i := by
        rcases Nat.lt_or_ge i (ld r) with q | q
        · exact absurd (ld_zero q) h
        · omega
      rw [this]; exact ⟨rfl, hi⟩) (by
    rintro _ hI
    exact ⟨_, rfl, .inl ⟨rfl, hI⟩⟩)
  rw [g1, Option.bind_some]
  rcases g2 with ⟨rfl, h⟩ | ⟨rfl, h⟩
  · rw [if_neg (by omega)]
  · rw [if_pos h]
theorem inv_ex {p x : Int} (hp : IsP p) (h1 : 1 ≤ x) (h2 : x < p) : ∃ m, 1 ≤ m ∧ m < p ∧ m * x % p = 1 := by
  unfold IsP at hp
  rcases hp with rfl | rfl | rfl | rfl
  · obtain rfl : x = 1 := by omega
    exact ⟨1, by decide⟩
  · have : x = 1 ∨ x = 2 := by omega
    rcases this with rfl | rfl
    · exact ⟨1, by decide⟩
    · exact ⟨2, by decide⟩
  · have : x = 1 ∨ x = 2 ∨ x = 3 ∨ x = 4 := by omega
    rcases this with rfl | rfl | rfl | rfl
    · exact ⟨1, by decide⟩
    · exact ⟨3, by decide⟩
    · exact ⟨2, by decide⟩
    · exact ⟨4, by decide⟩
  · have : x = 1 ∨ x = 2 ∨ x = 3 ∨ x = 4 ∨ x = 5 ∨ x = 6 := by omega
    rcases this with rfl | rfl | rfl | rfl | rfl | rfl
    · exact ⟨1, by decide⟩
    · exact ⟨4, by decide⟩
    · exact ⟨5, by decide⟩
    · exact ⟨2, by decide⟩
    · exact ⟨3, by decide⟩
    · exact ⟨6, by decide⟩
theorem cg_one {p a : Int} (hp : 2 ≤ p ∧ p ≤ 7) (h : a % p = 1) : Cg p a 1 := by
  have := (Cg.mod p a).symm
  rwa [h] at this
theorem F135_eq {p x : Int} (hp : IsP p) (h1 : 1 ≤ x) (h2 : x < p) : ∃ k, F135 p x = some k ∧ 0 ≤ k ∧ k < p ∧ Cg p (x * k) 1 := by
  have hr := hp.range
  obtain ⟨m, m1, m2, m3⟩ := inv_ex hp h1 h2
  obtain ⟨n, hn⟩ : ∃ n : Nat, p = n := ⟨p.toNat, by omega⟩
  obtain ⟨t, g1, k, rfl, g2, g3, g4⟩ := forR_from (B := F135_1_B p x) (D := F135_1_D p x) (lo := 1) (hi := p) 1 n rfl hn (by omega) (by omega) (fun i _ => 1 ≤ i ∧ ∀ j : Int, 1 ≤ j → j < i → j * x % p ≠ 1) (fun t => ∃ k : Int, t = .inr k ∧ 0 ≤ k ∧ k < p ∧ Cg p (x * k) 1) (s := ()) ⟨Nat.le_refl _, fun j a b => by omega⟩ (by
    rintro i _ hi ⟨h0, hI⟩
    unfold F135_1_B
    have hm := rng_mul hr (show 0 ≤ (i : Int) ∧ (i : Int) < p by omega) (show 0 ≤ x ∧ x < p by omega)
    rw [F127_eq hr, Option.bind_some, Int.emod_eq_of_lt (show 0 ≤ x by omega) h2, chk_ok (by omega) (by omega), Option.bind_some, remI_ok (by omega), Option.bind_some, tmod_pos hm.1]
    by_cases h : (i : Int) * x % p = 1
    · right
      rw [if_pos h]
      exact ⟨_, rfl, _, rfl, by omega, by omega, by rw [Int.mul_comm]; exact cg_one hr h⟩
    · left
      rw [if_neg h]
      refine ⟨(), rfl, by omega, fun j a b => ?_⟩
      by_cases e : j = i
      · subst e; exact h
      · exact hI j a (by omega)) (by
    rintro _ ⟨h0, hI⟩
    exact absurd m3 (hI m m1 (by omega)))
  unfold F135
  rw [g1, Option.bind_some]
  exact ⟨k, rfl, g2, g3, g4⟩
theorem F138_eq {p x : Int} (hp : IsP p) (h1 : 1 ≤ x) (h2 : x < p) : ∃ k, F138 p x = some k ∧ 0 ≤ k ∧ k < p ∧ Cg p (x * k) 1 := by
  have hr := hp.range
  obtain ⟨m, m1, m2, m3⟩ := inv_ex hp h1 h2
  obtain ⟨t, g1, g2, g3, g4⟩ := loopW_inv (S := F138_1_S p x) (fun v => (m - v).toNat) (fun v => 1 ≤ v ∧ v ≤ m) (fun t => 0 ≤ t ∧ t < p ∧ Cg p (x * t) 1) (s := 1) ⟨by decide, m1⟩ (by
    rintro v ⟨v1, v2⟩
    unfold F138_1_S
    have hm := rng_mul hr (show 0 ≤ v ∧ v < p by omega) (show 0 ≤ x ∧ x < p by omega)
    rw [chk_ok (by omega) (by omega), Option.bind_some, remI_ok (by omega), Option.bind_some, tmod_pos hm.1]
    by_cases h : v * x % p = 1
    · right
      rw [if_pos h]
      exact ⟨_, rfl, by omega, by omega, by rw [Int.mul_comm]; exact cg_one hr h⟩
    · left
      have hne : v ≠ m := fun e => by rw [e] at h; exact h m3
      rw [if_neg h, chk_ok (by omega) (by omega), Option.bind_some]
      exact ⟨_, rfl, ⟨by omega, by omega⟩, by omega⟩)
  unfold F138
  rw [g1, Option.bind_some]
  exact ⟨t, rfl, g2, g3, g4⟩
theorem F139_eq {p k : Int} {w : Nat} (hp : 2 ≤ p ∧ p ≤ 7) (hk : 0 ≤ k ∧ k < p) {r o : List Int} (hr : VecOK p w r) (ho : VecOK p w o) (hw : w ≤ 1048576) : F139 r o p k = some (subv p r o k) := by
  have hl := hr.len
  have hol := ho.len
  unfold F139
  rw [show (o.length : Int) = (r.length : Int) by omega, idx_loop (l := r) (B := F139_1_B o p k) (D := F139_1_D) (fun i x => (x - k * nth o i) % p) (by omega) (fun i hi s hs hk' => ?_) (fun i s => rfl)]
  · congr 1
    have hsl : (subv p r o k).length = w := by simp [subv, hl, hol]
    apply List.ext_getElem (by simp [hl, hsl])
    intro i h1 h2
    have hi : i < w := by omega
    have := nth_sub (p := p) (k := k) hl hol hi
    rw [nth_lt h2, nth_lt (show i < r.length by omega)] at this
    rw [this]; simp
  · have h1 : s[i]? = r[i]? := by rw [hk' i, if_neg (Nat.lt_irrefl _)]
    have h2 : s[i]'(by omega) = r[i] := by
      have := h1
      rw [List.getElem?_eq_getElem (by omega), List.getElem?_eq_getElem hi] at this
      exact Option.some.inj this
    have a1 := hr.rng i (by omega)
    rw [nth_lt hi] at a1
    have a2 := ho.rng i (by omega)
    have hm : 0 ≤ (p - k) * nth o i ∧ (p - k) * nth o i ≤ 49 := by
      refine ⟨Int.mul_nonneg (by omega) a2.1, ?_⟩
      have := Int.mul_le_mul (show p - k ≤ 7 by omega) (show nth o i ≤ 7 by omega) a2.1 (by decide)
      omega
    unfold F139_1_B
    rw [nth_get (by omega), Option.bind_some, getI_nat (show i < s.length by omega), Option.bind_some, h2, chk_ok (by omega) (by omega), Option.bind_some, chk_ok (by omega) (by omega), Option.bind_some, chk_ok (by omega) (by omega), Option.bind_some, remI_ok (by omega), Option.bind_some, setI_nat (by omega), Option.bind_some, tmod_pos (by omega)]
    congr 3
    exact Cg.emod ⟨nth o i, by grind⟩
theorem F134_eq {p : Int} {w : Nat} (hp : 2 ≤ p ∧ p ≤ 7) {R : List (List Int)} (hR : Red p w R) {v : List Int} (hv : VecOK p w v) (hw : w ≤ 1048576) (hn : R.length ≤ 1048576) : F134 p R v = some (rest p R v) := by
  have hp0 : 0 < p := by omega
  unfold F134
  rw [F94_eq (by rw [hv.len]; exact hw), Option.bind_some]
  have key : ∀ i, i ≤ R.length → VecOK p w (rest p (R.take i) v) := fun i _ => rest_ok hp0 (fun r hr => hR.ok r (List.mem_of_mem_take hr)) hv
  obtain ⟨t, g1, g2⟩ := forR_inv (B := F134_1_B p R) (D := F134_1_D p R) R.length rfl (by omega) (fun i s => s = rest p (R.take i) v) (fun t => t = rest p R v) (s := v) rfl (by
    rintro i s hi rfl
    left
    refine ⟨_, ?_, rfl⟩
    have hk := key i (by omega)
    have hm := List.getElem_mem hi
    have hok := hR.ok _ hm
    have hone := hR.one _ hm
    unfold F134_1_B
    rw [getI_nat hi, Option.bind_some, F81_ld (by rw [hok.len]; exact hw), if_pos (by rw [hok.len]; exact hone.1), Option.bind_some, nth_get (by rw [hk.len]; exact hone.1), Option.bind_some, F136_eq hp (hk.rng _ hone.1) hk hok hw, Option.bind_some]
    congr 2
    rw [← List.take_append_getElem hi]
    unfold rest
    rw [List.foldl_append]; rfl) (by
    rintro s rfl
    exact ⟨_, rfl, by rw [List.take_length]⟩)
  rw [g1, Option.bind_some, g2]
theorem ins_cons {p : Int} {own : List Int} {a : Nat} {o : List Int} {out : List (List Int)} : ins p own a (o :: out) = if a < ld o then own :: insF p own a o :: out.map (insF p own a) else insF p own a o :: ins p own a out := rfl
theorem F131_3_eq {p : Int} {w a : Nat} (hp : 2 ≤ p ∧ p ≤ 7) {out : List (List Int)} {own : List Int} (hR : Red p w out) (n : New p w out own a) (hw : w ≤ 1048576) (hn : out.length ≤ 1000000) :
    ∃ nx put, forR 0 (out.length : Int) (F131_3_B p out own a) F131_3_D ([], false) = some (nx, put) ∧ (if put = true then nx else nx ++ [own]) = ins p own a out ∧ nx.length ≤ 2000000 := by
  obtain ⟨t, g1, g2, g3⟩ := forR_inv (B := F131_3_B p out own a) (D := F131_3_D) out.length rfl (by omega) (fun i s => s.1.length ≤ 2 * i ∧ (s.2 = true → s.1 ++ (out.drop i).map (insF p own a) = ins p own a out) ∧ (s.2 = false → s.1 ++ ins p own a (out.drop i) = ins p own a out))
    (fun t => (if t.2 = true then t.1 else t.1 ++ [own]) = ins p own a out ∧ t.1.length ≤ 2000000) (s := ([], false)) ⟨by simp, by simp, by simp⟩ (by
    rintro i ⟨nx, put⟩ hi ⟨p1, p2, p3⟩
    simp only at p1 p2 p3
    left
    have hm := List.getElem_mem hi
    have hok := hR.ok _ hm
    have hone := hR.one _ hm
    have hr := hok.rng a n.lt
    have hq : F136 p out[i] own (nth out[i] a) = some (insF p own a out[i]) := F136_eq hp hr hok n.ok hw
    rw [List.drop_eq_getElem_cons hi] at p2 p3
    unfold F131_3_B F131_3_C
    simp only
    cases put with
    | true =>
      have e := p2 rfl
      rw [if_pos rfl, Option.bind_some, if_neg Bool.false_ne_true, Option.bind_some, getI_nat hi, Option.bind_some, nth_get (by rw [hok.len]; exact n.lt), Option.bind_some, hq, Option.bind_some, app_ok (by simp; omega) (by simp; omega), Option.bind_some]
      exact ⟨_, rfl, by simp; omega, fun _ => by rw [← e]; simp only [List.map_cons, List.append_assoc, List.cons_append, List.nil_append], fun h => by cases h⟩
    | false =>
      have e := p3 rfl
      rw [if_neg Bool.false_ne_true, getI_nat hi, Option.bind_some, F81_ld (by rw [hok.len]; exact hw), if_pos (by rw [hok.len]; exact hone.1), Option.bind_some, Option.bind_some]
      by_cases h : a < ld out[i]
      · have hd : decide ((a : Int) < (ld out[i] : Int)) = true := by simpa using h
        rw [ins_cons, if_pos h] at e
        rw [hd, if_pos rfl, app_ok (by simp; omega) (by simp; omega), Option.bind_some, Option.bind_some, Option.bind_some, nth_get (by rw [hok.len]; exact n.lt), Option.bind_some, hq, Option.bind_some, app_ok (by simp; omega) (by simp; omega), Option.bind_some]
        exact ⟨_, rfl, by simp; omega, fun _ => by rw [← e]; simp only [List.map_cons, List.append_assoc, List.cons_append, List.nil_append], fun h => by cases h⟩
      · have hd : decide ((a : Int) < (ld out[i] : Int)) = false := by simpa using h
        rw [ins_cons, if_neg h] at e
        rw [hd, if_neg Bool.false_ne_true, Option.bind_some, Option.bind_some, nth_get (by rw [hok.len]; exact n.lt), Option.bind_some, hq, Option.bind_some, app_ok (by simp; omega) (by simp; omega), Option.bind_some]
        exact ⟨_, rfl, by simp; omega, (fun h => by cases h), fun _ => by rw [← e]; simp only [List.append_assoc, List.cons_append, List.nil_append]⟩) (by
    rintro ⟨nx, put⟩ ⟨p1, p2, p3⟩
    simp only at p1 p2 p3
    refine ⟨_, rfl, ?_, by simp only; omega⟩
    rw [List.drop_length] at p2 p3
    cases put with
    | true => simpa using p2 rfl
    | false => simpa [ins] using p3 rfl)
  exact ⟨t.1, t.2, g1, g2, g3⟩
theorem F131_ech {p : Int} {w : Nat} (hp : IsP p) {rows : List (List Int)} (hr : Rows p w rows) (hw : w ≤ 1048576) (hn : rows.length ≤ 1000000) : ∃ out, F131 p rows = some out ∧ EchOf p w rows out := by
  have hpr := hp.range
  have hp1 : 1 < p := by omega
  obtain ⟨t, g1, g2, g3⟩ := forR_inv (B := F131_1_B p rows) (D := F131_1_D) rows.length rfl (by omega) (fun i s => EchOf p w (rows.take i) s ∧ s.length ≤ i) (fun t => EchOf p w rows t ∧ t.length ≤ rows.length) (s := []) ⟨.nil p w, Nat.le_refl _⟩ (by
    rintro i out hi ⟨p1, p2⟩
    left
    have hrow := hr _ (List.getElem_mem hi)
    have hrt : Rows p w (rows.take i) := fun r h => hr r (List.mem_of_mem_take h)
    have hrest := rest_ok (show 0 < p by omega) p1.red.ok hrow
    have hl : ¬ (ld (rest p out rows[i]) < w) ∨ ld (rest p out rows[i]) < w := by omega
    unfold F131_1_B
    rw [getI_nat hi, Option.bind_some, F134_eq hpr p1.red hrow hw (by omega), Option.bind_some, F81_ld (by rw [hrest.len]; exact hw), Option.bind_some, hrest.len]
    rcases hl with hl | hl
    · rw [if_neg hl, if_pos (by decide)]
      refine ⟨out, rfl, ?_, by omega⟩
      rw [← List.take_append_getElem hi]
      exact p1.skip hp1 hrt hrow fun j hj => ld_zero (by omega)
    · rw [if_pos hl, if_neg (by omega)]
      have hne := ld_ne (r := rest p out rows[i]) (by rw [hrest.len]; exact hl)
      have hrg := hrest.rng _ hl
      obtain ⟨k, k1, k2, k3, k4⟩ := F135_eq hp (x := nth (rest p out rows[i]) (ld (rest p out rows[i]))) (by omega) hrg.2
      have n := p1.new hp1 hrow hl (fun j hj => ld_zero hj) k4
      obtain ⟨nx, put, q1, q2, q3⟩ := F131_3_eq hpr p1.red n hw (by omega)
      have hlen : ((rest p out rows[i]).length : Int) = (w : Int) := by rw [hrest.len]
      have hsc := scl_loop hpr ⟨k2, k3⟩ hrest hw (B := F131_2_B p k) (D := F131_2_D) (fun i row => rfl) (fun i s => rfl)
      have hput := p1.put hp1 hrt hrow hl (fun j hj => ld_zero hj) k4
      rw [List.take_append_getElem hi] at hput
      rw [nth_get (by rw [hrest.len]; exact hl), Option.bind_some, k1, Option.bind_some, ← hlen, hsc, Option.bind_some, q1, Option.bind_some]
      simp only
      cases put with
      | true =>
        rw [if_pos rfl] at q2 ⊢
        rw [q2]
        exact ⟨_, rfl, hput, by rw [ins_len]; omega⟩
      | false =>
        rw [if_neg Bool.false_ne_true] at q2 ⊢
        rw [app_ok (by simp; omega) (by simp; omega), Option.bind_some, q2]
        exact ⟨_, rfl, hput, by rw [ins_len]; omega⟩) (by
    rintro out ⟨p1, p2⟩
    rw [List.take_length] at p1
    exact ⟨_, rfl, p1, p2⟩)
  exact ⟨t, g1, g2⟩
theorem F128_first {l : List (List Int)} {f : List Int → Option Bool} (P : List Int → Bool) (hl : l.length ≤ 1048576) (hf : ∀ x ∈ l, f x = some (P x)) : ∃ i : Int, F128 l f = some i ∧ ((i = -1 ∧ ∀ x ∈ l, P x = false) ∨ ∃ m : Nat, i = m ∧ m < l.length ∧ P (rowAt l m) = true) := by
  unfold F128
  obtain ⟨t, h1, h2⟩ := forR_inv (B := F128_1_B l f) (D := F128_1_D l f) (hi := l.length) l.length rfl (by omega) (fun i _ => ∀ k (hk : k < i) (h2 : k < l.length), P l[k] = false) (fun t => (t = .inl () ∧ ∀ x ∈ l, P x = false) ∨ ∃ m : Nat, t = .inr (m : Int) ∧ m < l.length ∧ P (rowAt l m) = true) (s := ()) (fun k hk => by omega) (by
    intro i _ hi hI
    unfold F128_1_B
    rw [getI_nat hi, Option.bind_some, hf _ (List.getElem_mem hi), Option.bind_some]
    cases hp : P l[i] with
    | true => right; exact ⟨_, rfl, .inr ⟨i, rfl, hi, by rw [rowAt_lt hi]; exact hp⟩⟩
    | false =>
      left
      refine ⟨(), rfl, fun k hk h2 => ?_⟩
      by_cases e : k = i
      · subst e; exact hp
      · exact hI k (by omega) h2) (by
    intro _ hI
    refine ⟨.inl (), rfl, .inl ⟨rfl, fun x hx => ?_⟩⟩
    obtain ⟨k, hk, rfl⟩ := List.getElem_of_mem hx
    exact hI k hk hk)
  rw [h1, Option.bind_some]
  rcases h2 with ⟨rfl, h2⟩ | ⟨m, rfl, h2⟩
  · exact ⟨_, rfl, .inl ⟨rfl, h2⟩⟩
  · exact ⟨_, rfl, .inr ⟨m, rfl, h2⟩⟩
theorem gstep_loop {p : Int} {w c d : Nat} (hp : 2 ≤ p ∧ p ≤ 7) {l : List (List Int)} {row : List Int} (hl : Rows p w l) (hd : d < l.length) (hrow : rowAt l d = row) (hc : c < w) (hw : w ≤ 1048576) (hn : l.length ≤ 1000000) :
    forR 0 (l.length : Int) (F133_4_B p c d) F133_4_D l = some (gstep p c d row l) := by
  have hdr := hl _ (row_mem hd)
  rw [hrow] at hdr
  rw [idx_loop (l := l) (B := F133_4_B p c d) (D := F133_4_D) (fun i r => if i = d then r else subv p r row (nth r c)) (by omega) (fun i hi s hs hk => ?_) (fun i s => rfl)]
  · unfold gstep
    congr 1
    have : l.set d row = l := by
      rw [← hrow, rowAt_lt hd]; exact List.set_getElem_self hd
    rw [this]
  · have h1 : s[i]'(by omega) = l[i] := by
      have := hk i
      rw [if_neg (Nat.lt_irrefl _), List.getElem?_eq_getElem (by omega), List.getElem?_eq_getElem hi] at this
      exact Option.some.inj this
    have h2 : s[d]'(by omega) = row := by
      have := hk d
      rw [List.getElem?_eq_getElem (by omega), List.getElem?_eq_getElem hd] at this
      rw [← hrow, rowAt_lt hd]
      split at this
      · simpa using this
      · exact Option.some.inj this
    unfold F133_4_B
    by_cases e : i = d
    · subst e
      rw [if_pos rfl, if_pos rfl, ← h1, List.set_getElem_self]
    · have hr := hl _ (List.getElem_mem hi)
      have hrc := hr.rng c hc
      rw [if_neg (by omega), if_neg e, getI_nat (show i < s.length by omega), Option.bind_some, getI_nat (show d < s.length by omega), Option.bind_some, h1, h2, nth_get (by rw [hr.len]; exact hc), Option.bind_some, F139_eq hp hrc hr hdr hw, Option.bind_some, setI_nat (by omega), Option.bind_some]
theorem F133_ech {p : Int} {w : Nat} (hp : IsP p) {rows : List (List Int)} (hr : Rows p w rows) (hw : w ≤ 1048576) (hn : rows.length ≤ 1000000) : ∃ out, F133 p rows = some out ∧ EchOf p w rows out := by
  have hpr := hp.range
  have hp1 : 1 < p := by omega
  unfold F133
  rw [cpy_loop (l := rows) (B := F133_1_B rows) (D := F133_1_D) (by omega) (fun i hi s hs => by
    unfold F133_1_B
    have := hr _ (List.getElem_mem hi)
    rw [getI_nat hi, Option.bind_some, F96_eq (by rw [this.len]; exact hw), Option.bind_some, app_ok (by simp; omega) (by simp; omega), Option.bind_some]) (fun i s => rfl), Option.bind_some]
  by_cases h0 : (rows.length : Int) = 0
  · rw [if_pos h0]
    have : rows = [] := List.eq_nil_of_length_eq_zero (by omega)
    subst this
    exact ⟨_, rfl, .nil p w⟩
  rw [if_neg h0]
  have hpos : 0 < rows.length := by omega
  have e0 := getI_nat hpos
  simp only [Int.natCast_zero] at e0
  have hw0 := (hr _ (List.getElem_mem hpos)).len
  rw [show (0 : Int) = ((0 : Nat) : Int) from rfl, getI_nat hpos, Option.bind_some]
  obtain ⟨t, g1, g2, g3, g4⟩ := forR_inv (B := F133_2_B p) (D := F133_2_D) (hi := (rows[0].length : Int)) w (by rw [hw0]) (by omega) (fun c s => ∃ d : Nat, s.2 = d ∧ d < s.1.length ∧ s.1.length = rows.length ∧ GInv p w rows c s.1 d)
    (fun t => EchOf p w rows (t.1.take t.2.toNat) ∧ 0 ≤ t.2 ∧ t.2 ≤ t.1.length) (s := (rows, 0)) ⟨0, rfl, hpos, rfl, .start hr⟩ (by
    rintro c ⟨l, dd⟩ hc ⟨d, p1, p2, p3, g⟩
    simp only at p1 p2 p3 g
    subst p1
    have hrl : ∀ x ∈ l.drop d, (fun r => F137 r (c : Int)) x = some (!decide (nth x c = 0)) := fun x hx => by
      have hx' := g.ok x (List.mem_of_mem_drop hx)
      show F137 x c = _
      unfold F137
      rw [nth_get (by rw [hx'.len]; exact hc), Option.bind_some]
    obtain ⟨at_, a1, a2⟩ := F128_first (fun x => !decide (nth x c = 0)) (l := l.drop d) (by simp; omega) hrl
    unfold F133_2_B
    simp only
    rw [if_pos ⟨by omega, by omega⟩, Int.toNat_natCast, a1, Option.bind_some]
    rcases a2 with ⟨rfl, a2⟩ | ⟨m, rfl, a2, a3⟩
    · rw [if_pos (by decide)]
      left
      refine ⟨_, rfl, d, rfl, p2, p3, g.skip hc fun i h1 h2 => ?_⟩
      have hx : rowAt l i ∈ l.drop d := by
        rw [rowAt_lt h2, List.mem_iff_getElem]
        exact ⟨i - d, by simp; omega, by simp [show d + (i - d) = i by omega]⟩
      simpa using a2 _ hx
    · have hml : m < l.length - d := by simpa using a2
      have hj : d + m < l.length := by omega
      have hrm : rowAt (l.drop d) m = rowAt l (d + m) := by rw [rowAt_lt a2, rowAt_lt hj, List.getElem_drop]
      rw [hrm] at a3
      have hne : nth (rowAt l (d + m)) c ≠ 0 := by simpa using a3
      have hrj := g.ok _ (row_mem hj)
      have hrg := hrj.rng c hc
      obtain ⟨k, k1, k2, k3, k4⟩ := F138_eq hp (x := nth (rowAt l (d + m)) c) (by omega) hrg.2
      -- the swapped list
      have h2l : ((l.set d (rowAt l (d + m))).set (d + m) (rowAt l d)).length = l.length := by simp
      have h2 : ∀ i, i < l.length → rowAt ((l.set d (rowAt l (d + m))).set (d + m) (rowAt l d)) i = rowAt l (if i = d + m then d else if i = d then d + m else i) := fun i hi => by
        rw [rowAt_lt (by simp; exact hi)]
        by_cases e : i = d + m
        · subst e; rw [if_pos rfl]; simp
        · rw [if_neg e, List.getElem_set_ne (Ne.symm e)]
          by_cases e2 : i = d
          · subst e2; rw [if_pos rfl]; simp
          · rw [if_neg e2, List.getElem_set_ne (Ne.symm e2), rowAt_lt hi]
      have gp := g.put hp1 hc (show d ≤ d + m by omega) hj k4 h2l h2
      have hrd : rowAt ((l.set d (rowAt l (d + m))).set (d + m) (rowAt l d)) d = rowAt l (d + m) := by
        rw [h2 d p2]
        by_cases e : d = d + m
        · rw [if_pos e, ← e]
        · rw [if_neg e, if_pos rfl]
      generalize hl2 : (l.set d (rowAt l (d + m))).set (d + m) (rowAt l d) = l2 at *
      have hsc := scl_loop hpr ⟨k2, k3⟩ hrj hw (B := F133_3_B p k) (D := F133_3_D) (fun i row => rfl) (fun i s => rfl)
      have ok2 : Rows p w (l2.set d (scl p (rowAt l (d + m)) k)) := fun r hr' => by
        rcases List.mem_or_eq_of_mem_set hr' with q | q
        · obtain ⟨i, hi, rfl⟩ := mem_row.1 q
          rw [h2 i (by omega)]
          refine g.ok _ (row_mem ?_)
          split
          · exact p2
          · split
            · exact hj
            · omega
        · rw [q]; exact scl_ok (by omega) hrj k
      have hs3 : (l2.set d (scl p (rowAt l (d + m)) k)).length = l.length := by simp [h2l]
      have hr3 : rowAt (l2.set d (scl p (rowAt l (d + m)) k)) d = scl p (rowAt l (d + m)) k := by rw [rowAt_lt (by omega)]; simp
      have hgl := gstep_loop hpr ok2 (show d < _ by omega) hr3 hc hw (by omega)
      have hgs : gstep p c d (scl p (rowAt l (d + m)) k) (l2.set d (scl p (rowAt l (d + m)) k)) = gstep p c d (scl p (rowAt l (d + m)) k) l2 := by unfold gstep; rw [List.set_set]
      rw [hgs] at hgl
      have hlen4 : (gstep p c d (scl p (rowAt l (d + m)) k) l2).length = l.length := by rw [gstep_len]; exact h2l
      have e1 : getI l ((d + m : Nat) : Int) = some (rowAt l (d + m)) := by rw [getI_nat hj, rowAt_lt hj]
      have e2 : getI l (d : Int) = some (rowAt l d) := by rw [getI_nat p2, rowAt_lt p2]
      have e3 : getI l2 (d : Int) = some (rowAt l (d + m)) := by rw [getI_nat (by omega), ← rowAt_lt (by omega), hrd]
      rw [if_neg (by omega), chk_ok (by omega) (by omega), Option.bind_some, show (d : Int) + (m : Int) = ((d + m : Nat) : Int) by omega, e1, Option.bind_some, e2, Option.bind_some, setI_nat p2, Option.bind_some, setI_nat (by simp; omega), Option.bind_some, hl2, e3, Option.bind_some,
        nth_get (by rw [hrj.len]; exact hc), Option.bind_some, k1, Option.bind_some, hsc, Option.bind_some, setI_nat (by omega), Option.bind_some, hgl, Option.bind_some, chk_ok (by omega) (by omega), Option.bind_some]
      by_cases hd1 : (d : Int) + 1 = ((gstep p c d (scl p (rowAt l (d + m)) k) l2).length : Int)
      · right
        rw [if_pos hd1]
        refine ⟨_, rfl, ?_, by simp only; omega, by simp only; omega⟩
        simp only
        rw [show ((d : Int) + 1).toNat = d + 1 by omega]
        exact gp.done hp1 (.inr (by omega))
      · left
        rw [if_neg hd1]
        refine ⟨_, rfl, d + 1, by simp only; omega, by simp only; have := gp.dn; omega, by simp only; omega, gp⟩) (by
    rintro ⟨l, dd⟩ ⟨d, p1, p2, p3, g⟩
    simp only at p1 p2 p3 g
    subst p1
    refine ⟨_, rfl, ?_, by simp only; omega, by simp only; omega⟩
    simp only
    rw [Int.toNat_natCast]
    exact g.done hp1 (.inl rfl))
  rw [show ((0 : Nat) : Int) = (0 : Int) from rfl, g1, Option.bind_some, if_pos ⟨g3, g4⟩]
  exact ⟨_, rfl, g2⟩
theorem reduce_same {p : Int} {w : Nat} (hp : IsP p) {rows : List (List Int)} (hr : Rows p w rows) (hw : w ≤ 1048576) (hn : rows.length ≤ 1000000) : ∃ out, F131 p rows = some out ∧ F133 p rows = some out ∧ EchOf p w rows out := by
  obtain ⟨a, a1, a2⟩ := F131_ech hp hr hw hn
  obtain ⟨b, b1, b2⟩ := F133_ech hp hr hw hn
  have := a2.same (by have := hp.range; omega) b2
  subst this
  exact ⟨a, a1, b1, a2⟩
theorem F133_self {p : Int} {w : Nat} (hp : IsP p) {E : List (List Int)} (h : Red p w E) (hw : w ≤ 1048576) (hn : E.length ≤ 1000000) : F133 p E = some E := by
  obtain ⟨X, -, x2, x3⟩ := reduce_same hp h.ok hw hn
  rw [x2, x3.same (by have := hp.range; omega) (EchOf.self h)]
theorem red_len {p : Int} {w : Nat} {E : List (List Int)} (h : Red p w E) : E.length ≤ w := by
  have h1 := h.leads
  have key : ∀ (l : List Nat) (b : Nat), l.Pairwise (· < ·) → (∀ x ∈ l, b ≤ x ∧ x < w) → l.length + b ≤ max w b := by
    intro l
    induction l with
    | nil => intro b _ _; simp; omega
    | cons a l ih =>
      intro b hp hx
      obtain ⟨p1, p2⟩ := List.pairwise_cons.1 hp
      have ha := hx a List.mem_cons_self
      have := ih (a + 1) p2 fun x hx' => ⟨p1 x hx', (hx x (List.mem_cons_of_mem _ hx')).2⟩
      simp only [List.length_cons]
      omega
  have := key (E.map ld) 0 h1 fun x hx => by
    obtain ⟨r, hr, rfl⟩ := List.mem_map.1 hx
    exact ⟨Nat.zero_le _, (h.one r hr).1⟩
  simpa using this
theorem set_app_right {r s : List Int} {i : Nat} (x : Int) : (r ++ s).set (r.length + i) x = r ++ s.set i x := by
  rw [List.set_append_right _ _ (by omega)]; simp
theorem F125_1_eq {p : Int} {w : Nat} {rows : List (List Int)} (hr : Rows p w rows) {x2 : List Int} (hx : x2.length = w) (hw : w ≤ 1000) (hn : rows.length ≤ 1000) :
    forR 0 (rows.length : Int) (F125_1_B p rows x2) (F125_1_D p rows x2) [] = some (longs rows.length rows) := by
  have hl := longs_len rows.length rows
  obtain ⟨t, g1, g2⟩ := forR_inv (B := F125_1_B p rows x2) (D := F125_1_D p rows x2) rows.length rfl (by omega) (fun i s => s = (longs rows.length rows).take i) (fun t => t = longs rows.length rows) (s := []) (by simp) (by
    rintro i s hi rfl
    left
    have hri := hr _ (List.getElem_mem hi)
    refine ⟨(longs rows.length rows).take (i + 1), ?_, rfl⟩
    unfold F125_1_B appZ
    have hz : List.replicate ((rows.length : Int)).toNat (0 : Int) = zv rows.length := by simp [zv]
    have hzl : (zv rows.length).length = rows.length := by simp [zv]
    have e : ((x2.length : Int) + (i : Int)) = ((rows[i].length + i : Nat) : Int) := by rw [hx, hri.len]; omega
    rw [getI_nat hi, Option.bind_some, F96_eq (by rw [hri.len]; omega), Option.bind_some, if_pos ⟨by omega, by omega, by omega⟩, hz, app_ok (by rw [hri.len, hzl]; omega) (by rw [hri.len, hzl]; omega), Option.bind_some, chk_ok (by rw [hx]; omega) (by rw [hx]; omega), Option.bind_some, e, getI_nat (by rw [List.length_append, hzl]; omega), Option.bind_some,
      setI_nat (by rw [List.length_append, hzl]; omega), Option.bind_some, app_ok (by simp; omega) (by simp; omega), Option.bind_some, set_app_right]
    congr 2
    rw [← List.take_append_getElem (show i < (longs rows.length rows).length by omega), longs_at, rowAt_lt hi]
    rfl) (by
    rintro s rfl
    exact ⟨_, rfl, by rw [List.take_of_length_le (by omega)]⟩)
  rw [g1, g2]
theorem F122_1_eq {p : Int} {w : Nat} {rows : List (List Int)} (hr : Rows p w rows) (hw : w ≤ 1000) (hn : rows.length ≤ 1000) :
    forR 0 (rows.length : Int) (F122_1_B p rows.length rows) (F122_1_D p rows.length rows) ([], 0) = some (longs rows.length rows, if rows.length = 0 then 0 else (w : Int)) := by
  have hl := longs_len rows.length rows
  obtain ⟨t, g1, g2⟩ := forR_inv (B := F122_1_B p rows.length rows) (D := F122_1_D p rows.length rows) rows.length rfl (by omega) (fun i s => s = ((longs rows.length rows).take i, if i = 0 then 0 else (w : Int))) (fun t => t = (longs rows.length rows, if rows.length = 0 then 0 else (w : Int))) (s := ([], 0)) (by simp) (by
    rintro i s hi rfl
    left
    have hri := hr _ (List.getElem_mem hi)
    refine ⟨((longs rows.length rows).take (i + 1), if i + 1 = 0 then 0 else (w : Int)), ?_, rfl⟩
    unfold F122_1_B
    simp only
    have hzl : (zv rows.length).length = rows.length := by simp [zv]
    rw [mkL_ok rows.length rfl (by omega) (by omega), Option.bind_some]
    change (getI (zv rows.length) (i : Int)).bind _ = _
    rw [getI_nat (by omega), Option.bind_some]
    change (setI (zv rows.length) (i : Int) 1).bind _ = _
    rw [setI_nat (by omega), Option.bind_some, getI_nat hi, Option.bind_some, F94_eq (by rw [hri.len]; omega), Option.bind_some, app_ok (by simp [zv, hri.len]; omega) (by simp [zv, hri.len]; omega), Option.bind_some, app_ok (by simp; omega) (by simp; omega), Option.bind_some, if_neg (by omega), hri.len]
    congr 3
    rw [← List.take_append_getElem (show i < (longs rows.length rows).length by omega), longs_at, rowAt_lt hi]
    rfl) (by
    rintro s rfl
    exact ⟨_, rfl, by rw [List.take_of_length_le (by omega)]⟩)
  rw [g1, g2]
theorem tails_take {w i : Nat} {E : List (List Int)} (hi : i < E.length) : tails w (E.take (i + 1)) = if w ≤ ld E[i] then tails w (E.take i) ++ [E[i].drop w] else tails w (E.take i) := by
  unfold tails
  rw [← List.take_append_getElem hi, List.filter_append, List.map_append]
  by_cases h : w ≤ ld E[i]
  · rw [if_pos h]; simp [h]
  · rw [if_neg h]; simp [h]
theorem tails_len {w : Nat} {E : List (List Int)} : (tails w E).length ≤ E.length := by
  unfold tails
  rw [List.length_map]; exact List.length_filter_le _ _
theorem F122_2_eq {p : Int} {w n : Nat} {E : List (List Int)} (h : Red p (w + n) E) (hw : w + n ≤ 10000) :
    forR 0 (E.length : Int) (F122_2_B w E) (F122_2_D w E) [] = some (tails w E) := by
  have hE := red_len h
  obtain ⟨t, g1, g2⟩ := forR_inv (B := F122_2_B w E) (D := F122_2_D w E) E.length rfl (by omega) (fun i s => s = tails w (E.take i)) (fun t => t = tails w E) (s := []) (by simp [tails]) (by
    rintro i s hi rfl
    left
    have hk := h.ok _ (List.getElem_mem hi)
    have ho := h.one _ (List.getElem_mem hi)
    have htl : (tails w (E.take i)).length ≤ 10000 := by have := tails_len (w := w) (E := E.take i); simp at this; omega
    refine ⟨tails w (E.take (i + 1)), ?_, rfl⟩
    rw [tails_take hi]
    unfold F122_2_B
    rw [getI_nat hi, Option.bind_some, F81_ld (by rw [hk.len]; omega), if_pos (by rw [hk.len]; exact ho.1), Option.bind_some]
    by_cases q : w ≤ ld E[i]
    · rw [if_pos (by omega), if_pos q]
      unfold slI
      rw [if_pos ⟨by omega, by rw [hk.len]; omega, Int.le_refl _⟩, Option.bind_some, Int.toNat_natCast, Int.toNat_natCast, List.take_length, F94_eq (by simp [hk.len]; omega), Option.bind_some, app_ok (by simp; omega) (by simp; omega), Option.bind_some]
    · rw [if_neg (by omega), if_neg q]) (by
    rintro s rfl
    exact ⟨_, rfl, by rw [List.take_length]⟩)
  rw [g1, g2]
theorem isZero_take {r : List Int} {w : Nat} (h : w ≤ r.length) : (∀ x ∈ r.take w, x = 0) ↔ w ≤ ld r := by
  constructor
  · intro hx
    refine Nat.le_of_not_lt fun q => ?_
    have hl : ld r < r.length := by omega
    refine ld_ne hl (by rw [nth_lt hl]; exact hx _ (List.mem_take_iff_getElem.2 ⟨ld r, by omega, rfl⟩))
  · intro q x hx
    obtain ⟨i, hi, rfl⟩ := List.mem_take_iff_getElem.1 hx
    have := ld_zero (r := r) (j := i) (by omega)
    rwa [nth_lt (by omega)] at this
theorem F125_2_eq {p : Int} {w n : Nat} {E : List (List Int)} (h : Red p (w + n) E) (hw : w + n ≤ 10000) {x2 : List Int} (hx : x2.length = w) :
    forR 0 (E.length : Int) (F125_2_B p x2 E) (F125_2_D p x2 E) [] = some (tails w E) := by
  have hE := red_len h
  obtain ⟨t, g1, g2⟩ := forR_inv (B := F125_2_B p x2 E) (D := F125_2_D p x2 E) E.length rfl (by omega) (fun i s => s = tails w (E.take i)) (fun t => t = tails w E) (s := []) (by simp [tails]) (by
    rintro i s hi rfl
    left
    have hk := h.ok _ (List.getElem_mem hi)
    have ho := h.one _ (List.getElem_mem hi)
    have htl : (tails w (E.take i)).length ≤ 10000 := by have := tails_len (w := w) (E := E.take i); simp at this; omega
    refine ⟨tails w (E.take (i + 1)), ?_, rfl⟩
    rw [tails_take hi]
    unfold F125_2_B slI
    rw [getI_nat hi, Option.bind_some, hx, if_pos ⟨by omega, by omega, by rw [hk.len]; omega⟩, Option.bind_some, Int.toNat_natCast, Int.toNat_zero, List.drop_zero]
    rcases ((F92_tells (l := E[i].take w) (by simp; omega)).iff (isZero_take (by rw [hk.len]; omega))).case with ⟨e, q⟩ | ⟨e, q⟩
    · rw [e, Option.bind_some, if_pos rfl, if_pos q, if_pos ⟨by omega, by rw [hk.len]; omega, Int.le_refl _⟩, Option.bind_some, Int.toNat_natCast, List.take_length, app_ok (by simp; omega) (by simp; omega), Option.bind_some]
    · rw [e, Option.bind_some, if_neg Bool.false_ne_true, if_neg q]) (by
    rintro s rfl
    exact ⟨_, rfl, by rw [List.take_length]⟩)
  rw [g1, g2]
theorem kernel_same {p : Int} {w : Nat} (hp : IsP p) {rows : List (List Int)} (hr : Rows p w rows) (hw : w ≤ 1000) (hn : rows.length ≤ 1000) : ∃ K, F122 p rows.length rows = some K ∧ F125 p rows = some K ∧ Red p rows.length K := by
  have hp1 : 1 < p := by have := hp.range; omega
  unfold F122 F125
  rw [F122_1_eq hr hw hn, Option.bind_some]
  simp only
  by_cases h0 : rows.length = 0
  · have : rows = [] := List.eq_nil_of_length_eq_zero h0
    subst this
    have e : (longs ([] : List (List Int)).length []) = [] := by simp [longs]
    obtain ⟨E, e1, -, e3⟩ := reduce_same hp (rows := []) (w := 0 + 0) (fun r h => (nomatch h)) (by omega) (by simp)
    have hE : E = [] := List.eq_nil_of_length_eq_zero (by have := red_len e3.red; omega)
    subst hE
    rw [e, e1, Option.bind_some, if_pos (by simp), if_pos (by simp)]
    have := F122_2_eq (w := 0) (n := 0) e3.red (by omega)
    have h2 : forR 0 ((([] : List (List Int)).length : Nat) : Int) (F122_2_B 0 []) (F122_2_D 0 []) [] = some [] := this
    rw [h2]
    exact ⟨[], rfl, rfl, ⟨fun r h => (nomatch h), fun r h => (nomatch h), .nil⟩⟩
  · rw [if_neg h0, if_neg (by omega)]
    obtain ⟨E, e1, e2, e3⟩ := reduce_same hp (longs_ok hp1 hr) (by omega) (by rw [longs_len]; omega)
    have hpos : 0 < rows.length := by omega
    have hx0 := (hr _ (List.getElem_mem hpos)).len
    have ht := tails_red e3.red
    rw [show (0 : Int) = ((0 : Nat) : Int) from rfl, getI_nat hpos, Option.bind_some, show ((0 : Nat) : Int) = (0 : Int) from rfl, e1, Option.bind_some, F122_2_eq e3.red (by omega), Option.bind_some, F125_1_eq hr hx0 hw hn, Option.bind_some, e2, Option.bind_some, F125_2_eq e3.red (by omega) hx0, Option.bind_some, F133_self hp ht (by omega) (by have := red_len ht; omega), Option.bind_some]
    exact ⟨_, rfl, rfl, ht⟩
theorem RowOK.vec {p w : Int} {row : List Int} (h : RowOK p w row) : VecOK p w.toNat row := by
  have h1 := h.1
  refine ⟨by omega, fun j hj => ?_⟩
  have hj' : j < row.length := by omega
  rw [nth_lt hj']
  have := h.2 _ (List.getElem_mem hj')
  omega
theorem ValidC.dim {x : GComplex} (h : ValidC x) {n : Nat} (hn : n < x.Dims.length) : 0 ≤ x.Dims.getD n 0 ∧ x.Dims.getD n 0 ≤ 8 := h.dims _ (getD_mem hn 0)
theorem F99_at {x : GComplex} (hs : x.Dims.length ≤ 1048576) {n : Nat} (hn : n < x.Dims.length) : F99 x (n : Int) = some (x.Dims.getD n 0) := by
  unfold F99
  rw [chk_ok (by omega) (by omega), Option.bind_some, F54_eq, Option.bind_some, if_pos (by simp; omega), getI_getD hn 0, Option.bind_some]
theorem F102_at {x : GComplex} (hs : x.Dims.length ≤ 1048576) {n : Nat} (hn : n < x.Dims.length) : F102 x (n : Int) = some (x.Dims.getD n 0) := by
  unfold F102
  rw [F86_eq hs, Option.bind_some, F56_eq, Option.bind_some, if_pos (by simp; omega), getI_getD hn 0, Option.bind_some]
theorem F124_eq {n : Nat} (hn : n ≤ 1000) : F124 (n : Int) = some (units n) := by
  unfold F124
  have hl := units_len n
  obtain ⟨t, g1, g2⟩ := forR_inv (B := F124_1_B (n : Int)) (D := F124_1_D (n : Int)) n rfl (by omega) (fun i s => s = (units n).take i) (fun t => t = units n) (s := []) (by simp) (by
    rintro i s hi rfl
    left
    refine ⟨(units n).take (i + 1), ?_, rfl⟩
    have hzl : (zv n).length = n := by simp [zv]
    unfold F124_1_B F132
    rw [mkL_ok n rfl (by omega) (by omega), Option.bind_some]
    change (((getI (zv n) (i : Int)).bind _).bind _ = _)
    rw [getI_nat (by omega), Option.bind_some]
    change (((setI (zv n) (i : Int) 1).bind _).bind _ = _)
    rw [setI_nat (by omega), Option.bind_some, Option.bind_some, app_ok (by simp; omega) (by simp; omega), Option.bind_some]
    congr 2
    rw [← List.take_append_getElem (show i < (units n).length by omega)]
    congr 2
    simp [units, unitv]) (by
    rintro s rfl
    exact ⟨_, rfl, by rw [List.take_of_length_le (by omega)]⟩)
  rw [g1, Option.bind_some, g2]
theorem kernel_none {p : Int} (hp : IsP p) {n : Nat} (hn : n ≤ 1000) : F122 p (n : Int) (List.replicate n []) = some (units n) := by
  have hp1 : 1 < p := by have := hp.range; omega
  have hr : Rows p 0 (List.replicate n ([] : List Int)) := fun r hr => by
    obtain ⟨_, rfl⟩ := List.mem_replicate.1 hr
    exact ⟨rfl, fun j hj => absurd hj (Nat.not_lt_zero _)⟩
  have hl : (List.replicate n ([] : List Int)).length = n := by simp
  have e0 := F122_1_eq hr (by omega) (by omega)
  rw [hl] at e0
  have hlong : longs n (List.replicate n ([] : List Int)) = units n := by
    unfold longs units
    refine List.map_congr_left fun i hi => ?_
    have : i < n := List.mem_range.1 hi
    simp [rowAt, this]
  have hu := units_red hp1 n
  obtain ⟨E, e1, -, e3⟩ := reduce_same hp hu.ok (by omega) (by rw [units_len]; omega)
  have hE := e3.same hp1 (EchOf.self hu)
  subst hE
  have ht : tails 0 (units n) = units n := by
    unfold tails
    rw [List.filter_eq_self.2 (fun r _ => by simp)]
    conv => rhs; rw [← List.map_id (units n)]
    exact List.map_congr_left fun r _ => rfl
  have h2 := F122_2_eq (w := 0) (n := n) (by rw [Nat.zero_add]; exact hu) (by omega)
  rw [ht] at h2
  have h2' : forR 0 ((units n).length : Int) (F122_2_B 0 (units n)) (F122_2_D 0 (units n)) [] = some (units n) := h2
  unfold F122
  rw [e0, Option.bind_some]
  have hz : (if n = 0 then (0 : Int) else ((0 : Nat) : Int)) = 0 := by split <;> rfl
  simp only
  rw [hz, hlong, e1, Option.bind_some, h2', Option.bind_some]
theorem F76_0 {x : GComplex} (hs : x.Dims.length ≤ 1048576) (hl : 0 < x.Dims.length) {n : Nat} (hn : x.Dims.getD 0 0 = n) (hn8 : n ≤ 1000) : F76 x 0 = some (List.replicate n []) := by
  unfold F76
  rw [chk_ok (by omega) (by omega), Option.bind_some, F54_eq, Option.bind_some, if_neg (by simp)]
  have h99 : F99 x 0 = some (n : Int) := by have := F99_at hs hl; rw [hn] at this; exact this
  obtain ⟨t, g1, g2⟩ := loopW_inv (S := F76_1_S x 0) (fun s => (n - s.2).toNat) (fun s => 0 ≤ s.2 ∧ s.2 ≤ n ∧ s.1 = List.replicate s.2.toNat []) (fun t => t = List.replicate n []) (s := ([], 0)) ⟨Int.le_refl _, by omega, rfl⟩ (by
    rintro ⟨l, j⟩ ⟨p1, p2, p3⟩
    simp only at p1 p2 p3
    subst p3
    unfold F76_1_S
    simp only
    rw [h99, Option.bind_some]
    by_cases hj : j < (n : Int)
    · left
      rw [if_pos hj, app_ok (by simp; omega) (by simp; omega), Option.bind_some, chk_ok (by omega) (by omega), Option.bind_some]
      refine ⟨_, rfl, ⟨by simp only; omega, by simp only; omega, ?_⟩, by simp only; omega⟩
      simp only
      rw [show (j + 1).toNat = j.toNat + 1 from by omega, List.replicate_succ']
    · right
      rw [if_neg hj]
      have : j.toNat = n := by omega
      rw [this]
      exact ⟨_, rfl, rfl⟩)
  rw [g1, Option.bind_some, g2]
theorem cycles_same {x : GComplex} (hx : SmallC x) (h : ValidC x) {n : Nat} (hn : n < x.Dims.length) : ∃ K, F98 x (n : Int) = some K ∧ F100 x (n : Int) = some K ∧ Red x.Prime (x.Dims.getD n 0).toNat K := by
  have hp1 : 1 < x.Prime := by have := h.p.range; omega
  have hd := h.dim hn
  have hml := h.ml
  have hxd := hx.d
  unfold F98 F100
  rw [F99_at hx.d hn, Option.bind_some]
  rcases Nat.eq_zero_or_pos n with h0 | h0
  · subst h0
    have hdn : x.Dims.getD 0 0 = ((x.Dims.getD 0 0).toNat : Int) := by omega
    rw [if_pos (by omega), show ((0 : Nat) : Int) = 0 from rfl, F76_0 hx.d hn hdn (by omega), Option.bind_some, hdn, Int.toNat_natCast, kernel_none h.p (by omega), Option.bind_some]
    have h102 := F102_at hx.d hn
    rw [hdn] at h102
    rw [show (0 : Int) = ((0 : Nat) : Int) from rfl, h102, Option.bind_some, F124_eq (by omega), Option.bind_some]
    exact ⟨_, rfl, rfl, units_red hp1 _⟩
  · obtain ⟨k, rfl⟩ : ∃ k, n = k + 1 := ⟨n - 1, by omega⟩
    have hk : k < x.Maps.length := by omega
    have ht := h.tab k hk
    have hdk := h.dim (show k < x.Dims.length by omega)
    have e1 : getI x.Maps (k : Int) = some (x.Maps.getD k []) := getI_getD hk []
    have hr : Rows x.Prime (x.Dims.getD k 0).toNat (x.Maps.getD k []) := fun r hr => (ht.2 r hr).vec
    have h76 : F76 x ((k + 1 : Nat) : Int) = some (x.Maps.getD k []) := by
      unfold F76
      rw [chk_ok (by omega) (by omega), Option.bind_some, F54_eq, Option.bind_some, if_pos (by simp; omega), chk_ok (by omega) (by omega), Option.bind_some, show ((k + 1 : Nat) : Int) - 1 = (k : Int) by omega, e1, Option.bind_some]
    have hlen := ht.1
    obtain ⟨K, k1, k2, k3⟩ := kernel_same h.p hr (by omega) (by omega)
    rw [h76, Option.bind_some, ← hlen, k1, Option.bind_some, if_neg (by omega), F86_eq hx.d, Option.bind_some, if_neg (by omega), chk_ok (by omega) (by omega), Option.bind_some, show ((k + 1 : Nat) : Int) - 1 = (k : Int) by omega, e1, Option.bind_some, k2, Option.bind_some, Int.toNat_natCast]
    exact ⟨_, rfl, rfl, k3⟩
theorem Tells.and_then {o k : Option Bool} {P Q : Prop} (T : Tells o P) (hk : P → Tells k Q) : Tells (o.bind fun b => if b = true then k else some false) (P ∧ Q) := by
  rcases T.case with ⟨e, q⟩ | ⟨e, q⟩
  · rw [e, Option.bind_some, if_pos rfl]
    exact (hk q).iff ⟨fun h => ⟨q, h⟩, fun h => h.2⟩
  · rw [e, Option.bind_some, if_neg Bool.false_ne_true]
    exact .of_false rfl fun h => q h.1
def LTells (o : Option (Unit ⊕ (Unit ⊕ Bool))) (P : Prop) : Prop := ∃ b : Bool, o = some (if b = true then .inl () else .inr (.inr false)) ∧ (b = true ↔ P)
theorem LTells.iff {o : Option (Unit ⊕ (Unit ⊕ Bool))} {P Q : Prop} (h : LTells o P) (e : P ↔ Q) : LTells o Q := by
  obtain ⟨b, h1, h2⟩ := h; exact ⟨b, h1, h2.trans e⟩
theorem LTells.yes : LTells (some (.inl ())) True := ⟨true, rfl, by simp⟩
theorem Tells.then_L {o : Option Bool} {k : Option (Unit ⊕ (Unit ⊕ Bool))} {P Q : Prop} (T : Tells o P) (hk : P → LTells k Q) : LTells (o.bind fun b => if b = true then k else some (.inr (.inr false))) (P ∧ Q) := by
  rcases T.case with ⟨e, q⟩ | ⟨e, q⟩
  · rw [e, Option.bind_some, if_pos rfl]
    exact (hk q).iff ⟨fun h => ⟨q, h⟩, fun h => h.2⟩
  · rw [e, Option.bind_some, if_neg Bool.false_ne_true]
    exact ⟨false, rfl, by simp only [Bool.false_eq_true, false_iff]; exact fun h => q h.1⟩
theorem LTells.ite {a b : Int} {k : Option (Unit ⊕ (Unit ⊕ Bool))} {Q : Prop} (hk : a = b → LTells k Q) : LTells (if a = b then k else some (.inr (.inr false))) (a = b ∧ Q) := by
  by_cases c : a = b
  · rw [if_pos c]; exact (hk c).iff ⟨fun h => ⟨c, h⟩, fun h => h.2⟩
  · rw [if_neg c]; exact ⟨false, rfl, by simp [c]⟩
def WTells (o : Option (Int ⊕ (Unit ⊕ Bool))) (i : Int) (P : Prop) : Prop := ∃ b : Bool, o = some (if b = true then .inl (i + 1) else .inr (.inr false)) ∧ (b = true ↔ P)
theorem WTells.iff {o : Option (Int ⊕ (Unit ⊕ Bool))} {i : Int} {P Q : Prop} (h : WTells o i P) (e : P ↔ Q) : WTells o i Q := by
  obtain ⟨b, h1, h2⟩ := h; exact ⟨b, h1, h2.trans e⟩
theorem WTells.yes {i : Int} : WTells (some (.inl (i + 1))) i True := ⟨true, rfl, by simp⟩
theorem Tells.then_W {o : Option Bool} {k : Option (Int ⊕ (Unit ⊕ Bool))} {i : Int} {P Q : Prop} (T : Tells o P) (hk : P → WTells k i Q) : WTells (o.bind fun b => if b = true then k else some (.inr (.inr false))) i (P ∧ Q) := by
  rcases T.case with ⟨e, q⟩ | ⟨e, q⟩
  · rw [e, Option.bind_some, if_pos rfl]
    exact (hk q).iff ⟨fun h => ⟨q, h⟩, fun h => h.2⟩
  · rw [e, Option.bind_some, if_neg Bool.false_ne_true]
    exact ⟨false, rfl, by simp only [Bool.false_eq_true, false_iff]; exact fun h => q h.1⟩
theorem all_for {n : Nat} {B : Int → Unit → Option (Unit ⊕ (Unit ⊕ Bool))} {D : Int → Unit → Option (Unit ⊕ Bool)} (P : Nat → Prop) (hn : n ≤ 1000000) (hB : ∀ i : Nat, i < n → LTells (B i ()) (P i)) (hD : ∀ i, D i () = some (.inl ())) :
    ∃ b : Bool, forR 0 (n : Int) B D () = some (if b = true then .inl () else .inr false) ∧ (b = true ↔ ∀ i, i < n → P i) := by
  obtain ⟨t, h1, b, h2, h3⟩ := forR_inv (B := B) (D := D) n rfl (by omega) (fun i _ => ∀ k, k < i → P k) (fun t => ∃ b : Bool, t = (if b = true then .inl () else .inr false) ∧ (b = true ↔ ∀ i, i < n → P i)) (s := ()) (fun k hk => by omega) (by
    rintro i _ hi hI
    obtain ⟨b, e, q⟩ := hB i hi
    cases b with
    | true =>
      left
      refine ⟨(), e, fun k hk => ?_⟩
      by_cases c : k = i
      · subst c; exact q.1 rfl
      · exact hI k (by omega)
    | false =>
      right
      refine ⟨.inr false, e, false, rfl, ?_⟩
      simp only [Bool.false_eq_true, false_iff]
      intro h
      have := q.2 (h i hi)
      cases this) (by
    rintro _ hI
    exact ⟨.inl (), hD _, true, rfl, by simp only [true_iff]; exact hI⟩)
  subst h2
  exact ⟨b, h1, h3⟩
theorem all_W {n : Nat} {S : Int → Option (Int ⊕ (Unit ⊕ Bool))} (P : Nat → Prop) (hS : ∀ i : Nat, i < n → WTells (S i) i (P i)) (hE : S n = some (.inr (.inl ()))) :
    ∃ b : Bool, loopW S 0 = some (if b = true then .inl () else .inr false) ∧ (b = true ↔ ∀ i, i < n → P i) := by
  obtain ⟨t, h1, b, h2, h3⟩ := loopW_inv (S := S) (fun j => (n - j).toNat) (fun j => ∃ i : Nat, j = i ∧ i ≤ n ∧ ∀ k, k < i → P k) (fun t => ∃ b : Bool, t = (if b = true then .inl () else .inr false) ∧ (b = true ↔ ∀ i, i < n → P i)) (s := 0) ⟨0, rfl, Nat.zero_le _, fun k hk => by omega⟩ (by
    rintro _ ⟨i, rfl, hi, hI⟩
    by_cases hlt : i < n
    · obtain ⟨b, e, q⟩ := hS i hlt
      cases b with
      | true =>
        left
        refine ⟨(i : Int) + 1, e, ⟨i + 1, by simp, hlt, fun k hk => ?_⟩, by omega⟩
        by_cases c : k = i
        · subst c; exact q.1 rfl
        · exact hI k (by omega)
      | false =>
        right
        refine ⟨.inr false, e, false, rfl, ?_⟩
        simp only [Bool.false_eq_true, false_iff]
        intro h
        have := q.2 (h i hlt)
        cases this
    · right
      have : i = n := by omega
      subst this
      exact ⟨.inl (), hE, true, rfl, by simp only [true_iff]; exact hI⟩)
  subst h2
  exact ⟨b, h1, h3⟩
theorem F285_tells {l : List Int} (hl : l.length ≤ 1000) : Tells (F285 l) (∀ x ∈ l, x = 0) := by
  unfold F285
  obtain ⟨b, h1, h2⟩ := all_for (B := F285_1_B l) (D := F285_1_D l) (fun i => nth l i = 0) (show l.length ≤ 1000000 by omega) (fun i hi => by
    unfold F285_1_B
    rw [nth_get hi, Option.bind_some]
    exact (LTells.ite fun _ => .yes).iff (by simp)) fun i => rfl
  rw [h1, Option.bind_some]
  have e : (∀ i, i < l.length → nth l i = 0) ↔ ∀ x ∈ l, x = 0 := ⟨fun h x hx => by
    obtain ⟨i, hi, rfl⟩ := List.getElem_of_mem hx
    have := h i hi
    rwa [nth_lt hi] at this, fun h i hi => by rw [nth_lt hi]; exact h _ (List.getElem_mem hi)⟩
  cases b with
  | true => exact .of_true rfl (e.1 (h2.1 rfl))
  | false => exact .of_false rfl fun h => by have := h2.2 (e.2 h); cases this
theorem same_iff {a b : List Int} (h : a.length = b.length) : (∀ i, i < a.length → nth a i = nth b i) ↔ a = b := ⟨fun q => nth_ext h q, fun q i _ => by rw [q]⟩
theorem F287_tells {a b : List Int} (ha : a.length ≤ 1000) : Tells (F287 a b) (a = b) := by
  unfold F287
  by_cases c : (a.length : Int) = b.length
  case neg => rw [if_neg c]; exact .of_false rfl fun h => c (by rw [h])
  rw [if_pos c]
  obtain ⟨b', h1, h2⟩ := all_for (B := F287_1_B a b) (D := F287_1_D a b) (fun i => nth a i = nth b i) (show a.length ≤ 1000000 by omega) (fun i hi => by
    unfold F287_1_B
    rw [nth_get hi, Option.bind_some, nth_get (show i < b.length by omega), Option.bind_some]
    exact (LTells.ite fun _ => .yes).iff (by simp)) fun i => rfl
  rw [h1, Option.bind_some]
  have e := same_iff (a := a) (b := b) (by omega)
  cases b' with
  | true => exact .of_true rfl (e.1 (h2.1 rfl))
  | false => exact .of_false rfl fun h => by have := h2.2 (e.2 h); cases this
theorem F165_tells {a b : List Int} (ha : a.length ≤ 1000) : Tells (F165 a b) (a = b) := F287_tells ha
theorem F272_eq {n i : Nat} (hi : i < n) (hn : n ≤ 1000) : F272 (n : Int) (i : Int) = some (unitv n i) := by
  unfold F272
  rw [mkL_ok n rfl (by omega) (by omega), Option.bind_some]
  change ((getI (zv n) (i : Int)).bind _) = _
  rw [getI_nat (by simpa [zv] using hi), Option.bind_some]
  change ((setI (zv n) (i : Int) 1).bind _) = _
  rw [setI_nat (by simpa [zv] using hi), Option.bind_some]
  rfl
def SumP (p : Int) (w : Nat) (v u s t : List Int) : Prop := ∀ j, j < w → Cg p (nth v j - nth u j - nth s j - nth t j) 0
theorem cg_zero {p x : Int} (hp : 0 < p) : Cg p x 0 ↔ x % p = 0 := by
  constructor
  · rintro ⟨m, e⟩
    have : x = p * m := by omega
    rw [this]; exact Int.mul_emod_right p m
  · intro h
    exact ⟨x / p, by have := Int.emod_add_mul_ediv x p; omega⟩
theorem F312_tells {p : Int} {w : Nat} (hp : IsP p) (hw : w ≤ 1000) {v u s t : List Int} (hv : VecOK p w v) (hu : VecOK p w u) (hs : VecOK p w s) (ht : VecOK p w t) : Tells (F312 p v u s t) (SumP p w v u s t) := by
  have hr := hp.range
  have hvl := hv.len
  unfold F312
  obtain ⟨b', h1, h2⟩ := all_for (B := F312_1_B p v u s t) (D := F312_1_D p v u s t) (fun j => Cg p (nth v j - nth u j - nth s j - nth t j) 0) (show v.length ≤ 1000000 by omega) (fun j hj => by
    have hjw : j < w := by omega
    have a1 := hv.rng j hjw
    have a2 := hu.rng j hjw
    have a3 := hs.rng j hjw
    have a4 := ht.rng j hjw
    unfold F312_1_B
    rw [nth_get hj, Option.bind_some, nth_get (by rw [hu.len]; exact hjw), Option.bind_some, chk_ok (by omega) (by omega), Option.bind_some, nth_get (by rw [hs.len]; exact hjw), Option.bind_some, chk_ok (by omega) (by omega), Option.bind_some, nth_get (by rw [ht.len]; exact hjw), Option.bind_some, chk_ok (by omega) (by omega), Option.bind_some, F127_eq hr, Option.bind_some]
    exact (LTells.ite fun _ => .yes).iff (by rw [cg_zero (by omega)]; simp)) fun i => rfl
  rw [h1, Option.bind_some]
  have e : (∀ i, i < v.length → Cg p (nth v i - nth u i - nth s i - nth t i) 0) ↔ SumP p w v u s t := by unfold SumP; rw [hvl]
  cases b' with
  | true => exact .of_true rfl (e.1 (h2.1 rfl))
  | false => exact .of_false rfl fun h => by have := h2.2 (e.2 h); cases this
theorem F173_eq {p k : Int} {w : Nat} (hp : 2 ≤ p ∧ p ≤ 7) (hk : 0 ≤ k ∧ k < p) {r o : List Int} (hr : VecOK p w r) (ho : VecOK p w o) (hw : w ≤ 1000) : F173 p r o k = some (subv p r o (-k)) := by
  have hl := hr.len
  have hol := ho.len
  unfold F173
  rw [F96_eq (by omega), Option.bind_some, show (o.length : Int) = (r.length : Int) by omega, idx_loop (l := r) (B := F173_1_B p o k) (D := F173_1_D p o k) (fun i x => (x - -k * nth o i) % p) (by omega) (fun i hi s hs hk' => ?_) (fun i s => rfl), Option.bind_some]
  · congr 1
    have hsl : (subv p r o (-k)).length = w := by simp [subv, hl, hol]
    apply List.ext_getElem (by simp [hl, hsl])
    intro i h1 h2
    have hi : i < w := by omega
    have := nth_sub (p := p) (k := -k) hl hol hi
    rw [nth_lt h2, nth_lt (show i < r.length by omega)] at this
    rw [this]; simp
  · have h1 : s[i]? = r[i]? := by rw [hk' i, if_neg (Nat.lt_irrefl _)]
    have h2 : s[i]'(by omega) = r[i] := by
      have := h1
      rw [List.getElem?_eq_getElem (by omega), List.getElem?_eq_getElem hi] at this
      exact Option.some.inj this
    have a1 := hr.rng i (by omega)
    rw [nth_lt hi] at a1
    have a2 := ho.rng i (by omega)
    have hm : 0 ≤ k * nth o i ∧ k * nth o i ≤ 49 := by
      refine ⟨Int.mul_nonneg hk.1 a2.1, ?_⟩
      have := Int.mul_le_mul (show k ≤ 7 by omega) (show nth o i ≤ 7 by omega) a2.1 (by decide)
      omega
    unfold F173_1_B
    rw [nth_get (by omega), Option.bind_some, getI_nat (show i < s.length by omega), Option.bind_some, h2, chk_ok (by omega) (by omega), Option.bind_some, chk_ok (by omega) (by omega), Option.bind_some, remI_ok (by omega), Option.bind_some, setI_nat (by omega), Option.bind_some, tmod_pos (by omega), show r[i] - -k * nth o i = r[i] + k * nth o i by rw [Int.neg_mul]; omega]
theorem F76_eq {x : GComplex} (hs : x.Dims.length ≤ 1048576) {k : Nat} (h : k + 1 < x.Dims.length) (hm : k < x.Maps.length) : F76 x ((k + 1 : Nat) : Int) = some (x.Maps.getD k []) := by
  unfold F76
  have e : (((k + 1 : Nat) : Int) - 1) = (k : Int) := by omega
  rw [chk_ok (by omega) (by omega), Option.bind_some, F54_eq, Option.bind_some, if_pos (by simp; omega), chk_ok (by omega) (by omega), Option.bind_some, e, getI_getD hm [], Option.bind_some]
def dc (x : GComplex) (n : Nat) : Nat := (x.Dims.getD n 0).toNat
theorem dc_le {x : GComplex} (h : ValidC x) (n : Nat) : dc x n ≤ 8 := by
  unfold dc
  by_cases hn : n < x.Dims.length
  · have := h.dim hn; omega
  · rw [List.getD_eq_getElem?_getD, List.getElem?_eq_none (by omega)]; simp
theorem dc_at {x : GComplex} (h : ValidC x) {n : Nat} (hn : n < x.Dims.length) : x.Dims.getD n 0 = (dc x n : Int) := by
  have := h.dim hn
  unfold dc; omega
theorem F99_dc {x : GComplex} (hx : SmallC x) (h : ValidC x) {n : Nat} (hn : n ≤ x.Dims.length) : F99 x (n : Int) = some (dc x n : Int) := by
  have hd := hx.d
  by_cases c : n < x.Dims.length
  · rw [F99_at hx.d c, dc_at h c]
  · have e : n = x.Dims.length := by omega
    subst e
    have : dc x x.Dims.length = 0 := by unfold dc; rw [List.getD_eq_getElem?_getD, List.getElem?_eq_none (by omega)]; rfl
    unfold F99
    rw [chk_ok (by omega) (by omega), Option.bind_some, F54_eq, Option.bind_some, if_neg (by simp; omega), this]
    rfl
theorem F102_dc {x : GComplex} (hx : SmallC x) (h : ValidC x) {n : Nat} (hn : n ≤ x.Dims.length) : F102 x (n : Int) = some (dc x n : Int) := by
  have hd := hx.d
  by_cases c : n < x.Dims.length
  · rw [F102_at hx.d c, dc_at h c]
  · have e : n = x.Dims.length := by omega
    subst e
    have : dc x x.Dims.length = 0 := by unfold dc; rw [List.getD_eq_getElem?_getD, List.getElem?_eq_none (by omega)]; rfl
    unfold F102
    rw [F86_eq hx.d, Option.bind_some, F56_eq, Option.bind_some, if_neg (by simp; omega), this]
    rfl
theorem bounds_same {x : GComplex} (hx : SmallC x) (h : ValidC x) {n : Nat} (hn : n < x.Dims.length) : ∃ B, F251 x (n : Int) = some B ∧ F186 x (n : Int) = some B ∧ Red x.Prime (dc x n) B := by
  have hd := hx.d
  have hml := h.ml
  have hdl := h.dl
  unfold F251 F186
  rw [chk_ok (by omega) (by omega), Option.bind_some, if_neg (by omega), F86_eq hx.d, Option.bind_some]
  by_cases c : n + 1 < x.Dims.length
  · have ht := h.tab n (by omega)
    have hr : Rows x.Prime (dc x n) (x.Maps.getD n []) := fun r hr => (ht.2 r hr).vec
    have hl := ht.1
    have hd1 := h.dim c
    have := dc_le h n
    obtain ⟨B, b1, b2, b3⟩ := reduce_same h.p hr (by omega) (by omega)
    rw [show (n : Int) + 1 = ((n + 1 : Nat) : Int) by omega, F76_eq hx.d c (by omega), Option.bind_some, b1, Option.bind_some, if_neg (by omega), getI_getD (show n < x.Maps.length by omega) [], Option.bind_some, b2, Option.bind_some]
    exact ⟨B, rfl, rfl, b3.red⟩
  · obtain ⟨N, n1, -, n3⟩ := reduce_same (p := x.Prime) (w := dc x n) h.p (rows := []) (fun r hr => (nomatch hr)) (by have := dc_le h n; omega) (by simp)
    have hN : N = [] := by have := n3.same (by have := h.p.range; omega) (EchOf.nil x.Prime (dc x n)); exact this
    subst hN
    have e : F76 x ((n : Int) + 1) = some [] := by
      unfold F76
      rw [chk_ok (by omega) (by omega), Option.bind_some, F54_eq, Option.bind_some, if_neg (by simp; omega)]
      have h99 := F99_dc hx h (n := n + 1) (by omega)
      have h0 : dc x (n + 1) = 0 := by unfold dc; rw [List.getD_eq_getElem?_getD, List.getElem?_eq_none (by omega)]; rfl
      rw [h0] at h99
      obtain ⟨t, g1, g2⟩ := loopW_inv (S := F76_1_S x ((n : Int) + 1)) (fun s => 0) (fun s => s = ([], 0)) (fun t => t = []) (s := ([], 0)) rfl (by
        rintro s rfl
        right
        unfold F76_1_S
        simp only
        rw [show (n : Int) + 1 = ((n + 1 : Nat) : Int) by omega, h99, Option.bind_some, if_neg (by simp)]
        exact ⟨_, rfl, rfl⟩)
      rw [g1, Option.bind_some, g2]
    rw [e, Option.bind_some, n1, Option.bind_some, if_pos (by omega)]
    exact ⟨[], rfl, rfl, n3.red⟩
noncomputable def hm (x : GComplex) (n : Nat) : Int := (F283 x (n : Int)).getD 0
theorem hm_eq {x : GComplex} (hx : SmallC x) (h : ValidC x) {n : Nat} (hn : n < x.Dims.length) : F283 x (n : Int) = some (hm x n) ∧ F168 x (n : Int) = some (hm x n) ∧ hm x n ≤ 8 := by
  obtain ⟨K, k1, k2, k3⟩ := cycles_same hx h hn
  obtain ⟨B, b1, b2, b3⟩ := bounds_same hx h hn
  have hK := red_len k3
  have hB := red_len b3
  have hd := dc_le h n
  have hdd : dc x n = (x.Dims.getD n 0).toNat := rfl
  have e1 : F283 x (n : Int) = some ((K.length : Int) - (B.length : Int)) := by
    unfold F283
    rw [k1, Option.bind_some, b1, Option.bind_some, chk_ok (by omega) (by omega), Option.bind_some]
  have e2 : F168 x (n : Int) = some ((K.length : Int) - (B.length : Int)) := by
    unfold F168
    rw [k2, Option.bind_some, b2, Option.bind_some, chk_ok (by omega) (by omega), Option.bind_some]
  have e3 : hm x n = (K.length : Int) - (B.length : Int) := by unfold hm; rw [e1]; rfl
  rw [e1, e2, e3]
  exact ⟨rfl, rfl, by omega⟩
structure TabN (p : Int) (c w : Nat) (m : List (List Int)) : Prop where
  len : m.length = c
  rows : Rows p w m
theorem TabN.of {p : Int} {c w : Nat} {m : List (List Int)} (T : TableOK p (c : Int) (w : Int) m) : TabN p c w m := ⟨by have := T.1; omega, fun r hr => (T.2 r hr).vec⟩
theorem linT {p : Int} (hp : IsP p) {c w : Nat} {m : List (List Int)} (T : TabN p c w m) (hc : c ≤ 1000) (hw : w ≤ 1000) {v : List Int} (hv : VecOK p c v) : F80 p m v (w : Int) = some (lin p w v m) ∧ F119 p (w : Int) v m = some (lin p w v m) ∧ VecOK p w (lin p w v m) := by
  have hvl := hv.len
  have hml := T.len
  have H : LinOK p w v m := ⟨hp.range, fun y hy => by
    obtain ⟨k, hk, rfl⟩ := List.getElem_of_mem hy
    have := hv.rng k (by omega)
    rwa [nth_lt hk] at this, by omega, fun l hl => ⟨(T.rows l hl).len, fun y hy => by
    have hl' := T.rows l hl
    have hll := hl'.len
    obtain ⟨k, hk, rfl⟩ := List.getElem_of_mem hy
    have := hl'.rng k (by omega)
    rwa [nth_lt hk] at this⟩, by omega, by omega⟩
  refine ⟨F80_eq H rfl, F119_eq H rfl, ?_⟩
  have hok := linN_ok H v.length (Nat.le_refl _)
  refine ⟨hok.1, fun j hj => ?_⟩
  have hj' : j < (lin p w v m).length := by rw [lin_len H]; exact hj
  rw [nth_lt hj']
  exact hok.2 _ (List.getElem_mem hj')
structure SmallK (c : GContraction) : Prop where
  d : c.Down.length ≤ 1048576 ∧ ∀ m ∈ c.Down, m.length ≤ 1048576 ∧ ∀ r ∈ m, r.length ≤ 1048576
  u : c.Up.length ≤ 1048576 ∧ ∀ m ∈ c.Up, m.length ≤ 1048576 ∧ ∀ r ∈ m, r.length ≤ 1048576
  b : c.Back.length ≤ 1048576 ∧ ∀ m ∈ c.Back, m.length ≤ 1048576 ∧ ∀ r ∈ m, r.length ≤ 1048576
def TabsAt (x : GComplex) (c : GContraction) (n : Nat) : Prop := TableOK x.Prime (dc x n) (hm x n) (c.Down.getD n []) ∧ TableOK x.Prime (hm x n) (dc x n) (c.Up.getD n []) ∧ TableOK x.Prime (dc x n) (dc x (n + 1)) (c.Back.getD n [])
structure ShapeK (x : GComplex) (c : GContraction) : Prop where
  d : c.Down.length = x.Dims.length
  u : c.Up.length = x.Dims.length
  b : c.Back.length = x.Dims.length
  t : ∀ n, n < x.Dims.length → TabsAt x c n
theorem small_at {l : List (List (List Int))} (h : l.length ≤ 1048576 ∧ ∀ m ∈ l, m.length ≤ 1048576 ∧ ∀ r ∈ m, r.length ≤ 1048576) {n : Nat} (hn : n < l.length) : (l.getD n []).length ≤ 1099511627776 ∧ ∀ r ∈ l.getD n [], r.length ≤ 1099511627776 := by
  have h1 := h.2 _ (getD_mem hn [])
  exact ⟨by omega, fun r hr => by have := h1.2 r hr; omega⟩
theorem F282_tells {x : GComplex} {c : GContraction} (hx : SmallC x) (hk : SmallK c) (h : ValidC x) : Tells (F282 x c) (ShapeK x c) := by
  have hd := hx.d
  have hdl := h.dl
  unfold F282
  by_cases c1 : (c.Down.length : Int) = x.Dims.length
  case neg => rw [if_neg c1]; exact .of_false rfl fun k => c1 (by have := k.d; omega)
  rw [if_pos c1]
  by_cases c2 : (c.Up.length : Int) = x.Dims.length
  case neg => rw [if_neg c2]; exact .of_false rfl fun k => c2 (by have := k.u; omega)
  rw [if_pos c2]
  by_cases c3 : (c.Back.length : Int) = x.Dims.length
  case neg => rw [if_neg c3]; exact .of_false rfl fun k => c3 (by have := k.b; omega)
  rw [if_pos c3]
  obtain ⟨b, h1, h2⟩ := all_for (B := F282_1_B x c) (D := F282_1_D x c) (TabsAt x c) (show x.Dims.length ≤ 1000000 by omega) (fun n hn => by
    obtain ⟨e1, e2, e3⟩ := hm_eq hx h hn
    have s1 := small_at hk.d (n := n) (by omega)
    have s2 := small_at hk.u (n := n) (by omega)
    have s3 := small_at hk.b (n := n) (by omega)
    unfold F282_1_B
    rw [e1, Option.bind_some, getI_getD (show n < c.Down.length by omega) [], Option.bind_some, getI_getD hn 0, Option.bind_some, dc_at h hn, F93_eq]
    refine LTells.iff ((F79_tells h.p.range s1.1 s1.2).then_L fun _ => ?_) (Q := TabsAt x c n) (P := TableOK x.Prime (dc x n) (hm x n) (c.Down.getD n []) ∧ TableOK x.Prime (hm x n) (dc x n) (c.Up.getD n []) ∧ TableOK x.Prime (dc x n) (dc x (n + 1)) (c.Back.getD n []) ∧ True) (by unfold TabsAt; simp)
    rw [getI_getD (show n < c.Up.length by omega) [], Option.bind_some, F93_eq]
    refine (F79_tells h.p.range s2.1 s2.2).then_L fun _ => ?_
    rw [getI_getD (show n < c.Back.length by omega) [], Option.bind_some, show (n : Int) + 1 = ((n + 1 : Nat) : Int) by omega, F99_dc hx h (n := n + 1) (by omega), Option.bind_some, F93_eq]
    exact (F79_tells h.p.range s3.1 s3.2).then_L fun _ => .yes) fun i => rfl
  rw [h1, Option.bind_some]
  cases b with
  | true => exact .of_true rfl ⟨by omega, by omega, by omega, h2.1 rfl⟩
  | false => exact .of_false rfl fun k => by have := h2.2 k.t; cases this
theorem F206_tells {x : GComplex} {c : GContraction} (hx : SmallC x) (hk : SmallK c) (h : ValidC x) : Tells (F206 c x) (ShapeK x c) := by
  have hd := hx.d
  have hdl := h.dl
  unfold F206
  by_cases c1 : (c.Down.length : Int) = x.Dims.length
  case neg => rw [if_neg c1]; exact .of_false rfl fun k => c1 (by have := k.d; omega)
  rw [if_pos c1]
  by_cases c2 : (c.Up.length : Int) = x.Dims.length
  case neg => rw [if_neg c2]; exact .of_false rfl fun k => c2 (by have := k.u; omega)
  rw [if_pos c2]
  by_cases c3 : (c.Back.length : Int) = x.Dims.length
  case neg => rw [if_neg c3]; exact .of_false rfl fun k => c3 (by have := k.b; omega)
  rw [if_pos c3]
  obtain ⟨b, h1, h2⟩ := all_for (B := F206_1_B c x) (D := F206_1_D c x) (TabsAt x c) (show x.Dims.length ≤ 1000000 by omega) (fun n hn => by
    obtain ⟨e1, e2, e3⟩ := hm_eq hx h hn
    have s1 := small_at hk.d (n := n) (by omega)
    have s2 := small_at hk.u (n := n) (by omega)
    have s3 := small_at hk.b (n := n) (by omega)
    unfold F206_1_B
    rw [getI_getD hn 0, Option.bind_some, dc_at h hn, e2, Option.bind_some, getI_getD (show n < c.Down.length by omega) [], Option.bind_some]
    refine LTells.iff (LTells.ite fun q1 => ?_) (Q := TabsAt x c n) (P := ((c.Down.getD n []).length : Int) = dc x n ∧ ((c.Up.getD n []).length : Int) = hm x n ∧ ((c.Back.getD n []).length : Int) = dc x n ∧ (∀ r ∈ c.Down.getD n [], RowOK x.Prime (hm x n) r) ∧ (∀ r ∈ c.Up.getD n [], RowOK x.Prime (dc x n) r) ∧ (∀ r ∈ c.Back.getD n [], RowOK x.Prime (dc x (n + 1)) r) ∧ True) ?_
    · rw [getI_getD (show n < c.Up.length by omega) [], Option.bind_some]
      refine LTells.ite fun q2 => ?_
      rw [getI_getD (show n < c.Back.length by omega) [], Option.bind_some]
      refine LTells.ite fun q3 => ?_
      refine (F90_tells h.p.range s1.1 s1.2).then_L fun _ => ?_
      refine (F90_tells h.p.range s2.1 s2.2).then_L fun _ => ?_
      rw [show (n : Int) + 1 = ((n + 1 : Nat) : Int) by omega, F102_dc hx h (n := n + 1) (by omega), Option.bind_some]
      exact (F90_tells h.p.range s3.1 s3.2).then_L fun _ => .yes
    · unfold TabsAt TableOK
      constructor
      · rintro ⟨a1, a2, a3, a4, a5, a6, -⟩; exact ⟨⟨a1, a4⟩, ⟨a2, a5⟩, ⟨a3, a6⟩⟩
      · rintro ⟨⟨a1, a4⟩, ⟨a2, a5⟩, ⟨a3, a6⟩⟩; exact ⟨a1, a2, a3, a4, a5, a6, trivial⟩) fun i => rfl
  rw [h1, Option.bind_some]
  cases b with
  | true => exact .of_true rfl ⟨by omega, by omega, by omega, h2.1 rfl⟩
  | false => exact .of_false rfl fun k => by have := h2.2 k.t; cases this
def hN (c : GContraction) (n : Nat) : Nat := (c.Up.getD n []).length
def upF (x : GComplex) (c : GContraction) (n : Nat) (u : List Int) : List Int := lin x.Prime (dc x n) u (c.Up.getD n [])
def dnF (x : GComplex) (c : GContraction) (n : Nat) (v : List Int) : List Int := lin x.Prime (hN c n) v (c.Down.getD n [])
def bkF (x : GComplex) (c : GContraction) (n : Nat) (v : List Int) : List Int := lin x.Prime (dc x (n + 1)) v (c.Back.getD n [])
def dfF (x : GComplex) (n : Nat) (v : List Int) : List Int := if n = 0 then [] else lin x.Prime (dc x (n - 1)) v (x.Maps.getD (n - 1) [])
structure KOK (x : GComplex) (c : GContraction) : Prop where
  sx : SmallC x
  vx : ValidC x
  sk : ShapeK x c
theorem KOK.tabs {x : GComplex} {c : GContraction} (K : KOK x c) {n : Nat} (hn : n < x.Dims.length) : hm x n = (hN c n : Int) ∧ hN c n ≤ 8 ∧ TabN x.Prime (dc x n) (hN c n) (c.Down.getD n []) ∧ TabN x.Prime (hN c n) (dc x n) (c.Up.getD n []) ∧ TabN x.Prime (dc x n) (dc x (n + 1)) (c.Back.getD n []) := by
  obtain ⟨t1, t2, t3⟩ := K.sk.t n hn
  have e : hm x n = (hN c n : Int) := by have := t2.1; unfold hN; omega
  have hl := (hm_eq K.sx K.vx hn).2.2
  rw [e] at t1 t2
  exact ⟨e, by omega, .of t1, .of t2, .of t3⟩
theorem up_eq {x : GComplex} {c : GContraction} (K : KOK x c) {n : Nat} (hn : n < x.Dims.length) {u : List Int} (hu : VecOK x.Prime (hN c n) u) : F284 x c (n : Int) u = some (upF x c n u) ∧ F207 c x (n : Int) u = some (upF x c n u) ∧ VecOK x.Prime (dc x n) (upF x c n u) := by
  obtain ⟨e, hh, t1, t2, t3⟩ := K.tabs hn
  have hd := dc_le K.vx n
  have hku := K.sk.u
  obtain ⟨a1, a2, a3⟩ := linT K.vx.p t2 (by omega) (by omega) hu
  unfold F284 F207
  rw [getI_getD (show n < c.Up.length by omega) [], Option.bind_some, F99_dc K.sx K.vx (by omega), Option.bind_some, a1, Option.bind_some, F102_dc K.sx K.vx (by omega), Option.bind_some, Option.bind_some, a2, Option.bind_some]
  exact ⟨rfl, rfl, a3⟩
theorem dn_eq {x : GComplex} {c : GContraction} (K : KOK x c) {n : Nat} (hn : n < x.Dims.length) {v : List Int} (hv : VecOK x.Prime (dc x n) v) : F286 x c (n : Int) v = some (dnF x c n v) ∧ F175 c x (n : Int) v = some (dnF x c n v) ∧ VecOK x.Prime (hN c n) (dnF x c n v) := by
  obtain ⟨e, hh, t1, t2, t3⟩ := K.tabs hn
  have hd := dc_le K.vx n
  have hku := K.sk.u
  have hkd := K.sk.d
  obtain ⟨a1, a2, a3⟩ := linT K.vx.p t1 (by omega) (by omega) hv
  unfold F286 F175
  rw [getI_getD (show n < c.Down.length by omega) [], Option.bind_some, (hm_eq K.sx K.vx hn).1, Option.bind_some, e, a1, Option.bind_some, F86_eq K.sx.d, Option.bind_some, F56_eq, Option.bind_some, if_pos (by simp; omega), getI_getD (show n < c.Up.length by omega) [], Option.bind_some, Option.bind_some]
  refine ⟨rfl, ?_, a3⟩
  change ((F119 x.Prime (hN c n : Int) v (c.Down.getD n [])).bind _) = _
  rw [a2, Option.bind_some]
  rfl
theorem bk_eq {x : GComplex} {c : GContraction} (K : KOK x c) {n : Nat} (hn : n < x.Dims.length) {v : List Int} (hv : VecOK x.Prime (dc x n) v) : F288 x c (n : Int) v = some (bkF x c n v) ∧ F194 c x (n : Int) v = some (bkF x c n v) ∧ VecOK x.Prime (dc x (n + 1)) (bkF x c n v) := by
  obtain ⟨e, hh, t1, t2, t3⟩ := K.tabs hn
  have hd := dc_le K.vx n
  have hd1 := dc_le K.vx (n + 1)
  have hkb := K.sk.b
  have hxd := K.sx.d
  obtain ⟨a1, a2, a3⟩ := linT K.vx.p t3 (by omega) (by omega) hv
  unfold F288 F194
  rw [getI_getD (show n < c.Back.length by omega) [], Option.bind_some, chk_ok (by omega) (by omega), Option.bind_some, show (n : Int) + 1 = ((n + 1 : Nat) : Int) by omega, F99_dc K.sx K.vx (n := n + 1) (by omega), Option.bind_some, a1, Option.bind_some, F86_eq K.sx.d, Option.bind_some, F56_eq, Option.bind_some, if_pos (by simp; omega), Option.bind_some, F102_dc K.sx K.vx (n := n + 1) (by omega), Option.bind_some, Option.bind_some, a2, Option.bind_some]
  exact ⟨rfl, rfl, a3⟩
theorem df_eq {x : GComplex} (hx : SmallC x) (h : ValidC x) {n : Nat} (hn : n < x.Dims.length) {v : List Int} (hv : VecOK x.Prime (dc x n) v) : F273 x (n : Int) v = some (dfF x n v) ∧ F91 x (n : Int) v = some (dfF x n v) ∧ (n ≠ 0 → VecOK x.Prime (dc x (n - 1)) (dfF x n v)) ∧ (dfF x n v).length ≤ 8 := by
  have hxd := hx.d
  unfold F273 F91 dfF
  by_cases c : n = 0
  · subst c
    rw [if_pos (by simp), if_pos (by simp), if_pos (by simp)]
    exact ⟨rfl, rfl, fun q => absurd rfl q, by simp⟩
  · obtain ⟨m, rfl⟩ : ∃ m, n = m + 1 := ⟨n - 1, by omega⟩
    have hm : m < x.Maps.length := by have := h.ml; omega
    have T : TabN x.Prime (dc x (m + 1)) (dc x m) (x.Maps.getD m []) := .of (by have := h.tab m hm; unfold TabAt at this; rwa [dc_at h hn, dc_at h (show m < x.Dims.length by omega)] at this)
    have hd := dc_le h m
    have hd1 := dc_le h (m + 1)
    obtain ⟨a1, a2, a3⟩ := linT h.p T (by omega) (by omega) hv
    have e : ((m + 1 : Nat) : Int) - 1 = (m : Int) := by omega
    rw [if_neg (by omega), if_neg (by omega), if_neg (by omega), F76_eq hx.d (by omega) hm, Option.bind_some, chk_ok (by omega) (by omega), Option.bind_some, e, F99_dc hx h (by omega), Option.bind_some, a1, Option.bind_some, F86_eq hx.d, Option.bind_some, if_neg (by omega), Option.bind_some, getI_getD (show m < x.Dims.length by omega) 0, Option.bind_some, getI_getD hm [], Option.bind_some, dc_at h (show m < x.Dims.length by omega), a2, Option.bind_some, Nat.add_sub_cancel]
    exact ⟨rfl, rfl, fun _ => a3, by rw [a3.len]; omega⟩
def Zr (l : List Int) : Prop := ∀ y ∈ l, y = 0
def CUP (x : GComplex) (c : GContraction) (n i : Nat) : Prop := Zr (dfF x n (upF x c n (unitv (hN c n) i))) ∧ dnF x c n (upF x c n (unitv (hN c n) i)) = unitv (hN c n) i ∧ Zr (bkF x c n (upF x c n (unitv (hN c n) i)))
def first (x : GComplex) (c : GContraction) (n : Nat) (v : List Int) : List Int := if n + 1 < x.Dims.length then dfF x (n + 1) (bkF x c n v) else zv (dc x n)
def second (x : GComplex) (c : GContraction) (n : Nat) (v : List Int) : List Int := if n = 0 then zv (dc x n) else bkF x c (n - 1) (dfF x n v)
def CVP (x : GComplex) (c : GContraction) (n : Nat) (v : List Int) : Prop := (n + 1 < x.Dims.length → Zr (dnF x c (n + 1) (bkF x c n v)) ∧ Zr (bkF x c (n + 1) (bkF x c n v))) ∧ (n ≠ 0 → Zr (dnF x c (n - 1) (dfF x n v))) ∧ SumP x.Prime (dc x n) v (upF x c n (dnF x c n v)) (first x c n v) (second x c n v)
theorem F289_tells {x : GComplex} {c : GContraction} (K : KOK x c) {n : Nat} (hn : n < x.Dims.length) {v : List Int} (hv : VecOK x.Prime (dc x n) v) : Tells (F289 x c (n : Int) v) (CVP x c n v) := by
  have hp := K.vx.p
  have hp0 : 0 < x.Prime := by have := hp.range; omega
  have hxd := K.sx.d
  have hd := dc_le K.vx n
  obtain ⟨e, hh, -⟩ := K.tabs hn
  obtain ⟨d1, d2, d3⟩ := dn_eq K hn hv
  obtain ⟨b1, b2, b3⟩ := bk_eq K hn hv
  obtain ⟨f1, f2, f3, f4⟩ := df_eq K.sx K.vx hn hv
  obtain ⟨u1, u2, u3⟩ := up_eq K hn d3
  have hvl := hv.len
  have hz : zv (dc x n) = List.replicate v.length 0 := by rw [hvl]; rfl
  have zok := zv_ok hp0 (dc x n)
  unfold F289
  rw [d1, Option.bind_some, b1, Option.bind_some, f1, Option.bind_some, mkL_ok v.length rfl (by omega) (by omega), Option.bind_some, Option.bind_some, ← hz, chk_ok (by omega) (by omega), Option.bind_some]
  by_cases c1 : n + 1 < x.Dims.length
  · have h1 : first x c n v = dfF x (n + 1) (bkF x c n v) := if_pos c1
    obtain ⟨g1, g2, g3, g4⟩ := df_eq K.sx K.vx c1 b3
    have g3' := g3 (by omega)
    rw [Nat.add_sub_cancel] at g3'
    obtain ⟨i1, i2, i3⟩ := dn_eq K c1 b3
    obtain ⟨j1, j2, j3⟩ := bk_eq K c1 b3
    obtain ⟨-, hh1, -⟩ := K.tabs c1
    have hd2 := dc_le K.vx (n + 1 + 1)
    have en : (n : Int) + 1 = ((n + 1 : Nat) : Int) := by omega
    rw [if_pos (by omega), en, g1, Option.bind_some, i1, Option.bind_some]
    by_cases c0 : n = 0
    · have h2 : second x c n v = zv (dc x n) := if_pos c0
      refine Tells.iff (P := Zr (dnF x c (n + 1) (bkF x c n v)) ∧ Zr (bkF x c (n + 1) (bkF x c n v)) ∧ SumP x.Prime (dc x n) v (upF x c n (dnF x c n v)) (first x c n v) (second x c n v)) ((F285_tells (by rw [i3.len]; omega)).and_then fun _ => ?_) ⟨fun ⟨a, b, d⟩ => ⟨fun _ => ⟨a, b⟩, fun q => absurd c0 q, d⟩, fun ⟨a, b, d⟩ => ⟨(a c1).1, (a c1).2, d⟩⟩
      rw [j1, Option.bind_some]
      refine (F285_tells (by rw [j3.len]; omega)).and_then fun _ => ?_
      rw [if_neg (by omega), u1, Option.bind_some, h1, h2]
      have T := F312_tells hp (by omega) hv u3 g3' zok
      obtain ⟨b, t1, t2⟩ := T
      rw [t1, Option.bind_some]
      exact ⟨b, rfl, t2⟩
    · have h2 : second x c n v = bkF x c (n - 1) (dfF x n v) := if_neg c0
      have f3' := f3 c0
      obtain ⟨k1, k2, k3⟩ := bk_eq K (n := n - 1) (by omega) f3'
      obtain ⟨l1, l2, l3⟩ := dn_eq K (n := n - 1) (by omega) f3'
      obtain ⟨-, hh0, -⟩ := K.tabs (n := n - 1) (by omega)
      rw [show n - 1 + 1 = n by omega] at k3
      have em : (n : Int) - 1 = ((n - 1 : Nat) : Int) := by omega
      refine Tells.iff (P := Zr (dnF x c (n + 1) (bkF x c n v)) ∧ Zr (bkF x c (n + 1) (bkF x c n v)) ∧ Zr (dnF x c (n - 1) (dfF x n v)) ∧ SumP x.Prime (dc x n) v (upF x c n (dnF x c n v)) (first x c n v) (second x c n v)) ((F285_tells (by rw [i3.len]; omega)).and_then fun _ => ?_) ⟨fun ⟨a, b, z, d⟩ => ⟨fun _ => ⟨a, b⟩, fun _ => z, d⟩, fun ⟨a, b, d⟩ => ⟨(a c1).1, (a c1).2, b c0, d⟩⟩
      rw [j1, Option.bind_some]
      refine (F285_tells (by rw [j3.len]; omega)).and_then fun _ => ?_
      rw [if_pos (by omega), chk_ok (by omega) (by omega), Option.bind_some, em, k1, Option.bind_some, l1, Option.bind_some]
      refine (F285_tells (by rw [l3.len]; omega)).and_then fun _ => ?_
      rw [u1, Option.bind_some, h1, h2]
      obtain ⟨b, t1, t2⟩ := F312_tells hp (by omega) hv u3 g3' k3
      rw [t1, Option.bind_some]
      exact ⟨b, rfl, t2⟩
  · have h1 : first x c n v = zv (dc x n) := if_neg c1
    rw [if_neg (by omega)]
    by_cases c0 : n = 0
    · have h2 : second x c n v = zv (dc x n) := if_pos c0
      refine Tells.iff (P := SumP x.Prime (dc x n) v (upF x c n (dnF x c n v)) (first x c n v) (second x c n v)) ?_ ⟨fun d => ⟨fun q => absurd q c1, fun q => absurd c0 q, d⟩, fun ⟨a, b, d⟩ => d⟩
      rw [if_neg (by omega), u1, Option.bind_some, h1, h2]
      obtain ⟨b, t1, t2⟩ := F312_tells hp (by omega) hv u3 zok zok
      rw [t1, Option.bind_some]
      exact ⟨b, rfl, t2⟩
    · have h2 : second x c n v = bkF x c (n - 1) (dfF x n v) := if_neg c0
      have f3' := f3 c0
      obtain ⟨k1, k2, k3⟩ := bk_eq K (n := n - 1) (by omega) f3'
      obtain ⟨l1, l2, l3⟩ := dn_eq K (n := n - 1) (by omega) f3'
      obtain ⟨-, hh0, -⟩ := K.tabs (n := n - 1) (by omega)
      rw [show n - 1 + 1 = n by omega] at k3
      have em : (n : Int) - 1 = ((n - 1 : Nat) : Int) := by omega
      refine Tells.iff (P := Zr (dnF x c (n - 1) (dfF x n v)) ∧ SumP x.Prime (dc x n) v (upF x c n (dnF x c n v)) (first x c n v) (second x c n v)) ?_ ⟨fun ⟨z, d⟩ => ⟨fun q => absurd q c1, fun _ => z, d⟩, fun ⟨a, b, d⟩ => ⟨b c0, d⟩⟩
      rw [if_pos (by omega), chk_ok (by omega) (by omega), Option.bind_some, em, k1, Option.bind_some, l1, Option.bind_some]
      refine (F285_tells (by rw [l3.len]; omega)).and_then fun _ => ?_
      rw [u1, Option.bind_some, h1, h2]
      obtain ⟨b, t1, t2⟩ := F312_tells hp (by omega) hv u3 zok k3
      rw [t1, Option.bind_some]
      exact ⟨b, rfl, t2⟩
theorem eq_sum {p : Int} (hp : IsP p) {w : Nat} {v u s t B : List Int} (hv : VecOK p w v) (hu : VecOK p w u) (hB : VecOK p w B) (h : ∀ j, j < w → Cg p (nth B j) (nth s j + nth t j)) : subv p v u (-(p - 1)) = B ↔ SumP p w v u s t := by
  have hp0 : 0 < p := by have := hp.range; omega
  have hl := sub_ok hp0 hv.len hu.len (k := -(p - 1))
  have hj : ∀ j, j < w → Cg p (nth (subv p v u (-(p - 1))) j) (nth v j - nth u j) := fun j hj => (sub_cg hv.len hu.len hj).trans ⟨nth u j, by grind⟩
  constructor
  · intro e j hjw
    have h1 := hj j hjw
    rw [e] at h1
    have h2 := h1.symm.trans (h j hjw)
    obtain ⟨m, hm⟩ := h2
    exact ⟨m, by omega⟩
  · intro hS
    refine hl.ext hB fun j hjw => ?_
    obtain ⟨m, hm⟩ := hS j hjw
    exact (hj j hjw).trans (Cg.trans ⟨m, by omega⟩ (h j hjw).symm)
theorem F192_2_tells {x : GComplex} {c : GContraction} (K : KOK x c) {n : Nat} (hn : n < x.Dims.length) {Z : List (List Int)} {i : Nat} (hi : i < Z.length) (hv : VecOK x.Prime (dc x n) Z[i]) : LTells (F192_2_B c x (n : Int) Z (i : Int) ()) (CVP x c n Z[i]) := by
  have hp := K.vx.p
  have hr := hp.range
  have hp0 : 0 < x.Prime := by omega
  have hxd := K.sx.d
  have hd := dc_le K.vx n
  obtain ⟨e, hh, -⟩ := K.tabs hn
  generalize hvz : Z[i] = v at hv
  obtain ⟨d1, d2, d3⟩ := dn_eq K hn hv
  obtain ⟨b1, b2, b3⟩ := bk_eq K hn hv
  obtain ⟨f1, f2, f3, f4⟩ := df_eq K.sx K.vx hn hv
  obtain ⟨u1, u2, u3⟩ := up_eq K hn d3
  have zok := zv_ok hp0 (dc x n)
  have hleft := sub_ok hp0 hv.len u3.len (k := -(x.Prime - 1))
  unfold F192_2_B
  rw [getI_nat hi, Option.bind_some, hvz, f2, Option.bind_some, b2, Option.bind_some, d2, Option.bind_some, u2, Option.bind_some, chk_ok (by omega) (by omega), Option.bind_some, F173_eq hr (by omega) hv u3 (by omega), Option.bind_some, F102_dc K.sx K.vx (by omega), Option.bind_some, mkL_ok (dc x n) rfl (by omega) (by omega), Option.bind_some]
  change LTells (if _ then _ else _) _
  rw [show (List.replicate (dc x n) (0 : Int)) = zv (dc x n) from rfl]
  by_cases c0 : n = 0
  · have h2 : second x c n v = zv (dc x n) := if_pos c0
    rw [if_neg (by omega), F86_eq K.sx.d, Option.bind_some]
    by_cases c1 : n + 1 < x.Dims.length
    · have h1 : first x c n v = dfF x (n + 1) (bkF x c n v) := if_pos c1
      obtain ⟨g1, g2, g3, g4⟩ := df_eq K.sx K.vx c1 b3
      have g3' := g3 (by omega)
      rw [Nat.add_sub_cancel] at g3'
      obtain ⟨i1, i2, i3⟩ := dn_eq K c1 b3
      obtain ⟨j1, j2, j3⟩ := bk_eq K c1 b3
      obtain ⟨-, hh1, -⟩ := K.tabs c1
      have hd2 := dc_le K.vx (n + 1 + 1)
      have en : (n : Int) + 1 = ((n + 1 : Nat) : Int) := by omega
      have hB := sub_ok hp0 zok.len g3'.len (k := -1)
      rw [if_pos (by omega), chk_ok (by omega) (by omega), Option.bind_some, en, g2, Option.bind_some, F173_eq hr (by omega) zok g3' (by omega), Option.bind_some, j2, Option.bind_some]
      refine LTells.iff (P := Zr (bkF x c (n + 1) (bkF x c n v)) ∧ Zr (dnF x c (n + 1) (bkF x c n v)) ∧ SumP x.Prime (dc x n) v (upF x c n (dnF x c n v)) (first x c n v) (second x c n v) ∧ True) ((F92_tells (by rw [j3.len]; omega)).then_L fun _ => ?_) ⟨fun ⟨a, b, d, _⟩ => ⟨fun _ => ⟨b, a⟩, fun q => absurd c0 q, d⟩, fun ⟨a, b, d⟩ => ⟨(a c1).2, (a c1).1, d, trivial⟩⟩
      rw [i2, Option.bind_some]
      refine (F92_tells (by rw [i3.len]; omega)).then_L fun _ => ?_
      exact ((F165_tells (by rw [hleft.len]; omega)).iff (eq_sum hp hv u3 hB fun j hj => by
        rw [h1, h2, nth_zv]
        exact (sub_cg zok.len g3'.len hj).trans (by rw [nth_zv]; exact ⟨0, by omega⟩))).then_L fun _ => .yes
    · have h1 : first x c n v = zv (dc x n) := if_neg c1
      rw [if_neg (by omega)]
      exact LTells.iff (P := SumP x.Prime (dc x n) v (upF x c n (dnF x c n v)) (first x c n v) (second x c n v) ∧ True) (((F165_tells (by rw [hleft.len]; omega)).iff (eq_sum hp hv u3 zok fun j hj => by
        rw [h1, h2, nth_zv]; exact ⟨0, by omega⟩)).then_L fun _ => .yes) ⟨fun ⟨d, _⟩ => ⟨fun q => absurd q c1, fun q => absurd c0 q, d⟩, fun ⟨a, b, d⟩ => ⟨d, trivial⟩⟩
  · have h2 : second x c n v = bkF x c (n - 1) (dfF x n v) := if_neg c0
    have f3' := f3 c0
    obtain ⟨k1, k2, k3⟩ := bk_eq K (n := n - 1) (by omega) f3'
    obtain ⟨l1, l2, l3⟩ := dn_eq K (n := n - 1) (by omega) f3'
    obtain ⟨-, hh0, -⟩ := K.tabs (n := n - 1) (by omega)
    rw [show n - 1 + 1 = n by omega] at k3
    have em : (n : Int) - 1 = ((n - 1 : Nat) : Int) := by omega
    have hB1 := sub_ok hp0 zok.len k3.len (k := -1)
    rw [if_pos (by omega), chk_ok (by omega) (by omega), Option.bind_some, em, k2, Option.bind_some, F173_eq hr (by omega) zok k3 (by omega), Option.bind_some, l2, Option.bind_some]
    by_cases c1 : n + 1 < x.Dims.length
    · have h1 : first x c n v = dfF x (n + 1) (bkF x c n v) := if_pos c1
      obtain ⟨g1, g2, g3, g4⟩ := df_eq K.sx K.vx c1 b3
      have g3' := g3 (by omega)
      rw [Nat.add_sub_cancel] at g3'
      obtain ⟨i1, i2, i3⟩ := dn_eq K c1 b3
      obtain ⟨j1, j2, j3⟩ := bk_eq K c1 b3
      obtain ⟨-, hh1, -⟩ := K.tabs c1
      have hd2 := dc_le K.vx (n + 1 + 1)
      have en : (n : Int) + 1 = ((n + 1 : Nat) : Int) := by omega
      have hB := sub_ok hp0 hB1.len g3'.len (k := -1)
      refine LTells.iff (P := Zr (dnF x c (n - 1) (dfF x n v)) ∧ Zr (bkF x c (n + 1) (bkF x c n v)) ∧ Zr (dnF x c (n + 1) (bkF x c n v)) ∧ SumP x.Prime (dc x n) v (upF x c n (dnF x c n v)) (first x c n v) (second x c n v) ∧ True) ((F92_tells (by rw [l3.len]; omega)).then_L fun _ => ?_) ⟨fun ⟨z, a, b, d, _⟩ => ⟨fun _ => ⟨b, a⟩, fun _ => z, d⟩, fun ⟨a, b, d⟩ => ⟨b c0, (a c1).2, (a c1).1, d, trivial⟩⟩
      rw [F86_eq K.sx.d, Option.bind_some, if_pos (by omega), chk_ok (by omega) (by omega), Option.bind_some, en, g2, Option.bind_some, F173_eq hr (by omega) hB1 g3' (by omega), Option.bind_some, j2, Option.bind_some]
      refine (F92_tells (by rw [j3.len]; omega)).then_L fun _ => ?_
      rw [i2, Option.bind_some]
      refine (F92_tells (by rw [i3.len]; omega)).then_L fun _ => ?_
      exact ((F165_tells (by rw [hleft.len]; omega)).iff (eq_sum hp hv u3 hB fun j hj => by
        rw [h1, h2]
        refine (sub_cg hB1.len g3'.len hj).trans (Cg.trans (.sub (sub_cg zok.len k3.len hj) (.refl _ _)) ?_)
        rw [nth_zv]; exact ⟨0, by omega⟩)).then_L fun _ => .yes
    · have h1 : first x c n v = zv (dc x n) := if_neg c1
      refine LTells.iff (P := Zr (dnF x c (n - 1) (dfF x n v)) ∧ SumP x.Prime (dc x n) v (upF x c n (dnF x c n v)) (first x c n v) (second x c n v) ∧ True) ((F92_tells (by rw [l3.len]; omega)).then_L fun _ => ?_) ⟨fun ⟨z, d, _⟩ => ⟨fun q => absurd q c1, fun _ => z, d⟩, fun ⟨a, b, d⟩ => ⟨b c0, d, trivial⟩⟩
      rw [F86_eq K.sx.d, Option.bind_some, if_neg (by omega)]
      exact ((F165_tells (by rw [hleft.len]; omega)).iff (eq_sum hp hv u3 hB1 fun j hj => by
        rw [h1, h2]
        refine (sub_cg zok.len k3.len hj).trans ?_
        rw [nth_zv]; exact ⟨0, by omega⟩)).then_L fun _ => .yes
theorem F192_3_tells {x : GComplex} {c : GContraction} (K : KOK x c) {n : Nat} (hn : n < x.Dims.length) {Z : List (List Int)} {i : Nat} (hi : i < Z.length) (hz : Z[i] = unitv (hN c n) i) (hii : i < hN c n) : LTells (F192_3_B c x (n : Int) Z (i : Int) ()) (CUP x c n i) := by
  have hp := K.vx.p
  have hp1 : 1 < x.Prime := by have := hp.range; omega
  have hd := dc_le K.vx n
  have hd1 := dc_le K.vx (n + 1)
  obtain ⟨e, hh, -⟩ := K.tabs hn
  have hu := unitv_ok hp1 hii
  obtain ⟨u1, u2, u3⟩ := up_eq K hn hu
  obtain ⟨d1, d2, d3⟩ := dn_eq K hn u3
  obtain ⟨b1, b2, b3⟩ := bk_eq K hn u3
  obtain ⟨f1, f2, f3, f4⟩ := df_eq K.sx K.vx hn u3
  unfold F192_3_B
  rw [getI_nat hi, Option.bind_some, hz, u2, Option.bind_some, f2, Option.bind_some]
  refine LTells.iff (Q := CUP x c n i) (P := Zr (dfF x n (upF x c n (unitv (hN c n) i))) ∧ dnF x c n (upF x c n (unitv (hN c n) i)) = unitv (hN c n) i ∧ Zr (bkF x c n (upF x c n (unitv (hN c n) i))) ∧ True) ((F92_tells (by omega)).then_L fun _ => ?_) ⟨fun ⟨a, b, d, _⟩ => ⟨a, b, d⟩, fun ⟨a, b, d⟩ => ⟨a, b, d, trivial⟩⟩
  rw [d2, Option.bind_some]
  refine (F165_tells (by rw [d3.len]; omega)).then_L fun _ => ?_
  rw [b2, Option.bind_some]
  exact (F92_tells (by rw [b3.len]; omega)).then_L fun _ => .yes
def CNP (x : GComplex) (c : GContraction) (n : Nat) : Prop := (∀ i, i < hN c n → CUP x c n i) ∧ ∀ i, i < dc x n → CVP x c n (unitv (dc x n) i)
theorem units_at {n i : Nat} (h : i < (units n).length) : (units n)[i] = unitv n i := by simp [units]
theorem F192_1_tells {x : GComplex} {c : GContraction} (K : KOK x c) {n : Nat} (hn : n < x.Dims.length) : LTells (F192_1_B c x (n : Int) ()) (CNP x c n) := by
  have hp1 : 1 < x.Prime := by have := K.vx.p.range; omega
  have hd := dc_le K.vx n
  have hku := K.sk.u
  obtain ⟨e, hh, -⟩ := K.tabs hn
  have hl1 := units_len (dc x n)
  have hl2 := units_len (hN c n)
  obtain ⟨b, h1, h2⟩ := all_for (n := (units (dc x n)).length) (B := F192_2_B c x (n : Int) (units (dc x n))) (D := F192_2_D c x (n : Int) (units (dc x n))) (fun i => CVP x c n (unitv (dc x n) i)) (by omega) (fun i hi => by
    have := F192_2_tells K hn hi (by rw [units_at hi]; exact unitv_ok hp1 (by omega))
    rwa [units_at hi] at this) fun i => rfl
  obtain ⟨b', k1, k2⟩ := all_for (n := (units (hN c n)).length) (B := F192_3_B c x (n : Int) (units (hN c n))) (D := F192_3_D c x (n : Int) (units (hN c n))) (fun i => CUP x c n i) (by omega) (fun i hi => F192_3_tells K hn hi (units_at hi) (by omega)) fun i => rfl
  rw [hl1] at h2
  rw [hl2] at k2
  unfold F192_1_B
  rw [F102_dc K.sx K.vx (by omega), Option.bind_some, F124_eq (by omega), Option.bind_some, h1, Option.bind_some]
  cases b with
  | false => exact ⟨false, rfl, by simp only [Bool.false_eq_true, false_iff]; exact fun h => by have := h2.2 h.2; cases this⟩
  | true =>
    rw [if_pos rfl]
    simp only
    rw [getI_getD (show n < c.Up.length by omega) [], Option.bind_some]
    change LTells ((F124 (hN c n : Int)).bind _) _
    rw [F124_eq (by omega), Option.bind_some, k1, Option.bind_some]
    cases b' with
    | false => exact ⟨false, rfl, by simp only [Bool.false_eq_true, false_iff]; exact fun h => by have := k2.2 h.1; cases this⟩
    | true => exact ⟨true, rfl, by simp only [true_iff]; exact ⟨k2.1 rfl, h2.1 rfl⟩⟩
theorem F249_1_tells {x : GComplex} {c : GContraction} (K : KOK x c) {n : Nat} (hn : n < x.Dims.length) : LTells (F249_1_B x c (n : Int) ()) (CNP x c n) := by
  have hp1 : 1 < x.Prime := by have := K.vx.p.range; omega
  have hd := dc_le K.vx n
  have hd1 := dc_le K.vx (n + 1)
  obtain ⟨e, hh, -⟩ := K.tabs hn
  have hmq := (hm_eq K.sx K.vx hn).1
  obtain ⟨b, h1, h2⟩ := all_W (n := hN c n) (S := F249_2_S x c (n : Int)) (fun i => CUP x c n i) (fun i hi => by
    have hu := unitv_ok hp1 hi
    obtain ⟨u1, u2, u3⟩ := up_eq K hn hu
    obtain ⟨d1, d2, d3⟩ := dn_eq K hn u3
    obtain ⟨b1, b2, b3⟩ := bk_eq K hn u3
    obtain ⟨f1, f2, f3, f4⟩ := df_eq K.sx K.vx hn u3
    unfold F249_2_S
    rw [hmq, Option.bind_some, e, if_pos (by omega), F272_eq hi (by omega), Option.bind_some, u1, Option.bind_some, f1, Option.bind_some]
    refine WTells.iff (Q := CUP x c n i) (P := Zr (dfF x n (upF x c n (unitv (hN c n) i))) ∧ dnF x c n (upF x c n (unitv (hN c n) i)) = unitv (hN c n) i ∧ Zr (bkF x c n (upF x c n (unitv (hN c n) i))) ∧ True) ((F285_tells (by omega)).then_W fun _ => ?_) ⟨fun ⟨a, b, d, _⟩ => ⟨a, b, d⟩, fun ⟨a, b, d⟩ => ⟨a, b, d, trivial⟩⟩
    rw [d1, Option.bind_some]
    refine (F287_tells (by rw [d3.len]; omega)).then_W fun _ => ?_
    rw [b1, Option.bind_some]
    refine (F285_tells (by rw [b3.len]; omega)).then_W fun _ => ?_
    rw [chk_ok (by omega) (by omega), Option.bind_some]
    exact .yes) (by
    unfold F249_2_S
    rw [hmq, Option.bind_some, e, if_neg (by omega)])
  obtain ⟨b', k1, k2⟩ := all_W (n := dc x n) (S := F249_3_S x c (n : Int)) (fun i => CVP x c n (unitv (dc x n) i)) (fun i hi => by
    have hv := unitv_ok hp1 hi
    unfold F249_3_S
    rw [getI_getD hn 0, Option.bind_some, dc_at K.vx hn, if_pos (by omega), F272_eq hi (by omega), Option.bind_some]
    refine WTells.iff (P := CVP x c n (unitv (dc x n) i) ∧ True) ((F289_tells K hn hv).then_W fun _ => ?_) (by simp)
    rw [chk_ok (by omega) (by omega), Option.bind_some]
    exact .yes) (by
    unfold F249_3_S
    rw [getI_getD hn 0, Option.bind_some, dc_at K.vx hn, if_neg (by omega)])
  unfold F249_1_B
  rw [h1, Option.bind_some]
  cases b with
  | false => exact ⟨false, rfl, by simp only [Bool.false_eq_true, false_iff]; exact fun h => by have := h2.2 h.1; cases this⟩
  | true =>
    rw [if_pos rfl]
    simp only
    rw [k1, Option.bind_some]
    cases b' with
    | false => exact ⟨false, rfl, by simp only [Bool.false_eq_true, false_iff]; exact fun h => by have := k2.2 h.2; cases this⟩
    | true => exact ⟨true, rfl, by simp only [true_iff]; exact ⟨h2.1 rfl, k2.1 rfl⟩⟩
theorem F192_tells {x : GComplex} {c : GContraction} (hx : SmallC x) (hk : SmallK c) (h : ValidC x) : Tells (F192 c x) (ShapeK x c ∧ ∀ n, n < x.Dims.length → CNP x c n) := by
  have hdl := h.dl
  unfold F192
  refine (F206_tells hx hk h).and_then fun s => ?_
  obtain ⟨b, h1, h2⟩ := all_for (B := F192_1_B c x) (D := F192_1_D c x) (fun n => CNP x c n) (show x.Dims.length ≤ 1000000 by omega) (fun n hn => F192_1_tells ⟨hx, h, s⟩ hn) fun i => rfl
  rw [h1, Option.bind_some]
  cases b with
  | true => exact .of_true rfl (h2.1 rfl)
  | false => exact .of_false rfl fun k => by have := h2.2 k; cases this
theorem F249_tells {x : GComplex} {c : GContraction} (hx : SmallC x) (hk : SmallK c) (h : ValidC x) : Tells (F249 x c) (ShapeK x c ∧ ∀ n, n < x.Dims.length → CNP x c n) := by
  have hdl := h.dl
  unfold F249
  refine (F282_tells hx hk h).and_then fun s => ?_
  obtain ⟨b, h1, h2⟩ := all_for (B := F249_1_B x c) (D := F249_1_D x c) (fun n => CNP x c n) (show x.Dims.length ≤ 1000000 by omega) (fun n hn => F249_1_tells ⟨hx, h, s⟩ hn) fun i => rfl
  rw [h1, Option.bind_some]
  cases b with
  | true => exact .of_true rfl (h2.1 rfl)
  | false => exact .of_false rfl fun k => by have := h2.2 k; cases this
structure LongK (c : GContraction) : Prop where
  d : LongL (LongL (LongL Long0)) c.Down
  u : LongL (LongL (LongL Long0)) c.Up
  b : LongL (LongL (LongL Long0)) c.Back
theorem F224_eq {c : GContraction} (hc : LongK c) {s : Int} (h0 : 0 ≤ s) (h1 : s ≤ 1048576) : ∃ z, F224 c s = some z ∧ (z < 0 ∨ (0 ≤ z ∧ z ≤ 1048576 ∧ SmallK c)) := by
  unfold F224
  obtain ⟨z, k1, k2⟩ := F11_eq hc.d h0 h1
  rw [k1, Option.bind_some]
  rcases k2 with k2 | ⟨k2, k3, k4⟩
  · rw [if_pos k2]; exact ⟨_, rfl, .inl (by decide)⟩
  rw [if_neg (by omega)]
  obtain ⟨y, l1, l2⟩ := F11_eq hc.u k2 k3
  rw [l1, Option.bind_some]
  rcases l2 with l2 | ⟨l2, l3, l4⟩
  · rw [if_pos l2]; exact ⟨_, rfl, .inl (by decide)⟩
  rw [if_neg (by omega)]
  obtain ⟨w, m1, m2⟩ := F11_eq hc.b l2 l3
  rw [m1, Option.bind_some]
  rcases m2 with m2 | ⟨m2, m3, m4⟩
  · rw [if_pos m2]; exact ⟨_, rfl, .inl (by decide)⟩
  rw [if_neg (by omega)]
  exact ⟨w, rfl, .inr ⟨m2, m3, k4, l4, m4⟩⟩
theorem law11 {x : GComplex} {c : GContraction} (hx : LongC x) (hc : LongK c) : F317 x c = some true := by
  unfold F317
  obtain ⟨z, a1, a2⟩ := F10_eq hx (s := 1048576) (by decide) (by decide)
  rw [a1, Option.bind_some]
  rcases a2 with a2 | ⟨a2, a3, hx'⟩
  · rw [if_pos a2]
  rw [if_neg (by omega)]
  obtain ⟨y, b1, b2⟩ := F224_eq hc a2 a3
  rw [b1, Option.bind_some]
  rcases b2 with b2 | ⟨b2, b3, hk⟩
  · rw [if_pos b2]
  have e1 : F225 c = some c := by
    unfold F225
    rw [F13_eq hk.d.1 hk.d.2, Option.bind_some, F13_eq hk.u.1 hk.u.2, Option.bind_some, F13_eq hk.b.1 hk.b.2, Option.bind_some]
  have e2 : F228 c c = some true := by
    unfold F228
    rw [F17_same hk.d.1 hk.d.2, Option.bind_some, if_pos rfl, F17_same hk.u.1 hk.u.2, Option.bind_some, if_pos rfl, F17_same hk.b.1 hk.b.2, Option.bind_some, if_pos rfl]
  have key : ∃ t, F226 x c = some t ∧ F227 x c = some t := by
    obtain ⟨b, d1, d2, d3⟩ := (F39_tells hx').same (F42_tells hx')
    unfold F226 F227
    rw [d1, d2, Option.bind_some, Option.bind_some]
    cases b with
    | false => rw [if_neg Bool.false_ne_true, if_neg Bool.false_ne_true]; exact ⟨_, rfl, rfl⟩
    | true =>
      have hv := d3.1 rfl
      obtain ⟨b', g1, g2, g3⟩ := (F249_tells hx' hk hv).same (F192_tells hx' hk hv)
      rw [if_pos rfl, if_pos rfl, g1, g2, Option.bind_some]
      exact ⟨_, rfl, rfl⟩
  obtain ⟨t, t1, t2⟩ := key
  rw [if_neg (by omega), F12_eq hx', Option.bind_some, e1, Option.bind_some, t1, Option.bind_some, t2, Option.bind_some, if_pos (by simp), if_pos rfl, F16_same hx', Option.bind_some, if_pos rfl, e2, Option.bind_some, if_pos rfl]
end Rv
