/- What the abstract code answers: typed functions, part 3. -/
import Derived.Test.YtnioomfbbmjpaaaGreatRds1
namespace Rv
set_option linter.unusedVariables false
set_option linter.unusedSimpArgs false
set_option maxRecDepth 100000
noncomputable section
def F193_1_B (x : GComplex) (i : Int) (s : List (List (List Int))) : Option (List (List (List Int)) ⊕ List (List (List Int))) := (getI x.Dims i).bind fun d => (F124 d).bind fun u => (app 24 s [u]).bind fun r => some (.inl r)
def F193_1_D (i : Int) (s : List (List (List Int))) : Option (List (List (List Int))) := some s
def F193_4_B (c : GContraction) (x y : GComplex) (n : Int) (i : Int) (l : List (List Int)) : Option (List (List Int) ⊕ List (List Int)) := (getI l i).bind fun v => (F174 c x y n v).bind fun w => (setI l i w).bind fun l' => some (.inl l')
def F193_4_D (i : Int) (l : List (List Int)) : Option (List (List Int)) := some l
def F193_3_B (c : GContraction) (x y : GComplex) (n : Int) (s : List (List (List Int))) : Option (List (List (List Int)) ⊕ List (List (List Int))) := (getI s n).bind fun l => (forR 0 (l.length : Int) (F193_4_B c x y n) F193_4_D l).bind fun l' => (setI s n l').bind fun s' => some (.inl s')
def F193_3_D (n : Int) (s : List (List (List Int))) : Option (List (List (List Int))) := some s
def F193_2_B (c : GContraction) (x y : GComplex) (k : Int) (s : List (List (List Int))) : Option (List (List (List Int)) ⊕ (Unit ⊕ T2 Int Bool)) := (F208 s fun l => F209 l).bind fun b => if b = true then (forR 0 (s.length : Int) (F193_3_B c x y) F193_3_D s).bind fun s' => some (.inl s') else some (.inr (.inr ⟨k, true⟩))
def F193_2_D (k : Int) (s : List (List (List Int))) : Option (Unit ⊕ T2 Int Bool) := some (.inl ())
def F193 (a0 : GContraction) (a1 a2 : GComplex) : Option (T2 Int Bool) := (forR 0 (a1.Dims.length : Int) (F193_1_B a1) F193_1_D []).bind fun s => (forR 0 10 (F193_2_B a0 a1 a2) F193_2_D s).bind fun t => match t with
 | .inl _ => some ⟨0, false⟩
 | .inr r => some r
theorem swap193 {α : Type} [Enc α] [Deep α] [One α] {h : Heap} {v : V} {l : List α} {K : Ks} {i : Nat} {a : α} (r : Deep.rep h v l K) (hi : l[i]? = some a) : ∃ key uid vs x, ∃ K1 K2 : Ks, v = .sl key uid 0 l.length 1 ∧ h.ents[key]? = some (uid, some vs) ∧ vs[i]? = some x ∧ vs.length = l.length ∧ Deep.rep h x a K1 ∧ (∀ k, K1 k → ¬ K2 k ∧ k ≠ key) ∧ ¬ K2 key ∧ (∀ k, K k ↔ k = key ∨ K1 k ∨ K2 k) ∧
  ∀ (h' : Heap) (x' : V) (a' : α) (K1' : Ks), Deep.rep h' x' a' K1' → h'.ents[key]? = some (uid, some (vs.set i x')) → (∀ k, K2 k → h'.ents[k]? = h.ents[k]?) → (∀ k, K1' k → ¬ K2 k ∧ k ≠ key) → Deep.rep h' v (l.set i a') (fun k => k = key ∨ K1' k ∨ K2 k) := by
 obtain ⟨hlt, rfl⟩ := List.getElem?_eq_some_iff.1 hi
 rcases r with ⟨rfl, rfl, _⟩ | ⟨key, uid, vs, K', rfl, h2, h3, h4, h5⟩
 ·exact absurd hlt (by simp)
 ·obtain ⟨x, K1, K2, f1, f2, f3, f4, f5⟩ := h3.focus hlt
  refine ⟨key, uid, vs, x, K1, K2, rfl, h2, f1, h3.len, f2, fun k q => ⟨f3 k q, fun e => h4 ((f4 key).2 (.inl (e ▸ q)))⟩, fun q => h4 ((f4 key).2 (.inr q)), fun k => (h5 k).trans (or_congr_right (f4 k)), fun h' x' a' K1' q1 q2 q3 q4 => ?_⟩
  have e : (V.sl key uid 0 l.length 1) = .sl key uid 0 (l.set i a').length 1 := by rw [List.length_set]
  rw [e]
  exact .inr ⟨key, uid, _, fun k => K1' k ∨ K2 k, rfl, q2, f5 h' x' a' K1' _ q1 q3 (fun k q => (q4 k q).1) (fun k => Iff.rfl), fun q => q.elim (fun q => (q4 key q).2 rfl) (fun q => h4 ((f4 key).2 (.inr q))), fun k => Iff.rfl⟩
theorem l193_4 (a0 : GContraction) (a1 a2 : GComplex) {n : Int} {l l' : List (List Int)} (hF : forR 0 (l.length : Int) (F193_4_B a0 a1 a2 n) F193_4_D l = some l') {Z : Ks} {h0 : Heap} {e : Env} {v8 x1 z10 z11 z37 z38 z39 : V} {K1 : Ks} (hr : Deep.rep h0 x1 l K1) (hz : ∀ k, K1 k → ¬ Z k) (hzb : ∀ k, Z k → k < h0.ents.length)
  (hl : e.length = 63) (h3 : e.at 3 = V.iptr [V.isl (a0.Down.map Enc.enc), V.isl (a0.Up.map Enc.enc), V.isl (a0.Back.map Enc.enc)]) (h4 : e.at 4 = V.iptr [V.int .i64 a1.Prime, V.isl (a1.Dims.map Enc.enc), V.isl (a1.Maps.map Enc.enc)]) (h5 : e.at 5 = V.iptr [V.int .i64 a2.Prime, V.isl (a2.Dims.map Enc.enc), V.isl (a2.Maps.map Enc.enc)]) (h8 : e.at 8 = v8) (h11 : e.at 11 = z11) (h12 : e.at 12 = V.int .i64 n) (h13 : e.at 13 = x1) (h30 : e.at 30 = z10) (h37 : e.at 37 = z37) (h38 : e.at 38 = z38) (h39 : e.at 39 = z39) (h44 : e.at 44 = x1) (h45 : e.at 45 = V.int .i64 (l.length : Int)) (h46 : e.at 46 = V.int .i64 0) :
  W A (.block 6 (.loop true b193_4)) e h0 (fun x e h => x = .normal ∧ (∃ K1 : Ks, Deep.rep h x1 l' K1 ∧ ∀ k, K1 k → ¬ Z k) ∧ (∀ k, Z k → h.ents[k]? = h0.ents[k]?) ∧ h0.ents.length ≤ h.ents.length ∧ e.length = 63 ∧ e.at 3 = V.iptr [V.isl (a0.Down.map Enc.enc), V.isl (a0.Up.map Enc.enc), V.isl (a0.Back.map Enc.enc)] ∧ e.at 4 = V.iptr [V.int .i64 a1.Prime, V.isl (a1.Dims.map Enc.enc), V.isl (a1.Maps.map Enc.enc)] ∧ e.at 5 = V.iptr [V.int .i64 a2.Prime, V.isl (a2.Dims.map Enc.enc), V.isl (a2.Maps.map Enc.enc)] ∧ e.at 8 = v8 ∧ e.at 11 = z11 ∧ e.at 30 = z10 ∧ e.at 37 = z37 ∧ e.at 38 = z38 ∧ e.at 39 = z39) := by
 rw [W_block]
 refine W_forR hF _ rfl (fun i s e h => s.length = l.length ∧ (∃ K1 : Ks, Deep.rep h x1 s K1 ∧ ∀ k, K1 k → ¬ Z k) ∧ (∀ k, Z k → h.ents[k]? = h0.ents[k]?) ∧ h0.ents.length ≤ h.ents.length ∧ e.length = 63 ∧ e.at 3 = V.iptr [V.isl (a0.Down.map Enc.enc), V.isl (a0.Up.map Enc.enc), V.isl (a0.Back.map Enc.enc)] ∧ e.at 4 = V.iptr [V.int .i64 a1.Prime, V.isl (a1.Dims.map Enc.enc), V.isl (a1.Maps.map Enc.enc)] ∧ e.at 5 = V.iptr [V.int .i64 a2.Prime, V.isl (a2.Dims.map Enc.enc), V.isl (a2.Maps.map Enc.enc)] ∧ e.at 8 = v8 ∧ e.at 11 = z11 ∧ e.at 12 = V.int .i64 n ∧ e.at 13 = x1 ∧ e.at 30 = z10 ∧ e.at 37 = z37 ∧ e.at 38 = z38 ∧ e.at 39 = z39 ∧ e.at 44 = x1 ∧ e.at 45 = V.int .i64 (l.length : Int) ∧ e.at 46 = V.int .i64 i) ⟨rfl, ⟨K1, hr, hz⟩, fun _ _ => rfl, Nat.le_refl _, hl, h3, h4, h5, h8, h11, h12, h13, h30, h37, h38, h39, h44, h45, h46⟩ ?_ ?_
 ·clear hr hz hl h3 h4 h5 h8 h11 h12 h13 h30 h37 h38 h39 h44 h45 h46
  rintro i s e ⟨E, c⟩ ⟨hsl, ⟨K1, r1, r2⟩, r3, r4, h_1⟩ hlt hw o ho
  simp only at r3 r4
  unfold F193_4_B at ho
  obtain ⟨v, gv, ho⟩ := bS ho
  obtain ⟨va, vb⟩ := getI_w gv
  have vc := getI_lt gv
  obtain ⟨w, gw, ho⟩ := bS ho
  have ww : tans A 174 [1] [(eK a0), (eC a1), (eC a2), V.int .i64 n, V.isl (v.map Enc.enc)] = some (V.isl (w.map Enc.enc)) := t174 a0 a1 a2 n v gw
  obtain ⟨s', gs, ho⟩ := bS ho
  have es := setI_eq gs
  cases ho
  obtain ⟨key, uid, vs, xv, Kv, K2, hx, q1, q2, q3, q4, q5, q6, q7, q8⟩ := swap193 r1 vb
  simp only at q1
  have hk : key < E.length := (List.getElem?_eq_some_iff.1 q1).1
  have zv : frz ⟨E, c⟩ 16 xv = some (V.isl (v.map Enc.enc)) := Deep.fz q4 11
  have wb : bare 16 [1] (V.isl (w.map Enc.enc)) = true := bare_one (α := Int) w
  have oc := ofCells_drop q2
  have hk2 : (E ++ [(c, some (w.map Enc.enc))])[key]? = some (uid, some vs) := (List.getElem?_append_left hk).trans q1
  have hlv : i.toNat < vs.length := by omega
  have e1 : List.take i.toNat vs ++ [V.sl E.length c 0 w.length 1] ++ List.drop (i.toNat + 1) vs = vs.set i.toNat (V.sl E.length c 0 w.length 1) := by rw [List.set_eq_take_append_cons_drop, if_pos hlv]; simp
  have hle : i.toNat + 1 ≤ vs.length := hlv
  simp only [simprocAttr, R0, b193_4, h_1, eq_true hlt, hw, hx, va, eq_true vc, q1, oc, zv, ww, wb, callM_tans, thaw_one, hk2, e1, eq_true hle]
  have hks : ((E ++ [(c, some (w.map Enc.enc))]).set key (uid, some (vs.set i.toNat (V.sl E.length c 0 w.length 1))))[key]? = some (uid, some (vs.set i.toNat (V.sl E.length c 0 w.length 1))) := set_app_key (by simp; omega)
  have old : ∀ k, k < E.length → k ≠ key → ((E ++ [(c, some (w.map Enc.enc))]).set key (uid, some (vs.set i.toNat (V.sl E.length c 0 w.length 1))))[k]? = E[k]? := fun k a b => set_app_new b a
  have lst : ((E ++ [(c, some (w.map Enc.enc))]).set key (uid, some (vs.set i.toNat (V.sl E.length c 0 w.length 1))))[E.length]? = some (c, some (w.map Enc.enc)) := (set_ne (by omega)).trans (get_last _ _)
  have rr := q8 ⟨(E ++ [(c, some (w.map Enc.enc))]).set key (uid, some (vs.set i.toNat (V.sl E.length c 0 w.length 1))), c + 1⟩ (V.sl E.length c 0 w.length 1) w (fun k => k = E.length) (int_row (l := w) lst fun k => Iff.rfl) hks (fun k q => old k (Deep.bd r1 ((q7 k).2 (.inr (.inr q)))) (fun e => q6 (e ▸ q))) (fun k q => by
   subst q
   exact ⟨fun q => by have := Deep.bd r1 ((q7 _).2 (.inr (.inr q))); simp only at this; omega, by omega⟩)
  rw [← es, hx] at rr
  refine And.intro rfl ⟨by rw [es, List.length_set]; exact hsl, ⟨_, rr, fun k q z => ?_⟩, fun k z => ?_, by simp; omega, ?_⟩
  ·rcases q with q | q | q
   ·exact r2 k ((q7 k).2 (.inl q)) z
   ·have := hzb k z; omega
   ·exact r2 k ((q7 k).2 (.inr (.inr q))) z
  ·exact (old k (by have := hzb k z; omega) (fun e => r2 key ((q7 key).2 (.inl rfl)) (e ▸ z))).trans (r3 k z)
  ·simp only [simprocAttr, R0, h_1, hw]
   simp only [hx]
 ·clear hr hz hl h3 h4 h5 h8 h11 h12 h13 h30 h37 h38 h39 h44 h45 h46
  rintro i s e ⟨E, c⟩ ⟨hsl, r1, r3, r4, h_1⟩ hge t1 ho
  unfold F193_4_D at ho
  cases ho
  simp only [simprocAttr, R0, b193_4, h_1, eq_false hge]
  intro ht; subst ht
  exact ⟨r1, r3, r4⟩
theorem l193_3 (a0 : GContraction) (a1 a2 : GComplex) {s0 s1 : List (List (List Int))} (hF : forR 0 (s0.length : Int) (F193_3_B a0 a1 a2) F193_3_D s0 = some s1) {h0 : Heap} {e : Env} {v8 z10 z11 : V} {K0 : Ks} (hr : Deep.rep h0 v8 s0 K0)
  (hl : e.length = 63) (h3 : e.at 3 = V.iptr [V.isl (a0.Down.map Enc.enc), V.isl (a0.Up.map Enc.enc), V.isl (a0.Back.map Enc.enc)]) (h4 : e.at 4 = V.iptr [V.int .i64 a1.Prime, V.isl (a1.Dims.map Enc.enc), V.isl (a1.Maps.map Enc.enc)]) (h5 : e.at 5 = V.iptr [V.int .i64 a2.Prime, V.isl (a2.Dims.map Enc.enc), V.isl (a2.Maps.map Enc.enc)]) (h8 : e.at 8 = v8) (h11 : e.at 11 = z11) (h30 : e.at 30 = z10) (h37 : e.at 37 = v8) (h38 : e.at 38 = V.int .i64 (s0.length : Int)) (h39 : e.at 39 = V.int .i64 0) :
  W A (.block 4 (.loop true b193_3)) e h0 (fun x e h => x = .normal ∧ (∃ K, Deep.rep h v8 s1 K) ∧ e.length = 63 ∧ e.at 3 = V.iptr [V.isl (a0.Down.map Enc.enc), V.isl (a0.Up.map Enc.enc), V.isl (a0.Back.map Enc.enc)] ∧ e.at 4 = V.iptr [V.int .i64 a1.Prime, V.isl (a1.Dims.map Enc.enc), V.isl (a1.Maps.map Enc.enc)] ∧ e.at 5 = V.iptr [V.int .i64 a2.Prime, V.isl (a2.Dims.map Enc.enc), V.isl (a2.Maps.map Enc.enc)] ∧ e.at 8 = v8 ∧ e.at 11 = z11 ∧ e.at 30 = z10) := by
 rw [W_block]
 refine W_forR hF _ rfl (fun n s e h => s.length = s0.length ∧ (∃ K, Deep.rep h v8 s K) ∧ e.length = 63 ∧ e.at 3 = V.iptr [V.isl (a0.Down.map Enc.enc), V.isl (a0.Up.map Enc.enc), V.isl (a0.Back.map Enc.enc)] ∧ e.at 4 = V.iptr [V.int .i64 a1.Prime, V.isl (a1.Dims.map Enc.enc), V.isl (a1.Maps.map Enc.enc)] ∧ e.at 5 = V.iptr [V.int .i64 a2.Prime, V.isl (a2.Dims.map Enc.enc), V.isl (a2.Maps.map Enc.enc)] ∧ e.at 8 = v8 ∧ e.at 11 = z11 ∧ e.at 30 = z10 ∧ e.at 37 = v8 ∧ e.at 38 = V.int .i64 (s0.length : Int) ∧ e.at 39 = V.int .i64 n) ⟨rfl, ⟨K0, hr⟩, hl, h3, h4, h5, h8, h11, h30, h37, h38, h39⟩ ?_ ?_
 ·clear hr hl h3 h4 h5 h8 h11 h30 h37 h38 h39
  rintro n s e ⟨E, c⟩ ⟨hsl, ⟨K, r1⟩, h_1⟩ hlt hw o ho
  unfold F193_3_B at ho
  obtain ⟨l, gl, ho⟩ := bS ho
  obtain ⟨la, lb⟩ := getI_w gl
  have lc := getI_lt gl
  obtain ⟨l', gl', ho⟩ := bS ho
  obtain ⟨s', gs, ho⟩ := bS ho
  have es := setI_eq gs
  cases ho
  obtain ⟨key, uid, vs, x1, K1, K2, hx, q1, q2, q3, q4, q5, q6, q7, q8⟩ := swap193 r1 lb
  simp only at q1
  have oc := ofCells_drop q2
  have hln := rep_len q4
  simp only [simprocAttr, R0, b193_3, h_1, eq_true hlt, hw, hx, la, eq_true lc, q1, oc, hln]
  refine W.mono (l193_4 a0 a1 a2 gl' (Z := fun k => k = key ∨ K2 k) (v8 := v8) (z10 := z10) (z11 := z11) (z37 := v8) (z38 := V.int .i64 (s0.length : Int)) (z39 := V.int .i64 n) q4 (fun k q z => z.elim (fun z => (q5 k q).2 z) (fun z => (q5 k q).1 z)) (fun k z => Deep.bd r1 ((q7 k).2 (z.elim (fun z => .inl z) fun z => .inr (.inr z)))) ?_ ?_ ?_ ?_ ?_ ?_ ?_ ?_ ?_ ?_ ?_ ?_ ?_ ?_ ?_) ?_
  rotate_right
  ·rintro _ e ⟨E2, c2⟩ ⟨rfl, ⟨K1', p1, p2⟩, p3, p4, h_2⟩
   simp only at p3 p4
   simp only [simprocAttr, R0, h_2, hw]
   have hvx : vs.set n.toNat x1 = vs := set_self q2
   have rr := q8 ⟨E2, c2⟩ x1 l' K1' p1 (by rw [hvx]; exact (p3 key (.inl rfl)).trans q1) (fun k z => p3 k (.inr z)) (fun k q => ⟨fun z => p2 k q (.inr z), fun z => p2 k q (.inl z)⟩)
   rw [← es, hx] at rr
   refine And.intro rfl ⟨by rw [es, List.length_set]; exact hsl, ⟨_, rr⟩, ?_⟩
   simp only [simprocAttr, R0, h_2]
   simp only [hx]
  all_goals simp only [simprocAttr, R0, h_1]
  all_goals simp only [hx]
 ·clear hr hl h3 h4 h5 h8 h11 h30 h37 h38 h39
  rintro n s e ⟨E, c⟩ ⟨hsl, r1, h_1⟩ hge t1 ho
  unfold F193_3_D at ho
  cases ho
  simp only [simprocAttr, R0, b193_3, h_1, eq_false hge]
  intro ht; subst ht
  exact r1
theorem s193 (a0 : GContraction) (a1 a2 : GComplex) {r : T2 Int Bool} (hF : F193 a0 a1 a2 = some r) : ans A 193 [(eK a0), (eC a1), (eC a2)] = some (EncR.enc r) := by
 refine ans_of (f := p193) rfl rfl rfl fun e hl he => ?_
 have h0_0 : e.at 0 = (eK a0) := he 0 _ rfl
 have h1_0 : e.at 1 = (eC a1) := he 1 _ rfl
 have h2_0 : e.at 2 = (eC a2) := he 2 _ rfl
 have hl_0 : e.length = 63 := hl
 clear he hl
 show W A b193 e ⟨[], 0⟩ _
 unfold F193 at hF
 obtain ⟨s0, g0, hF⟩ := bS hF
 obtain ⟨t, gt, hF⟩ := bS hF
 simp only [simprocAttr, R0, b193, hl_0, h0_0, h1_0, h2_0]
 refine W.mono (Q := fun x e h => x = .normal ∧ ∃ v, ∃ K : Ks, Deep.rep h v s0 K ∧ e.length = 63 ∧ e.at 3 = V.iptr [V.isl (a0.Down.map Enc.enc), V.isl (a0.Up.map Enc.enc), V.isl (a0.Back.map Enc.enc)] ∧ e.at 4 = V.iptr [V.int .i64 a1.Prime, V.isl (a1.Dims.map Enc.enc), V.isl (a1.Maps.map Enc.enc)] ∧ e.at 5 = V.iptr [V.int .i64 a2.Prime, V.isl (a2.Dims.map Enc.enc), V.isl (a2.Maps.map Enc.enc)] ∧ e.at 8 = v) ?_ ?_
 ·show W A (.block 0 (.loop true b193_1)) _ _ _
  rw [W_block]
  refine W_forR g0 _ rfl (fun i s e h => ∃ v, ∃ K : Ks, Deep.rep h v s K ∧ e.length = 63 ∧ e.at 3 = V.iptr [V.isl (a0.Down.map Enc.enc), V.isl (a0.Up.map Enc.enc), V.isl (a0.Back.map Enc.enc)] ∧ e.at 4 = V.iptr [V.int .i64 a1.Prime, V.isl (a1.Dims.map Enc.enc), V.isl (a1.Maps.map Enc.enc)] ∧ e.at 5 = V.iptr [V.int .i64 a2.Prime, V.isl (a2.Dims.map Enc.enc), V.isl (a2.Maps.map Enc.enc)] ∧ e.at 8 = v ∧ e.at 18 = V.isl (a1.Dims.map Enc.enc) ∧ e.at 19 = V.int .i64 (a1.Dims.length : Int) ∧ e.at 20 = V.int .i64 i) ?_ ?_ ?_
  ·refine ⟨V.sl 3 3 0 0 1, fun k => k = 3 ∨ False, rep_at (α := List (List Int)) (l := []) (K := fun _ => False) (h := ⟨[(0, none), (0, none), (0, none), (3, some [])], 4⟩) rfl (fun _ x => x) (fun x => x), ?_⟩
   simp only [simprocAttr, R0, hl_0, h0_0, h1_0, h2_0]
  ·clear hl_0 h0_0 h1_0 h2_0
   rintro i s e ⟨E, c⟩ ⟨v, K, g1, hl_1, h3_1, h4_1, h5_1, h8_1, h18_1, h19_1, h20_1⟩ hlt hw s' ho
   unfold F193_1_B at ho
   obtain ⟨d, gd, ho⟩ := bS ho
   obtain ⟨da, db⟩ := getI_w gd
   obtain ⟨u, gu, ho⟩ := bS ho
   have wu : tans A 124 [1, 1] [V.int .i64 d] = some (V.isl (u.map Enc.enc)) := x124 d gu
   obtain ⟨l14, gl14, ho⟩ := bS ho
   have hE := Option.some.inj ho; subst hE
   obtain ⟨vu, ⟨E1, c1⟩, Ku, t1, t2, t3, t4, t5⟩ := thawD (α := List (List Int)) (by decide) u ⟨E, c⟩
   simp only at t3 t4 t5
   have t1' : thaw 16 [1, 1] (V.isl (u.map Enc.enc)) ⟨E, c⟩ = some (vu, ⟨E1, c1⟩) := t1
   obtain ⟨u1, u2⟩ := rep_one t2
   have pre : ∀ (y : Nat × Option (List V)) k, k < E1.length → (E1 ++ [y])[k]? = E1[k]? := fun y k q => List.getElem?_append_left q
   have g1' : Deep.rep ⟨E1, c1⟩ v s K := Deep.frame g1 fun k q => t5 k (Deep.bd g1 q)
   obtain ⟨v', E', c', K', p1, p2, p3, p4, p5⟩ := append_rep (E := E1 ++ [(c1, some [vu])]) (c := c1 + 1) (Deep.frame g1' fun k q => pre _ k (Deep.bd g1' q)) (Deep.frame t2 fun k q => pre _ k (Deep.bd t2 q)) (fun k q z => by have a := Deep.bd g1 q; have b := (t3 k z).1; simp only at a; omega) gl14
   simp only [simprocAttr, R0, b193_1, hl_1, h3_1, h4_1, h5_1, h8_1, h18_1, h19_1, h20_1, eq_true hlt, hw, da, db, wu, callM_tans, t1', u1, u2, get_last, p1]
   refine And.intro rfl ⟨v', K', p2, ?_⟩
   simp only [simprocAttr, R0, hl_1, h3_1, h4_1, h5_1, h8_1, h18_1, h19_1, h20_1, hw]
  ·clear hl_0 h0_0 h1_0 h2_0
   rintro i s e ⟨E, c⟩ ⟨v, K, g1, hl_1, h3_1, h4_1, h5_1, h8_1, h18_1, h19_1, h20_1⟩ hge t1 ho
   unfold F193_1_D at ho
   have hE := Option.some.inj ho; subst hE
   simp only [simprocAttr, R0, b193_1, hl_1, h3_1, h4_1, h5_1, h8_1, h18_1, h19_1, h20_1, eq_false hge]
   intro ht; subst ht
   exact ⟨v, K, g1, rfl⟩
 clear hl_0 h0_0 h1_0 h2_0
 rintro _ e ⟨E, c⟩ ⟨rfl, v8, K0, g1, hl_0, h3_0, h4_0, h5_0, h8_0⟩
 simp only [simprocAttr, R0, hl_0, h3_0, h4_0, h5_0, h8_0]
 refine W.mono (Q := fun x e h => match t with | .inl _ => x = .normal ∧ e.length = 63 | .inr r => x = .ret ∧ Fin p193 (EncR.enc r) .ret e h) ?_ ?_
 ·show W A (.block 2 (.loop true b193_2)) _ _ _
  rw [W_block]
  refine W_forR gt _ rfl (fun k s e h => ∃ K : Ks, Deep.rep h v8 s K ∧ e.length = 63 ∧ e.at 3 = V.iptr [V.isl (a0.Down.map Enc.enc), V.isl (a0.Up.map Enc.enc), V.isl (a0.Back.map Enc.enc)] ∧ e.at 4 = V.iptr [V.int .i64 a1.Prime, V.isl (a1.Dims.map Enc.enc), V.isl (a1.Maps.map Enc.enc)] ∧ e.at 5 = V.iptr [V.int .i64 a2.Prime, V.isl (a2.Dims.map Enc.enc), V.isl (a2.Maps.map Enc.enc)] ∧ e.at 8 = v8 ∧ e.at 30 = V.int .i64 k) ?_ ?_ ?_
  ·refine ⟨K0, g1, ?_⟩
   simp only [simprocAttr, R0, hl_0, h3_0, h4_0, h5_0, h8_0]
  ·clear hl_0 h3_0 h4_0 h5_0 h8_0
   rintro k s e ⟨E, c⟩ ⟨K, g2, hl_1, h3_1, h4_1, h5_1, h8_1, h30_1⟩ hlt hw o ho
   unfold F193_2_B at ho
   obtain ⟨b, gb, ho⟩ := bS ho
   have zf : frz ⟨E, c⟩ 16 v8 = some (V.isl (s.map Enc.enc)) := Deep.fz g2 9
   have wb : ans A 208 [V.isl (s.map Enc.enc), V.fn 209 [] []] = some (V.bool b) := s208 s (fun l => F209 l)
    (Clo1.of (by intro h f; simp only [RZ, mapO]) (by intro h f; simp only [RZ, mapO]) (by intro f; simp only [RZ, RB]) (by intro f; simp only [RZ, RB]) (fun x _ hr => s209 x hr)) gb
   by_cases cb : b = true
   ·subst cb
    rw [if_pos rfl] at ho
    obtain ⟨s1, gs1, ho⟩ := bS ho
    have hE := Option.some.inj ho; subst hE
    have hln := rep_len g2
    simp only [simprocAttr, R0, b193_2, hl_1, h3_1, h4_1, h5_1, h8_1, h30_1, eq_true hlt, hw, zf, wb, hln]
    refine W.mono (l193_3 a0 a1 a2 gs1 (z10 := V.int .i64 k) (z11 := V.int .i64 k) g2 ?_ ?_ ?_ ?_ ?_ ?_ ?_ ?_ ?_ ?_) ?_
    rotate_right
    ·rintro _ e ⟨E2, c2⟩ ⟨rfl, ⟨K', g3⟩, hl_2, h3_2, h4_2, h5_2, h8_2, h11_2, h30_2⟩
     simp only [simprocAttr, R0, hl_2, h3_2, h4_2, h5_2, h8_2, h11_2, h30_2, hw]
     refine And.intro rfl ⟨K', g3, ?_⟩
     simp only [simprocAttr, R0, hl_2, h3_2, h4_2, h5_2, h8_2, h11_2, h30_2]
    all_goals simp only [simprocAttr, R0, hl_1, h3_1, h4_1, h5_1, h8_1, h30_1]
   ·have cb' : b = false := by simpa using cb
    subst cb'
    rw [if_neg Bool.false_ne_true] at ho
    have hE := Option.some.inj ho; subst hE
    simp only [simprocAttr, R0, b193_2, hl_1, h3_1, h4_1, h5_1, h8_1, h30_1, eq_true hlt, hw, zf, wb]
    intro ht; subst ht
    simp only [simprocAttr, RR, RB]
    exact fin_ret (by simp only [simprocAttr, R0, fn_out, p193, Rs.ev, hl_1, h30_1])
  ·clear hl_0 h3_0 h4_0 h5_0 h8_0
   rintro k s e ⟨E, c⟩ ⟨K, g2, hl_1, h3_1, h4_1, h5_1, h8_1, h30_1⟩ hge t1 ho
   unfold F193_2_D at ho
   have hE := Option.some.inj ho; subst hE
   simp only [simprocAttr, R0, b193_2, hl_1, h3_1, h4_1, h5_1, h8_1, h30_1, eq_false hge]
   intro ht; subst ht
   simp only [simprocAttr, R0, hl_1]
 clear hl_0 h3_0 h4_0 h5_0 h8_0
 rintro x e h hq
 cases t with
 | inl _ =>
  obtain ⟨rfl, hl_0⟩ := hq
  have hE := Option.some.inj hF; subst hE
  simp only [simprocAttr, R0, hl_0]
  exact fin_ret (by simp only [simprocAttr, R0, fn_out, p193, Rs.ev, hl_0])
 | inr r2 =>
  obtain ⟨rfl, hq⟩ := hq
  have hE := Option.some.inj hF; subst hE
  simp only [simprocAttr, RR, RB]
  exact hq
def F172 (a0 : GComplex) (a1 : GContraction) (a2 : List (List (List Int))) : Option (T3 Int GComplex Int) :=
 (F49 a0 a2).bind fun x1 =>
 if x1 = 0 then
  (F192 a1 a0).bind fun x4 =>
  if x4 = true then
   (F50 a0 a2).bind fun x6 =>
   (F42 x6).bind fun x8 =>
   if x8 = true then
    (F193 a1 a0 ⟨a0.Prime, a0.Dims, a2⟩).bind fun x10 =>
    if x10.b = true then
     some ⟨x10.a, ⟨a0.Prime, a0.Dims, a2⟩, 0⟩
    else
     some ⟨0, ⟨0, [], []⟩, 5⟩
   else
    some ⟨0, ⟨0, [], []⟩, 5⟩
  else
   some ⟨0, ⟨0, [], []⟩, 2⟩
 else
  some ⟨0, ⟨0, [], []⟩, x1⟩
theorem s172 (a0 : GComplex) (a1 : GContraction) (a2 : List (List (List Int)))   {r : T3 Int GComplex Int} (hF : F172 a0 a1 a2 = some r) : ans A 172 [(eC a0), (eK a1), V.isl (a2.map Enc.enc)] = some (EncR.enc r) := by
 refine ans_of (f := p172) rfl rfl rfl fun e hl he => ?_
 have h0_0 : e.at 0 = (eC a0) := he 0 _ rfl
 have h1_0 : e.at 1 = (eK a1) := he 1 _ rfl
 have h2_0 : e.at 2 = V.isl (a2.map Enc.enc) := he 2 _ rfl
 have hl_0 : e.length = 52 := hl
 clear he hl
 have h_0 := And.intro hl_0 (And.intro h0_0 (And.intro h1_0 h2_0))
 show W A b172 e ⟨[], 0⟩ _
 unfold F172 at hF
 obtain ⟨x1, gx1, hF⟩ := bS hF
 have w2 : ans A 49 [(eC a0), V.isl (a2.map Enc.enc)] = some (V.int .i64 x1) := s49 a0 a2  gx1
 by_cases c3 : x1 = 0
 ·rw [if_pos c3] at hF
  obtain ⟨x4, gx4, hF⟩ := bS hF
  have w5 : ans A 192 [(eK a1), (eC a0)] = some (V.bool x4) := s192 a1 a0  gx4
  cases x4 with
  | true =>
   rw [if_pos rfl] at hF
   obtain ⟨x6, gx6, hF⟩ := bS hF
   have w7 : ans A 50 [(eC a0), V.isl (a2.map Enc.enc)] = some ((eC x6)) := s50 a0 a2  gx6
   obtain ⟨x8, gx8, hF⟩ := bS hF
   have w9 : ans A 42 [(eC x6)] = some (V.bool x8) := s42 x6  gx8
   cases x8 with
   | true =>
    rw [if_pos rfl] at hF
    obtain ⟨x10, gx10, hF⟩ := bS hF
    have w11 : ans A 193 [(eK a1), (eC a0), V.agg [V.int .i64 a0.Prime, V.isl (a0.Dims.map Enc.enc), V.isl (a2.map Enc.enc)]] = some (V.tup [V.int .i64 x10.a, V.bool x10.b]) := s193 a1 a0 ⟨a0.Prime, a0.Dims, a2⟩  gx10
    by_cases c12 : x10.b = true
    ·rw [if_pos c12] at hF
     cases hF
     simp only [simprocAttr, R0, b172, h_0, w2, eq_true c3, w5, w7, w9, w11, c12]
     exact fin_ret (by simp only [simprocAttr, R0, fn_out, p172, Rs.ev, take_len_self, h_0, w2, eq_true c3, w5, w7, w9, w11, c12])
    ·rw [if_neg c12] at hF
     cases hF
     simp only [simprocAttr, R0, b172, h_0, w2, eq_true c3, w5, w7, w9, w11, Bool.eq_false_iff.2 c12]
     exact fin_ret (by simp only [simprocAttr, R0, fn_out, p172, Rs.ev, take_len_self, h_0, w2, eq_true c3, w5, w7, w9, w11, Bool.eq_false_iff.2 c12])
   | false =>
    rw [if_neg Bool.false_ne_true] at hF
    cases hF
    simp only [simprocAttr, R0, b172, h_0, w2, eq_true c3, w5, w7, w9]
    exact fin_ret (by simp only [simprocAttr, R0, fn_out, p172, Rs.ev, take_len_self, h_0, w2, eq_true c3, w5, w7, w9])
  | false =>
   rw [if_neg Bool.false_ne_true] at hF
   cases hF
   simp only [simprocAttr, R0, b172, h_0, w2, eq_true c3, w5]
   exact fin_ret (by simp only [simprocAttr, R0, fn_out, p172, Rs.ev, take_len_self, h_0, w2, eq_true c3, w5])
 ·rw [if_neg c3] at hF
  cases hF
  simp only [simprocAttr, R0, b172, h_0, w2, eq_false c3]
  exact fin_ret (by simp only [simprocAttr, R0, fn_out, p172, Rs.ev, take_len_self, h_0, w2, eq_false c3])
def F344 (a0 : GComplex) (a1 : GContraction) (a2 : List (List (List Int))) : Option (T2 Int Int) :=
 (F172 a0 a1 a2).bind fun x1 =>
 some ⟨x1.a, x1.c⟩
theorem s344 (a0 : GComplex) (a1 : GContraction) (a2 : List (List (List Int)))   {r : T2 Int Int} (hF : F344 a0 a1 a2 = some r) : ans A 344 [(eC a0), (eK a1), V.isl (a2.map Enc.enc)] = some (EncR.enc r) := by
 refine ans_of (f := p344) rfl rfl rfl fun e hl he => ?_
 have h0_0 : e.at 0 = (eC a0) := he 0 _ rfl
 have h1_0 : e.at 1 = (eK a1) := he 1 _ rfl
 have h2_0 : e.at 2 = V.isl (a2.map Enc.enc) := he 2 _ rfl
 have hl_0 : e.length = 21 := hl
 clear he hl
 show W A b344 e ⟨[], 0⟩ _
 unfold F344 at hF
 obtain ⟨x1, gx1, hF⟩ := bS hF
 have w2 : ans A 172 [(eC a0), (eK a1), V.isl (a2.map Enc.enc)] = some (V.tup [V.int .i64 x1.a, (eC x1.b), V.int .i64 x1.c]) := s172 a0 a1 a2  gx1
 cases hF
 simp only [simprocAttr, R0, b344, hl_0, h0_0, h1_0, h2_0, w2]
 exact fin_ret (by simp only [simprocAttr, R0, fn_out, p344, Rs.ev, take_len_self, hl_0, h0_0, h1_0, h2_0, w2])
def F361 (a0 : GComplex) (a1 : GContraction) (a2 : List (List (List Int))) : Option Bool :=
 (F10 a0 1048576).bind fun x1 =>
 if x1 < 0 then
  some true
 else
  (F224 a1 x1).bind fun x4 =>
  if x4 < 0 then
   some true
  else
   (F11 a2 x4).bind fun x7 =>
   if x7 < 0 then
    some true
   else
    (F12 a0).bind fun x10 =>
    (F225 a1).bind fun x12 =>
    (F13 a2).bind fun x14 =>
    (F343 x10 x12 x14).bind fun x16 =>
    (F344 x10 x12 x14).bind fun x18 =>
    if x18.a = x16.a then
     if x18.b = x16.b then
      (F16 x10 x10).bind fun x22 =>
      if x22 = true then
       (F228 x12 x12).bind fun x24 =>
       if x24 = true then
        (F17 x14 x14).bind fun x26 =>
        if x26 = true then
         some true
        else
         some false
       else
        some false
      else
       some false
     else
      some false
    else
     some false
theorem s361 (a0 : GComplex) (a1 : GContraction) (a2 : List (List (List Int)))   {r : Bool} (hF : F361 a0 a1 a2 = some r) : ans A 361 [(eC a0), (eK a1), V.isl (a2.map Enc.enc)] = some (Enc.enc r) := by
 refine ans_of (f := p361) rfl rfl rfl fun e hl he => ?_
 have h0_0 : e.at 0 = (eC a0) := he 0 _ rfl
 have h1_0 : e.at 1 = (eK a1) := he 1 _ rfl
 have h2_0 : e.at 2 = V.isl (a2.map Enc.enc) := he 2 _ rfl
 have hl_0 : e.length = 76 := hl
 clear he hl
 have h_0 := And.intro hl_0 (And.intro h0_0 (And.intro h1_0 h2_0))
 show W A b361 e ⟨[], 0⟩ _
 unfold F361 at hF
 obtain ⟨x1, gx1, hF⟩ := bS hF
 have w2 : ans A 10 [(eC a0), V.int .i64 1048576] = some (V.int .i64 x1) := s10 a0 1048576  gx1
 by_cases c3 : x1 < 0
 ·rw [if_pos c3] at hF
  cases hF
  simp only [simprocAttr, R0, b361, h_0, w2, eq_true c3]
  exact fin_ret (by simp only [simprocAttr, R0, fn_out, p361, Rs.ev, take_len_self, h_0, w2, eq_true c3])
 ·rw [if_neg c3] at hF
  obtain ⟨x4, gx4, hF⟩ := bS hF
  have w5 : ans A 224 [(eK a1), V.int .i64 x1] = some (V.int .i64 x4) := s224 a1 x1  gx4
  by_cases c6 : x4 < 0
  ·rw [if_pos c6] at hF
   cases hF
   simp only [simprocAttr, R0, b361, h_0, w2, eq_false c3, w5, eq_true c6]
   exact fin_ret (by simp only [simprocAttr, R0, fn_out, p361, Rs.ev, take_len_self, h_0, w2, eq_false c3, w5, eq_true c6])
  ·rw [if_neg c6] at hF
   obtain ⟨x7, gx7, hF⟩ := bS hF
   have w8 : ans A 11 [V.isl (a2.map Enc.enc), V.int .i64 x4] = some (V.int .i64 x7) := s11 a2 x4  gx7
   by_cases c9 : x7 < 0
   ·rw [if_pos c9] at hF
    cases hF
    simp only [simprocAttr, R0, b361, h_0, w2, eq_false c3, w5, eq_false c6, w8, eq_true c9]
    exact fin_ret (by simp only [simprocAttr, R0, fn_out, p361, Rs.ev, take_len_self, h_0, w2, eq_false c3, w5, eq_false c6, w8, eq_true c9])
   ·rw [if_neg c9] at hF
    obtain ⟨x10, gx10, hF⟩ := bS hF
    have w11 : ans A 12 [(eC a0)] = some ((eC x10)) := s12 a0  gx10
    obtain ⟨x12, gx12, hF⟩ := bS hF
    have w13 : ans A 225 [(eK a1)] = some ((eK x12)) := s225 a1  gx12
    obtain ⟨x14, gx14, hF⟩ := bS hF
    have w15 : ans A 13 [V.isl (a2.map Enc.enc)] = some (V.isl (x14.map Enc.enc)) := s13 a2  gx14
    obtain ⟨x16, gx16, hF⟩ := bS hF
    have w17 : ans A 343 [(eC x10), (eK x12), V.isl (x14.map Enc.enc)] = some (V.tup [V.int .i64 x16.a, V.int .i64 x16.b]) := s343 x10 x12 x14  gx16
    obtain ⟨x18, gx18, hF⟩ := bS hF
    have w19 : ans A 344 [(eC x10), (eK x12), V.isl (x14.map Enc.enc)] = some (V.tup [V.int .i64 x18.a, V.int .i64 x18.b]) := s344 x10 x12 x14  gx18
    by_cases c20 : x18.a = x16.a
    ·rw [if_pos c20] at hF
     by_cases c21 : x18.b = x16.b
     ·rw [if_pos c21] at hF
      obtain ⟨x22, gx22, hF⟩ := bS hF
      have w23 : ans A 16 [(eC x10), (eC x10)] = some (V.bool x22) := s16 x10 x10  gx22
      cases x22 with
      | true =>
       rw [if_pos rfl] at hF
       obtain ⟨x24, gx24, hF⟩ := bS hF
       have w25 : ans A 228 [(eK x12), (eK x12)] = some (V.bool x24) := s228 x12 x12  gx24
       cases x24 with
       | true =>
        rw [if_pos rfl] at hF
        obtain ⟨x26, gx26, hF⟩ := bS hF
        have w27 : ans A 17 [V.isl (x14.map Enc.enc), V.isl (x14.map Enc.enc)] = some (V.bool x26) := s17 x14 x14  gx26
        cases x26 with
        | true =>
         rw [if_pos rfl] at hF
         cases hF
         simp only [simprocAttr, R0, b361, h_0, w2, eq_false c3, w5, eq_false c6, w8, eq_false c9, w11, w13, w15, w17, w19, eq_true c20, eq_true c21, w23, w25, w27]
         exact fin_ret (by simp only [simprocAttr, R0, fn_out, p361, Rs.ev, take_len_self, h_0, w2, eq_false c3, w5, eq_false c6, w8, eq_false c9, w11, w13, w15, w17, w19, eq_true c20, eq_true c21, w23, w25, w27])
        | false =>
         rw [if_neg Bool.false_ne_true] at hF
         cases hF
         simp only [simprocAttr, R0, b361, h_0, w2, eq_false c3, w5, eq_false c6, w8, eq_false c9, w11, w13, w15, w17, w19, eq_true c20, eq_true c21, w23, w25, w27]
         exact fin_ret (by simp only [simprocAttr, R0, fn_out, p361, Rs.ev, take_len_self, h_0, w2, eq_false c3, w5, eq_false c6, w8, eq_false c9, w11, w13, w15, w17, w19, eq_true c20, eq_true c21, w23, w25, w27])
       | false =>
        rw [if_neg Bool.false_ne_true] at hF
        cases hF
        simp only [simprocAttr, R0, b361, h_0, w2, eq_false c3, w5, eq_false c6, w8, eq_false c9, w11, w13, w15, w17, w19, eq_true c20, eq_true c21, w23, w25]
        exact fin_ret (by simp only [simprocAttr, R0, fn_out, p361, Rs.ev, take_len_self, h_0, w2, eq_false c3, w5, eq_false c6, w8, eq_false c9, w11, w13, w15, w17, w19, eq_true c20, eq_true c21, w23, w25])
      | false =>
       rw [if_neg Bool.false_ne_true] at hF
       cases hF
       simp only [simprocAttr, R0, b361, h_0, w2, eq_false c3, w5, eq_false c6, w8, eq_false c9, w11, w13, w15, w17, w19, eq_true c20, eq_true c21, w23]
       exact fin_ret (by simp only [simprocAttr, R0, fn_out, p361, Rs.ev, take_len_self, h_0, w2, eq_false c3, w5, eq_false c6, w8, eq_false c9, w11, w13, w15, w17, w19, eq_true c20, eq_true c21, w23])
     ·rw [if_neg c21] at hF
      cases hF
      simp only [simprocAttr, R0, b361, h_0, w2, eq_false c3, w5, eq_false c6, w8, eq_false c9, w11, w13, w15, w17, w19, eq_true c20, eq_false c21]
      exact fin_ret (by simp only [simprocAttr, R0, fn_out, p361, Rs.ev, take_len_self, h_0, w2, eq_false c3, w5, eq_false c6, w8, eq_false c9, w11, w13, w15, w17, w19, eq_true c20, eq_false c21])
    ·rw [if_neg c20] at hF
     cases hF
     simp only [simprocAttr, R0, b361, h_0, w2, eq_false c3, w5, eq_false c6, w8, eq_false c9, w11, w13, w15, w17, w19, eq_false c20]
     exact fin_ret (by simp only [simprocAttr, R0, fn_out, p361, Rs.ev, take_len_self, h_0, w2, eq_false c3, w5, eq_false c6, w8, eq_false c9, w11, w13, w15, w17, w19, eq_false c20])
end
end Rv
