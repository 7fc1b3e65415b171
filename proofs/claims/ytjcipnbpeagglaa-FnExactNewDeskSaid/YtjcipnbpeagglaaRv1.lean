/- An abstract machine for translated code, proved to answer as the code does: part 2. -/
import Derived.Test.YtjcipnbpeagglaaRv0
import Derived.Laws.Sem
import Derived.Control
/- Every operation: what it comes to. -/
namespace Rv
set_option linter.unusedVariables false
set_option linter.unusedSimpArgs false
open Go (IntKind BinOp UnOp Program Value Operand Oper Code TypeId Func World Addr Obj Act Calls execOp)
set_option maxRecDepth 10000
variable {tbl : Nat → Option Nat} {P : Program}

theorem frm_refl (ι : Iota) (h : Heap) (w : World) : Frm ι h w w := ⟨rfl, rfl, rfl, Nat.le_refl _, fun _ _ _ => rfl, fun b hb c elem fr hc => ⟨c, hc, rfl, fun _ _ => rfl⟩⟩

/-- A value frozen. -/
theorem frz_post {ι : Iota} {I : Imm} {h h' : Heap} {w : World} {x v : V} {c : Value} (hs : St tbl ι I h w) (hr : RV tbl ι I x c) (ht : take FZ [] x h = some (v, h')) : PR tbl ι I h w v h' c w := by
  obtain ⟨L, hO, hT⟩ := take_own FZ [] x c h v h' hs hr ht
  refine ⟨ι, flagImm I w L, ⟨fun _ _ _ => rfl, by rw [hT.sub.clk]; exact Nat.le_refl _, flag_le I w L, ?_, frm_refl _ _ _, fun b i ho => .inl (hT.sub.owned ho), fun b i v hv => ?_⟩, .imm (own_leaf (flag_le I w L) hO rfl (flag_cover hs.imm))⟩
  · have h1 := hs.sub hT.sub
    refine ⟨fun key uid cs l a b => (h1.ent key uid cs l a b).mono (Iota.le_refl _) (flag_le I w L) rfl, h1.sep, fun b o v hv => flag_cell hs.imm hv, fun b o v hv ho => ?_⟩
    rcases flag_new hv with h3 | ⟨y, hy, _, hyb⟩
    · exact h1.immsep b o v h3 ho
    · exact (hT.inn y hy b o hyb).2 ho
  · rcases flag_new hv with h3 | ⟨y, hy, _, hyb⟩
    · exact .inl h3
    · exact .inr (.inl (hT.inn y hy b i hyb).1)

section
variable {ι : Iota} {I : Imm} {h h' : Heap} {w : World} {a : Act} {e : Env} {v : V} {call : Call}

theorem compXs_of (he : RVe tbl ι I e a.tmps) {l : List Operand} {l' : List X} (h : mapO (compX tbl) l = some l') : RVs tbl ι I (l'.map (X.ev e)) (l.map a.eval) := compXs_rv he h

theorem callf_run {f : Nat} {args : Array Operand} {ats : Array TypeId} {dst : Option Nat} {ty : TypeId} {pos : String} {af : Array Go.Edge} {gd : Option (Nat × Bool)} (hT : TblOK P tbl) {g : Nat} (hf : tbl f = some g) :
    (execOp a.eval ⟨dst, .call ⟨.value (.func f), args, ats⟩, ty, pos, af, gd⟩).run P w = .ok (.enter f (args.toList.map a.eval).toArray) w := by
  obtain ⟨fn, h1, h2, h3⟩ := hT f g hf
  have := callFunc_run (args := (args.toList.map a.eval).toArray) (w := w) h1 h2 h3
  have e : (args.toList.map a.eval).toArray = args.map a.eval := by cases args; simp
  rw [e] at this ⊢
  simpa [execOp, Go.resolve, Go.Deferred.ofValue, Act.eval, Go.invoke] using this

theorem callv_run {f t : Nat} {fs cs : List Value} {args : Array Operand} {ats : Array TypeId} {dst : Option Nat} {ty : TypeId} {pos : String} {af : Array Go.Edge} {gd : Option (Nat × Bool)} (hT : TblOK P tbl) {g : Nat} (hf : tbl f = some g)
    (hv : a.eval (.tmp t) = .func (.func f) fs.toArray cs.toArray) :
    (execOp a.eval ⟨dst, .call ⟨.value (.tmp t), args, ats⟩, ty, pos, af, gd⟩).run P w = .ok (.enter f (fs ++ args.toList.map a.eval ++ cs).toArray) w := by
  obtain ⟨fn, h1, h2, h3⟩ := hT f g hf
  have := callFunc_run (args := (fs ++ args.toList.map a.eval ++ cs).toArray) (w := w) h1 h2 h3
  have e : (fs ++ args.toList.map a.eval ++ cs).toArray = fs.toArray ++ (args.map a.eval ++ cs.toArray) := by cases args; simp
  rw [e] at this ⊢
  simpa [execOp, Go.resolve, Go.Deferred.ofValue, hv, Go.invoke] using this

theorem callM_plain (hcall : CallOK P tbl call) {f g : Nat} (hf : tbl f = some g) {args : List V} {cargs : List Value} (hs : St tbl ι I h w) (hfr : Fresh ι h) (hr : RVs tbl ι I args cargs) (hev : callM call .plain g args h = some (v, h')) :
    Calls P f cargs.toArray w fun e w' => ∃ c, e = .returned c ∧ PR tbl ι I h w v h' c w' := by
  refine (hcall g args h v h' hev f hf ι I w cargs hs hfr hr).mono ?_
  rintro e w' ⟨c, κ, J, rfl, p, q⟩
  exact ⟨c, rfl, κ, J, p, q⟩

theorem callM_quiet (hcall : CallOK P tbl call) {ds : List Nat} {f g : Nat} (hf : tbl f = some g) {args : List V} {cargs : List Value} (hs : St tbl ι I h w) (hfr : ∀ k u, h.clk ≤ u → u < h'.clk → ι k u = none) (hr : RVs tbl ι I args cargs) (hev : callM call (.pure ds) g args h = some (v, h')) :
    Calls P f cargs.toArray w fun e w' => ∃ c, e = .returned c ∧ QR tbl ι I h w v h' c w' := by
  refine (callM_pure hcall hev hf hs hfr hr).mono ?_
  rintro e w' ⟨c, κ, J, rfl, p, q⟩
  exact ⟨c, rfl, κ, J, p, q⟩

/-- A call's parts. -/
theorem callf_inv {go : Oper} {md : Md} {g : Nat} {l : List X} (hc : compO P tbl go = some (eraseO (.callf md g l))) : ∃ f args ats, go.op = .call ⟨.value (.func f), args, ats⟩ ∧ tbl f = some g ∧ mapO (compX tbl) args.toList = some l := by
  obtain ⟨dst, op, ty, pos, af, gd⟩ := go
  simp only [eraseO] at hc
  cases op with
  | call c =>
    obtain ⟨callee, args, ats⟩ := c
    cases callee with
    | invoke r n => simp only [compO] at hc; cases hc
    | builtin b => exfalso; cases b <;> simp only [compO] at hc <;> (repeat' split at hc) <;> cases hc
    | value f =>
      cases f with
      | func f =>
        simp only [compO] at hc
        split at hc
        · rename_i g' hg
          split at hc
          · rename_i l' hl
            cases hc
            exact ⟨f, args, ats, rfl, hg, hl⟩
          · cases hc
        · cases hc
      | _ => exfalso; simp only [compO] at hc <;> (repeat' split at hc) <;> cases hc
  | makeFunc f fst cap => exfalso; cases f <;> simp only [compO] at hc <;> (repeat' split at hc) <;> cases hc
  | slice t x lo hi mx => exfalso; cases mx <;> simp only [compO] at hc <;> (repeat' split at hc) <;> cases hc
  | _ => exfalso; simp only [compO] at hc; (repeat' split at hc) <;> cases hc
theorem callv_inv {go : Oper} {md : Md} {x : X} {l : List X} (hc : compO P tbl go = some (eraseO (.callv md x l))) : ∃ t args ats, go.op = .call ⟨.value (.tmp t), args, ats⟩ ∧ x = .t t ∧ mapO (compX tbl) args.toList = some l := by
  obtain ⟨dst, op, ty, pos, af, gd⟩ := go
  simp only [eraseO] at hc
  cases op with
  | call c =>
    obtain ⟨callee, args, ats⟩ := c
    cases callee with
    | invoke r n => simp only [compO] at hc; cases hc
    | builtin b => exfalso; cases b <;> simp only [compO] at hc <;> (repeat' split at hc) <;> cases hc
    | value f =>
      cases f with
      | tmp t =>
        simp only [compO] at hc
        split at hc
        · rename_i l' hl
          cases hc
          exact ⟨t, args, ats, rfl, rfl, hl⟩
        · cases hc
      | _ => exfalso; simp only [compO] at hc <;> (repeat' split at hc) <;> cases hc
  | makeFunc f fst cap => exfalso; cases f <;> simp only [compO] at hc <;> (repeat' split at hc) <;> cases hc
  | slice t x lo hi mx => exfalso; cases mx <;> simp only [compO] at hc <;> (repeat' split at hc) <;> cases hc
  | _ => exfalso; simp only [compO] at hc; (repeat' split at hc) <;> cases hc
theorem frz_inv {go : Oper} {y : X} (hc : compO P tbl go = some (eraseO (.frz y))) : ∃ x, (go.op = .move x ∨ go.op = .assign x) ∧ compX tbl x = some y := by
  obtain ⟨dst, op, ty, pos, af, gd⟩ := go
  simp only [eraseO] at hc
  cases op with
  | move x =>
    simp only [compO] at hc
    split at hc
    · rename_i y' hy; cases hc; exact ⟨x, .inl rfl, hy⟩
    · cases hc
  | assign x =>
    simp only [compO] at hc
    split at hc
    · rename_i y' hy; cases hc; exact ⟨x, .inr rfl, hy⟩
    · cases hc
  | call c =>
    obtain ⟨callee, args, ats⟩ := c
    exfalso
    cases callee with
    | invoke r n => simp only [compO] at hc; cases hc
    | builtin b => cases b <;> simp only [compO] at hc <;> (repeat' split at hc) <;> cases hc
    | value f => cases f <;> simp only [compO] at hc <;> (repeat' split at hc) <;> cases hc
  | makeFunc f fst cap => exfalso; cases f <;> simp only [compO] at hc <;> (repeat' split at hc) <;> cases hc
  | slice t x lo hi mx => exfalso; cases mx <;> simp only [compO] at hc <;> (repeat' split at hc) <;> cases hc
  | _ => exfalso; simp only [compO] at hc; (repeat' split at hc) <;> cases hc

theorem callf_does {R : Value → World → Prop} (hT : TblOK P tbl) {go : Oper} {md : Md} {g : Nat} {l : List X} (hc : compO P tbl go = some (eraseO (.callf md g l))) (he : RVe tbl ι I e a.tmps)
    (hk : ∀ f cargs, tbl f = some g → RVs tbl ι I (l.map (X.ev e)) cargs → Calls P f cargs.toArray w fun e w' => ∃ c, e = .returned c ∧ R c w') : Does P go a w R := by
  obtain ⟨f, args, ats, h1, h2, h3⟩ := callf_inv hc
  obtain ⟨dst, op, ty, pos, af, gd⟩ := go
  simp only at h1
  subst h1
  exact .of_calls hT h2 (callf_run hT h2) (hk f _ h2 (compXs_of he h3))

theorem callv_does {R : Value → World → Prop} (hT : TblOK P tbl) {go : Oper} {md : Md} {x : X} {l : List X} (hc : compO P tbl go = some (eraseO (.callv md x l))) (he : RVe tbl ι I e a.tmps) {g : Nat} {fs cs : List V} (hx : x.ev e = .fn g fs cs)
    (hk : ∀ f cargs, tbl f = some g → RVs tbl ι I (fs ++ l.map (X.ev e) ++ cs) cargs → Calls P f cargs.toArray w fun e w' => ∃ c, e = .returned c ∧ R c w') : Does P go a w R := by
  obtain ⟨t, args, ats, h1, rfl, h3⟩ := callv_inv hc
  have h4 := compX_rv (x := .tmp t) he rfl
  rw [hx] at h4
  obtain ⟨f, fs', cs', h5, h6, h7, h8⟩ := h4.of_fn
  obtain ⟨dst, op, ty, pos, af, gd⟩ := go
  simp only at h1
  subst h1
  exact .of_calls hT h5 (callv_run hT h5 h6) (hk f _ h5 ((h7.append (compXs_of he h3)).append h8))

/-- What nothing writes. -/
theorem quiet_does (hT : TblOK P tbl) (hcall : CallOK P tbl call) (hs : St tbl ι I h w) (he : RVe tbl ι I e a.tmps) {go : Oper} {o : O} (hc : compO P tbl go = some (eraseO o)) (hq : o.quiet = true)
    (hfr : ∀ k u, h.clk ≤ u → u < h'.clk → ι k u = none) (hev : opEv call o e h = some (v, h')) : Does P go a w (QR tbl ι I h w v h') := by
  by_cases h1 : ∃ md g l, o = .callf md g l
  · obtain ⟨md, g, l, rfl⟩ := h1
    cases md with
    | plain => simp [O.quiet] at hq
    | pure ds =>
      simp only [opEv] at hev
      exact callf_does hT hc he fun f cargs hf hr => callM_quiet hcall hf hs hfr hr hev
  by_cases h2 : ∃ md f l, o = .callv md f l
  · obtain ⟨md, x, l, rfl⟩ := h2
    cases md with
    | plain => simp [O.quiet] at hq
    | pure ds =>
      simp only [opEv] at hev
      split at hev
      · rename_i g fs cs hx
        exact callv_does hT hc he hx fun f cargs hf hr => callM_quiet hcall hf hs hfr hr hev
      · cases hev
  exact (q_does hs he hc hq (fun md g l e => h1 ⟨md, g, l, e⟩) (fun md f l e => h2 ⟨md, f, l, e⟩) hfr hev).does

theorem QR.pr {c : Value} {w' : World} (hs : St tbl ι I h w) (hfr : ∀ k u, h.clk ≤ u → u < h'.clk → ι k u = none) (q : QR tbl ι I h w v h' c w') : PR tbl ι I h w v h' c w' := by
  obtain ⟨κ, J, p, r⟩ := q
  exact ⟨κ, J, p.post hs hfr, r⟩

theorem Does.mono {go : Oper} {R S : Value → World → Prop} (h : Does P go a w R) (k : ∀ c w', R c w' → S c w') : Does P go a w S :=
  fun next Q hn => h next Q fun c w' hr => hn c w' (k c w' hr)

theorem op_does (hT : TblOK P tbl) (hcall : CallOK P tbl call) (hs : St tbl ι I h w) (hfr : Fresh ι h) (he : RVe tbl ι I e a.tmps) {go : Oper} {o : O} (hc : compO P tbl go = some (eraseO o))
    (hev : opEv call o e h = some (v, h')) : Does P go a w (PR tbl ι I h w v h') := by
  have hfr' : ∀ k u, h.clk ≤ u → u < h'.clk → ι k u = none := fun k u hk _ => hfr k u hk
  by_cases hq : o.quiet = true
  · exact (quiet_does hT hcall hs he hc hq hfr' hev).mono fun c w' q => q.pr hs hfr'
  by_cases h1 : ∃ md g l, o = .callf md g l
  · obtain ⟨md, g, l, rfl⟩ := h1
    cases md with
    | pure ds => simp [O.quiet] at hq
    | plain =>
      simp only [opEv] at hev
      exact callf_does hT hc he fun f cargs hf hr => callM_plain hcall hf hs hfr hr hev
  by_cases h2 : ∃ md f l, o = .callv md f l
  · obtain ⟨md, x, l, rfl⟩ := h2
    cases md with
    | pure ds => simp [O.quiet] at hq
    | plain =>
      simp only [opEv] at hev
      split at hev
      · rename_i g fs cs hx
        exact callv_does hT hc he hx fun f cargs hf hr => callM_plain hcall hf hs hfr hr hev
      · cases hev
  by_cases h3 : ∃ x, o = .frz x
  · obtain ⟨y, rfl⟩ := h3
    obtain ⟨x, hx, hy⟩ := frz_inv hc
    simp only [opEv] at hev
    obtain ⟨dst, op, ty, pos, af, gd⟩ := go
    simp only at hx
    have := frz_post hs (compX_rv he hy) hev
    rcases hx with rfl | rfl
    · exact .of_run (c := a.eval x) (w' := w) (by simp [execOp]) this
    · exact .of_run (c := a.eval x) (w' := w) (by simp [execOp]) this
  exact (w_does hs he hc (by simpa using hq) (fun md g l e => h1 ⟨md, g, l, e⟩) (fun md f l e => h2 ⟨md, f, l, e⟩) (fun x e => h3 ⟨x, e⟩) hfr hev).does
end
end Rv

/- Regions run in the order of the text. -/
namespace Rv
set_option linter.unusedVariables false
set_option linter.unusedSimpArgs false
open Go (IntKind BinOp UnOp Program Value Operand Oper Code TypeId Func World Addr Obj Act Calls execOp wpOps)
set_option maxRecDepth 10000
variable {tbl : Nat → Option Nat} {P : Program}

theorem Post.trans {ι κ μ : Iota} {I J K : Imm} {h h1 h2 : Heap} {w w1 w2 : World} (p : Post tbl ι I h w κ J h1 w1) (q : Post tbl κ J h1 w1 μ K h2 w2) : Post tbl ι I h w μ K h2 w2 := by
  have hno : ∀ b, b < w.heap.size → (∀ i, ¬ Owned ι h b i) → ∀ i, ¬ Owned κ h1 b i := fun b hb hn i ho => by
    rcases p.own b i ho with h3 | h3
    · exact hn i h3
    · omega
  have hs := p.frm.size
  refine ⟨fun k u hk => ?_, Nat.le_trans p.clk q.clk, Imm.le_trans p.imm q.imm, q.st, ⟨q.frm.os.trans p.frm.os, q.frm.tape.trans p.frm.tape, q.frm.output.trans p.frm.output, Nat.le_trans p.frm.size q.frm.size, fun b hb hn => ?_, fun b hb c elem fr hc => ?_⟩, fun b i ho => ?_, fun b i v hv => ?_⟩
  · have := p.clk
    have := q.clk
    rw [q.iota k u (by omega), p.iota k u (by omega)]
  · rw [q.frm.block b (by omega) (hno b hb hn), p.frm.block b hb hn]
  · obtain ⟨c1, a1, a2, a3⟩ := p.frm.cell b hb c elem fr hc
    obtain ⟨c2, b1, b2, b3⟩ := q.frm.cell b (by omega) c1 elem fr a1
    refine ⟨c2, b1, by omega, fun i hi => ?_⟩
    rw [b3 i (fun ho => by
      rcases p.own b i ho with h3 | h3
      · exact hi h3
      · omega), a3 i hi]
  · rcases q.own b i ho with h3 | h3
    · exact p.own b i h3
    · exact .inr (by omega)
  · rcases q.immnew b i v hv with h3 | h3 | h3
    · exact p.immnew b i v h3
    · exact (p.own b i h3).elim (fun h => .inr (.inl h)) fun h => .inr (.inr h)
    · exact .inr (.inr (by omega))

theorem Post.refl {ι : Iota} {I : Imm} {h : Heap} {w : World} (hs : St tbl ι I h w) : Post tbl ι I h w ι I h w :=
  ⟨fun _ _ _ => rfl, Nat.le_refl _, Imm.le_refl _, hs, frm_refl _ _ _, fun b i ho => .inl ho, fun b i v hv => .inl hv⟩

theorem Post.fresh {ι κ : Iota} {I J : Imm} {h h1 : Heap} {w w1 : World} (p : Post tbl ι I h w κ J h1 w1) (hf : Fresh ι h) : Fresh κ h1 := fun k u hk => by
  have := p.clk
  rw [p.iota k u (.inr hk)]; exact hf k u (by omega)
theorem Post.le {ι κ : Iota} {I J : Imm} {h h1 : Heap} {w w1 : World} (p : Post tbl ι I h w κ J h1 w1) (hf : Fresh ι h) : ι.le κ := le_of_iota p.iota fun k u hk _ => hf k u hk

theorem put_rv {ι : Iota} {I : Imm} {e : Env} {a : Act} (he : RVe tbl ι I e a.tmps) (dst : Option Nat) {v : V} {c : Value} (h : RV tbl ι I v c) : RVe tbl ι I (e.put dst v) (a.put dst c).tmps := by
  cases dst with
  | none => exact he
  | some d =>
    simp only [Env.put, Act.put]
    refine ⟨by simp [he.len], fun i x y hx hy => ?_⟩
    rw [Array.toList_setIfInBounds, List.getElem?_set] at hy
    rw [List.getElem?_set] at hx
    split at hx
    · rename_i hd
      subst hd
      rw [if_pos rfl] at hy
      split at hx
      · split at hy
        · cases hx; cases hy; exact h
        · cases hy
      · cases hx
    · rename_i hd
      rw [if_neg hd] at hy
      exact he.at_ i x y hx hy

theorem put_defers (a : Act) (dst : Option Nat) (c : Value) : (a.put dst c).defers = a.defers := by cases dst <;> rfl

theorem rv_bool {ι : Iota} {I : Imm} {v : V} {b : Bool} (h : RV tbl ι I v (.bool b)) : v = .bool b := by
  cases h with
  | imm h => cases h; rfl

theorem wanted_eq {ι : Iota} {I : Imm} {e : Env} {a : Act} (he : RVe tbl ι I e a.tmps) {ops : Array Oper} {go : Oper} {o : Op}
    (hg : (go.guard = none ∧ o.guard = none) ∨ ∃ j w t, go.guard = some (j, w) ∧ (ops[j]?).bind (·.dst) = some t ∧ o.guard = some (t, w)) :
    Go.Region.wanted go (Go.yielded ops a.tmps) = o.wanted e := by
  rcases hg with ⟨h1, h2⟩ | ⟨j, w, t, h1, h2, h3⟩
  · simp [Go.Region.wanted, Op.wanted, h1, h2]
  · simp only [Go.Region.wanted, Op.wanted, h1, h3]
    have hy : Go.yielded ops a.tmps j = match a.tmps[t]? with | some (.bool b) => some b | _ => none := by
      unfold Go.yielded
      rw [h2]; rfl
    rw [hy]
    cases hx : e[t]? with
    | none =>
      have h4 : a.tmps[t]? = none := by
        rw [← Array.getElem?_toList, List.getElem?_eq_none_iff, he.len]
        exact List.getElem?_eq_none_iff.1 hx
      have h5 : e.at t = V.undef := by simp [Env.at, List.getD_eq_getElem?_getD, hx]
      rw [h4, h5]; rfl
    | some v =>
      obtain ⟨c, hc, hr⟩ := he.get hx
      have h5 : e.at t = v := by simp [Env.at, List.getD_eq_getElem?_getD, hx]
      rw [Array.getElem?_toList] at hc
      rw [hc, h5]
      cases v with
      | bool b =>
        have := hr.of_bool
        subst this
        cases b <;> cases w <;> rfl
      | _ =>
        cases c with
        | bool b => have := rv_bool hr; cases this
        | _ => rfl

theorem compOp_inv {ops : Array Oper} {go : Oper} {o : Op} (h : compOp P tbl ops go = some ⟨o.dst, eraseO o.op, o.guard⟩) :
    go.dst = o.dst ∧ (compO P tbl go = some (eraseO o.op) ∨ o.op = .abort) ∧ ((go.guard = none ∧ o.guard = none) ∨ ∃ j w t, go.guard = some (j, w) ∧ (ops[j]?).bind (·.dst) = some t ∧ o.guard = some (t, w)) := by
  have key : ∀ {g}, (⟨go.dst, (compO P tbl go).getD .abort, g⟩ : Op) = ⟨o.dst, eraseO o.op, o.guard⟩ → go.dst = o.dst ∧ (compO P tbl go = some (eraseO o.op) ∨ o.op = .abort) ∧ g = o.guard := by
    intro g h
    injection h with h1 h2 h3
    refine ⟨h1, ?_, h3⟩
    cases hc : compO P tbl go with
    | some q => rw [hc] at h2; exact .inl (by simp at h2; rw [h2])
    | none =>
      rw [hc] at h2
      simp at h2
      exact .inr (erase_other h2.symm rfl)
  unfold compOp at h
  simp only at h
  split at h
  · rename_i hg
    obtain ⟨h1, h2, h3⟩ := key (Option.some.inj h)
    exact ⟨h1, h2, .inl ⟨hg, h3.symm⟩⟩
  · rename_i j w hg
    split at h
    · rename_i t ht
      obtain ⟨h1, h2, h3⟩ := key (Option.some.inj h)
      exact ⟨h1, h2, .inr ⟨j, w, t, hg, ht, h3.symm⟩⟩
    · cases h

def erOp (o : Op) : Op := ⟨o.dst, eraseO o.op, o.guard⟩

/-- One operation of a region. -/
theorem op_step {call : Call} (hT : TblOK P tbl) (hcall : CallOK P tbl call) {ops : Array Oper} {go : Oper} {o : Op} (hc : compOp P tbl ops go = some (erOp o)) {ι : Iota} {I : Imm} {h h1 : Heap} {w : World} {e e1 : Env} {a : Act}
    (hs : St tbl ι I h w) (hfr : Fresh ι h) (he : RVe tbl ι I e a.tmps) (hev : o.ev call e h = some (e1, h1)) {Q : Go.Exit → Act → World → Prop} {K : Act → World → Prop}
    (hK : ∀ a' w' κ J, Post tbl ι I h w κ J h1 w' → RVe tbl κ J e1 a'.tmps → a'.defers = a.defers → K a' w') :
    if Go.Region.wanted go (Go.yielded ops a.tmps) then go.wp P a w K Q ∨ (go.asks P a w ∧ Go.LetsOut Q) else K (a.put go.dst Go.undef) w := by
  obtain ⟨h1', h2, h3⟩ := compOp_inv hc
  rw [wanted_eq he h3]
  unfold Op.ev at hev
  split at hev
  · rename_i hw
    rw [if_pos hw]
    left
    split at hev
    · rename_i v hh hop
      obtain ⟨rfl, rfl⟩ := some_pair hev
      rcases h2 with h2 | h2
      · refine op_does hT hcall hs hfr he h2 hop K Q ?_
        rintro c w' ⟨κ, J, p, r⟩
        exact hK _ _ κ J p (by rw [h1']; exact put_rv (he.mono fun _ _ x => x.mono (p.le hfr) p.imm) o.dst r) (put_defers _ _ _)
      · rw [h2] at hop; simp [opEv] at hop
    · cases hev
  · rename_i hw
    rw [if_neg hw]
    obtain ⟨rfl, rfl⟩ := some_pair hev
    exact hK _ _ ι I (.refl hs) (by rw [h1']; exact put_rv he o.dst .undef) (put_defers _ _ _)

theorem seq_ops {call : Call} (hT : TblOK P tbl) (hcall : CallOK P tbl call) {ops : Array Oper} {al : List Op} (hm : mapO (compOp P tbl ops) ops.toList = some (al.map erOp)) {Q : Go.Exit → Act → World → Prop} :
    ∀ (rest : List Op) (i : Nat), al.drop i = rest → ∀ (ι : Iota) (I : Imm) (h h' : Heap) (w : World) (e e' : Env) (a : Act), St tbl ι I h w → Fresh ι h → RVe tbl ι I e a.tmps → evOps call rest e h = some (e', h') →
      (∀ a' w' κ J, Post tbl ι I h w κ J h' w' → RVe tbl κ J e' a'.tmps → a'.defers = a.defers → Q .normal a' w') → wpOps P ops Q (List.range' i rest.length) a w := by
  intro rest
  induction rest with
  | nil =>
    intro i _ ι I h h' w e e' a hs hfr he hev hQ
    simp only [evOps] at hev
    obtain ⟨rfl, rfl⟩ := some_pair hev
    simp only [List.length_nil, List.range'_zero, wpOps]
    exact hQ a w ι I (.refl hs) he rfl
  | cons o os ih =>
    intro i hd ι I h h' w e e' a hs hfr he hev hQ
    have ho : al[i]? = some o := by
      have := congrArg (fun l => l[0]?) hd
      simpa using this
    have hd' : al.drop (i + 1) = os := by
      have := congrArg List.tail hd
      simpa using this
    obtain ⟨hl, hmm⟩ := mapO_spec hm
    have hgo : ∃ go, ops[i]? = some go ∧ compOp P tbl ops go = some (erOp o) := by
      have hlt : i < ops.toList.length := by
        rw [← hl, List.length_map]; exact (List.getElem?_eq_some_iff.1 ho).1
      obtain ⟨y, hy, hf⟩ := hmm i ops.toList[i] (by rw [List.getElem?_eq_getElem hlt])
      rw [List.getElem?_map, ho] at hy
      cases hy
      exact ⟨_, by rw [← Array.getElem?_toList, List.getElem?_eq_getElem hlt], hf⟩
    obtain ⟨go, hg, hc⟩ := hgo
    simp only [List.length_cons, List.range'_succ, wpOps, hg]
    simp only [evOps] at hev
    split at hev
    · rename_i e1 h1 hop
      refine op_step hT hcall hc hs hfr he hop fun a1 w1 κ J p r hdf => ?_
      refine ih (i + 1) hd' κ J h1 h' w1 e1 e' a1 p.st (p.fresh hfr) r hev fun a2 w2 μ K q r2 hdf2 => ?_
      exact hQ a2 w2 μ K (p.trans q) r2 (hdf2.trans hdf)
    · cases hev
end Rv

/- What an operation looks at, and what it leaves alone. -/
namespace Rv
set_option linter.unusedVariables false
set_option linter.unusedSimpArgs false
open Go (IntKind BinOp UnOp Program Value Operand Oper Code TypeId Func World Addr Obj Act Calls execOp wpOps)
set_option maxRecDepth 10000

def X.looks : X → List Nat
  | .t n => [n]
  | .c _ => []
def Xs (l : List X) : List Nat := l.flatMap X.looks
def Xo (l : Option X) : List Nat := match l with | some x => x.looks | none => []

def O.looks : O → List Nat
  | .move x | .frz x | .box x | .load _ _ x | .nilCheck x | .un _ x | .toInt _ x | .fieldAddr _ x | .field _ _ x | .extract _ x | .len x | .lenS x | .cap x => x.looks
  | .pick c a b => c.looks ++ a.looks ++ b.looks
  | .alloc _ | .abort => []
  | .build _ ps => Xs (ps.map fun p => p.2.2)
  | .buildSlice _ _ _ ps => Xs (ps.map fun p => p.2.2)
  | .store _ x y | .bin _ _ x y | .makeSlice _ _ _ x y | .indexAddr _ _ x y | .indexA _ _ _ x y | .indexS x y | .append _ _ x y | .appendZ _ _ _ x y | .copy _ x y | .max2 x y | .min2 x y => x.looks ++ y.looks
  | .mkfn _ fs cs => Xs fs ++ Xs cs
  | .slice _ x lo hi | .sliceS x lo hi => x.looks ++ Xo lo ++ Xo hi
  | .callf _ _ l => Xs l
  | .callv _ f l => f.looks ++ Xs l
def Op.looks (o : Op) : List Nat := o.op.looks ++ (match o.guard with | some (t, _) => [t] | none => [])

theorem X.ev_congr {e e' : Env} {x : X} (h : ∀ t ∈ x.looks, e.at t = e'.at t) : x.ev e = x.ev e' := by
  cases x with
  | t n => exact h n (by simp [X.looks])
  | c v => rfl
theorem Xs_congr {e e' : Env} {l : List X} (h : ∀ t ∈ Xs l, e.at t = e'.at t) : l.map (X.ev e) = l.map (X.ev e') :=
  List.map_congr_left fun x hx => X.ev_congr fun t ht => h t (List.mem_flatMap.2 ⟨x, hx, ht⟩)
theorem Xo_congr {e e' : Env} {l : Option X} (h : ∀ t ∈ Xo l, e.at t = e'.at t) : l.map (X.ev e) = l.map (X.ev e') := by
  cases l with
  | none => rfl
  | some x => simp only [Option.map_some]; rw [X.ev_congr h]
theorem fillV_congr {e e' : Env} : ∀ {ps : List (Nat × Nat × X)} {cs : List V}, (∀ t ∈ Xs (ps.map fun p => p.2.2), e.at t = e'.at t) → fillV e ps cs = fillV e' ps cs := by
  intro ps
  induction ps with
  | nil => intro cs _; rfl
  | cons p ps ih =>
    intro cs h
    obtain ⟨off, size, x⟩ := p
    have hx : x.ev e = x.ev e' := X.ev_congr fun t ht => h t (by simp only [Xs, List.map_cons, List.flatMap_cons]; exact List.mem_append_left _ ht)
    simp only [fillV, hx]
    split
    · exact ih fun t ht => h t (by simp only [Xs, List.map_cons, List.flatMap_cons] at ht ⊢; exact List.mem_append_right _ ht)
    · rfl

theorem opEv_congr {call : Call} {o : O} {e e' : Env} {h : Heap} (hl : ∀ t ∈ o.looks, e.at t = e'.at t) : opEv call o e h = opEv call o e' h := by
  cases o <;> simp only [O.looks, List.mem_append] at hl
  case move x => simp only [opEv, X.ev_congr hl]
  case frz x => simp only [opEv, X.ev_congr hl]
  case box x => simp only [opEv, X.ev_congr hl]
  case load b n x => simp only [opEv, X.ev_congr hl]
  case nilCheck x => simp only [opEv, X.ev_congr hl]
  case un op x => simp only [opEv, X.ev_congr hl]
  case toInt k x => simp only [opEv, X.ev_congr hl]
  case fieldAddr f x => simp only [opEv, X.ev_congr hl]
  case field f n x => simp only [opEv, X.ev_congr hl]
  case extract i x => simp only [opEv, X.ev_congr hl]
  case len x => simp only [opEv, X.ev_congr hl]
  case lenS x => simp only [opEv, X.ev_congr hl]
  case cap x => simp only [opEv, X.ev_congr hl]
  case pick c a b => simp only [opEv, X.ev_congr (x := c) (fun t ht => hl t (.inl (.inl ht))), X.ev_congr (x := a) (fun t ht => hl t (.inl (.inr ht))), X.ev_congr (x := b) (fun t ht => hl t (.inr ht))]
  case alloc cs => rfl
  case abort => rfl
  case build z ps => simp only [opEv, fillV_congr hl]
  case buildSlice a b z ps => simp only [opEv, fillV_congr hl]
  case store n x y => simp only [opEv, X.ev_congr (x := x) (fun t ht => hl t (.inl ht)), X.ev_congr (x := y) (fun t ht => hl t (.inr ht))]
  case bin k op x y => simp only [opEv, X.ev_congr (x := x) (fun t ht => hl t (.inl ht)), X.ev_congr (x := y) (fun t ht => hl t (.inr ht))]
  case makeSlice s b z x y => simp only [opEv, X.ev_congr (x := x) (fun t ht => hl t (.inl ht)), X.ev_congr (x := y) (fun t ht => hl t (.inr ht))]
  case indexAddr s b x y => simp only [opEv, X.ev_congr (x := x) (fun t ht => hl t (.inl ht)), X.ev_congr (x := y) (fun t ht => hl t (.inr ht))]
  case indexA s b n x y => simp only [opEv, X.ev_congr (x := x) (fun t ht => hl t (.inl ht)), X.ev_congr (x := y) (fun t ht => hl t (.inr ht))]
  case indexS x y => simp only [opEv, X.ev_congr (x := x) (fun t ht => hl t (.inl ht)), X.ev_congr (x := y) (fun t ht => hl t (.inr ht))]
  case append s b x y => simp only [opEv, X.ev_congr (x := x) (fun t ht => hl t (.inl ht)), X.ev_congr (x := y) (fun t ht => hl t (.inr ht))]
  case appendZ s b z x y => simp only [opEv, X.ev_congr (x := x) (fun t ht => hl t (.inl ht)), X.ev_congr (x := y) (fun t ht => hl t (.inr ht))]
  case copy s x y => simp only [opEv, X.ev_congr (x := x) (fun t ht => hl t (.inl ht)), X.ev_congr (x := y) (fun t ht => hl t (.inr ht))]
  case max2 x y => simp only [opEv, X.ev_congr (x := x) (fun t ht => hl t (.inl ht)), X.ev_congr (x := y) (fun t ht => hl t (.inr ht))]
  case min2 x y => simp only [opEv, X.ev_congr (x := x) (fun t ht => hl t (.inl ht)), X.ev_congr (x := y) (fun t ht => hl t (.inr ht))]
  case mkfn g fs cs => simp only [opEv, Xs_congr (l := fs) (fun t ht => hl t (.inl ht)), Xs_congr (l := cs) (fun t ht => hl t (.inr ht))]
  case slice s x lo hi => simp only [opEv, X.ev_congr (x := x) (fun t ht => hl t (.inl (.inl ht))), Xo_congr (l := lo) (fun t ht => hl t (.inl (.inr ht))), Xo_congr (l := hi) (fun t ht => hl t (.inr ht))]
  case sliceS x lo hi => simp only [opEv, X.ev_congr (x := x) (fun t ht => hl t (.inl (.inl ht))), Xo_congr (l := lo) (fun t ht => hl t (.inl (.inr ht))), Xo_congr (l := hi) (fun t ht => hl t (.inr ht))]
  case callf md g l => simp only [opEv, Xs_congr hl]
  case callv md f l => simp only [opEv, X.ev_congr (x := f) (fun t ht => hl t (.inl ht)), Xs_congr (l := l) (fun t ht => hl t (.inr ht))]

/-- Operations that look at no row. -/
def O.free : O → Bool
  | .move _ | .pick .. | .build .. | .load true _ _ | .nilCheck _ | .bin .. | .un .. | .toInt .. | .mkfn .. | .slice .. | .sliceS .. | .fieldAddr .. | .field .. | .indexAddr .. | .indexA .. | .indexS .. | .extract .. | .len _ | .lenS _ | .cap _ | .max2 .. | .min2 .. | .abort => true
  | _ => false

theorem free_heap {call : Call} {o : O} {e : Env} {h h' : Heap} {v : V} (hf : o.free = true) (hev : opEv call o e h = some (v, h')) : h' = h ∧ ∀ g, opEv call o e g = some (v, g) := by
  cases o
  case load b n x =>
    cases b with
    | false => simp [O.free] at hf
    | true =>
      simp only [opEv] at hev ⊢
      repeat' split at hev
      all_goals first
        | (cases hev; done)
        | exact absurd trivial (by assumption)
        | (obtain ⟨rfl, rfl⟩ := some_pair hev; refine ⟨rfl, fun g => ?_⟩; simp [*]; done)
  all_goals first
    | (simp [O.free] at hf; done)
    | skip
  all_goals
    simp only [opEv] at hev ⊢
    repeat' split at hev
    all_goals first
      | (cases hev; done)
      | (obtain ⟨rfl, rfl⟩ := some_pair hev; refine ⟨rfl, fun g => ?_⟩; simp [*]; done)

theorem free_quiet {o : O} (hf : o.free = true) : o.quiet = true := by
  cases o <;> first | rfl | (simp [O.free] at hf; done)

/-- What follows only adds rows. -/
structure More (h h' : Heap) : Prop where
  ents : ∃ n, h'.ents = h.ents ++ n ∧ ∀ e ∈ n, h.clk ≤ e.1 ∧ e.1 < h'.clk
  clk : h.clk ≤ h'.clk

theorem More.refl (h : Heap) : More h h := ⟨⟨[], by simp, fun e he => by simp at he⟩, Nat.le_refl _⟩
theorem More.trans {a b c : Heap} (h : More a b) (k : More b c) : More a c := by
  obtain ⟨⟨n, h1, h2⟩, h3⟩ := h
  obtain ⟨⟨m, k1, k2⟩, k3⟩ := k
  refine ⟨⟨n ++ m, by rw [k1, h1, List.append_assoc], fun e he => ?_⟩, Nat.le_trans h3 k3⟩
  rcases List.mem_append.1 he with he | he
  · have := h2 e he; omega
  · have := k2 e he; omega
theorem More.push (h : Heap) (cs : List V) : More h (h.push cs) := ⟨⟨_, rfl, fun e he => by simp at he; subst he; simp [Heap.push]⟩, by simp [Heap.push]⟩

theorem thaw_more : ∀ (f : Nat) (ss : List Nat) (v : V) (h : Heap) (r : V) (h' : Heap), thaw f ss v h = some (r, h') → More h h' := by
  intro f
  induction f with
  | zero => intro ss v h r h' hh; simp [thaw] at hh
  | succ f ih =>
    intro ss v h r h' hh
    have hl : ∀ {ss : List Nat} {xs : List V} {h ds h'}, mapS (thaw f ss) xs h = some (ds, h') → More h h' := by
      intro ss xs
      induction xs with
      | nil => intro h ds h' hm; simp only [mapS] at hm; obtain ⟨_, rfl⟩ := some_pair hm; exact .refl _
      | cons x xs ihx =>
        intro h ds h' hm
        simp only [mapS] at hm
        split at hm
        · rename_i y s1 hy
          split at hm
          · rename_i ys s2 hys
            obtain ⟨_, rfl⟩ := some_pair hm
            exact (ih _ _ _ _ _ hy).trans (ihx hys)
          · cases hm
        · cases hm
    cases ss with
    | nil => simp only [thaw] at hh; obtain ⟨_, rfl⟩ := some_pair hh; exact .refl _
    | cons s ss =>
      cases v with
      | isl xs =>
        simp only [thaw] at hh
        split at hh
        · rename_i ds h2 hm
          obtain ⟨_, rfl⟩ := some_pair hh
          exact (hl hm).trans (.push _ _)
        · cases hh
      | agg cs =>
        simp only [thaw] at hh
        split at hh
        · rename_i ds h2 hm
          obtain ⟨_, rfl⟩ := some_pair hh
          exact hl hm
        · cases hh
      | tup cs =>
        simp only [thaw] at hh
        split at hh
        · rename_i ds h2 hm
          obtain ⟨_, rfl⟩ := some_pair hh
          exact hl hm
        · cases hh
      | _ => simp only [thaw] at hh; obtain ⟨_, rfl⟩ := some_pair hh; exact .refl _

theorem callM_more {call : Call} {ds : List Nat} {g : Nat} {args : List V} {h h' : Heap} {v : V} (hev : callM call (.pure ds) g args h = some (v, h')) : More h h' := by
  simp only [callM] at hev
  split at hev
  · cases hev
  · split at hev
    · cases hev
    · cases ds with
      | nil =>
        simp only at hev
        split at hev
        · split at hev
          · obtain ⟨_, rfl⟩ := some_pair hev; exact .refl _
          · cases hev
        · cases hev
      | cons s ss =>
        simp only at hev
        split at hev
        · split at hev
          · exact thaw_more _ _ _ _ _ _ hev
          · cases hev
        · cases hev

theorem quiet_more {call : Call} {o : O} {e : Env} {h h' : Heap} {v : V} (hq : o.quiet = true) (hev : opEv call o e h = some (v, h')) : More h h' := by
  by_cases hf : o.free = true
  · rw [(free_heap hf hev).1]; exact .refl _
  cases o
  case callf md g l =>
    cases md with
    | plain => simp [O.quiet] at hq
    | pure ds => simp only [opEv] at hev; exact callM_more hev
  case callv md f l =>
    cases md with
    | plain => simp [O.quiet] at hq
    | pure ds =>
      simp only [opEv] at hev
      split at hev
      · exact callM_more hev
      · cases hev
  all_goals first
    | (simp [O.free] at hf; done)
    | (simp [O.quiet] at hq; done)
    | skip
  all_goals
    simp only [opEv] at hev
    repeat' split at hev
    all_goals first
      | (cases hev; done)
      | (obtain ⟨_, rfl⟩ := some_pair hev; first | exact .refl _ | exact .push _ _)
end Rv

/- Regions whose order is drawn. -/
namespace Rv
set_option linter.unusedVariables false
set_option linter.unusedSimpArgs false
open Go (IntKind BinOp UnOp Program Value Operand Oper Code TypeId Func World Addr Obj Act Calls execOp wpOps wpOp wpAny)
set_option maxRecDepth 10000
variable {tbl : Nat → Option Nat} {P : Program}

def ancTab : List (List Nat) → List (List Nat) → List (List Nat)
  | [], acc => acc
  | a :: as, acc => ancTab as (acc ++ [(a ++ a.flatMap fun k => acc.getD k []).eraseDups])

def apartOf (x y : Op) : Bool := match x.dst with | some d => !(y.looks.contains d) | none => true
def dstNe (x y : Op) : Bool := match x.dst, y.dst with | some a, some b => a != b | _, _ => true
def pairOk (x y : Op) (cmp : Bool) : Bool :=
  dstNe x y && (cmp || (apartOf x y && apartOf y x && (x.op.quiet || y.op.free) && (y.op.quiet || x.op.free)))

def drawOk (al : List Op) (af : List (List Nat)) : Bool :=
  let tab := ancTab af []
  af.length == al.length && (List.range al.length).all fun j =>
    (af.getD j []).all (fun k => decide (k < j)) && (tab.getD j []).all (fun i => (af.getD j []).contains i || (af.getD j []).any fun k => (tab.getD k []).contains i) &&
    (List.range j).all fun i => pairOk (al.getD i default) (al.getD j default) ((tab.getD j []).contains i)

structure Drawn (al : List Op) (af : List (List Nat)) (pre : Nat → Nat → Prop) : Prop where
  down : ∀ i j, j < al.length → pre i j → i ∈ af.getD j [] ∨ ∃ k ∈ af.getD j [], pre i k
  lt : ∀ j k, j < al.length → k ∈ af.getD j [] → k < j
  dst : ∀ (i j : Nat) (x y : Op) (d : Nat), al[i]? = some x → al[j]? = some y → i ≠ j → x.dst = some d → y.dst ≠ some d
  apart : ∀ (i j : Nat) (x y : Op), i < j → al[i]? = some x → al[j]? = some y → ¬ pre i j → (∀ d, x.dst = some d → d ∉ y.looks) ∧ ∀ d, y.dst = some d → d ∉ x.looks
  w : ∀ (i j : Nat) (x y : Op), i < j → al[i]? = some x → al[j]? = some y → ¬ pre i j → (x.op.quiet = false → y.op.free = true) ∧ (y.op.quiet = false → x.op.free = true)

theorem apartOf_spec {x y : Op} (h : apartOf x y = true) : ∀ d, x.dst = some d → d ∉ y.looks := by
  intro d hd
  simp [apartOf, hd] at h
  exact h

theorem drawOk_spec {al : List Op} {af : List (List Nat)} (h : drawOk al af = true) : ∃ pre, Drawn al af pre := by
  unfold drawOk at h
  simp only [Bool.and_eq_true, List.all_eq_true, List.mem_range, beq_iff_eq, decide_eq_true_eq] at h
  obtain ⟨_, h⟩ := h
  have get : ∀ i x, al[i]? = some x → al.getD i default = x ∧ i < al.length := fun i x hx => ⟨by simp [List.getD_eq_getElem?_getD, hx], (List.getElem?_eq_some_iff.1 hx).1⟩
  refine ⟨fun i j => i ∈ (ancTab af []).getD j [], fun i j hj hp => ?_, fun j k hj hk => (h j hj).1.1 k hk, fun i j x y d hx hy hne hd => ?_, fun i j x y hlt hx hy hp => ?_, fun i j x y hlt hx hy hp => ?_⟩
  · have := (h j hj).1.2 i hp
    rcases Bool.or_eq_true _ _ ▸ this with h1 | h1
    · exact .inl (by simpa using h1)
    · obtain ⟨k, hk, hc⟩ := List.any_eq_true.1 h1
      exact .inr ⟨k, hk, by simpa using hc⟩
  · obtain ⟨e1, l1⟩ := get i x hx
    obtain ⟨e2, l2⟩ := get j y hy
    rcases Nat.lt_or_gt_of_ne hne with hlt | hlt
    · have := (h j l2).2 i hlt
      rw [e1, e2] at this
      simp only [pairOk, Bool.and_eq_true] at this
      intro hy'
      have := this.1
      simp [dstNe, hd, hy'] at this
    · have := (h i l1).2 j hlt
      rw [e1, e2] at this
      simp only [pairOk, Bool.and_eq_true] at this
      intro hy'
      have := this.1
      simp [dstNe, hd, hy'] at this
  · obtain ⟨e1, l1⟩ := get i x hx
    obtain ⟨e2, l2⟩ := get j y hy
    have := (h j l2).2 i hlt
    rw [e1, e2] at this
    have hc : ((ancTab af []).getD j []).contains i = false := by
      cases hc : ((ancTab af []).getD j []).contains i with
      | false => rfl
      | true => exact absurd (by simpa using hc) hp
    rw [hc] at this
    simp only [pairOk, Bool.and_eq_true, Bool.or_eq_true, Bool.false_eq_true, false_or] at this
    exact ⟨apartOf_spec this.2.1.1.1, apartOf_spec this.2.1.1.2⟩
  · obtain ⟨e1, l1⟩ := get i x hx
    obtain ⟨e2, l2⟩ := get j y hy
    have := (h j l2).2 i hlt
    rw [e1, e2] at this
    have hc : ((ancTab af []).getD j []).contains i = false := by
      cases hc : ((ancTab af []).getD j []).contains i with
      | false => rfl
      | true => exact absurd (by simpa using hc) hp
    rw [hc] at this
    simp only [pairOk, Bool.and_eq_true, Bool.or_eq_true, Bool.false_eq_true, false_or] at this
    exact ⟨fun hq => this.2.1.2.resolve_left (by simp [hq]), fun hq => this.2.2.resolve_left (by simp [hq])⟩

/-- What comes before something that is listed is listed. -/
theorem Drawn.closed {al : List Op} {af : List (List Nat)} {pre : Nat → Nat → Prop} (D : Drawn al af pre) {S : Nat → Prop} (hS : ∀ j, S j → ∀ k ∈ af.getD j [], S k) (i : Nat) : ∀ j, j < al.length → (∀ k ∈ af.getD j [], S k) → pre i j → S i := by
  intro j
  induction j using Nat.strongRecOn with
  | _ j ih =>
    intro hj ha hp
    rcases D.down i j hj hp with h1 | ⟨k, hk, h1⟩
    · exact ha i h1
    · have hlt := D.lt j k hj hk
      exact ih k hlt (by omega) (hS k (ha k hk)) h1

theorem evOps_states {call : Call} : ∀ (al : List Op) (e : Env) (h : Heap) (e' : Env) (h' : Heap), evOps call al e h = some (e', h') →
    ∃ (E : Nat → Env) (H : Nat → Heap), E 0 = e ∧ H 0 = h ∧ E al.length = e' ∧ H al.length = h' ∧ ∀ i o, al[i]? = some o → o.ev call (E i) (H i) = some (E (i + 1), H (i + 1)) := by
  intro al
  induction al with
  | nil =>
    intro e h e' h' hev
    simp only [evOps] at hev
    obtain ⟨rfl, rfl⟩ := some_pair hev
    exact ⟨fun _ => e', fun _ => h', rfl, rfl, rfl, rfl, fun i o hi => by simp at hi⟩
  | cons o os ih =>
    intro e h e' h' hev
    simp only [evOps] at hev
    split at hev
    · rename_i e1 h1 ho
      obtain ⟨E, H, hE, hH, hE', hH', hst⟩ := ih e1 h1 e' h' hev
      refine ⟨fun | 0 => e | i + 1 => E i, fun | 0 => h | i + 1 => H i, rfl, rfl, hE', hH', fun i x hx => ?_⟩
      cases i with
      | zero =>
        simp at hx
        subst hx
        simp only [hE, hH]
        exact ho
      | succ i =>
        simp at hx
        exact hst i x hx
    · cases hev

theorem at_put (e : Env) (dst : Option Nat) (v : V) (t : Nat) : (e.put dst v).at t = if dst = some t ∧ t < e.length then v else e.at t := by
  cases dst with
  | none => simp [Env.put]
  | some d =>
    simp only [Env.put, Env.at, List.getD_eq_getElem?_getD, List.getElem?_set, Option.some.injEq]
    by_cases hd : d = t
    · subst hd
      by_cases hl : d < e.length
      · simp [hl]
      · simp [hl]
    · simp [hd]
theorem len_put (e : Env) (dst : Option Nat) (v : V) : (e.put dst v).length = e.length := by cases dst <;> simp [Env.put]

theorem opev_put {call : Call} {o : Op} {e e1 : Env} {h h1 : Heap} (hev : o.ev call e h = some (e1, h1)) : ∃ v, e1 = e.put o.dst v ∧ ((o.wanted e = true ∧ opEv call o.op e h = some (v, h1)) ∨ (o.wanted e = false ∧ h1 = h ∧ v = V.undef)) := by
  unfold Op.ev at hev
  split at hev
  · rename_i hw
    split at hev
    · rename_i v h2 ho
      obtain ⟨rfl, rfl⟩ := some_pair hev
      exact ⟨v, rfl, .inl ⟨hw, ho⟩⟩
    · cases hev
  · rename_i hw
    obtain ⟨rfl, rfl⟩ := some_pair hev
    exact ⟨V.undef, rfl, .inr ⟨by simpa using hw, rfl, rfl⟩⟩

theorem env_ext {e e' : Env} (hl : e.length = e'.length) (h : ∀ t, e.at t = e'.at t) : e = e' := by
  apply List.ext_getElem? 
  intro i
  have := h i
  simp only [Env.at, List.getD_eq_getElem?_getD] at this
  rcases Nat.lt_or_ge i e.length with hi | hi
  · rw [List.getElem?_eq_getElem hi, List.getElem?_eq_getElem (by omega)] at this ⊢
    simpa using this
  · rw [List.getElem?_eq_none hi, List.getElem?_eq_none (by omega)]

/-! ### More rows -/

theorem More.get {h h' : Heap} (m : More h h') {k : Nat} {x : Nat × Option (List V)} (hx : h.ents[k]? = some x) : h'.ents[k]? = some x := by
  obtain ⟨⟨n, h1, _⟩, _⟩ := m
  rw [h1, List.getElem?_append_left (List.getElem?_eq_some_iff.1 hx).1]
  exact hx
theorem More.split {h h' : Heap} (m : More h h') {k : Nat} {x : Nat × Option (List V)} (hx : h'.ents[k]? = some x) : h.ents[k]? = some x ∨ (h.clk ≤ x.1 ∧ x.1 < h'.clk ∧ h.ents.length ≤ k) := by
  obtain ⟨⟨n, h1, h2⟩, _⟩ := m
  rw [h1] at hx
  rcases Nat.lt_or_ge k h.ents.length with hk | hk
  · rw [List.getElem?_append_left hk] at hx; exact .inl hx
  · rw [List.getElem?_append_right hk] at hx
    have := h2 x (List.mem_of_getElem? hx)
    exact .inr ⟨this.1, this.2, hk⟩

theorem St.less {ι : Iota} {I : Imm} {h h' : Heap} {w : World} (m : More h h') (hs : St tbl ι I h' w) : St tbl ι I h w := by
  refine ⟨fun k u cs l a b => hs.ent k u cs l (m.get a) b, fun k u cs l k' u' cs' l' a b c d => hs.sep k u cs l k' u' cs' l' (m.get a) b (m.get c) d, hs.imm, fun b o v hv ho => hs.immsep b o v hv ?_⟩
  obtain ⟨k, u, cs, l, a, r⟩ := ho
  exact ⟨k, u, cs, l, m.get a, r⟩

theorem more_ent {ι : Iota} {h h' : Heap} (m : More h h') (hf : Fresh ι h) {k u : Nat} {cs : List V} {l : Loc} (a : h'.ents[k]? = some (u, some cs)) (b : ι k u = some l) : h.ents[k]? = some (u, some cs) := by
  rcases m.split a with h1 | ⟨h1, _⟩
  · exact h1
  · rw [hf k u h1] at b; cases b

theorem more_owned {ι : Iota} {h h' : Heap} (m : More h h') (hf : Fresh ι h) {b i : Nat} (ho : Owned ι h' b i) : Owned ι h b i := by
  obtain ⟨k, u, cs, l, a, b', r⟩ := ho
  exact ⟨k, u, cs, l, more_ent m hf a b', b', r⟩

theorem St.more {ι : Iota} {I : Imm} {h h' : Heap} {w : World} (m : More h h') (hf : Fresh ι h) (hs : St tbl ι I h w) : St tbl ι I h' w :=
  ⟨fun k u cs l a b => hs.ent k u cs l (more_ent m hf a b) b, fun k u cs l k' u' cs' l' a b c d => hs.sep k u cs l k' u' cs' l' (more_ent m hf a b) b (more_ent m hf c d) d, hs.imm, fun b o v hv ho => hs.immsep b o v hv (more_owned m hf ho)⟩

theorem Post.more {ι κ : Iota} {I J : Imm} {h h1 h2 : Heap} {w w1 : World} (p : Post tbl ι I h w κ J h1 w1) (m : More h1 h2) (hf : Fresh κ h1) : Post tbl ι I h w κ J h2 w1 :=
  ⟨fun k u hk => p.iota k u (by have := m.clk; omega), Nat.le_trans p.clk m.clk, p.imm, p.st.more m hf, p.frm, fun b i ho => p.own b i (more_owned m hf ho), p.immnew⟩

/-- A quiet step done out of turn. -/
theorem Post.quiet {ι0 ι κ : Iota} {I0 I J : Imm} {h0 hj hj1 hm : Heap} {w0 w w' : World} (p : Post tbl ι0 I0 h0 w0 ι I hm w) (q : QPost tbl ι I hj w κ J hj1 w') (m1 : More hj1 hm) (hclk : h0.clk ≤ hj.clk)
    (hole : ∀ k u, hj.clk ≤ u → u < hj1.clk → ι k u = none) : Post tbl ι0 I0 h0 w0 κ J hm w' := by
  have hle : ι.le κ := le_of_iota q.iota hole
  have m0 : More hj hj1 := ⟨q.ents, q.clk⟩
  have hm1 := m1.clk
  -- an entry of the whole memory
  have hcase : ∀ k u cs l, hm.ents[k]? = some (u, some cs) → κ k u = some l → hj1.ents[k]? = some (u, some cs) ∨ ι k u = some l := by
    intro k u cs l a b
    rcases m1.split a with h1 | ⟨h1, _, _⟩
    · exact .inl h1
    · right
      rw [q.iota k u (.inr h1)] at b
      exact b
  have hold : ∀ k u cs l, hm.ents[k]? = some (u, some cs) → ι k u = some l → Lies tbl κ J w' cs l ∧ l.b < w.heap.size := by
    intro k u cs l a b
    have h1 := p.st.ent k u cs l a b
    exact ⟨h1.mono hle q.imm (q.below.block _ h1.size), h1.size⟩
  have hloc : ∀ k u cs l, hm.ents[k]? = some (u, some cs) → κ k u = some l → ι k u = some l ∨ w.heap.size ≤ l.b ∨ l.ext = 0 := fun k u cs l _ b => q.locs k u l b
  have hown : ∀ b i, Owned κ hm b i → Owned ι hm b i ∨ w.heap.size ≤ b := by
    rintro b i ⟨k, u, cs, l, a, b', r1, r2, r3⟩
    rcases hloc k u cs l a b' with h1 | h1 | h1
    · exact .inl ⟨k, u, cs, l, a, h1, r1, r2, r3⟩
    · right; omega
    · omega
  have hsz := p.frm.size
  refine ⟨fun k u hk => ?_, p.clk, Imm.le_trans p.imm q.imm, ⟨fun k u cs l a b => ?_, fun k u cs l k' u' cs' l' a b c d hne b0 i x1 x2 x3 y1 y2 y3 => ?_, q.st.imm, fun b o v hv ho => ?_⟩, ⟨q.below.os.trans p.frm.os, q.below.tape.trans p.frm.tape, q.below.output.trans p.frm.output, Nat.le_trans p.frm.size q.below.size, fun b hb hn => ?_, fun b hb c elem fr hc => ?_⟩, fun b i ho => ?_, fun b i v hv => ?_⟩
  · rw [q.iota k u (by have := q.clk; omega)]
    exact p.iota k u hk
  · rcases hcase k u cs l a b with h1 | h1
    · exact q.st.ent k u cs l h1 b
    · exact (hold k u cs l a h1).1
  · rcases hcase k u cs l a b with h1 | h1 <;> rcases hcase k' u' cs' l' c d with h2 | h2
    · exact q.st.sep k u cs l k' u' cs' l' h1 b h2 d hne b0 i x1 x2 x3 y1 y2 y3
    · have h3 := (hold k' u' cs' l' c h2).2
      rcases hloc k u cs l a b with h4 | h4 | h4
      · exact p.st.sep k u cs l k' u' cs' l' a h4 c h2 hne b0 i x1 x2 x3 y1 y2 y3
      · omega
      · omega
    · have h3 := (hold k u cs l a h1).2
      rcases hloc k' u' cs' l' c d with h4 | h4 | h4
      · exact p.st.sep k u cs l k' u' cs' l' a h1 c h4 hne b0 i x1 x2 x3 y1 y2 y3
      · omega
      · omega
    · exact p.st.sep k u cs l k' u' cs' l' a h1 c h2 hne b0 i x1 x2 x3 y1 y2 y3
  · rcases q.immnew b o v hv with h1 | h1
    · rcases hown b o ho with h2 | h2
      · exact p.st.immsep b o v h1 h2
      · have := World.block_lt_of_cell? w _ (p.st.imm b o v h1)
        simp only at this
        omega
    · -- a new immutable cell lies in no row
      obtain ⟨k, u, cs, l, a, b', r1, r2, r3⟩ := ho
      rcases hcase k u cs l a b' with h3 | h3
      · exact q.st.immsep b o v hv ⟨k, u, cs, l, h3, b', r1, r2, r3⟩
      · have := (hold k u cs l a h3).2
        omega
  · rw [q.below.block b (by omega), p.frm.block b hb hn]
  · obtain ⟨c', a1, a2, a3⟩ := p.frm.cell b hb c elem fr hc
    exact ⟨c', by rw [q.below.block b (by omega)]; exact a1, a2, a3⟩
  · rcases hown b i ho with h1 | h1
    · exact p.own b i h1
    · exact .inr (by omega)
  · rcases q.immnew b i v hv with h1 | h1
    · exact p.immnew b i v h1
    · exact .inr (.inr (by omega))
end Rv

/- A region in whatever order is drawn comes to what the text's order comes to. -/
namespace Rv
set_option linter.unusedVariables false
set_option linter.unusedSimpArgs false
open Go (IntKind BinOp UnOp Program Value Operand Oper Code TypeId Func World Addr Obj Act Calls execOp wpOps wpOp wpAny)
set_option maxRecDepth 10000
variable {tbl : Nat → Option Nat} {P : Program}

section
variable {call : Call} {al : List Op} {af : List (List Nat)} {pre : Nat → Nat → Prop} {E : Nat → Env} {H : Nat → Heap}

theorem E_at (hst : ∀ i o, al[i]? = some o → o.ev call (E i) (H i) = some (E (i + 1), H (i + 1))) {t : Nat} : ∀ (n i : Nat), i + n ≤ al.length → (∀ k o, i ≤ k → k < i + n → al[k]? = some o → o.dst ≠ some t) → (E (i + n)).at t = (E i).at t := by
  intro n
  induction n with
  | zero => intro i _ _; rfl
  | succ n ih =>
    intro i hl hn
    have hlt : i + n < al.length := by omega
    have ho : al[i + n]? = some al[i + n] := List.getElem?_eq_getElem hlt
    obtain ⟨v, hv, _⟩ := opev_put (hst _ _ ho)
    rw [show i + (n + 1) = i + n + 1 from rfl, hv, at_put, if_neg (fun h => hn _ _ (by omega) (by omega) ho h.1)]
    exact ih i (by omega) fun k o h1 h2 => hn k o h1 (by omega)

theorem E_len (hst : ∀ i o, al[i]? = some o → o.ev call (E i) (H i) = some (E (i + 1), H (i + 1))) : ∀ i, i ≤ al.length → (E i).length = (E 0).length := by
  intro i
  induction i with
  | zero => intro _; rfl
  | succ i ih =>
    intro hl
    have hlt : i < al.length := by omega
    obtain ⟨v, hv, _⟩ := opev_put (hst _ _ (List.getElem?_eq_getElem hlt))
    rw [hv, len_put]
    exact ih (by omega)

theorem H_more (hst : ∀ i o, al[i]? = some o → o.ev call (E i) (H i) = some (E (i + 1), H (i + 1))) : ∀ (n i : Nat), i + n ≤ al.length → (∀ k o, i ≤ k → k < i + n → al[k]? = some o → o.op.quiet = true) → More (H i) (H (i + n)) := by
  intro n
  induction n with
  | zero => intro i _ _; exact .refl _
  | succ n ih =>
    intro i hl hn
    have hlt : i + n < al.length := by omega
    have ho : al[i + n]? = some al[i + n] := List.getElem?_eq_getElem hlt
    obtain ⟨v, _, hv⟩ := opev_put (hst _ _ ho)
    refine (ih i (by omega) fun k o h1 h2 => hn k o h1 (by omega)).trans ?_
    rcases hv with ⟨_, hv⟩ | ⟨_, hv, _⟩
    · exact quiet_more (hn _ _ (by omega) (by omega) ho) hv
    · rw [show i + (n + 1) = i + n + 1 from rfl, hv]; exact .refl _

theorem H_more' (hst : ∀ i o, al[i]? = some o → o.ev call (E i) (H i) = some (E (i + 1), H (i + 1))) {i j : Nat} (hij : i ≤ j) (hj : j ≤ al.length) (hq : ∀ k o, i ≤ k → k < j → al[k]? = some o → o.op.quiet = true) : More (H i) (H j) := by
  obtain ⟨n, rfl⟩ := Nat.le.dest hij
  exact H_more hst n i hj hq

structure Inv (tbl : Nat → Option Nat) (al : List Op) (E : Nat → Env) (H : Nat → Heap) (ι0 : Iota) (I0 : Imm) (w0 : World) (a0 : Act) (S : Nat → Prop) (a : Act) (w : World) (ι : Iota) (I : Imm) (m : Nat) (e : Env) : Prop where
  post : Post tbl ι0 I0 (H 0) w0 ι I (H m) w
  hole : ∀ j, j < m → ¬ S j → ∀ k u, (H j).clk ≤ u → u < (H (j + 1)).clk → ι k u = none
  mle : m ≤ al.length
  mW : ∀ o, al[m]? = some o → o.op.quiet = false
  before : ∀ i o, i < m → al[i]? = some o → o.op.quiet = false → S i
  after : ∀ i o, m ≤ i → al[i]? = some o → o.op.free = false → ¬ S i
  len : e.length = (E 0).length
  done : ∀ j o d, al[j]? = some o → S j → o.dst = some d → e.at d = (E (j + 1)).at d
  undone : ∀ d, (∀ j o, al[j]? = some o → S j → o.dst ≠ some d) → e.at d = (E 0).at d
  clk : ∀ j o, j < m → al[j]? = some o → o.op.free = false → ¬ S j → (H 0).clk ≤ (H j).clk
  env : RVe tbl ι I e a.tmps
  defers : a.defers = a0.defers

theorem nonfree_of_loud {o : O} (h : o.quiet = false) : o.free = false := by
  cases hf : o.free with
  | false => rfl
  | true => rw [free_quiet hf] at h; cases h

/-- The next operation that writes. -/
theorem next_loud (p : Nat) (hp : p ≤ al.length) : ∃ m, p ≤ m ∧ m ≤ al.length ∧ (∀ o, al[m]? = some o → o.op.quiet = false) ∧ ∀ k o, p ≤ k → k < m → al[k]? = some o → o.op.quiet = true := by
  obtain ⟨n, hn⟩ := Nat.le.dest hp
  induction n generalizing p with
  | zero => exact ⟨p, Nat.le_refl _, hp, fun o ho => (by rw [List.getElem?_eq_none (by omega)] at ho; cases ho), fun k o h1 h2 => by omega⟩
  | succ n ih =>
    have ho : al[p]? = some al[p] := List.getElem?_eq_getElem (by omega)
    cases hq : al[p].op.quiet with
    | false => exact ⟨p, Nat.le_refl _, hp, fun o ho' => by rw [ho] at ho'; cases ho'; exact hq, fun k o h1 h2 => by omega⟩
    | true =>
      obtain ⟨m, h1, h2, h3, h4⟩ := ih (p + 1) (by omega) (by omega)
      refine ⟨m, by omega, h2, h3, fun k o hk1 hk2 hko => ?_⟩
      by_cases hk : k = p
      · subst hk; rw [ho] at hko; cases hko; exact hq
      · exact h4 k o (by omega) hk2 hko

variable (D : Drawn al af pre) (hst : ∀ i o, al[i]? = some o → o.ev call (E i) (H i) = some (E (i + 1), H (i + 1)))
variable {ι0 : Iota} {I0 : Imm} {w0 w : World} {a0 a : Act} {S : Nat → Prop} {ι : Iota} {I : Imm} {m : Nat} {e : Env}
variable (Vh : Inv tbl al E H ι0 I0 w0 a0 S a w ι I m e) (hS : ∀ j, S j → ∀ k ∈ af.getD j [], S k)
variable {j : Nat} {o : Op} (hj : al[j]? = some o) (hnj : ¬ S j) (hrd : ∀ k ∈ af.getD j [], S k) (hfr0 : Fresh ι0 (H 0))

include D hS hj hrd in
theorem pre_in {i : Nat} (hp : pre i j) : S i := D.closed hS i j (List.getElem?_eq_some_iff.1 hj).1 hrd hp

include D hS in
theorem pre_of {i k : Nat} (hk : k < al.length) (hs : S k) (hp : pre i k) : S i := D.closed hS i k hk (hS k hs) hp

include D hst Vh hS hj hnj hrd in
theorem looks_same : ∀ t ∈ o.looks, e.at t = (E j).at t := by
  intro t ht
  have hjl := (List.getElem?_eq_some_iff.1 hj).1
  by_cases hx : ∃ (i : Nat) (x : Op), al[i]? = some x ∧ x.dst = some t
  · obtain ⟨i, x, hi, hd⟩ := hx
    have hil := (List.getElem?_eq_some_iff.1 hi).1
    have huniq : ∀ (k : Nat) (y : Op), al[k]? = some y → k ≠ i → y.dst ≠ some t := fun k y hk hne => D.dst i k x y t hi hk (Ne.symm hne) hd
    by_cases hSi : S i
    · -- i comes before j
      have hlt : i < j := by
        rcases Nat.lt_trichotomy i j with h1 | h1 | h1
        · exact h1
        · subst h1; exact absurd hSi hnj
        · by_cases hp : pre j i
          · exact absurd (pre_of D hS hil hSi hp) hnj
          · exact absurd ht ((D.apart j i o x h1 hj hi hp).2 t hd)
      rw [Vh.done i x t hi hSi hd]
      obtain ⟨n, hn⟩ := Nat.le.dest hlt
      have := E_at (t := t) hst n (i + 1) (by omega) fun k y h1 h2 hk => huniq k y hk (by omega)
      rw [show i + 1 + n = j from by omega] at this
      exact this.symm
    · have hle : j ≤ i := by
        rcases Nat.lt_or_ge i j with h1 | h1
        · by_cases hp : pre i j
          · exact absurd (pre_in D hS hj hrd hp) hSi
          · exact absurd ht ((D.apart i j x o h1 hi hj hp).1 t hd)
        · exact h1
      rw [Vh.undone t fun k y hk hs => by
        by_cases hki : k = i
        · subst hki; exact absurd hs hSi
        · exact huniq k y hk hki]
      have := E_at (t := t) hst j 0 (by omega) fun k y h1 h2 hk => huniq k y hk (by omega)
      rw [Nat.zero_add] at this
      exact this.symm
  · have hno : ∀ (k : Nat) (y : Op), al[k]? = some y → y.dst ≠ some t := fun k y hk hd => hx ⟨k, y, hk, hd⟩
    rw [Vh.undone t fun k y hk _ => hno k y hk]
    have := E_at (t := t) hst j 0 (by omega) fun k y h1 h2 hk => hno k y hk
    rw [Nat.zero_add] at this
    exact this.symm

def with_ (S : Nat → Prop) (j : Nat) : Nat → Prop := fun i => S i ∨ i = j

include D hst Vh hj in
/-- The values behind one more operation. -/
theorem env_next {v : V} (hv : E (j + 1) = (E j).put o.dst v) (dst : Option Nat) : (e.put o.dst v).length = (E 0).length ∧
    (∀ (i : Nat) (x : Op) (d : Nat), al[i]? = some x → with_ S j i → x.dst = some d → (e.put o.dst v).at d = (E (i + 1)).at d) ∧ (∀ d, (∀ (i : Nat) (x : Op), al[i]? = some x → with_ S j i → x.dst ≠ some d) → (e.put o.dst v).at d = (E 0).at d) := by
  have hjl := (List.getElem?_eq_some_iff.1 hj).1
  refine ⟨by rw [len_put]; exact Vh.len, fun i x d hi hs hd => ?_, fun d hd => ?_⟩
  · by_cases hij : i = j
    · subst hij
      rw [hj] at hi; cases hi
      rw [hv, at_put, at_put, Vh.len, E_len hst i (by omega)]
      split
      · rfl
      · rename_i hn
        have hge : ¬ d < (E 0).length := fun h => hn ⟨hd, h⟩
        simp only [Env.at, List.getD_eq_getElem?_getD]
        rw [List.getElem?_eq_none (by have := Vh.len; omega), List.getElem?_eq_none (by have := E_len hst i (by omega); omega)]
    · have hs' : S i := hs.resolve_right hij
      rw [at_put, if_neg (fun h => D.dst i j x o d hi hj hij hd h.1)]
      exact Vh.done i x d hi hs' hd
  · rw [at_put, if_neg (fun h => hd j o hj (.inr rfl) h.1)]
    exact Vh.undone d fun i x hi hs => hd i x hi (.inl hs)

include D Vh hS hj hnj hrd in
theorem le_m (hf : o.op.free = false) : j ≤ m ∧ (o.op.quiet = true → j < m) ∧ (o.op.quiet = false → j = m) := by
  have hjl := (List.getElem?_eq_some_iff.1 hj).1
  have h1 : j ≤ m := by
    rcases Nat.lt_or_ge m j with hlt | hge
    · exfalso
      have hx : al[m]? = some al[m] := List.getElem?_eq_getElem (by omega)
      have hq := Vh.mW _ hx
      by_cases hp : pre m j
      · exact Vh.after m _ (Nat.le_refl _) hx (nonfree_of_loud hq) (pre_in D hS hj hrd hp)
      · have := (D.w m j _ o hlt hx hj hp).1 hq
        rw [hf] at this; cases this
    · exact hge
  refine ⟨h1, fun hq => ?_, fun hq => ?_⟩
  · rcases Nat.lt_or_ge j m with h2 | h2
    · exact h2
    · have : j = m := by omega
      subst this
      rw [Vh.mW o hj] at hq; cases hq
  · rcases Nat.lt_or_ge j m with h2 | h2
    · exact absurd (Vh.before j o h2 hj hq) hnj
    · omega

include D Vh hS in
theorem noW {i : Nat} {x : Op} (hi : al[i]? = some x) (him : i < m) (hf : x.op.free = false) (hn : ¬ S i) : ∀ k y, i < k → k < m → al[k]? = some y → y.op.quiet = true := by
  intro k y h1 h2 hk
  cases hq : y.op.quiet with
  | true => rfl
  | false =>
    exfalso
    have hSk := Vh.before k y h2 hk hq
    by_cases hp : pre i k
    · exact hn (pre_of D hS (List.getElem?_eq_some_iff.1 hk).1 hSk hp)
    · have := (D.w i k x y h1 hi hk hp).2 hq
      rw [hf] at this; cases this

include hst in
theorem free_H {i : Nat} {x : Op} (hi : al[i]? = some x) (hf : x.op.free = true) : H (i + 1) = H i := by
  obtain ⟨v, _, h⟩ := opev_put (hst i x hi)
  rcases h with ⟨_, h⟩ | ⟨_, h, _⟩
  · exact (free_heap hf h).1
  · exact h

include D hst Vh hS hj hnj hrd in
theorem inv_loud (hq : o.op.quiet = false) {κ : Iota} {J : Imm} {w' : World} {v : V} {a' : Act} (hv : E (j + 1) = (E j).put o.dst v) (p : Post tbl ι0 I0 (H 0) w0 κ J (H (j + 1)) w') (hfr : Fresh κ (H (j + 1)))
    (henv : RVe tbl κ J (e.put o.dst v) a'.tmps) (hdf : a'.defers = a0.defers) : ∃ m', Inv tbl al E H ι0 I0 w0 a0 (with_ S j) a' w' κ J m' (e.put o.dst v) := by
  have hjl := (List.getElem?_eq_some_iff.1 hj).1
  have hjm := (le_m D Vh hS hj hnj hrd (nonfree_of_loud hq)).2.2 hq
  have hall : ∀ (i : Nat) (x : Op), i < j → al[i]? = some x → x.op.free = false → S i := fun i x hlt hi hf => by
    by_cases hp : pre i j
    · exact pre_in D hS hj hrd hp
    · have := (D.w i j x o hlt hi hj hp).2 hq
      rw [hf] at this; cases this
  obtain ⟨m', h1, h2, h3, h4⟩ := next_loud (al := al) (j + 1) (by omega)
  have M : ∀ k, j + 1 ≤ k → k ≤ m' → More (H (j + 1)) (H k) := fun k hk1 hk2 => H_more' hst hk1 (by omega) fun i x a b c => h4 i x a (by omega) c
  obtain ⟨l1, l2, l3⟩ := env_next D hst Vh hj hv none
  refine ⟨m', ⟨p.more (M m' h1 (Nat.le_refl _)) hfr, fun i hi hn k u hk1 hk2 => ?_, h2, h3, fun i x hi hx hxq => ?_, fun i x hi hx hxf hs => ?_, l1, l2, l3, fun i x hi hx hxf hn => ?_, henv, hdf⟩⟩
  · have hil : i < al.length := by omega
    have hx : al[i]? = some al[i] := List.getElem?_eq_getElem hil
    rcases Nat.lt_trichotomy i j with hij | hij | hij
    · cases hf : al[i].op.free with
      | true => rw [free_H hst hx hf] at hk2; omega
      | false => exact absurd (.inl (hall i _ hij hx hf)) hn
    · exact absurd (.inr hij) hn
    · have := (M i (by omega) (by omega)).clk
      exact hfr k u (by omega)
  · rcases Nat.lt_trichotomy i j with hij | hij | hij
    · exact .inl (hall i x hij hx (nonfree_of_loud hxq))
    · exact .inr hij
    · rw [h4 i x (by omega) hi hx] at hxq; cases hxq
  · rcases hs with hs | hs
    · exact Vh.after i x (by omega) hx hxf hs
    · omega
  · rcases Nat.lt_trichotomy i j with hij | hij | hij
    · exact absurd (.inl (hall i x hij hx hxf)) hn
    · exact absurd (.inr hij) hn
    · have := (M i (by omega) (by omega)).clk
      have := p.clk
      omega

include D hst Vh hS hj hnj hrd hfr0 in
theorem any_step (hT : TblOK P tbl) (hcall : CallOK P tbl call) {ops : Array Oper} {go : Oper} (hgo : ops[j]? = some go) (hc : compOp P tbl ops go = some (erOp o)) {Q : Go.Exit → Act → World → Prop} {K : Act → World → Prop}
    (hK : ∀ a' w' ι' I' m' e', Inv tbl al E H ι0 I0 w0 a0 (with_ S j) a' w' ι' I' m' e' → K a' w') : wpOp P ops Q j K a w := by
  have hjl := (List.getElem?_eq_some_iff.1 hj).1
  unfold wpOp
  simp only [hgo]
  obtain ⟨hd, hco, hg⟩ := compOp_inv hc
  have same := looks_same D hst Vh hS hj hnj hrd
  have hwant : o.wanted e = o.wanted (E j) := by
    unfold Op.wanted
    cases hgd : o.guard with
    | none => rfl
    | some tw =>
      obtain ⟨t, wv⟩ := tw
      simp only
      rw [same t (by simp [Op.looks, hgd])]
  obtain ⟨v, hv, hcase⟩ := opev_put (hst j o hj)
  rw [wanted_eq Vh.env hg, hwant]
  have hfrm := Vh.post.fresh hfr0
  have keep_hole : ∀ i, i < m → ¬ with_ S j i → ∀ k u, (H i).clk ≤ u → u < (H (i + 1)).clk → ι k u = none := fun i hi hn => Vh.hole i hi fun h => hn (.inl h)
  obtain ⟨l1, l2, l3⟩ := env_next D hst Vh hj hv none
  rcases hcase with ⟨hw, hop⟩ | ⟨hw, hH, hvu⟩
  · rw [if_pos hw]
    left
    rcases hco with hco | hco
    · have hev : opEv call o.op e (H j) = some (v, H (j + 1)) := by
        rw [opEv_congr (e' := E j) fun t ht => same t (by simp [Op.looks, ht])]; exact hop
      cases hf : o.op.free with
      | true =>
        have hev2 := (free_heap hf hev).2 (H m)
        refine quiet_does hT hcall Vh.post.st Vh.env hco (free_quiet hf) (fun k u h1 h2 => by omega) hev2 K Q ?_
        rintro c w' ⟨κ, J, q, r⟩
        have hκ : ∀ k u, κ k u = ι k u := fun k u => q.iota k u (Nat.lt_or_ge _ _)
        have p := Vh.post.trans (q.post Vh.post.st fun k u h1 h2 => by omega)
        refine hK _ w' κ J m (e.put o.dst v) ⟨p, fun i hi hn k u h1 h2 => by rw [hκ]; exact keep_hole i hi hn k u h1 h2, Vh.mle, Vh.mW, fun i x hi hx hxq => .inl (Vh.before i x hi hx hxq), fun i x hi hx hxf hs => ?_, l1, l2, l3, fun i x hi hx hxf hn => Vh.clk i x hi hx hxf fun h => hn (.inl h), ?_, by rw [put_defers]; exact Vh.defers⟩
        · rcases hs with hs | hs
          · exact Vh.after i x hi hx hxf hs
          · subst hs; rw [hj] at hx; cases hx; rw [hf] at hxf; cases hxf
        · rw [hd]
          exact put_rv (Vh.env.mono fun _ _ x => x.mono (fun k u l hl => by rw [hκ]; exact hl) q.imm) o.dst r
      | false =>
        obtain ⟨hle, hlt, heq⟩ := le_m D Vh hS hj hnj hrd hf
        cases hq : o.op.quiet with
        | true =>
          have hjm := hlt hq
          have M : More (H (j + 1)) (H m) := H_more' hst (by omega) Vh.mle fun k x a b c => noW D Vh hS hj hjm hf hnj k x (by omega) b c
          have M0 : More (H j) (H (j + 1)) := quiet_more hq hop
          have hhole := Vh.hole j hjm hnj
          refine quiet_does hT hcall (Vh.post.st.less (M0.trans M)) Vh.env hco hq hhole hev K Q ?_
          rintro c w' ⟨κ, J, q, r⟩
          have p := Vh.post.quiet q M (Vh.clk j o hjm hj hf hnj) hhole
          have hle' : ι.le κ := le_of_iota q.iota hhole
          refine hK _ w' κ J m (e.put o.dst v) ⟨p, fun i hi hn k u h1 h2 => ?_, Vh.mle, Vh.mW, fun i x hi hx hxq => .inl (Vh.before i x hi hx hxq), fun i x hi hx hxf hs => ?_, l1, l2, l3, fun i x hi hx hxf hn => Vh.clk i x hi hx hxf fun h => hn (.inl h), ?_, by rw [put_defers]; exact Vh.defers⟩
          · have hnS : ¬ S i := fun h => hn (.inl h)
            have hij : i ≠ j := fun h => hn (.inr h)
            have hil : i < al.length := by have := Vh.mle; omega
            have hx : al[i]? = some al[i] := List.getElem?_eq_getElem hil
            cases hxf : al[i].op.free with
            | true => rw [free_H hst hx hxf] at h2; omega
            | false =>
              rcases Nat.lt_or_ge i j with h3 | h3
              · have := (H_more' hst (i := i + 1) (j := j) (by omega) (by omega) fun k x a b c => noW D Vh hS hx hi hxf hnS k x (by omega) (by omega) c).clk
                rw [q.iota k u (.inl (by omega))]
                exact Vh.hole i hi hnS k u h1 h2
              · have := (H_more' hst (i := j + 1) (j := i) (by omega) (by have := Vh.mle; omega) fun k x a b c => noW D Vh hS hj hjm hf hnj k x (by omega) (by omega) c).clk
                rw [q.iota k u (.inr (by omega))]
                exact Vh.hole i hi hnS k u h1 h2
          · rcases hs with hs | hs
            · exact Vh.after i x hi hx hxf hs
            · omega
          · rw [hd]
            exact put_rv (Vh.env.mono fun _ _ x => x.mono hle' q.imm) o.dst r
        | false =>
          have hjm := heq hq
          subst hjm
          refine op_does hT hcall Vh.post.st hfrm Vh.env hco hev K Q ?_
          rintro c w' ⟨κ, J, q, r⟩
          obtain ⟨m', hI⟩ := inv_loud D hst Vh hS hj hnj hrd hq hv (Vh.post.trans q) (q.fresh hfrm) (a' := a.put go.dst c) (by rw [hd]; exact put_rv (Vh.env.mono fun _ _ x => x.mono (q.le hfrm) q.imm) o.dst r) (by rw [put_defers]; exact Vh.defers)
          exact hK _ _ _ _ _ _ hI
    · rw [hco] at hop; simp [opEv] at hop
  · rw [if_neg (by simp [hw])]
    subst hvu
    have henv : RVe tbl ι I (e.put o.dst V.undef) (a.put go.dst Go.undef).tmps := by rw [hd]; exact put_rv Vh.env o.dst .undef
    cases hq : o.op.quiet with
    | true =>
      refine hK _ w ι I m _ ⟨Vh.post, keep_hole, Vh.mle, Vh.mW, fun i x hi hx hxq => .inl (Vh.before i x hi hx hxq), fun i x hi hx hxf hs => ?_, l1, l2, l3, fun i x hi hx hxf hn => Vh.clk i x hi hx hxf fun h => hn (.inl h), henv, by rw [put_defers]; exact Vh.defers⟩
      rcases hs with hs | hs
      · exact Vh.after i x hi hx hxf hs
      · subst hs
        rw [hj] at hx; cases hx
        have := (le_m D Vh hS hj hnj hrd hxf).2.1 hq
        omega
    | false =>
      have hjm := (le_m D Vh hS hj hnj hrd (nonfree_of_loud hq)).2.2 hq
      subst hjm
      obtain ⟨m', hI⟩ := inv_loud D hst Vh hS hj hnj hrd hq hv (by rw [hH]; exact Vh.post) (by rw [hH]; exact hfrm) henv (by rw [put_defers]; exact Vh.defers)
      exact hK _ _ _ _ _ _ hI
end

theorem setl_getD {listed : Array Bool} {i j : Nat} (hi : i < listed.size) : ((listed.setIfInBounds i true).getD j false = true) ↔ (listed.getD j false = true ∨ j = i) := by
  by_cases h : i = j
  · subst h; simp [hi]
  · rw [Go.getD_set_ne false h]
    exact ⟨.inl, fun hh => hh.resolve_right (Ne.symm h)⟩

theorem afters_getD {l : List Oper} {j : Nat} {go : Oper} (h : l[j]? = some go) : (afters l).getD j [] = ((go.after.toList.filter fun e => Go.Region.binds .any e).map (·.on)) := by
  simp [afters, List.getD_eq_getElem?_getD, h]

theorem any_ops {call : Call} (hT : TblOK P tbl) (hcall : CallOK P tbl call) {ops : Array Oper} {al : List Op} (hm : mapO (compOp P tbl ops) ops.toList = some (al.map erOp)) (hok : drawOk al (afters ops.toList) = true) {Q : Go.Exit → Act → World → Prop}
    {ι : Iota} {I : Imm} {h h' : Heap} {w : World} {e e' : Env} {a : Act} (hs : St tbl ι I h w) (hfr : Fresh ι h) (he : RVe tbl ι I e a.tmps) (hev : evOps call al e h = some (e', h'))
    (hQ : ∀ a' w' κ J, Post tbl ι I h w κ J h' w' → RVe tbl κ J e' a'.tmps → a'.defers = a.defers → Q .normal a' w') : wpAny P .any ops Q ops.size (Array.replicate ops.size false) a w := by
  obtain ⟨pre, D⟩ := drawOk_spec hok
  obtain ⟨E, H, hE0, hH0, hEn, hHn, hst⟩ := evOps_states al e h e' h' hev
  obtain ⟨hlm, hmm⟩ := mapO_spec hm
  have hlen : al.length = ops.size := by simpa using hlm
  have hget : ∀ j o, al[j]? = some o → ∃ go, ops[j]? = some go ∧ compOp P tbl ops go = some (erOp o) := fun j o ho => by
    have hlt : j < ops.toList.length := by
      have := (List.getElem?_eq_some_iff.1 ho).1
      simp only [Array.length_toList]; omega
    obtain ⟨y, hy, hf⟩ := hmm j ops.toList[j] (by rw [List.getElem?_eq_getElem hlt])
    rw [List.getElem?_map, ho] at hy
    cases hy
    exact ⟨_, by rw [← Array.getElem?_toList, List.getElem?_eq_getElem hlt], hf⟩
  -- at the end
  have fin : ∀ (S : Nat → Prop) a' w' κ J m ee, (∀ j, j < al.length → S j) → Inv tbl al E H ι I w a S a' w' κ J m ee → Q .normal a' w' := by
    intro S a' w' κ J m ee hall Vh
    have hmn : m = al.length := by
      rcases Nat.lt_or_ge m al.length with hlt | hge
      · have hx : al[m]? = some al[m] := List.getElem?_eq_getElem hlt
        exact absurd (hall m hlt) (Vh.after m _ (Nat.le_refl _) hx (nonfree_of_loud (Vh.mW _ hx)))
      · have := Vh.mle; omega
    have hee : ee = e' := by
      rw [← hEn]
      refine env_ext (by rw [Vh.len, E_len hst _ (Nat.le_refl _)]) fun t => ?_
      by_cases hx : ∃ (i : Nat) (x : Op), al[i]? = some x ∧ x.dst = some t
      · obtain ⟨i, x, hi, hd⟩ := hx
        have hil := (List.getElem?_eq_some_iff.1 hi).1
        rw [Vh.done i x t hi (hall i hil) hd]
        obtain ⟨n, hn⟩ := Nat.le.dest hil
        have := E_at (t := t) hst n (i + 1) (by omega) fun k y h1 h2 hk => D.dst i k x y t hi hk (by omega) hd
        rw [show i + 1 + n = al.length from by omega] at this
        exact this.symm
      · rw [Vh.undone t fun i x hi _ hd => hx ⟨i, x, hi, hd⟩]
        have := E_at (t := t) hst al.length 0 (by omega) fun k y h1 h2 hk hd => hx ⟨k, y, hk, hd⟩
        rw [Nat.zero_add] at this
        exact this.symm
    have hp := Vh.post
    rw [hmn, hHn, hH0] at hp
    exact hQ a' w' κ J hp (by rw [← hee]; exact Vh.env) Vh.defers
  have key : ∀ (fuel : Nat) (listed : Array Bool) (a' : Act) (w' : World) κ J m ee, listed.size = ops.size → listed.toList.count false ≤ fuel → (∀ j, listed.getD j false = true → ∀ k ∈ (afters ops.toList).getD j [], listed.getD k false = true) →
      Inv tbl al E H ι I w a (fun j => listed.getD j false = true) a' w' κ J m ee → wpAny P .any ops Q fuel listed a' w' := by
    intro fuel
    -- nothing is ready only when all is listed
    have hready : ∀ (listed : Array Bool), listed.size = ops.size → Go.Region.ready .any ops listed = [] → ∀ j, j < al.length → listed.getD j false = true := by
      intro listed hsz hr j
      induction j using Nat.strongRecOn with
      | _ j ih =>
        intro hjl
        cases hb : listed.getD j false with
        | true => rfl
        | false =>
          exfalso
          have hjs : j < listed.size := by omega
          obtain ⟨go, hgo, _⟩ := hget j _ (List.getElem?_eq_getElem hjl)
          have : j ∈ Go.Region.ready .any ops listed := Go.mem_ready.2 ⟨by simpa [hjs] using hb, go, hgo, fun ed hed hbd => by
            have hk : ed.on ∈ (afters ops.toList).getD j [] := by
              rw [afters_getD (go := go) (by rw [Array.getElem?_toList]; exact hgo)]
              exact List.mem_map.2 ⟨ed, List.mem_filter.2 ⟨by simpa using hed, hbd⟩, rfl⟩
            have hlt := D.lt j ed.on hjl hk
            exact ih ed.on hlt (by omega)⟩
          rw [hr] at this; cases this
    induction fuel with
    | zero =>
      intro listed a' w' κ J m ee hsz hcnt hcl Vh
      have hall : ∀ j, j < al.length → listed.getD j false = true := fun j hjl => by
        have hjs : j < listed.size := by omega
        have h0 : false ∉ listed.toList := List.count_eq_zero.1 (by omega)
        cases hb : listed[j] with
        | true => simp [hjs, hb]
        | false => exact absurd (by rw [← hb]; simp) h0
      refine ⟨?_, fin _ a' w' κ J m ee hall Vh⟩
      apply List.eq_nil_iff_forall_not_mem.2
      intro j hj
      obtain ⟨h1, o, ho, _⟩ := Go.mem_ready.1 hj
      have hjs : j < ops.size := (Array.getElem?_eq_some_iff.1 ho).1
      have h2 := hall j (by omega)
      have hjl : j < listed.size := by omega
      simp [hjl] at h1 h2
      rw [h1] at h2; cases h2
    | succ fuel ih =>
      intro listed a' w' κ J m ee hsz hcnt hcl Vh
      refine ⟨fun hr => fin _ a' w' κ J m ee (hready listed hsz hr) Vh, fun j hj => ?_⟩
      obtain ⟨h1, go, hgo, hall⟩ := Go.mem_ready.1 hj
      have hjs : j < ops.size := (Array.getElem?_eq_some_iff.1 hgo).1
      have hjl : j < listed.size := by omega
      have hjal : j < al.length := by omega
      have ho : al[j]? = some al[j] := List.getElem?_eq_getElem hjal
      obtain ⟨go', hgo', hc⟩ := hget j _ ho
      rw [hgo] at hgo'; cases hgo'
      have hnj : ¬ listed.getD j false = true := by simp [hjl] at h1 ⊢; exact h1
      have hrd : ∀ k ∈ (afters ops.toList).getD j [], listed.getD k false = true := fun k hk => by
        rw [afters_getD (go := go) (by rw [Array.getElem?_toList]; exact hgo)] at hk
        obtain ⟨ed, hed, rfl⟩ := List.mem_map.1 hk
        obtain ⟨h3, h4⟩ := List.mem_filter.1 hed
        exact hall ed (by simpa using h3) h4
      refine any_step D hst Vh hcl ho hnj hrd (by rw [hH0]; exact hfr) hT hcall hgo hc fun a2 w2 ι2 I2 m2 e2 V2 => ?_
      have hSeq : with_ (fun i => listed.getD i false = true) j = fun i => (listed.setIfInBounds j true).getD i false = true := by
        funext i
        exact propext (setl_getD hjl).symm
      rw [hSeq] at V2
      refine ih _ a2 w2 ι2 I2 m2 e2 (by simp [hsz]) ?_ (fun i hi k hk => ?_) V2
      · rw [Array.toList_setIfInBounds, List.count_set (by simpa using hjl)]
        have hb : listed.toList[j]'(by simpa using hjl) = false := by simpa [hjl] using h1
        have hpos : 0 < listed.toList.count false := List.count_pos_iff.2 (by rw [← hb]; exact List.getElem_mem _)
        simp [hb]
        simp at hcnt hpos
        omega
      · rw [setl_getD hjl] at hi ⊢
        rcases hi with hi | rfl
        · exact .inl (hcl i hi k hk)
        · exact .inl (hrd k hk)
  obtain ⟨m0, g1, g2, g3, g4⟩ := next_loud (al := al) 0 (Nat.zero_le _)
  have M : ∀ k, k ≤ m0 → More (H 0) (H k) := fun k hk => H_more' hst (Nat.zero_le _) (by omega) fun i x p q r => g4 i x p (by omega) r
  have hS0 : ∀ j, ¬ (Array.replicate ops.size false).getD j false = true := fun j => by simp [Array.getElem?_replicate]; split <;> simp
  refine key ops.size _ a w ι I m0 e (by simp) (by simp) (fun j hj => absurd hj (hS0 j)) ⟨?_, fun j hj _ k u hk1 hk2 => ?_, g2, g3, fun i o hi ho hq => ?_, fun i o _ _ _ => hS0 i, by rw [hE0], fun j o d _ hs => absurd hs (hS0 j), fun d _ => by rw [hE0], fun j o hj _ _ _ => (M j (by omega)).clk, he, rfl⟩
  · rw [hH0]
    exact (Post.refl hs).more (by rw [← hH0]; exact M m0 (Nat.le_refl _)) hfr
  · have := (M j (by omega)).clk
    rw [hH0] at this
    exact hfr k u (by omega)
  · rw [g4 i o (Nat.zero_le _) hi ho] at hq; cases hq
end Rv

/- Whole bodies, whole functions, whole programs. -/
namespace Rv
set_option linter.unusedVariables false
set_option linter.unusedSimpArgs false
open Go (IntKind BinOp UnOp Program Value Operand Oper Code TypeId Func World Addr Obj Act Calls execOp wpOps wpOp wpAny)
set_option maxRecDepth 10000
variable {tbl : Nat → Option Nat} {P : Program}

def Ex.go : Ex → Go.Exit
  | .normal => .normal
  | .exit i => .exit i
  | .ret => .ret

/-- Drawn regions that may be read in the order of the text. -/
def C.ok : C → Bool
  | .reg ops (some af) => drawOk ops af
  | .seq a b => a.ok && b.ok
  | .cond _ a b => a.ok && b.ok
  | .block _ a => a.ok
  | .loop _ a => a.ok
  | _ => true

theorem Post.sub {ι κ : Iota} {I J : Imm} {h h1 h2 : Heap} {w w1 : World} (p : Post tbl ι I h w κ J h1 w1) (s : HSub h2 h1) : Post tbl ι I h w κ J h2 w1 :=
  ⟨fun k u hk => p.iota k u (by rw [s.clk] at hk; exact hk), by rw [s.clk]; exact p.clk, p.imm, p.st.sub s, p.frm, fun b i ho => p.own b i (s.owned ho), p.immnew⟩

theorem cut_sub (keep : Bool) (n : Nat) (h : Heap) : HSub (h.cut keep n) h := by
  unfold Heap.cut
  split
  · exact .refl h
  · refine ⟨fun k u cs e => ?_, rfl⟩
    unfold Heap.trunc at e
    simp only [List.getElem?_take] at e
    split at e
    · exact e
    · cases e

theorem least {p : Nat → Prop} (h : ∃ n, p n) : ∃ n, p n ∧ ∀ m, p m → n ≤ m := by
  obtain ⟨n, hn⟩ := h
  induction n using Nat.strongRecOn with
  | _ n ih =>
    by_cases hx : ∃ m, m < n ∧ p m
    · obtain ⟨m, h1, h2⟩ := hx; exact ih m h1 h2
    · exact ⟨n, hn, fun m hm => Nat.le_of_not_lt fun hlt => hx ⟨m, hlt, hm⟩⟩

open Classical in
/-- A loop that ends within so many rounds. -/
theorem wp_rounds {c : Code} {Q : Go.Exit → Act → World → Prop} {a : Act} {w : World} (R : Nat → Act → World → Prop) (h0 : ∃ n, R n a w) (h : ∀ n a w, R n a w → c.wp P (Go.Exit.then (fun a' w' => ∃ m, m < n ∧ R m a' w') Q) a w) : (Code.loop c).wp P Q a w := by
  have hex : ∀ (a : Act) (w : World), ∃ k, ∀ hx : (∃ n, R n a w), R k a w ∧ ∀ m, R m a w → k ≤ m := fun a w => by
    by_cases hx : ∃ n, R n a w
    · obtain ⟨n, h1⟩ := least hx; exact ⟨n, fun _ => h1⟩
    · exact ⟨0, fun h => absurd h hx⟩
  let μ := fun a w => Classical.choose (hex a w)
  have hμ : ∀ a w, (∃ n, R n a w) → R (μ a w) a w ∧ ∀ m, R m a w → μ a w ≤ m := fun a w hx => Classical.choose_spec (hex a w) hx
  refine Go.wp_loop (fun a w => ∃ n, R n a w) μ h0 fun a w hI => ?_
  refine Go.wp_mono (h _ a w (hμ a w hI).1) fun e a' w' hq => ?_
  cases e with
  | normal =>
    obtain ⟨m, hm, hR⟩ := hq
    exact ⟨⟨m, hR⟩, Nat.lt_of_le_of_lt ((hμ a' w' ⟨m, hR⟩).2 m hR) hm⟩
  | _ => exact hq

theorem ops_er {ops : List Op} {x : List Op} {d : Option (List (List Nat))} {d' : Option (List (List Nat))} (h : C.reg x d' = eraseC (.reg ops d)) : x = ops.map erOp ∧ d' = d := by
  simp only [eraseC] at h
  injection h with h1 h2
  exact ⟨h1, h2⟩

theorem ev_sound (hm : P.follows .mixedOrders = true) (hT : TblOK P tbl) {call : Call} (hcall : CallOK P tbl call) (k : Nat) : ∀ (cc : Code) (c : C), compC P tbl cc = some (eraseC c) → c.ok = true → ∀ (ι : Iota) (I : Imm) (h : Heap) (w : World) (e : Env) (a : Act) (x : Ex) (e' : Env) (h' : Heap),
    St tbl ι I h w → Fresh ι h → RVe tbl ι I e a.tmps → C.ev call k c e h = some (x, e', h') → ∀ (Q : Go.Exit → Act → World → Prop),
    (∀ a' w' κ J, Post tbl ι I h w κ J h' w' → RVe tbl κ J e' a'.tmps → a'.defers = a.defers → Q x.go a' w') → cc.wp P Q a w := by
  intro cc
  induction cc with
  | skip =>
    intro c hc hok ι I h w e a x e' h' hs hfr he hev Q hQ
    simp only [compC] at hc
    cases c <;> simp only [eraseC] at hc <;> first | (cases hc; done) | skip
    simp only [C.ev, Option.some.injEq, Prod.mk.injEq] at hev
    obtain ⟨rfl, rfl, rfl⟩ := hev
    exact Go.wp_skip (hQ a w ι I (.refl hs) he rfl)
  | region id ops draw =>
    intro c hc hok ι I h w e a x e' h' hs hfr he hev Q hQ
    simp only [compC] at hc
    split at hc
    · rename_i l hml
      cases c <;> first | (simp only [eraseC] at hc; cases hc; done) | skip
      rename_i al af
      obtain ⟨rfl, haf⟩ := ops_er (Option.some.inj hc)
      simp only [C.ev] at hev
      split at hev
      · rename_i e1 h1 hops
        simp only [Option.some.injEq, Prod.mk.injEq] at hev
        obtain ⟨rfl, rfl, rfl⟩ := hev
        cases draw with
        | false =>
          refine Go.wp_region ?_
          have hlen : ops.size = al.length := by
            have := (mapO_spec hml).1
            simpa using this.symm
          rw [List.range_eq_range', hlen]
          exact seq_ops hT hcall hml al 0 rfl ι I h h1 w e e1 a hs hfr he hops hQ
        | true =>
          simp only [if_true] at haf
          subst haf
          simp only [C.ok] at hok
          refine Go.wp_region_any hm ?_
          refine any_ops hT hcall hml hok (hs.drew _) hfr he hops fun a' w' κ J p r hd => hQ a' w' κ J ?_ r hd
          exact ⟨p.iota, p.clk, p.imm, p.st, ⟨p.frm.os, p.frm.tape, p.frm.output, p.frm.size, p.frm.block, p.frm.cell⟩, p.own, p.immnew⟩
      · cases hev
    · cases hc
  | seq ca cb iha ihb =>
    intro c hc hok ι I h w e a x e' h' hs hfr he hev Q hQ
    simp only [compC] at hc
    split at hc
    · rename_i xa xb ha hb
      cases c <;> simp only [eraseC] at hc <;> first | (cases hc; done) | skip
      rename_i c1 c2
      injection hc with hc
      injection hc with h1 h2
      subst h1; subst h2
      simp only [C.ok, Bool.and_eq_true] at hok
      simp only [C.ev] at hev
      refine Go.wp_seq ?_
      split at hev
      · rename_i e1 h1 hev1
        refine iha c1 ha hok.1 ι I h w e a _ e1 h1 hs hfr he hev1 _ fun a1 w1 κ J p r hd => ?_
        refine ihb c2 hb hok.2 κ J h1 w1 e1 a1 x e' h' p.st (p.fresh hfr) r hev Q fun a2 w2 μ K q r2 hd2 => ?_
        exact hQ a2 w2 μ K (p.trans q) r2 (hd2.trans hd)
      · rename_i hne
        refine iha c1 ha hok.1 ι I h w e a x e' h' hs hfr he hev _ fun a1 w1 κ J p r hd => ?_
        have := hQ a1 w1 κ J p r hd
        cases x with
        | normal => exact absurd hev (hne _ _)
        | _ => exact this
    · cases hc
  | cond co ca cb iha ihb =>
    intro c hc hok ι I h w e a x e' h' hs hfr he hev Q hQ
    simp only [compC] at hc
    split at hc
    · rename_i y xa xb hy ha hb
      cases c <;> simp only [eraseC] at hc <;> first | (cases hc; done) | skip
      rename_i z c1 c2
      injection hc with hc
      injection hc with h0 h1 h2
      subst h0; subst h1; subst h2
      simp only [C.ok, Bool.and_eq_true] at hok
      simp only [C.ev] at hev
      have hv := compX_rv he hy
      split at hev
      · rename_i hb1
        rw [hb1] at hv
        exact Go.wp_cond_true hv.of_bool (iha c1 ha hok.1 ι I h w e a x e' h' hs hfr he hev Q hQ)
      · rename_i hb1
        rw [hb1] at hv
        exact Go.wp_cond_false hv.of_bool (ihb c2 hb hok.2 ι I h w e a x e' h' hs hfr he hev Q hQ)
      · cases hev
    · cases hc
  | block id ca iha =>
    intro c hc hok ι I h w e a x e' h' hs hfr he hev Q hQ
    simp only [compC] at hc
    split at hc
    · rename_i xa ha
      cases c <;> simp only [eraseC] at hc <;> first | (cases hc; done) | skip
      rename_i i c1
      injection hc with hc
      injection hc with h0 h1
      subst h0; subst h1
      simp only [C.ok] at hok
      simp only [C.ev] at hev
      refine Go.wp_block ?_
      split at hev
      · rename_i j e1 h1 hev1
        refine iha c1 ha hok ι I h w e a _ e1 h1 hs hfr he hev1 _ fun a1 w1 κ J p r hd => ?_
        simp only [Ex.go, Go.Exit.inBlock]
        split at hev
        · rename_i hj
          simp only [Option.some.injEq, Prod.mk.injEq] at hev
          obtain ⟨rfl, rfl, rfl⟩ := hev
          rw [if_pos hj]
          exact hQ a1 w1 κ J p r hd
        · rename_i hj
          simp only [Option.some.injEq, Prod.mk.injEq] at hev
          obtain ⟨rfl, rfl, rfl⟩ := hev
          rw [if_neg hj]
          exact hQ a1 w1 κ J p r hd
      · rename_i hne
        refine iha c1 ha hok ι I h w e a x e' h' hs hfr he hev _ fun a1 w1 κ J p r hd => ?_
        have := hQ a1 w1 κ J p r hd
        cases x with
        | exit j => exact absurd hev (hne _ _ _)
        | _ => exact this
    · cases hc
  | loop ca iha =>
    intro c hc hok ι I h w e a x e' h' hs hfr he hev Q hQ
    simp only [compC] at hc
    split at hc
    · rename_i xa ha
      cases c <;> simp only [eraseC] at hc <;> first | (cases hc; done) | skip
      rename_i keep c1
      injection hc with hc
      injection hc with h0 h1
      subst h1
      simp only [C.ok] at hok
      simp only [C.ev] at hev
      refine wp_rounds (fun n a1 w1 => ∃ κ J e1 h1, Post tbl ι I h w κ J h1 w1 ∧ RVe tbl κ J e1 a1.tmps ∧ a1.defers = a.defers ∧ loopN (C.ev call k c1) keep h.ents.length n e1 h1 = some (x, e', h')) ⟨k, ι, I, e, h, .refl hs, he, rfl, hev⟩ ?_
      rintro n a1 w1 ⟨κ, J, e1, h1, p, r, hd, hl⟩
      cases n with
      | zero => simp [loopN] at hl
      | succ n =>
        simp only [loopN] at hl
        split at hl
        · rename_i e2 h2 hev2
          refine iha c1 ha hok κ J h1 w1 e1 a1 _ e2 h2 p.st (p.fresh hfr) r hev2 _ fun a2 w2 μ K q r2 hd2 => ?_
          exact ⟨n, Nat.lt_succ_self n, μ, K, e2, _, (p.trans q).sub (cut_sub keep _ h2), r2, hd2.trans hd, hl⟩
        · rename_i i e2 h2 hev2
          simp only [Option.some.injEq, Prod.mk.injEq] at hl
          obtain ⟨rfl, rfl, rfl⟩ := hl
          refine iha c1 ha hok κ J h1 w1 e1 a1 _ e2 h2 p.st (p.fresh hfr) r hev2 _ fun a2 w2 μ K q r2 hd2 => ?_
          exact hQ a2 w2 μ K ((p.trans q).sub (cut_sub keep _ h2)) r2 (hd2.trans hd)
        · rename_i hn1 hn2
          refine iha c1 ha hok κ J h1 w1 e1 a1 x e' h' p.st (p.fresh hfr) r hl _ fun a2 w2 μ K q r2 hd2 => ?_
          have := hQ a2 w2 μ K (p.trans q) r2 (hd2.trans hd)
          cases x with
          | normal => exact absurd hl (hn1 _ _)
          | exit i => exact this
          | ret => exact this
    · cases hc
  | exit id =>
    intro c hc hok ι I h w e a x e' h' hs hfr he hev Q hQ
    simp only [compC] at hc
    cases c <;> simp only [eraseC] at hc <;> first | (cases hc; done) | skip
    injection hc with hc
    injection hc with hc
    subst hc
    simp only [C.ev, Option.some.injEq, Prod.mk.injEq] at hev
    obtain ⟨rfl, rfl, rfl⟩ := hev
    exact Go.wp_exit (hQ a w ι I (.refl hs) he rfl)
  | ret =>
    intro c hc hok ι I h w e a x e' h' hs hfr he hev Q hQ
    simp only [compC] at hc
    cases c <;> simp only [eraseC] at hc <;> first | (cases hc; done) | skip
    simp only [C.ev, Option.some.injEq, Prod.mk.injEq] at hev
    obtain ⟨rfl, rfl, rfl⟩ := hev
    exact Go.wp_ret (hQ a w ι I (.refl hs) he rfl)
  | rangeFunc => intro c hc; simp only [compC] at hc; cases hc
  | scope => intro c hc; simp only [compC] at hc; cases hc
  | label => intro c hc; simp only [compC] at hc; cases hc
  | goto => intro c hc; simp only [compC] at hc; cases hc
  | refuse => intro c hc; simp only [compC] at hc; cases hc
end Rv

/- Whole functions, whole programs. -/
namespace Rv
set_option linter.unusedVariables false
set_option linter.unusedSimpArgs false
open Go (IntKind BinOp UnOp Program Value Operand Oper Code TypeId Func World Addr Obj Act Calls execOp)
set_option maxRecDepth 10000
variable {tbl : Nat → Option Nat} {P : Program}

theorem mapO_cons {α β : Type} {f : α → Option β} {x : α} {xs : List α} {ys : List β} (h : mapO f (x :: xs) = some ys) : ∃ y t, ys = y :: t ∧ f x = some y ∧ mapO f xs = some t := by
  simp only [mapO] at h
  split at h
  · rename_i y hy
    split at h
    · rename_i t ht
      cases h
      exact ⟨y, t, rfl, hy, ht⟩
    · cases h
  · cases h
theorem mapO_nil {α β : Type} {f : α → Option β} {ys : List β} (h : mapO f [] = some ys) : ys = [] := by
  simp only [mapO] at h; cases h; rfl

theorem res_one {ι : Iota} {I : Imm} {h : Heap} {w : World} {e : Env} {a : Act} (hs : St tbl ι I h w) (he : RVe tbl ι I e a.tmps) {r : Go.ResultVar} {q : Rs} (hq : compR P r = some q) {v : V} (hv : q.ev e h = some v) :
    ∃ c, ((match r with | .tmp t => pure (a.tmps.getD t Go.undef) | .cell x t => do Go.loadVar t (← Go.asAddr (a.tmps.getD x Go.undef)) : Go.Sem Value)).run P w = .ok c w ∧ RV tbl ι I v c := by
  cases r with
  | tmp t =>
    simp only [compR] at hq
    cases hq
    simp only [Rs.ev] at hv
    cases hv
    exact ⟨_, rfl, compX_rv (x := .tmp t) (y := .t t) he rfl⟩
  | cell x t =>
    simp only [compR] at hq
    split at hq
    · rename_i n hn
      cases hq
      simp only [Rs.ev] at hv
      split at hv
      · rename_i key uid off hx
        split at hv
        · rename_i cs hg
          have h1 := compX_rv (a := a) (x := .tmp x) (y := .t x) he rfl
          simp only [X.ev, hx] at h1
          obtain ⟨l, hl, hq⟩ := h1.of_ptr
          simp only [Act.eval] at hq
          obtain ⟨vs, hv1, hv2, hv3⟩ := (hs.get hg hl).list off
          obtain ⟨c, hc1, hc2⟩ := run_loadVar (P := P) hn hv1 hv2 (b := l.b) (o := l.o + off) (w := w) hv3 hv
          refine ⟨c, ?_, hc2⟩
          simp only [hq]
          simp [Go.asAddr, hc1]
        · cases hv
      · cases hv
    · cases hq

theorem res_list {ι : Iota} {I : Imm} {h : Heap} {w : World} {e : Env} {a : Act} (hs : St tbl ι I h w) (he : RVe tbl ι I e a.tmps) : ∀ (rs : List Go.ResultVar) (qs : List Rs) (vs : List V), mapO (compR P) rs = some qs → mapO (Rs.ev e h) qs = some vs →
    ∃ cs : List Value, (rs.mapM (fun r => (match r with | .tmp t => pure (a.tmps.getD t Go.undef) | .cell x t => do Go.loadVar t (← Go.asAddr (a.tmps.getD x Go.undef)) : Go.Sem Value))).run P w = .ok cs w ∧ RVs tbl ι I vs cs := by
  intro rs
  induction rs with
  | nil =>
    intro qs vs h1 h2
    rw [mapO_nil h1] at h2
    rw [mapO_nil h2]
    exact ⟨[], rfl, .nil⟩
  | cons r rs ih =>
    intro qs vs h1 h2
    obtain ⟨q, qs', rfl, hq, h1'⟩ := mapO_cons h1
    obtain ⟨v, vs', rfl, hv, h2'⟩ := mapO_cons h2
    obtain ⟨c, hc, hr⟩ := res_one hs he hq hv
    obtain ⟨cs, hcs, hrs⟩ := ih qs' vs' h1' h2'
    refine ⟨c :: cs, ?_, .cons hr hrs⟩
    rw [List.mapM_cons]
    simp [-Array.getD_eq_getD_getElem?, hc, hcs]

theorem results_run {ι : Iota} {I : Imm} {h : Heap} {w : World} {e : Env} {a : Act} (hs : St tbl ι I h w) (he : RVe tbl ι I e a.tmps) {fn : Func} {f : Fn} (hr : mapO (compR P) fn.results.toList = some f.results) {v : V} (hv : f.out e h = some v) :
    ∃ c, (Go.results fn a.tmps).run P w = .ok c w ∧ RV tbl ι I v c := by
  unfold Fn.out at hv
  have key : ∀ vs, mapO (Rs.ev e h) f.results = some vs → ∃ cs : List Value, (Go.results fn a.tmps).run P w = .ok (if h : cs.toArray.size = 1 then cs.toArray[0] else .tuple cs.toArray) w ∧ RVs tbl ι I vs cs := by
    intro vs hvs
    obtain ⟨cs, hcs, hrs⟩ := res_list hs he fn.results.toList f.results vs hr hvs
    refine ⟨cs, ?_, hrs⟩
    unfold Go.results
    rw [Array.mapM_eq_mapM_toList]
    simp only [Go.Sem.run_bind, Go.Sem.run_map]
    erw [hcs]
    simp
  split at hv
  · rename_i u hu
    cases hv
    obtain ⟨cs, h1, h2⟩ := key _ hu
    obtain ⟨y, t, rfl, hy, ht⟩ := h2.uncons
    have : t = [] := by have := ht.len; simpa using this
    subst this
    exact ⟨y, by simpa using h1, hy⟩
  · rename_i vs hne hvs
    cases hv
    obtain ⟨cs, h1, h2⟩ := key _ hvs
    have hn : ¬ cs.toArray.size = 1 := fun h3 => by
      have h4 : vs.length = 1 := by rw [← h2.len]; simpa using h3
      obtain ⟨x, hx⟩ := List.length_eq_one_iff.1 h4
      exact hne x hx
    rw [dif_neg hn] at h1
    exact ⟨_, h1, .tup _ _ h2.len h2.at_⟩
  · cases hv

/-- The abstract program is the translated one. -/
structure Models (P : Program) (tbl : Nat → Option Nat) (A : Prog) : Prop where
  mixed : P.follows .mixedOrders = true
  tblOK : TblOK P tbl
  fn : ∀ f g, tbl f = some g → ∃ fn af, P.funcs[f]? = some fn ∧ A g = some af ∧ compFn P tbl fn = some (eraseFn af) ∧ af.body.ok = true

theorem compFn_inv {fn : Func} {af : Fn} (h : compFn P tbl fn = some (eraseFn af)) : ∃ c, fn.body = some c ∧ compC P tbl c = some (eraseC af.body) ∧ mapO (compR P) fn.results.toList = some af.results ∧ af.nargs = fn.params.size + fn.nfree ∧ af.ntmps = fn.ntmps := by
  unfold compFn at h
  split at h
  · cases h
  · rename_i c hb
    split at h
    · rename_i b r hc hr
      simp only [eraseFn, Option.some.injEq, Fn.mk.injEq] at h
      obtain ⟨h1, h2, h3, h4⟩ := h
      exact ⟨c, hb, by rw [hc, h4], by rw [hr, h3], h1.symm, h2.symm⟩
    · cases h

theorem run_ok {A : Prog} (hM : Models P tbl A) : ∀ k, CallOK P tbl (A.run k) := by
  intro k
  induction k with
  | zero => intro g args h r h' hev; simp [Prog.run] at hev
  | succ k ih =>
    intro g args h r h' hev f hf ι I w cargs hs hfr hr
    obtain ⟨fn, af, hfn, hA, hc, hok⟩ := hM.fn f g hf
    obtain ⟨c, hb, hcc, hres, hna, hnt⟩ := compFn_inv hc
    simp only [Prog.run, hA] at hev
    split at hev
    · rename_i hlen
      refine Go.calls_of_wp hfn hb ?_
      have henv : RVe tbl ι I (args ++ List.replicate (af.ntmps - af.nargs) V.undef) (cargs.toArray ++ Array.replicate (fn.ntmps - cargs.toArray.size) Go.undef) := by
        have h1 : cargs.toArray.size = args.length := by simpa using hr.len
        have h2 : (cargs.toArray ++ Array.replicate (fn.ntmps - cargs.toArray.size) Go.undef).toList = cargs ++ List.replicate (fn.ntmps - args.length) Go.undef := by
          simp [hr.len]
        unfold RVe
        rw [h2, hlen, hnt]
        exact hr.append (.replicate .undef _)
      have fin : ∀ (x : Ex) e1 h1 v, af.out e1 h1 = some v → (x = .normal ∨ x = .ret) → ∀ (a' : Act) w' κ J, Post tbl ι I h w κ J h1 w' → RVe tbl κ J e1 a'.tmps → a'.defers = [] →
          Go.bodyPost P fn (fun e w' => ∃ c κ J, e = .returned c ∧ Post tbl ι I h w κ J h1 w' ∧ RV tbl κ J v c) x.go a' w' := by
        intro x e1 h1 v hv hx a' w' κ J p r hd
        obtain ⟨cv, hcv, hrv⟩ := results_run p.st r hres hv
        rcases hx with rfl | rfl
        · exact ⟨hd, cv, hcv, cv, κ, J, rfl, p, hrv⟩
        · exact ⟨hd, cv, hcv, cv, κ, J, rfl, p, hrv⟩
      split at hev
      · cases hev
      · rename_i x e1 h1 hne hev1
        split at hev
        · rename_i v hv
          obtain ⟨rfl, rfl⟩ := some_pair hev
          refine ev_sound hM.mixed hM.tblOK ih k c af.body hcc hok ι I h w _ _ x e1 _ hs hfr henv hev1 _ fun a' w' κ J p r hd => ?_
          refine fin x e1 _ _ hv ?_ a' w' κ J p r hd
          cases x with
          | normal => exact .inl rfl
          | ret => exact .inr rfl
          | exit i => exact (hne i rfl).elim
        · cases hev
      · cases hev
    · cases hev
end Rv

/- From an abstract program's answer to the translated program's. -/
namespace Rv
set_option linter.unusedVariables false
set_option linter.unusedSimpArgs false
open Go (IntKind BinOp UnOp Program Value Operand Oper Code TypeId Func World Addr Obj Act Calls execOp)
variable {P : Program}

def tblOf : List (Nat × Nat) → Nat → Option Nat
  | [], _ => none
  | (a, b) :: r, f => if a = f then some b else tblOf r f

theorem tblOf_mem : ∀ {ps : List (Nat × Nat)} {f g : Nat}, tblOf ps f = some g → (f, g) ∈ ps
  | [], f, g, h => by simp [tblOf] at h
  | (a, b) :: r, f, g, h => by
    simp only [tblOf] at h
    split at h
    · rename_i e; cases h; subst e; exact List.mem_cons_self ..
    · exact List.mem_cons_of_mem _ (tblOf_mem h)

/-- One function stands for one. -/
def FnOK (P : Program) (tbl : Nat → Option Nat) (A : Prog) (x : Nat × Nat) : Prop :=
  ∃ fn af, P.funcs[x.1]? = some fn ∧ A x.2 = some af ∧ compFn P tbl fn = some (eraseFn af) ∧ af.body.ok = true ∧ (fn.name == "runtime.NumGoroutine") = false

theorem models_of {A : Prog} {ps : List (Nat × Nat)} (hm : P.follows .mixedOrders = true) (h : ∀ x ∈ ps, FnOK P (tblOf ps) A x) : Models P (tblOf ps) A := by
  refine ⟨hm, fun f g hf => ?_, fun f g hf => ?_⟩
  · obtain ⟨fn, af, h1, h2, h3, h4, h5⟩ := h _ (tblOf_mem hf)
    obtain ⟨c, hb, _⟩ := compFn_inv h3
    exact ⟨fn, h1, by rw [hb]; rfl, h5⟩
  · obtain ⟨fn, af, h1, h2, h3, h4, h5⟩ := h _ (tblOf_mem hf)
    exact ⟨fn, af, h1, h2, h3, h4⟩

/-- A call whose arguments are immutable in the world as it is. -/
theorem calls_of_run {tbl : Nat → Option Nat} {A : Prog} (hM : Models P tbl A) {f g : Nat} (hf : tbl f = some g) {k : Nat} {args : List V} {v : V} (hrun : ((A.run k g args Heap.empty).map (·.1)) = some v) (w : World) {cargs : List Value}
    (I : Imm) (hI : ∀ b o v, I b o = some v → w.cell? ⟨b, o, none⟩ = some v) (hr : RIs tbl I args cargs) :
    Calls P f cargs.toArray w fun e w' => ∃ c κ J, e = .returned c ∧ RV tbl κ J v c ∧ Go.RowKit.Below w.heap.size w w' := by
  cases hq : A.run k g args Heap.empty with
  | none => rw [hq] at hrun; cases hrun
  | some p =>
    obtain ⟨r, h'⟩ := p
    rw [hq] at hrun
    simp only [Option.map_some, Option.some.injEq] at hrun
    subst hrun
    refine (run_ok hM k g args Heap.empty r h' hq f hf Iota.none I w cargs (st_none hI _) (fun _ _ _ => rfl) hr.none).mono ?_
    rintro e w' ⟨c, κ, J, rfl, p, q⟩
    exact ⟨c, κ, J, rfl, q, ⟨p.frm.os, p.frm.tape, p.frm.output, p.frm.size, fun b hb => p.frm.block b hb (fun i ⟨_, _, _, _, _, x, _⟩ => nomatch x)⟩⟩

/-- A law without arguments. -/
theorem calls_law0 {tbl : Nat → Option Nat} {A : Prog} (hM : Models P tbl A) {f g : Nat} (hf : tbl f = some g) {k : Nat} {b : Bool} (hrun : ((A.run k g [] Heap.empty).map (·.1)) = some (.bool b)) (w : World) :
    Calls P f #[] w fun e w' => e = .returned (.bool b) ∧ Go.RowKit.Below w.heap.size w w' := by
  refine (calls_of_run hM hf hrun w (fun _ _ => none) (fun b o v hv => nomatch hv) (cargs := []) .nil).mono ?_
  rintro e w' ⟨c, κ, J, rfl, hr, hb⟩
  exact ⟨by rw [hr.of_bool], hb⟩
end Rv
