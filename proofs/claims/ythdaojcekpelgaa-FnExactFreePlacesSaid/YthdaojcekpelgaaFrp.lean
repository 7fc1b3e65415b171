/- The law and what it reaches, as code of the abstract machine. -/
import Derived.Test.YthdaojcekpelgaaRv2
namespace Rv
set_option linter.unusedVariables false
set_option linter.unusedSimpArgs false
set_option maxRecDepth 100000
structure GComplex where
  Prime : Int
  Dims : List Int
  Maps : List (List (List Int))
instance encGComplex : Enc GComplex := ⟨fun x => .agg [V.int .i64 x.Prime, V.isl (List.map Enc.enc x.Dims), V.isl (List.map Enc.enc x.Maps)], fun _ _ _ => rfl, fun _ _ => rfl, fun _ _ _ => rfl⟩
theorem enc_GComplex (x : GComplex) : Enc.enc x = V.agg [V.int .i64 x.Prime, V.isl (List.map Enc.enc x.Dims), V.isl (List.map Enc.enc x.Maps)] := rfl
instance deepGComplex : Deep GComplex := deepRec (fun x => [⟨x.Prime⟩, ⟨x.Dims⟩, ⟨x.Maps⟩]) (fun x => rfl) 1 [1, 1] 8 (by
  intro x d hd
  simp only [List.mem_cons, List.not_mem_nil, or_false] at hd
  rcases hd with rfl | rfl | rfl
  · exact ⟨⟨_, rfl⟩, Nat.le_of_ble_eq_true rfl⟩
  · exact ⟨⟨_, rfl⟩, Nat.le_of_ble_eq_true rfl⟩
  · exact ⟨⟨_, rfl⟩, Nat.le_of_ble_eq_true rfl⟩)
theorem sh_GComplex {h : Heap} {v : V} {x : GComplex} {K : Ks} (r : Deep.rep h v x K) : ∃ v1 v2, v = V.agg [V.int .i64 x.Prime, v1, v2] ∧ frz h 15 v1 = some (V.isl (List.map Enc.enc x.Dims)) ∧ frz h 15 v2 = some (V.isl (List.map Enc.enc x.Maps)) := by
  obtain ⟨vs, rfl, r0⟩ := r
  obtain ⟨w0, rfl, r1⟩ := repF_int_un r0
  obtain ⟨v1, w1, A1, B1, rfl, a1, r2, -, -⟩ := repF_cons_un r1
  obtain ⟨v2, w2, A2, B2, rfl, a2, r3, -, -⟩ := repF_cons_un r2
  obtain ⟨rfl, -⟩ := repF_nil_un r3
  exact ⟨v1, v2, rfl, Deep.fz (α := List Int) a1 10, Deep.fz (α := List (List (List Int))) a2 8⟩
theorem fz_GComplex {h : Heap} {x : GComplex} {K : Ks} {p0 : Int} {v1 v2 : V} (r : Deep.rep h (V.agg [V.int .i64 p0, v1, v2]) x K) : x.Prime = p0 ∧ frz h 15 v1 = some (V.isl (List.map Enc.enc x.Dims)) ∧ frz h 15 v2 = some (V.isl (List.map Enc.enc x.Maps)) := by
  obtain ⟨uv1, uv2, e, z⟩ := sh_GComplex r
  simp only [V.agg.injEq, List.cons.injEq, V.int.injEq, true_and, and_true] at e
  obtain ⟨e0, rfl, rfl⟩ := e
  exact ⟨e0.symm, z⟩
structure GFiltered where
  Complex : GComplex
  Levels : List (List Int)
instance encGFiltered : Enc GFiltered := ⟨fun x => .agg [V.int .i64 x.Complex.Prime, V.isl (List.map Enc.enc x.Complex.Dims), V.isl (List.map Enc.enc x.Complex.Maps), V.isl (List.map Enc.enc x.Levels)], fun _ _ _ => rfl, fun _ _ => rfl, fun _ _ _ => rfl⟩
theorem enc_GFiltered (x : GFiltered) : Enc.enc x = V.agg [V.int .i64 x.Complex.Prime, V.isl (List.map Enc.enc x.Complex.Dims), V.isl (List.map Enc.enc x.Complex.Maps), V.isl (List.map Enc.enc x.Levels)] := rfl
instance deepGFiltered : Deep GFiltered := deepRec (fun x => [⟨x.Complex.Prime⟩, ⟨x.Complex.Dims⟩, ⟨x.Complex.Maps⟩, ⟨x.Levels⟩]) (fun x => rfl) 1 [1, 1] 8 (by
  intro x d hd
  simp only [List.mem_cons, List.not_mem_nil, or_false] at hd
  rcases hd with rfl | rfl | rfl | rfl
  · exact ⟨⟨_, rfl⟩, Nat.le_of_ble_eq_true rfl⟩
  · exact ⟨⟨_, rfl⟩, Nat.le_of_ble_eq_true rfl⟩
  · exact ⟨⟨_, rfl⟩, Nat.le_of_ble_eq_true rfl⟩
  · exact ⟨⟨_, rfl⟩, Nat.le_of_ble_eq_true rfl⟩)
theorem sh_GFiltered {h : Heap} {v : V} {x : GFiltered} {K : Ks} (r : Deep.rep h v x K) : ∃ v1 v2 v3, v = V.agg [V.int .i64 x.Complex.Prime, v1, v2, v3] ∧ frz h 15 v1 = some (V.isl (List.map Enc.enc x.Complex.Dims)) ∧ frz h 15 v2 = some (V.isl (List.map Enc.enc x.Complex.Maps)) ∧ frz h 15 v3 = some (V.isl (List.map Enc.enc x.Levels)) := by
  obtain ⟨vs, rfl, r0⟩ := r
  obtain ⟨w0, rfl, r1⟩ := repF_int_un r0
  obtain ⟨v1, w1, A1, B1, rfl, a1, r2, -, -⟩ := repF_cons_un r1
  obtain ⟨v2, w2, A2, B2, rfl, a2, r3, -, -⟩ := repF_cons_un r2
  obtain ⟨v3, w3, A3, B3, rfl, a3, r4, -, -⟩ := repF_cons_un r3
  obtain ⟨rfl, -⟩ := repF_nil_un r4
  exact ⟨v1, v2, v3, rfl, Deep.fz (α := List Int) a1 10, Deep.fz (α := List (List (List Int))) a2 8, Deep.fz (α := List (List Int)) a3 9⟩
theorem fz_GFiltered {h : Heap} {x : GFiltered} {K : Ks} {p0 : Int} {v1 v2 v3 : V} (r : Deep.rep h (V.agg [V.int .i64 p0, v1, v2, v3]) x K) : x.Complex.Prime = p0 ∧ frz h 15 v1 = some (V.isl (List.map Enc.enc x.Complex.Dims)) ∧ frz h 15 v2 = some (V.isl (List.map Enc.enc x.Complex.Maps)) ∧ frz h 15 v3 = some (V.isl (List.map Enc.enc x.Levels)) := by
  obtain ⟨uv1, uv2, uv3, e, z⟩ := sh_GFiltered r
  simp only [V.agg.injEq, List.cons.injEq, V.int.injEq, true_and, and_true] at e
  obtain ⟨e0, rfl, rfl, rfl⟩ := e
  exact ⟨e0.symm, z⟩
structure GDesk where
  First : GFiltered
  Second : GComplex
instance encGDesk : Enc GDesk := ⟨fun x => .agg [V.int .i64 x.First.Complex.Prime, V.isl (List.map Enc.enc x.First.Complex.Dims), V.isl (List.map Enc.enc x.First.Complex.Maps), V.isl (List.map Enc.enc x.First.Levels), V.int .i64 x.Second.Prime, V.isl (List.map Enc.enc x.Second.Dims), V.isl (List.map Enc.enc x.Second.Maps)], fun _ _ _ => rfl, fun _ _ => rfl, fun _ _ _ => rfl⟩
theorem enc_GDesk (x : GDesk) : Enc.enc x = V.agg [V.int .i64 x.First.Complex.Prime, V.isl (List.map Enc.enc x.First.Complex.Dims), V.isl (List.map Enc.enc x.First.Complex.Maps), V.isl (List.map Enc.enc x.First.Levels), V.int .i64 x.Second.Prime, V.isl (List.map Enc.enc x.Second.Dims), V.isl (List.map Enc.enc x.Second.Maps)] := rfl
instance deepGDesk : Deep GDesk := deepRec (fun x => [⟨x.First.Complex.Prime⟩, ⟨x.First.Complex.Dims⟩, ⟨x.First.Complex.Maps⟩, ⟨x.First.Levels⟩, ⟨x.Second.Prime⟩, ⟨x.Second.Dims⟩, ⟨x.Second.Maps⟩]) (fun x => rfl) 1 [1, 1] 8 (by
  intro x d hd
  simp only [List.mem_cons, List.not_mem_nil, or_false] at hd
  rcases hd with rfl | rfl | rfl | rfl | rfl | rfl | rfl
  · exact ⟨⟨_, rfl⟩, Nat.le_of_ble_eq_true rfl⟩
  · exact ⟨⟨_, rfl⟩, Nat.le_of_ble_eq_true rfl⟩
  · exact ⟨⟨_, rfl⟩, Nat.le_of_ble_eq_true rfl⟩
  · exact ⟨⟨_, rfl⟩, Nat.le_of_ble_eq_true rfl⟩
  · exact ⟨⟨_, rfl⟩, Nat.le_of_ble_eq_true rfl⟩
  · exact ⟨⟨_, rfl⟩, Nat.le_of_ble_eq_true rfl⟩
  · exact ⟨⟨_, rfl⟩, Nat.le_of_ble_eq_true rfl⟩)
theorem sh_GDesk {h : Heap} {v : V} {x : GDesk} {K : Ks} (r : Deep.rep h v x K) : ∃ v1 v2 v3 v5 v6, v = V.agg [V.int .i64 x.First.Complex.Prime, v1, v2, v3, V.int .i64 x.Second.Prime, v5, v6] ∧ frz h 15 v1 = some (V.isl (List.map Enc.enc x.First.Complex.Dims)) ∧ frz h 15 v2 = some (V.isl (List.map Enc.enc x.First.Complex.Maps)) ∧ frz h 15 v3 = some (V.isl (List.map Enc.enc x.First.Levels)) ∧ frz h 15 v5 = some (V.isl (List.map Enc.enc x.Second.Dims)) ∧ frz h 15 v6 = some (V.isl (List.map Enc.enc x.Second.Maps)) := by
  obtain ⟨vs, rfl, r0⟩ := r
  obtain ⟨w0, rfl, r1⟩ := repF_int_un r0
  obtain ⟨v1, w1, A1, B1, rfl, a1, r2, -, -⟩ := repF_cons_un r1
  obtain ⟨v2, w2, A2, B2, rfl, a2, r3, -, -⟩ := repF_cons_un r2
  obtain ⟨v3, w3, A3, B3, rfl, a3, r4, -, -⟩ := repF_cons_un r3
  obtain ⟨w4, rfl, r5⟩ := repF_int_un r4
  obtain ⟨v5, w5, A5, B5, rfl, a5, r6, -, -⟩ := repF_cons_un r5
  obtain ⟨v6, w6, A6, B6, rfl, a6, r7, -, -⟩ := repF_cons_un r6
  obtain ⟨rfl, -⟩ := repF_nil_un r7
  exact ⟨v1, v2, v3, v5, v6, rfl, Deep.fz (α := List Int) a1 10, Deep.fz (α := List (List (List Int))) a2 8, Deep.fz (α := List (List Int)) a3 9, Deep.fz (α := List Int) a5 10, Deep.fz (α := List (List (List Int))) a6 8⟩
theorem fz_GDesk {h : Heap} {x : GDesk} {K : Ks} {p0 : Int} {p4 : Int} {v1 v2 v3 v5 v6 : V} (r : Deep.rep h (V.agg [V.int .i64 p0, v1, v2, v3, V.int .i64 p4, v5, v6]) x K) : x.First.Complex.Prime = p0 ∧ x.Second.Prime = p4 ∧ frz h 15 v1 = some (V.isl (List.map Enc.enc x.First.Complex.Dims)) ∧ frz h 15 v2 = some (V.isl (List.map Enc.enc x.First.Complex.Maps)) ∧ frz h 15 v3 = some (V.isl (List.map Enc.enc x.First.Levels)) ∧ frz h 15 v5 = some (V.isl (List.map Enc.enc x.Second.Dims)) ∧ frz h 15 v6 = some (V.isl (List.map Enc.enc x.Second.Maps)) := by
  obtain ⟨uv1, uv2, uv3, uv5, uv6, e, z⟩ := sh_GDesk r
  simp only [V.agg.injEq, List.cons.injEq, V.int.injEq, true_and, and_true] at e
  obtain ⟨e0, rfl, rfl, rfl, e4, rfl, rfl⟩ := e
  exact ⟨e0.symm, e4.symm, z⟩
structure GDouble where
  Prime : Int
  Dims : List (List Int)
  Across : List (List (List (List Int)))
  Down : List (List (List (List Int)))
instance encGDouble : Enc GDouble := ⟨fun x => .agg [V.int .i64 x.Prime, V.isl (List.map Enc.enc x.Dims), V.isl (List.map Enc.enc x.Across), V.isl (List.map Enc.enc x.Down)], fun _ _ _ => rfl, fun _ _ => rfl, fun _ _ _ => rfl⟩
theorem enc_GDouble (x : GDouble) : Enc.enc x = V.agg [V.int .i64 x.Prime, V.isl (List.map Enc.enc x.Dims), V.isl (List.map Enc.enc x.Across), V.isl (List.map Enc.enc x.Down)] := rfl
instance deepGDouble : Deep GDouble := deepRec (fun x => [⟨x.Prime⟩, ⟨x.Dims⟩, ⟨x.Across⟩, ⟨x.Down⟩]) (fun x => rfl) 1 [1, 1, 1] 8 (by
  intro x d hd
  simp only [List.mem_cons, List.not_mem_nil, or_false] at hd
  rcases hd with rfl | rfl | rfl | rfl
  · exact ⟨⟨_, rfl⟩, Nat.le_of_ble_eq_true rfl⟩
  · exact ⟨⟨_, rfl⟩, Nat.le_of_ble_eq_true rfl⟩
  · exact ⟨⟨_, rfl⟩, Nat.le_of_ble_eq_true rfl⟩
  · exact ⟨⟨_, rfl⟩, Nat.le_of_ble_eq_true rfl⟩)
theorem sh_GDouble {h : Heap} {v : V} {x : GDouble} {K : Ks} (r : Deep.rep h v x K) : ∃ v1 v2 v3, v = V.agg [V.int .i64 x.Prime, v1, v2, v3] ∧ frz h 15 v1 = some (V.isl (List.map Enc.enc x.Dims)) ∧ frz h 15 v2 = some (V.isl (List.map Enc.enc x.Across)) ∧ frz h 15 v3 = some (V.isl (List.map Enc.enc x.Down)) := by
  obtain ⟨vs, rfl, r0⟩ := r
  obtain ⟨w0, rfl, r1⟩ := repF_int_un r0
  obtain ⟨v1, w1, A1, B1, rfl, a1, r2, -, -⟩ := repF_cons_un r1
  obtain ⟨v2, w2, A2, B2, rfl, a2, r3, -, -⟩ := repF_cons_un r2
  obtain ⟨v3, w3, A3, B3, rfl, a3, r4, -, -⟩ := repF_cons_un r3
  obtain ⟨rfl, -⟩ := repF_nil_un r4
  exact ⟨v1, v2, v3, rfl, Deep.fz (α := List (List Int)) a1 9, Deep.fz (α := List (List (List (List Int)))) a2 7, Deep.fz (α := List (List (List (List Int)))) a3 7⟩
theorem fz_GDouble {h : Heap} {x : GDouble} {K : Ks} {p0 : Int} {v1 v2 v3 : V} (r : Deep.rep h (V.agg [V.int .i64 p0, v1, v2, v3]) x K) : x.Prime = p0 ∧ frz h 15 v1 = some (V.isl (List.map Enc.enc x.Dims)) ∧ frz h 15 v2 = some (V.isl (List.map Enc.enc x.Across)) ∧ frz h 15 v3 = some (V.isl (List.map Enc.enc x.Down)) := by
  obtain ⟨uv1, uv2, uv3, e, z⟩ := sh_GDouble r
  simp only [V.agg.injEq, List.cons.injEq, V.int.injEq, true_and, and_true] at e
  obtain ⟨e0, rfl, rfl, rfl⟩ := e
  exact ⟨e0.symm, z⟩
structure GContraction where
  Down : List (List (List Int))
  Up : List (List (List Int))
  Back : List (List (List Int))
instance encGContraction : Enc GContraction := ⟨fun x => .agg [V.isl (List.map Enc.enc x.Down), V.isl (List.map Enc.enc x.Up), V.isl (List.map Enc.enc x.Back)], fun _ _ _ => rfl, fun _ _ => rfl, fun _ _ _ => rfl⟩
theorem enc_GContraction (x : GContraction) : Enc.enc x = V.agg [V.isl (List.map Enc.enc x.Down), V.isl (List.map Enc.enc x.Up), V.isl (List.map Enc.enc x.Back)] := rfl
instance deepGContraction : Deep GContraction := deepRec (fun x => [⟨x.Down⟩, ⟨x.Up⟩, ⟨x.Back⟩]) (fun x => rfl) 1 [1, 1] 8 (by
  intro x d hd
  simp only [List.mem_cons, List.not_mem_nil, or_false] at hd
  rcases hd with rfl | rfl | rfl
  · exact ⟨⟨_, rfl⟩, Nat.le_of_ble_eq_true rfl⟩
  · exact ⟨⟨_, rfl⟩, Nat.le_of_ble_eq_true rfl⟩
  · exact ⟨⟨_, rfl⟩, Nat.le_of_ble_eq_true rfl⟩)
theorem sh_GContraction {h : Heap} {v : V} {x : GContraction} {K : Ks} (r : Deep.rep h v x K) : ∃ v0 v1 v2, v = V.agg [v0, v1, v2] ∧ frz h 15 v0 = some (V.isl (List.map Enc.enc x.Down)) ∧ frz h 15 v1 = some (V.isl (List.map Enc.enc x.Up)) ∧ frz h 15 v2 = some (V.isl (List.map Enc.enc x.Back)) := by
  obtain ⟨vs, rfl, r0⟩ := r
  obtain ⟨v0, w0, A0, B0, rfl, a0, r1, -, -⟩ := repF_cons_un r0
  obtain ⟨v1, w1, A1, B1, rfl, a1, r2, -, -⟩ := repF_cons_un r1
  obtain ⟨v2, w2, A2, B2, rfl, a2, r3, -, -⟩ := repF_cons_un r2
  obtain ⟨rfl, -⟩ := repF_nil_un r3
  exact ⟨v0, v1, v2, rfl, Deep.fz (α := List (List (List Int))) a0 8, Deep.fz (α := List (List (List Int))) a1 8, Deep.fz (α := List (List (List Int))) a2 8⟩
theorem fz_GContraction {h : Heap} {x : GContraction} {K : Ks}  {v0 v1 v2 : V} (r : Deep.rep h (V.agg [v0, v1, v2]) x K) : frz h 15 v0 = some (V.isl (List.map Enc.enc x.Down)) ∧ frz h 15 v1 = some (V.isl (List.map Enc.enc x.Up)) ∧ frz h 15 v2 = some (V.isl (List.map Enc.enc x.Back)) := by
  obtain ⟨uv0, uv1, uv2, e, z⟩ := sh_GContraction r
  simp only [V.agg.injEq, List.cons.injEq, V.int.injEq, true_and, and_true] at e
  obtain ⟨rfl, rfl, rfl⟩ := e
  exact z
theorem RE : type_of% (And.intro @enc_GComplex <| And.intro @enc_GFiltered <| And.intro @enc_GDesk <| And.intro @enc_GDouble <| @enc_GContraction) := And.intro @enc_GComplex <| And.intro @enc_GFiltered <| And.intro @enc_GDesk <| And.intro @enc_GDouble <| @enc_GContraction
/-! loop.example/g01273/laws.szInt64S -/
def b43 : C := .seq (.reg [
    ⟨(some 4), .move (.c (.int .i64 0)), none⟩] none)
  (.seq (.reg [
    ⟨(some 5), .move (.t 1), none⟩,
    ⟨(some 6), .move (.t 0), none⟩,
    ⟨(some 7), .len (.t 6), none⟩,
    ⟨(some 8), .bin 0 .sub (.t 5) (.t 7), none⟩,
    ⟨(some 1), .move (.t 8), none⟩] none)
  (.seq (.seq (.reg [
    ⟨(some 9), .move (.t 1), none⟩,
    ⟨(some 10), .bin 0 .lss (.t 9) (.c (.int .i64 0)), none⟩] none)
  (.cond (.t 10)
  (.seq (.reg [
    ⟨(some 4), .move (.c (.int .i64 (-1))), none⟩] none)
  (.ret))
  (.skip)))
  (.seq (.reg [
    ⟨(some 11), .move (.t 1), none⟩,
    ⟨(some 4), .move (.t 11), none⟩] none)
  (.ret))))
def p43 : Fn := ⟨2, 12, [.tmp 4], b43⟩
/-! loop.example/g01273/laws.szInt64SS -/
def b44_1 : C := .seq (.seq (.reg [
    ⟨(some 12), .move (.t 5), none⟩,
    ⟨(some 13), .move (.t 0), none⟩,
    ⟨(some 14), .len (.t 13), none⟩,
    ⟨(some 15), .bin 0 .lss (.t 12) (.t 14), none⟩] none)
  (.cond (.t 15)
  (.skip)
  (.exit 0)))
  (.seq (.block 1 (.seq (.reg [
    ⟨(some 18), .move (.t 0), none⟩,
    ⟨(some 19), .move (.t 5), none⟩,
    ⟨(some 20), .indexAddr none 1 (.t 18) (.t 19), none⟩,
    ⟨(some 21), .load false none (.t 20), none⟩,
    ⟨(some 22), .move (.t 1), none⟩,
    ⟨(some 23), .callf (.pure []) 43 [(.t 21), (.t 22)], none⟩,
    ⟨(some 1), .move (.t 23), none⟩] none)
  (.seq (.reg [
    ⟨(some 24), .move (.t 1), none⟩,
    ⟨(some 25), .bin 0 .lss (.t 24) (.c (.int .i64 0)), none⟩] none)
  (.cond (.t 25)
  (.seq (.reg [
    ⟨(some 4), .move (.c (.int .i64 (-1))), none⟩] none)
  (.ret))
  (.skip)))))
  (.reg [
    ⟨(some 16), .move (.t 5), none⟩,
    ⟨(some 17), .bin 0 .add (.t 16) (.c (.int .i64 1)), none⟩,
    ⟨(some 5), .move (.t 17), none⟩] none))
def c44_1 : C := .block 0 (.loop false b44_1)
def b44 : C := .seq (.reg [
    ⟨(some 4), .move (.c (.int .i64 0)), none⟩] none)
  (.seq (.reg [
    ⟨(some 6), .move (.t 1), none⟩,
    ⟨(some 7), .move (.t 0), none⟩,
    ⟨(some 8), .len (.t 7), none⟩,
    ⟨(some 9), .bin 0 .sub (.t 6) (.t 8), none⟩,
    ⟨(some 1), .move (.t 9), none⟩] none)
  (.seq (.seq (.reg [
    ⟨(some 10), .move (.t 1), none⟩,
    ⟨(some 11), .bin 0 .lss (.t 10) (.c (.int .i64 0)), none⟩] none)
  (.cond (.t 11)
  (.seq (.reg [
    ⟨(some 4), .move (.c (.int .i64 (-1))), none⟩] none)
  (.ret))
  (.skip)))
  (.seq (.seq (.reg [
    ⟨(some 5), .move (.c (.int .i64 0)), none⟩] none)
  (c44_1))
  (.seq (.reg [
    ⟨(some 26), .move (.t 1), none⟩,
    ⟨(some 4), .move (.t 26), none⟩] none)
  (.ret)))))
def p44 : Fn := ⟨2, 27, [.tmp 4], b44⟩
/-! loop.example/g01273/laws.szInt64SSS -/
def b11_1 : C := .seq (.seq (.reg [
    ⟨(some 12), .move (.t 5), none⟩,
    ⟨(some 13), .move (.t 0), none⟩,
    ⟨(some 14), .len (.t 13), none⟩,
    ⟨(some 15), .bin 0 .lss (.t 12) (.t 14), none⟩] none)
  (.cond (.t 15)
  (.skip)
  (.exit 0)))
  (.seq (.block 1 (.seq (.reg [
    ⟨(some 18), .move (.t 0), none⟩,
    ⟨(some 19), .move (.t 5), none⟩,
    ⟨(some 20), .indexAddr none 1 (.t 18) (.t 19), none⟩,
    ⟨(some 21), .load false none (.t 20), none⟩,
    ⟨(some 22), .move (.t 1), none⟩,
    ⟨(some 23), .callf (.pure []) 44 [(.t 21), (.t 22)], none⟩,
    ⟨(some 1), .move (.t 23), none⟩] none)
  (.seq (.reg [
    ⟨(some 24), .move (.t 1), none⟩,
    ⟨(some 25), .bin 0 .lss (.t 24) (.c (.int .i64 0)), none⟩] none)
  (.cond (.t 25)
  (.seq (.reg [
    ⟨(some 4), .move (.c (.int .i64 (-1))), none⟩] none)
  (.ret))
  (.skip)))))
  (.reg [
    ⟨(some 16), .move (.t 5), none⟩,
    ⟨(some 17), .bin 0 .add (.t 16) (.c (.int .i64 1)), none⟩,
    ⟨(some 5), .move (.t 17), none⟩] none))
def c11_1 : C := .block 0 (.loop false b11_1)
def b11 : C := .seq (.reg [
    ⟨(some 4), .move (.c (.int .i64 0)), none⟩] none)
  (.seq (.reg [
    ⟨(some 6), .move (.t 1), none⟩,
    ⟨(some 7), .move (.t 0), none⟩,
    ⟨(some 8), .len (.t 7), none⟩,
    ⟨(some 9), .bin 0 .sub (.t 6) (.t 8), none⟩,
    ⟨(some 1), .move (.t 9), none⟩] none)
  (.seq (.seq (.reg [
    ⟨(some 10), .move (.t 1), none⟩,
    ⟨(some 11), .bin 0 .lss (.t 10) (.c (.int .i64 0)), none⟩] none)
  (.cond (.t 11)
  (.seq (.reg [
    ⟨(some 4), .move (.c (.int .i64 (-1))), none⟩] none)
  (.ret))
  (.skip)))
  (.seq (.seq (.reg [
    ⟨(some 5), .move (.c (.int .i64 0)), none⟩] none)
  (c11_1))
  (.seq (.reg [
    ⟨(some 26), .move (.t 1), none⟩,
    ⟨(some 4), .move (.t 26), none⟩] none)
  (.ret)))))
def p11 : Fn := ⟨2, 27, [.tmp 4], b11⟩
/-! loop.example/g01273/laws.szComplex -/
def b10 : C := .seq (.reg [
    ⟨(some 2), .fz (.box (.t 0)), none⟩,
    ⟨(some 4), .move (.c (.int .i64 0)), none⟩] none)
  (.seq (.reg [
    ⟨(some 5), .fieldAddr 1 (.t 2), none⟩,
    ⟨(some 6), .load false none (.t 5), none⟩,
    ⟨(some 7), .move (.t 1), none⟩,
    ⟨(some 8), .callf (.pure []) 43 [(.t 6), (.t 7)], none⟩,
    ⟨(some 1), .move (.t 8), none⟩] none)
  (.seq (.seq (.reg [
    ⟨(some 9), .move (.t 1), none⟩,
    ⟨(some 10), .bin 0 .lss (.t 9) (.c (.int .i64 0)), none⟩] none)
  (.cond (.t 10)
  (.seq (.reg [
    ⟨(some 4), .move (.c (.int .i64 (-1))), none⟩] none)
  (.ret))
  (.skip)))
  (.seq (.reg [
    ⟨(some 11), .fieldAddr 2 (.t 2), none⟩,
    ⟨(some 12), .load false none (.t 11), none⟩,
    ⟨(some 13), .move (.t 1), none⟩,
    ⟨(some 14), .callf (.pure []) 11 [(.t 12), (.t 13)], none⟩,
    ⟨(some 1), .move (.t 14), none⟩] none)
  (.seq (.seq (.reg [
    ⟨(some 15), .move (.t 1), none⟩,
    ⟨(some 16), .bin 0 .lss (.t 15) (.c (.int .i64 0)), none⟩] none)
  (.cond (.t 16)
  (.seq (.reg [
    ⟨(some 4), .move (.c (.int .i64 (-1))), none⟩] none)
  (.ret))
  (.skip)))
  (.seq (.reg [
    ⟨(some 17), .move (.t 1), none⟩,
    ⟨(some 4), .move (.t 17), none⟩] none)
  (.ret))))))
def p10 : Fn := ⟨2, 18, [.tmp 4], b10⟩
/-! loop.example/g01273/laws.toInt64S -/
def b47_1 : C := .seq (.seq (.reg [
    ⟨(some 8), .move (.t 4), none⟩,
    ⟨(some 9), .move (.t 0), none⟩,
    ⟨(some 10), .len (.t 9), none⟩,
    ⟨(some 11), .bin 0 .lss (.t 8) (.t 10), none⟩] none)
  (.cond (.t 11)
  (.skip)
  (.exit 0)))
  (.seq (.block 1 (.reg [
    ⟨(some 14), .move (.t 3), none⟩,
    ⟨(some 15), .move (.t 4), none⟩,
    ⟨(some 16), .move (.t 0), none⟩,
    ⟨(some 17), .move (.t 4), none⟩,
    ⟨(some 18), .indexAddr none 1 (.t 16) (.t 17), none⟩,
    ⟨(some 19), .load false none (.t 18), none⟩,
    ⟨(some 20), .indexAddr none 1 (.t 14) (.t 15), none⟩,
    ⟨none, .store 1 (.t 20) (.t 19), none⟩] none))
  (.reg [
    ⟨(some 12), .move (.t 4), none⟩,
    ⟨(some 13), .bin 0 .add (.t 12) (.c (.int .i64 1)), none⟩,
    ⟨(some 4), .move (.t 13), none⟩] none))
def c47_1 : C := .block 0 (.loop false b47_1)
def b47 : C := .seq (.reg [
    ⟨(some 2), .move (.c (.nils)), none⟩] none)
  (.seq (.reg [
    ⟨(some 5), .move (.t 0), none⟩,
    ⟨(some 6), .len (.t 5), none⟩,
    ⟨(some 7), .makeSlice 1 8 [.int .i64 0] (.t 6) (.t 6), none⟩,
    ⟨(some 3), .move (.t 7), none⟩] none)
  (.seq (.seq (.reg [
    ⟨(some 4), .move (.c (.int .i64 0)), none⟩] none)
  (c47_1))
  (.seq (.reg [
    ⟨(some 21), .move (.t 3), none⟩,
    ⟨(some 2), .move (.t 21), none⟩] none)
  (.ret))))
def p47 : Fn := ⟨1, 22, [.tmp 2], b47⟩
/-! loop.example/g01273/laws.toInt64SS -/
def b48_1 : C := .seq (.seq (.reg [
    ⟨(some 8), .move (.t 4), none⟩,
    ⟨(some 9), .move (.t 0), none⟩,
    ⟨(some 10), .len (.t 9), none⟩,
    ⟨(some 11), .bin 0 .lss (.t 8) (.t 10), none⟩] none)
  (.cond (.t 11)
  (.skip)
  (.exit 0)))
  (.seq (.block 1 (.reg [
    ⟨(some 14), .move (.t 3), none⟩,
    ⟨(some 15), .move (.t 4), none⟩,
    ⟨(some 16), .move (.t 0), none⟩,
    ⟨(some 17), .move (.t 4), none⟩,
    ⟨(some 18), .indexAddr none 1 (.t 16) (.t 17), none⟩,
    ⟨(some 19), .load false none (.t 18), none⟩,
    ⟨(some 20), .callf (.pure [1]) 47 [(.t 19)], none⟩,
    ⟨(some 21), .indexAddr none 1 (.t 14) (.t 15), none⟩,
    ⟨none, .store 1 (.t 21) (.t 20), none⟩] none))
  (.reg [
    ⟨(some 12), .move (.t 4), none⟩,
    ⟨(some 13), .bin 0 .add (.t 12) (.c (.int .i64 1)), none⟩,
    ⟨(some 4), .move (.t 13), none⟩] none))
def c48_1 : C := .block 0 (.loop true b48_1)
def b48 : C := .seq (.reg [
    ⟨(some 2), .move (.c (.nils)), none⟩] none)
  (.seq (.reg [
    ⟨(some 5), .move (.t 0), none⟩,
    ⟨(some 6), .len (.t 5), none⟩,
    ⟨(some 7), .makeSlice 1 24 [.nils] (.t 6) (.t 6), none⟩,
    ⟨(some 3), .move (.t 7), none⟩] none)
  (.seq (.seq (.reg [
    ⟨(some 4), .move (.c (.int .i64 0)), none⟩] none)
  (c48_1))
  (.seq (.reg [
    ⟨(some 22), .move (.t 3), none⟩,
    ⟨(some 2), .move (.t 22), none⟩] none)
  (.ret))))
def p48 : Fn := ⟨1, 23, [.tmp 2], b48⟩
/-! loop.example/g01273/laws.toInt64SSS -/
def b13_1 : C := .seq (.seq (.reg [
    ⟨(some 8), .move (.t 4), none⟩,
    ⟨(some 9), .move (.t 0), none⟩,
    ⟨(some 10), .len (.t 9), none⟩,
    ⟨(some 11), .bin 0 .lss (.t 8) (.t 10), none⟩] none)
  (.cond (.t 11)
  (.skip)
  (.exit 0)))
  (.seq (.block 1 (.reg [
    ⟨(some 14), .move (.t 3), none⟩,
    ⟨(some 15), .move (.t 4), none⟩,
    ⟨(some 16), .move (.t 0), none⟩,
    ⟨(some 17), .move (.t 4), none⟩,
    ⟨(some 18), .indexAddr none 1 (.t 16) (.t 17), none⟩,
    ⟨(some 19), .load false none (.t 18), none⟩,
    ⟨(some 20), .callf (.pure [1, 1]) 48 [(.t 19)], none⟩,
    ⟨(some 21), .indexAddr none 1 (.t 14) (.t 15), none⟩,
    ⟨none, .store 1 (.t 21) (.t 20), none⟩] none))
  (.reg [
    ⟨(some 12), .move (.t 4), none⟩,
    ⟨(some 13), .bin 0 .add (.t 12) (.c (.int .i64 1)), none⟩,
    ⟨(some 4), .move (.t 13), none⟩] none))
def c13_1 : C := .block 0 (.loop true b13_1)
def b13 : C := .seq (.reg [
    ⟨(some 2), .move (.c (.nils)), none⟩] none)
  (.seq (.reg [
    ⟨(some 5), .move (.t 0), none⟩,
    ⟨(some 6), .len (.t 5), none⟩,
    ⟨(some 7), .makeSlice 1 24 [.nils] (.t 6) (.t 6), none⟩,
    ⟨(some 3), .move (.t 7), none⟩] none)
  (.seq (.seq (.reg [
    ⟨(some 4), .move (.c (.int .i64 0)), none⟩] none)
  (c13_1))
  (.seq (.reg [
    ⟨(some 22), .move (.t 3), none⟩,
    ⟨(some 2), .move (.t 22), none⟩] none)
  (.ret))))
def p13 : Fn := ⟨1, 23, [.tmp 2], b13⟩
/-! loop.example/g01273/laws.toComplex -/
def b12 : C := .seq (.reg [
    ⟨(some 1), .fz (.box (.t 0)), none⟩,
    ⟨(some 2), .alloc [.int .i64 0, .nils, .nils], none⟩] none)
  (.seq (.reg [
    ⟨(some 3), .alloc [.int .i64 0, .nils, .nils], none⟩] none)
  (.seq (.reg [
    ⟨(some 4), .fieldAddr 0 (.t 1), none⟩,
    ⟨(some 5), .load false none (.t 4), none⟩,
    ⟨(some 6), .fieldAddr 0 (.t 3), none⟩,
    ⟨none, .store 1 (.t 6) (.t 5), none⟩] none)
  (.seq (.reg [
    ⟨(some 7), .fieldAddr 1 (.t 1), none⟩,
    ⟨(some 8), .load false none (.t 7), none⟩,
    ⟨(some 9), .callf (.pure [1]) 47 [(.t 8)], none⟩,
    ⟨(some 10), .fieldAddr 1 (.t 3), none⟩,
    ⟨none, .store 1 (.t 10) (.t 9), none⟩] none)
  (.seq (.reg [
    ⟨(some 11), .fieldAddr 2 (.t 1), none⟩,
    ⟨(some 12), .load false none (.t 11), none⟩,
    ⟨(some 13), .callf (.pure [1, 1, 1]) 13 [(.t 12)], none⟩,
    ⟨(some 14), .fieldAddr 2 (.t 3), none⟩,
    ⟨none, .store 1 (.t 14) (.t 13), none⟩] none)
  (.seq (.reg [
    ⟨(some 15), .load false (some 3) (.t 3), none⟩,
    ⟨none, .store 3 (.t 2) (.t 15), none⟩] none)
  (.ret))))))
def p12 : Fn := ⟨1, 16, [.cell 2 (some 3)], b12⟩
/-! loop.example/g01273/laws.eqInt64S -/
def b30_1 : C := .seq (.seq (.reg [
    ⟨(some 11), .move (.t 5), none⟩,
    ⟨(some 12), .move (.t 0), none⟩,
    ⟨(some 13), .len (.t 12), none⟩,
    ⟨(some 14), .bin 0 .lss (.t 11) (.t 13), none⟩] none)
  (.cond (.t 14)
  (.skip)
  (.exit 0)))
  (.seq (.block 1 (.seq (.reg [
    ⟨(some 17), .move (.t 0), none⟩,
    ⟨(some 18), .move (.t 5), none⟩,
    ⟨(some 19), .indexAddr none 1 (.t 17) (.t 18), none⟩,
    ⟨(some 20), .load false none (.t 19), none⟩,
    ⟨(some 21), .move (.t 1), none⟩,
    ⟨(some 22), .move (.t 5), none⟩,
    ⟨(some 23), .indexAddr none 1 (.t 21) (.t 22), none⟩,
    ⟨(some 24), .load false none (.t 23), none⟩,
    ⟨(some 25), .bin 0 .neq (.t 20) (.t 24), none⟩] (some [[], [], [0, 1], [2], [], [], [4, 5], [6], [3, 7]]))
  (.cond (.t 25)
  (.seq (.reg [
    ⟨(some 4), .move (.c (.bool false)), none⟩] none)
  (.ret))
  (.skip))))
  (.reg [
    ⟨(some 15), .move (.t 5), none⟩,
    ⟨(some 16), .bin 0 .add (.t 15) (.c (.int .i64 1)), none⟩,
    ⟨(some 5), .move (.t 16), none⟩] none))
def c30_1 : C := .block 0 (.loop false b30_1)
def b30 : C := .seq (.reg [
    ⟨(some 4), .move (.c (.bool false)), none⟩] none)
  (.seq (.seq (.reg [
    ⟨(some 6), .move (.t 0), none⟩,
    ⟨(some 7), .len (.t 6), none⟩,
    ⟨(some 8), .move (.t 1), none⟩,
    ⟨(some 9), .len (.t 8), none⟩,
    ⟨(some 10), .bin 0 .neq (.t 7) (.t 9), none⟩] none)
  (.cond (.t 10)
  (.seq (.reg [
    ⟨(some 4), .move (.c (.bool false)), none⟩] none)
  (.ret))
  (.skip)))
  (.seq (.seq (.reg [
    ⟨(some 5), .move (.c (.int .i64 0)), none⟩] none)
  (c30_1))
  (.seq (.reg [
    ⟨(some 4), .move (.c (.bool true)), none⟩] none)
  (.ret))))
def p30 : Fn := ⟨2, 26, [.tmp 4], b30⟩
/-! loop.example/g01273/laws.eqInt64SS -/
def b51_1 : C := .seq (.seq (.reg [
    ⟨(some 11), .move (.t 5), none⟩,
    ⟨(some 12), .move (.t 0), none⟩,
    ⟨(some 13), .len (.t 12), none⟩,
    ⟨(some 14), .bin 0 .lss (.t 11) (.t 13), none⟩] none)
  (.cond (.t 14)
  (.skip)
  (.exit 0)))
  (.seq (.block 1 (.seq (.reg [
    ⟨(some 17), .move (.t 0), none⟩,
    ⟨(some 18), .move (.t 5), none⟩,
    ⟨(some 19), .indexAddr none 1 (.t 17) (.t 18), none⟩,
    ⟨(some 20), .load false none (.t 19), none⟩,
    ⟨(some 21), .move (.t 1), none⟩,
    ⟨(some 22), .move (.t 5), none⟩,
    ⟨(some 23), .indexAddr none 1 (.t 21) (.t 22), none⟩,
    ⟨(some 24), .load false none (.t 23), none⟩,
    ⟨(some 25), .callf (.pure []) 30 [(.t 20), (.t 24)], none⟩,
    ⟨(some 26), .un .not (.t 25), none⟩] (some [[], [], [0, 1], [2], [], [], [4, 5], [6], [3, 7], [8]]))
  (.cond (.t 26)
  (.seq (.reg [
    ⟨(some 4), .move (.c (.bool false)), none⟩] none)
  (.ret))
  (.skip))))
  (.reg [
    ⟨(some 15), .move (.t 5), none⟩,
    ⟨(some 16), .bin 0 .add (.t 15) (.c (.int .i64 1)), none⟩,
    ⟨(some 5), .move (.t 16), none⟩] none))
def c51_1 : C := .block 0 (.loop false b51_1)
def b51 : C := .seq (.reg [
    ⟨(some 4), .move (.c (.bool false)), none⟩] none)
  (.seq (.seq (.reg [
    ⟨(some 6), .move (.t 0), none⟩,
    ⟨(some 7), .len (.t 6), none⟩,
    ⟨(some 8), .move (.t 1), none⟩,
    ⟨(some 9), .len (.t 8), none⟩,
    ⟨(some 10), .bin 0 .neq (.t 7) (.t 9), none⟩] none)
  (.cond (.t 10)
  (.seq (.reg [
    ⟨(some 4), .move (.c (.bool false)), none⟩] none)
  (.ret))
  (.skip)))
  (.seq (.seq (.reg [
    ⟨(some 5), .move (.c (.int .i64 0)), none⟩] none)
  (c51_1))
  (.seq (.reg [
    ⟨(some 4), .move (.c (.bool true)), none⟩] none)
  (.ret))))
def p51 : Fn := ⟨2, 27, [.tmp 4], b51⟩
/-! loop.example/g01273/laws.eqInt64SSS -/
def b17_1 : C := .seq (.seq (.reg [
    ⟨(some 11), .move (.t 5), none⟩,
    ⟨(some 12), .move (.t 0), none⟩,
    ⟨(some 13), .len (.t 12), none⟩,
    ⟨(some 14), .bin 0 .lss (.t 11) (.t 13), none⟩] none)
  (.cond (.t 14)
  (.skip)
  (.exit 0)))
  (.seq (.block 1 (.seq (.reg [
    ⟨(some 17), .move (.t 0), none⟩,
    ⟨(some 18), .move (.t 5), none⟩,
    ⟨(some 19), .indexAddr none 1 (.t 17) (.t 18), none⟩,
    ⟨(some 20), .load false none (.t 19), none⟩,
    ⟨(some 21), .move (.t 1), none⟩,
    ⟨(some 22), .move (.t 5), none⟩,
    ⟨(some 23), .indexAddr none 1 (.t 21) (.t 22), none⟩,
    ⟨(some 24), .load false none (.t 23), none⟩,
    ⟨(some 25), .callf (.pure []) 51 [(.t 20), (.t 24)], none⟩,
    ⟨(some 26), .un .not (.t 25), none⟩] (some [[], [], [0, 1], [2], [], [], [4, 5], [6], [3, 7], [8]]))
  (.cond (.t 26)
  (.seq (.reg [
    ⟨(some 4), .move (.c (.bool false)), none⟩] none)
  (.ret))
  (.skip))))
  (.reg [
    ⟨(some 15), .move (.t 5), none⟩,
    ⟨(some 16), .bin 0 .add (.t 15) (.c (.int .i64 1)), none⟩,
    ⟨(some 5), .move (.t 16), none⟩] none))
def c17_1 : C := .block 0 (.loop false b17_1)
def b17 : C := .seq (.reg [
    ⟨(some 4), .move (.c (.bool false)), none⟩] none)
  (.seq (.seq (.reg [
    ⟨(some 6), .move (.t 0), none⟩,
    ⟨(some 7), .len (.t 6), none⟩,
    ⟨(some 8), .move (.t 1), none⟩,
    ⟨(some 9), .len (.t 8), none⟩,
    ⟨(some 10), .bin 0 .neq (.t 7) (.t 9), none⟩] none)
  (.cond (.t 10)
  (.seq (.reg [
    ⟨(some 4), .move (.c (.bool false)), none⟩] none)
  (.ret))
  (.skip)))
  (.seq (.seq (.reg [
    ⟨(some 5), .move (.c (.int .i64 0)), none⟩] none)
  (c17_1))
  (.seq (.reg [
    ⟨(some 4), .move (.c (.bool true)), none⟩] none)
  (.ret))))
def p17 : Fn := ⟨2, 27, [.tmp 4], b17⟩
/-! loop.example/g01273/laws.eqComplex -/
def b16 : C := .seq (.reg [
    ⟨(some 2), .fz (.box (.t 0)), none⟩,
    ⟨(some 3), .fz (.box (.t 1)), none⟩,
    ⟨(some 4), .move (.c (.bool false)), none⟩] none)
  (.seq (.seq (.reg [
    ⟨(some 5), .fieldAddr 0 (.t 2), none⟩,
    ⟨(some 6), .load false none (.t 5), none⟩,
    ⟨(some 7), .fieldAddr 0 (.t 3), none⟩,
    ⟨(some 8), .load false none (.t 7), none⟩,
    ⟨(some 9), .bin 0 .neq (.t 6) (.t 8), none⟩] none)
  (.cond (.t 9)
  (.seq (.reg [
    ⟨(some 4), .move (.c (.bool false)), none⟩] none)
  (.ret))
  (.skip)))
  (.seq (.seq (.reg [
    ⟨(some 10), .fieldAddr 1 (.t 2), none⟩,
    ⟨(some 11), .load false none (.t 10), none⟩,
    ⟨(some 12), .fieldAddr 1 (.t 3), none⟩,
    ⟨(some 13), .load false none (.t 12), none⟩,
    ⟨(some 14), .callf (.pure []) 30 [(.t 11), (.t 13)], none⟩,
    ⟨(some 15), .un .not (.t 14), none⟩] none)
  (.cond (.t 15)
  (.seq (.reg [
    ⟨(some 4), .move (.c (.bool false)), none⟩] none)
  (.ret))
  (.skip)))
  (.seq (.seq (.reg [
    ⟨(some 16), .fieldAddr 2 (.t 2), none⟩,
    ⟨(some 17), .load false none (.t 16), none⟩,
    ⟨(some 18), .fieldAddr 2 (.t 3), none⟩,
    ⟨(some 19), .load false none (.t 18), none⟩,
    ⟨(some 20), .callf (.pure []) 17 [(.t 17), (.t 19)], none⟩,
    ⟨(some 21), .un .not (.t 20), none⟩] none)
  (.cond (.t 21)
  (.seq (.reg [
    ⟨(some 4), .move (.c (.bool false)), none⟩] none)
  (.ret))
  (.skip)))
  (.seq (.reg [
    ⟨(some 4), .move (.c (.bool true)), none⟩] none)
  (.ret)))))
def p16 : Fn := ⟨2, 22, [.tmp 4], b16⟩
/-! loop.example/g01273/laws.markInt64S -/
def b31_1 : C := .seq (.seq (.reg [
    ⟨(some 6), .move (.t 5), none⟩,
    ⟨(some 7), .move (.t 0), none⟩,
    ⟨(some 8), .len (.t 7), none⟩,
    ⟨(some 9), .bin 0 .lss (.t 6) (.t 8), none⟩] none)
  (.cond (.t 9)
  (.skip)
  (.exit 0)))
  (.seq (.block 1 (.seq (.reg [
    ⟨(some 12), .move (.t 0), none⟩,
    ⟨(some 13), .move (.t 5), none⟩,
    ⟨(some 14), .move (.t 1), none⟩,
    ⟨(some 15), .indexAddr none 1 (.t 12) (.t 13), none⟩,
    ⟨none, .store 1 (.t 15) (.t 14), none⟩] none)
  (.reg [
    ⟨(some 16), .move (.t 1), none⟩,
    ⟨(some 17), .bin 0 .add (.t 16) (.c (.int .i64 1)), none⟩,
    ⟨(some 1), .move (.t 17), none⟩] none)))
  (.reg [
    ⟨(some 10), .move (.t 5), none⟩,
    ⟨(some 11), .bin 0 .add (.t 10) (.c (.int .i64 1)), none⟩,
    ⟨(some 5), .move (.t 11), none⟩] none))
def c31_1 : C := .block 0 (.loop true b31_1)
def b31 : C := .seq (.reg [
    ⟨(some 4), .move (.c (.int .i64 0)), none⟩] none)
  (.seq (.seq (.reg [
    ⟨(some 5), .move (.c (.int .i64 0)), none⟩] none)
  (c31_1))
  (.seq (.reg [
    ⟨(some 18), .move (.t 1), none⟩,
    ⟨(some 4), .move (.t 18), none⟩] none)
  (.ret)))
def p31 : Fn := ⟨2, 19, [.tmp 4], b31⟩
/-! loop.example/g01273/laws.markInt64SS -/
def b52_1 : C := .seq (.seq (.reg [
    ⟨(some 6), .move (.t 5), none⟩,
    ⟨(some 7), .move (.t 0), none⟩,
    ⟨(some 8), .len (.t 7), none⟩,
    ⟨(some 9), .bin 0 .lss (.t 6) (.t 8), none⟩] none)
  (.cond (.t 9)
  (.skip)
  (.exit 0)))
  (.seq (.block 1 (.reg [
    ⟨(some 12), .move (.t 0), none⟩,
    ⟨(some 13), .move (.t 5), none⟩,
    ⟨(some 14), .indexAddr none 1 (.t 12) (.t 13), none⟩,
    ⟨(some 15), .load false none (.t 14), none⟩,
    ⟨(some 16), .move (.t 1), none⟩,
    ⟨(some 17), .callf .plain 31 [(.t 15), (.t 16)], none⟩,
    ⟨(some 1), .move (.t 17), none⟩] none))
  (.reg [
    ⟨(some 10), .move (.t 5), none⟩,
    ⟨(some 11), .bin 0 .add (.t 10) (.c (.int .i64 1)), none⟩,
    ⟨(some 5), .move (.t 11), none⟩] none))
def c52_1 : C := .block 0 (.loop true b52_1)
def b52 : C := .seq (.reg [
    ⟨(some 4), .move (.c (.int .i64 0)), none⟩] none)
  (.seq (.seq (.reg [
    ⟨(some 5), .move (.c (.int .i64 0)), none⟩] none)
  (c52_1))
  (.seq (.reg [
    ⟨(some 18), .move (.t 1), none⟩,
    ⟨(some 4), .move (.t 18), none⟩] none)
  (.ret)))
def p52 : Fn := ⟨2, 19, [.tmp 4], b52⟩
/-! loop.example/g01273/laws.markInt64SSS -/
def b21_1 : C := .seq (.seq (.reg [
    ⟨(some 6), .move (.t 5), none⟩,
    ⟨(some 7), .move (.t 0), none⟩,
    ⟨(some 8), .len (.t 7), none⟩,
    ⟨(some 9), .bin 0 .lss (.t 6) (.t 8), none⟩] none)
  (.cond (.t 9)
  (.skip)
  (.exit 0)))
  (.seq (.block 1 (.reg [
    ⟨(some 12), .move (.t 0), none⟩,
    ⟨(some 13), .move (.t 5), none⟩,
    ⟨(some 14), .indexAddr none 1 (.t 12) (.t 13), none⟩,
    ⟨(some 15), .load false none (.t 14), none⟩,
    ⟨(some 16), .move (.t 1), none⟩,
    ⟨(some 17), .callf .plain 52 [(.t 15), (.t 16)], none⟩,
    ⟨(some 1), .move (.t 17), none⟩] none))
  (.reg [
    ⟨(some 10), .move (.t 5), none⟩,
    ⟨(some 11), .bin 0 .add (.t 10) (.c (.int .i64 1)), none⟩,
    ⟨(some 5), .move (.t 11), none⟩] none))
def c21_1 : C := .block 0 (.loop true b21_1)
def b21 : C := .seq (.reg [
    ⟨(some 4), .move (.c (.int .i64 0)), none⟩] none)
  (.seq (.seq (.reg [
    ⟨(some 5), .move (.c (.int .i64 0)), none⟩] none)
  (c21_1))
  (.seq (.reg [
    ⟨(some 18), .move (.t 1), none⟩,
    ⟨(some 4), .move (.t 18), none⟩] none)
  (.ret)))
def p21 : Fn := ⟨2, 19, [.tmp 4], b21⟩
/-! loop.example/g01273/laws.markComplex -/
def b20 : C := .seq (.reg [
    ⟨(some 2), .box (.t 0), none⟩,
    ⟨(some 4), .move (.c (.int .i64 0)), none⟩] none)
  (.seq (.reg [
    ⟨(some 5), .fieldAddr 1 (.t 2), none⟩,
    ⟨(some 6), .load false none (.t 5), none⟩,
    ⟨(some 7), .move (.t 1), none⟩,
    ⟨(some 8), .callf .plain 31 [(.t 6), (.t 7)], none⟩,
    ⟨(some 1), .move (.t 8), none⟩] none)
  (.seq (.reg [
    ⟨(some 9), .fieldAddr 2 (.t 2), none⟩,
    ⟨(some 10), .load false none (.t 9), none⟩,
    ⟨(some 11), .move (.t 1), none⟩,
    ⟨(some 12), .callf .plain 21 [(.t 10), (.t 11)], none⟩,
    ⟨(some 1), .move (.t 12), none⟩] none)
  (.seq (.reg [
    ⟨(some 13), .move (.t 1), none⟩,
    ⟨(some 4), .move (.t 13), none⟩] none)
  (.ret))))
def p20 : Fn := ⟨2, 14, [.tmp 4], b20⟩
/-! loop.example/g01273/spec.l01In -/
def b54 : C := .seq (.reg [
    ⟨(some 6), .move (.c (.bool false)), none⟩] none)
  (.seq (.reg [
    ⟨(some 7), .move (.t 0), none⟩,
    ⟨(some 8), .move (.t 1), none⟩,
    ⟨(some 9), .bin 0 .geq (.t 7) (.t 8), none⟩,
    ⟨(some 10), .move (.t 9), none⟩,
    ⟨(some 11), .move (.t 0), (some (10, true))⟩,
    ⟨(some 12), .move (.t 2), (some (10, true))⟩,
    ⟨(some 13), .bin 0 .leq (.t 11) (.t 12), (some (10, true))⟩,
    ⟨(some 14), .pick (.t 10) (.t 13) (.c (.bool false)), none⟩,
    ⟨(some 6), .move (.t 14), none⟩] none)
  (.ret))
def p54 : Fn := ⟨3, 15, [.tmp 6], b54⟩
/-! loop.example/g01273/spec.l01Prime -/
def b78 : C := .seq (.reg [
    ⟨(some 2), .move (.c (.bool false)), none⟩] none)
  (.seq (.reg [
    ⟨(some 3), .move (.t 0), none⟩,
    ⟨(some 4), .bin 0 .eql (.t 3) (.c (.int .i64 2)), none⟩,
    ⟨(some 5), .move (.t 4), none⟩,
    ⟨(some 6), .move (.t 0), (some (5, false))⟩,
    ⟨(some 7), .bin 0 .eql (.t 6) (.c (.int .i64 3)), (some (5, false))⟩,
    ⟨(some 8), .pick (.t 5) (.c (.bool true)) (.t 7), none⟩,
    ⟨(some 9), .move (.t 8), none⟩,
    ⟨(some 10), .move (.t 0), (some (9, false))⟩,
    ⟨(some 11), .bin 0 .eql (.t 10) (.c (.int .i64 5)), (some (9, false))⟩,
    ⟨(some 12), .pick (.t 9) (.c (.bool true)) (.t 11), none⟩,
    ⟨(some 13), .move (.t 12), none⟩,
    ⟨(some 14), .move (.t 0), (some (13, false))⟩,
    ⟨(some 15), .bin 0 .eql (.t 14) (.c (.int .i64 7)), (some (13, false))⟩,
    ⟨(some 16), .pick (.t 13) (.c (.bool true)) (.t 15), none⟩,
    ⟨(some 2), .move (.t 16), none⟩] none)
  (.ret))
def p78 : Fn := ⟨1, 17, [.tmp 2], b78⟩
/-! loop.example/g01273/spec.l01Table -/
def b79_2 : C := .seq (.seq (.reg [
    ⟨(some 28), .move (.t 10), none⟩,
    ⟨(some 29), .move (.t 1), none⟩,
    ⟨(some 30), .move (.t 9), none⟩,
    ⟨(some 31), .indexAddr none 1 (.t 29) (.t 30), none⟩,
    ⟨(some 32), .load false none (.t 31), none⟩,
    ⟨(some 33), .len (.t 32), none⟩,
    ⟨(some 34), .bin 0 .lss (.t 28) (.t 33), none⟩] none)
  (.cond (.t 34)
  (.skip)
  (.exit 2)))
  (.seq (.block 3 (.seq (.reg [
    ⟨(some 37), .move (.t 1), none⟩,
    ⟨(some 38), .move (.t 9), none⟩,
    ⟨(some 39), .indexAddr none 1 (.t 37) (.t 38), none⟩,
    ⟨(some 40), .load false none (.t 39), none⟩,
    ⟨(some 41), .move (.t 10), none⟩,
    ⟨(some 42), .indexAddr none 1 (.t 40) (.t 41), none⟩,
    ⟨(some 43), .load false none (.t 42), none⟩,
    ⟨(some 44), .move (.t 0), none⟩,
    ⟨(some 45), .bin 0 .sub (.t 44) (.c (.int .i64 1)), none⟩,
    ⟨(some 46), .callf (.pure []) 54 [(.t 43), (.c (.int .i64 0)), (.t 45)], none⟩,
    ⟨(some 47), .un .not (.t 46), none⟩] none)
  (.cond (.t 47)
  (.seq (.reg [
    ⟨(some 8), .move (.c (.bool false)), none⟩] none)
  (.ret))
  (.skip))))
  (.reg [
    ⟨(some 35), .move (.t 10), none⟩,
    ⟨(some 36), .bin 0 .add (.t 35) (.c (.int .i64 1)), none⟩,
    ⟨(some 10), .move (.t 36), none⟩] none))
def c79_2 : C := .block 2 (.loop false b79_2)
def b79_1 : C := .seq (.seq (.reg [
    ⟨(some 15), .move (.t 9), none⟩,
    ⟨(some 16), .move (.t 1), none⟩,
    ⟨(some 17), .len (.t 16), none⟩,
    ⟨(some 18), .bin 0 .lss (.t 15) (.t 17), none⟩] none)
  (.cond (.t 18)
  (.skip)
  (.exit 0)))
  (.seq (.block 1 (.seq (.seq (.reg [
    ⟨(some 21), .move (.t 1), none⟩,
    ⟨(some 22), .move (.t 9), none⟩,
    ⟨(some 23), .indexAddr none 1 (.t 21) (.t 22), none⟩,
    ⟨(some 24), .load false none (.t 23), none⟩,
    ⟨(some 25), .len (.t 24), none⟩,
    ⟨(some 26), .move (.t 3), none⟩,
    ⟨(some 27), .bin 0 .neq (.t 25) (.t 26), none⟩] none)
  (.cond (.t 27)
  (.seq (.reg [
    ⟨(some 8), .move (.c (.bool false)), none⟩] none)
  (.ret))
  (.skip)))
  (.seq (.reg [
    ⟨(some 10), .move (.c (.int .i64 0)), none⟩] none)
  (c79_2))))
  (.reg [
    ⟨(some 19), .move (.t 9), none⟩,
    ⟨(some 20), .bin 0 .add (.t 19) (.c (.int .i64 1)), none⟩,
    ⟨(some 9), .move (.t 20), none⟩] none))
def c79_1 : C := .block 0 (.loop false b79_1)
def b79 : C := .seq (.reg [
    ⟨(some 8), .move (.c (.bool false)), none⟩] none)
  (.seq (.seq (.reg [
    ⟨(some 11), .move (.t 1), none⟩,
    ⟨(some 12), .len (.t 11), none⟩,
    ⟨(some 13), .move (.t 2), none⟩,
    ⟨(some 14), .bin 0 .neq (.t 12) (.t 13), none⟩] none)
  (.cond (.t 14)
  (.seq (.reg [
    ⟨(some 8), .move (.c (.bool false)), none⟩] none)
  (.ret))
  (.skip)))
  (.seq (.seq (.reg [
    ⟨(some 9), .move (.c (.int .i64 0)), none⟩] none)
  (c79_1))
  (.seq (.reg [
    ⟨(some 8), .move (.c (.bool true)), none⟩] none)
  (.ret))))
def p79 : Fn := ⟨4, 48, [.tmp 8], b79⟩
/-! loop.example/g01273/spec.l01Apply -/
def b80_2 : C := .seq (.seq (.reg [
    ⟨(some 20), .move (.t 11), none⟩,
    ⟨(some 21), .move (.t 9), none⟩,
    ⟨(some 22), .len (.t 21), none⟩,
    ⟨(some 23), .bin 0 .lss (.t 20) (.t 22), none⟩] none)
  (.cond (.t 23)
  (.skip)
  (.exit 2)))
  (.seq (.block 3 (.reg [
    ⟨(some 26), .move (.t 9), none⟩,
    ⟨(some 27), .move (.t 11), none⟩,
    ⟨(some 28), .move (.t 9), none⟩,
    ⟨(some 29), .move (.t 11), none⟩,
    ⟨(some 30), .indexAddr none 1 (.t 28) (.t 29), none⟩,
    ⟨(some 31), .load false none (.t 30), none⟩,
    ⟨(some 32), .move (.t 2), none⟩,
    ⟨(some 33), .move (.t 10), none⟩,
    ⟨(some 34), .indexAddr none 1 (.t 32) (.t 33), none⟩,
    ⟨(some 35), .load false none (.t 34), none⟩,
    ⟨(some 36), .move (.t 1), none⟩,
    ⟨(some 37), .move (.t 10), none⟩,
    ⟨(some 38), .indexAddr none 1 (.t 36) (.t 37), none⟩,
    ⟨(some 39), .load false none (.t 38), none⟩,
    ⟨(some 40), .move (.t 11), none⟩,
    ⟨(some 41), .indexAddr none 1 (.t 39) (.t 40), none⟩,
    ⟨(some 42), .load false none (.t 41), none⟩,
    ⟨(some 43), .bin 0 .mul (.t 35) (.t 42), none⟩,
    ⟨(some 44), .bin 0 .add (.t 31) (.t 43), none⟩,
    ⟨(some 45), .move (.t 0), none⟩,
    ⟨(some 46), .bin 0 .rem (.t 44) (.t 45), none⟩,
    ⟨(some 47), .indexAddr none 1 (.t 26) (.t 27), none⟩,
    ⟨none, .store 1 (.t 47) (.t 46), none⟩] (some [[], [], [], [], [2, 3], [4], [], [], [6, 7], [8], [], [], [10, 11], [12], [], [13, 14], [15], [9, 16], [5, 17], [], [18, 19], [0, 1, 0, 1, 2, 3, 4, 5, 6, 7, 8, 9, 10, 11, 12, 13, 14, 15, 16, 17, 18, 19, 20], [21, 20, 0, 1, 2, 3, 4, 5, 6, 7, 8, 9, 10, 11, 12, 13, 14, 15, 16, 17, 18, 19, 20]])))
  (.reg [
    ⟨(some 24), .move (.t 11), none⟩,
    ⟨(some 25), .bin 0 .add (.t 24) (.c (.int .i64 1)), none⟩,
    ⟨(some 11), .move (.t 25), none⟩] none))
def c80_2 : C := .block 2 (.loop false b80_2)
def b80_1 : C := .seq (.seq (.reg [
    ⟨(some 14), .move (.t 10), none⟩,
    ⟨(some 15), .move (.t 2), none⟩,
    ⟨(some 16), .len (.t 15), none⟩,
    ⟨(some 17), .bin 0 .lss (.t 14) (.t 16), none⟩] none)
  (.cond (.t 17)
  (.skip)
  (.exit 0)))
  (.seq (.block 1 (.seq (.reg [
    ⟨(some 11), .move (.c (.int .i64 0)), none⟩] none)
  (c80_2)))
  (.reg [
    ⟨(some 18), .move (.t 10), none⟩,
    ⟨(some 19), .bin 0 .add (.t 18) (.c (.int .i64 1)), none⟩,
    ⟨(some 10), .move (.t 19), none⟩] none))
def c80_1 : C := .block 0 (.loop false b80_1)
def b80 : C := .seq (.reg [
    ⟨(some 8), .move (.c (.nils)), none⟩] none)
  (.seq (.reg [
    ⟨(some 12), .move (.t 3), none⟩,
    ⟨(some 13), .makeSlice 1 8 [.int .i64 0] (.t 12) (.t 12), none⟩,
    ⟨(some 9), .move (.t 13), none⟩] none)
  (.seq (.seq (.reg [
    ⟨(some 10), .move (.c (.int .i64 0)), none⟩] none)
  (c80_1))
  (.seq (.reg [
    ⟨(some 48), .move (.t 9), none⟩,
    ⟨(some 8), .move (.t 48), none⟩] none)
  (.ret))))
def p80 : Fn := ⟨4, 49, [.tmp 8], b80⟩
/-! loop.example/g01273/spec.l01Lead -/
def b81_1 : C := .seq (.seq (.reg [
    ⟨(some 4), .move (.t 3), none⟩,
    ⟨(some 5), .move (.t 0), none⟩,
    ⟨(some 6), .len (.t 5), none⟩,
    ⟨(some 7), .bin 0 .lss (.t 4) (.t 6), none⟩] none)
  (.cond (.t 7)
  (.skip)
  (.exit 0)))
  (.seq (.block 1 (.seq (.reg [
    ⟨(some 10), .move (.t 0), none⟩,
    ⟨(some 11), .move (.t 3), none⟩,
    ⟨(some 12), .indexAddr none 1 (.t 10) (.t 11), none⟩,
    ⟨(some 13), .load false none (.t 12), none⟩,
    ⟨(some 14), .bin 0 .neq (.t 13) (.c (.int .i64 0)), none⟩] none)
  (.cond (.t 14)
  (.seq (.reg [
    ⟨(some 15), .move (.t 3), none⟩,
    ⟨(some 2), .move (.t 15), none⟩] none)
  (.ret))
  (.skip))))
  (.reg [
    ⟨(some 8), .move (.t 3), none⟩,
    ⟨(some 9), .bin 0 .add (.t 8) (.c (.int .i64 1)), none⟩,
    ⟨(some 3), .move (.t 9), none⟩] none))
def c81_1 : C := .block 0 (.loop false b81_1)
def b81 : C := .seq (.reg [
    ⟨(some 2), .move (.c (.int .i64 0)), none⟩] none)
  (.seq (.seq (.reg [
    ⟨(some 3), .move (.c (.int .i64 0)), none⟩] none)
  (c81_1))
  (.seq (.reg [
    ⟨(some 2), .move (.c (.int .i64 (-1))), none⟩] none)
  (.ret)))
def p81 : Fn := ⟨1, 16, [.tmp 2], b81⟩
/-! loop.example/g01273/spec.l01Is -/
def b39_1 : C := .seq (.seq (.reg [
    ⟨(some 32), .move (.t 3), none⟩,
    ⟨(some 33), .fieldAddr 1 (.t 1), none⟩,
    ⟨(some 34), .load false none (.t 33), none⟩,
    ⟨(some 35), .len (.t 34), none⟩,
    ⟨(some 36), .bin 0 .lss (.t 32) (.t 35), none⟩] none)
  (.cond (.t 36)
  (.skip)
  (.exit 0)))
  (.seq (.block 1 (.seq (.reg [
    ⟨(some 39), .fieldAddr 1 (.t 1), none⟩,
    ⟨(some 40), .load false none (.t 39), none⟩,
    ⟨(some 41), .move (.t 3), none⟩,
    ⟨(some 42), .indexAddr none 1 (.t 40) (.t 41), none⟩,
    ⟨(some 43), .load false none (.t 42), none⟩,
    ⟨(some 44), .callf (.pure []) 54 [(.t 43), (.c (.int .i64 0)), (.c (.int .i64 8))], none⟩,
    ⟨(some 45), .un .not (.t 44), none⟩] none)
  (.cond (.t 45)
  (.seq (.reg [
    ⟨(some 2), .move (.c (.bool false)), none⟩] none)
  (.ret))
  (.skip))))
  (.reg [
    ⟨(some 37), .move (.t 3), none⟩,
    ⟨(some 38), .bin 0 .add (.t 37) (.c (.int .i64 1)), none⟩,
    ⟨(some 3), .move (.t 38), none⟩] none))
def c39_1 : C := .block 0 (.loop false b39_1)
def b39_3 : C := .seq (.seq (.reg [
    ⟨(some 73), .move (.t 5), none⟩,
    ⟨(some 74), .fieldAddr 2 (.t 1), none⟩,
    ⟨(some 75), .load false none (.t 74), none⟩,
    ⟨(some 76), .move (.t 4), none⟩,
    ⟨(some 77), .indexAddr none 1 (.t 75) (.t 76), none⟩,
    ⟨(some 78), .load false none (.t 77), none⟩,
    ⟨(some 79), .len (.t 78), none⟩,
    ⟨(some 80), .bin 0 .lss (.t 73) (.t 79), none⟩,
    ⟨(some 81), .move (.t 80), none⟩,
    ⟨(some 82), .move (.t 4), (some (81, true))⟩,
    ⟨(some 83), .bin 0 .gtr (.t 82) (.c (.int .i64 0)), (some (81, true))⟩,
    ⟨(some 84), .pick (.t 81) (.t 83) (.c (.bool false)), none⟩] none)
  (.cond (.t 84)
  (.skip)
  (.exit 4)))
  (.seq (.block 5 (.seq (.reg [
    ⟨(some 87), .fieldAddr 0 (.t 1), none⟩,
    ⟨(some 88), .load false none (.t 87), none⟩,
    ⟨(some 89), .fieldAddr 2 (.t 1), none⟩,
    ⟨(some 90), .load false none (.t 89), none⟩,
    ⟨(some 91), .move (.t 4), none⟩,
    ⟨(some 92), .bin 0 .sub (.t 91) (.c (.int .i64 1)), none⟩,
    ⟨(some 93), .indexAddr none 1 (.t 90) (.t 92), none⟩,
    ⟨(some 94), .load false none (.t 93), none⟩,
    ⟨(some 95), .fieldAddr 2 (.t 1), none⟩,
    ⟨(some 96), .load false none (.t 95), none⟩,
    ⟨(some 97), .move (.t 4), none⟩,
    ⟨(some 98), .indexAddr none 1 (.t 96) (.t 97), none⟩,
    ⟨(some 99), .load false none (.t 98), none⟩,
    ⟨(some 100), .move (.t 5), none⟩,
    ⟨(some 101), .indexAddr none 1 (.t 99) (.t 100), none⟩,
    ⟨(some 102), .load false none (.t 101), none⟩,
    ⟨(some 103), .fieldAddr 1 (.t 1), none⟩,
    ⟨(some 104), .load false none (.t 103), none⟩,
    ⟨(some 105), .move (.t 4), none⟩,
    ⟨(some 106), .bin 0 .sub (.t 105) (.c (.int .i64 1)), none⟩,
    ⟨(some 107), .indexAddr none 1 (.t 104) (.t 106), none⟩,
    ⟨(some 108), .load false none (.t 107), none⟩,
    ⟨(some 109), .callf (.pure []) 80 [(.t 88), (.t 94), (.t 102), (.t 108)], none⟩,
    ⟨(some 110), .callf (.pure []) 81 [(.t 109)], none⟩,
    ⟨(some 111), .bin 0 .geq (.t 110) (.c (.int .i64 0)), none⟩] (some [[], [0], [], [2], [], [4], [3, 5], [6], [], [8], [], [9, 10], [11], [], [12, 13], [14], [], [16], [], [18], [17, 19], [20], [1, 7, 15, 21], [22, 22], [23]]))
  (.cond (.t 111)
  (.seq (.reg [
    ⟨(some 2), .move (.c (.bool false)), none⟩] none)
  (.ret))
  (.skip))))
  (.reg [
    ⟨(some 85), .move (.t 5), none⟩,
    ⟨(some 86), .bin 0 .add (.t 85) (.c (.int .i64 1)), none⟩,
    ⟨(some 5), .move (.t 86), none⟩] none))
def c39_3 : C := .block 4 (.loop false b39_3)
def b39_2 : C := .seq (.seq (.reg [
    ⟨(some 46), .move (.t 4), none⟩,
    ⟨(some 47), .fieldAddr 2 (.t 1), none⟩,
    ⟨(some 48), .load false none (.t 47), none⟩,
    ⟨(some 49), .len (.t 48), none⟩,
    ⟨(some 50), .bin 0 .lss (.t 46) (.t 49), none⟩] none)
  (.cond (.t 50)
  (.skip)
  (.exit 2)))
  (.seq (.block 3 (.seq (.seq (.reg [
    ⟨(some 53), .fieldAddr 0 (.t 1), none⟩,
    ⟨(some 54), .load false none (.t 53), none⟩,
    ⟨(some 55), .fieldAddr 2 (.t 1), none⟩,
    ⟨(some 56), .load false none (.t 55), none⟩,
    ⟨(some 57), .move (.t 4), none⟩,
    ⟨(some 58), .indexAddr none 1 (.t 56) (.t 57), none⟩,
    ⟨(some 59), .load false none (.t 58), none⟩,
    ⟨(some 60), .fieldAddr 1 (.t 1), none⟩,
    ⟨(some 61), .load false none (.t 60), none⟩,
    ⟨(some 62), .move (.t 4), none⟩,
    ⟨(some 63), .bin 0 .add (.t 62) (.c (.int .i64 1)), none⟩,
    ⟨(some 64), .indexAddr none 1 (.t 61) (.t 63), none⟩,
    ⟨(some 65), .load false none (.t 64), none⟩,
    ⟨(some 66), .fieldAddr 1 (.t 1), none⟩,
    ⟨(some 67), .load false none (.t 66), none⟩,
    ⟨(some 68), .move (.t 4), none⟩,
    ⟨(some 69), .indexAddr none 1 (.t 67) (.t 68), none⟩,
    ⟨(some 70), .load false none (.t 69), none⟩,
    ⟨(some 71), .callf (.pure []) 79 [(.t 54), (.t 59), (.t 65), (.t 70)], none⟩,
    ⟨(some 72), .un .not (.t 71), none⟩] (some [[], [0], [], [2], [], [3, 4], [5], [], [7], [], [9], [8, 10], [11], [], [13], [], [14, 15], [16], [1, 6, 12, 17], [18]]))
  (.cond (.t 72)
  (.seq (.reg [
    ⟨(some 2), .move (.c (.bool false)), none⟩] none)
  (.ret))
  (.skip)))
  (.seq (.reg [
    ⟨(some 5), .move (.c (.int .i64 0)), none⟩] none)
  (c39_3))))
  (.reg [
    ⟨(some 51), .move (.t 4), none⟩,
    ⟨(some 52), .bin 0 .add (.t 51) (.c (.int .i64 1)), none⟩,
    ⟨(some 4), .move (.t 52), none⟩] none))
def c39_2 : C := .block 2 (.loop false b39_2)
def b39 : C := .seq (.reg [
    ⟨(some 1), .fz (.box (.t 0)), none⟩,
    ⟨(some 2), .move (.c (.bool false)), none⟩] none)
  (.seq (.seq (.reg [
    ⟨(some 6), .fieldAddr 0 (.t 1), none⟩,
    ⟨(some 7), .load false none (.t 6), none⟩,
    ⟨(some 8), .callf (.pure []) 78 [(.t 7)], none⟩,
    ⟨(some 9), .un .not (.t 8), none⟩,
    ⟨(some 10), .move (.t 9), none⟩,
    ⟨(some 11), .fieldAddr 1 (.t 1), (some (10, false))⟩,
    ⟨(some 12), .load false none (.t 11), (some (10, false))⟩,
    ⟨(some 13), .len (.t 12), (some (10, false))⟩,
    ⟨(some 14), .bin 0 .lss (.t 13) (.c (.int .i64 1)), (some (10, false))⟩,
    ⟨(some 15), .pick (.t 10) (.c (.bool true)) (.t 14), none⟩,
    ⟨(some 16), .move (.t 15), none⟩,
    ⟨(some 17), .fieldAddr 1 (.t 1), (some (16, false))⟩,
    ⟨(some 18), .load false none (.t 17), (some (16, false))⟩,
    ⟨(some 19), .len (.t 18), (some (16, false))⟩,
    ⟨(some 20), .bin 0 .gtr (.t 19) (.c (.int .i64 6)), (some (16, false))⟩,
    ⟨(some 21), .pick (.t 16) (.c (.bool true)) (.t 20), none⟩,
    ⟨(some 22), .move (.t 21), none⟩,
    ⟨(some 23), .fieldAddr 2 (.t 1), (some (22, false))⟩,
    ⟨(some 24), .load false none (.t 23), (some (22, false))⟩,
    ⟨(some 25), .len (.t 24), (some (22, false))⟩,
    ⟨(some 26), .fieldAddr 1 (.t 1), (some (22, false))⟩,
    ⟨(some 27), .load false none (.t 26), (some (22, false))⟩,
    ⟨(some 28), .len (.t 27), (some (22, false))⟩,
    ⟨(some 29), .bin 0 .sub (.t 28) (.c (.int .i64 1)), (some (22, false))⟩,
    ⟨(some 30), .bin 0 .neq (.t 25) (.t 29), (some (22, false))⟩,
    ⟨(some 31), .pick (.t 22) (.c (.bool true)) (.t 30), none⟩] none)
  (.cond (.t 31)
  (.seq (.reg [
    ⟨(some 2), .move (.c (.bool false)), none⟩] none)
  (.ret))
  (.skip)))
  (.seq (.seq (.reg [
    ⟨(some 3), .move (.c (.int .i64 0)), none⟩] none)
  (c39_1))
  (.seq (.seq (.reg [
    ⟨(some 4), .move (.c (.int .i64 0)), none⟩] none)
  (c39_2))
  (.seq (.reg [
    ⟨(some 2), .move (.c (.bool true)), none⟩] none)
  (.ret)))))
def p39 : Fn := ⟨1, 112, [.tmp 2], b39⟩
/-! loop.example/g01273/spec.l08Degree -/
def b60 : C := .seq (.reg [
    ⟨(some 2), .fz (.box (.t 0)), none⟩,
    ⟨(some 4), .move (.c (.int .i64 0)), none⟩] none)
  (.seq (.block 0 (.seq (.reg [
    ⟨(some 6), .load false (some 3) (.t 2), none⟩,
    ⟨(some 7), .callf (.pure []) 39 [(.t 6)], none⟩,
    ⟨(some 8), .un .not (.t 7), none⟩,
    ⟨(some 5), .move (.t 8), none⟩] none)
  (.cond (.t 5)
  (.seq (.reg [
    ⟨(some 4), .move (.c (.int .i64 1)), none⟩] none)
  (.ret))
  (.seq (.reg [
    ⟨(some 10), .move (.t 1), none⟩,
    ⟨(some 11), .fieldAddr 1 (.t 2), none⟩,
    ⟨(some 12), .load false none (.t 11), none⟩,
    ⟨(some 13), .len (.t 12), none⟩,
    ⟨(some 14), .bin 0 .sub (.t 13) (.c (.int .i64 1)), none⟩,
    ⟨(some 15), .callf (.pure []) 54 [(.t 10), (.c (.int .i64 0)), (.t 14)], none⟩,
    ⟨(some 16), .un .not (.t 15), none⟩,
    ⟨(some 9), .move (.t 16), none⟩] none)
  (.cond (.t 9)
  (.seq (.reg [
    ⟨(some 4), .move (.c (.int .i64 2)), none⟩] none)
  (.ret))
  (.skip))))))
  (.seq (.reg [
    ⟨(some 4), .move (.c (.int .i64 0)), none⟩] none)
  (.ret)))
def p60 : Fn := ⟨2, 17, [.tmp 4], b60⟩
/-! loop.example/g01273/spec.l01Dim -/
def b99 : C := .seq (.reg [
    ⟨(some 2), .fz (.box (.t 0)), none⟩,
    ⟨(some 4), .move (.c (.int .i64 0)), none⟩] none)
  (.seq (.seq (.reg [
    ⟨(some 5), .move (.t 1), none⟩,
    ⟨(some 6), .fieldAddr 1 (.t 2), none⟩,
    ⟨(some 7), .load false none (.t 6), none⟩,
    ⟨(some 8), .len (.t 7), none⟩,
    ⟨(some 9), .bin 0 .sub (.t 8) (.c (.int .i64 1)), none⟩,
    ⟨(some 10), .callf (.pure []) 54 [(.t 5), (.c (.int .i64 0)), (.t 9)], none⟩,
    ⟨(some 11), .un .not (.t 10), none⟩] none)
  (.cond (.t 11)
  (.seq (.reg [
    ⟨(some 4), .move (.c (.int .i64 0)), none⟩] none)
  (.ret))
  (.skip)))
  (.seq (.reg [
    ⟨(some 12), .fieldAddr 1 (.t 2), none⟩,
    ⟨(some 13), .load false none (.t 12), none⟩,
    ⟨(some 14), .move (.t 1), none⟩,
    ⟨(some 15), .indexAddr none 1 (.t 13) (.t 14), none⟩,
    ⟨(some 16), .load false none (.t 15), none⟩,
    ⟨(some 4), .move (.t 16), none⟩] none)
  (.ret)))
def p99 : Fn := ⟨2, 17, [.tmp 4], b99⟩
/-! loop.example/g01273/spec.l01Map -/
def b76_1 : C := .seq (.seq (.reg [
    ⟨(some 20), .move (.t 6), none⟩,
    ⟨(some 21), .load false (some 3) (.t 2), none⟩,
    ⟨(some 22), .move (.t 1), none⟩,
    ⟨(some 23), .callf (.pure []) 99 [(.t 21), (.t 22)], none⟩,
    ⟨(some 24), .bin 0 .lss (.t 20) (.t 23), none⟩] none)
  (.cond (.t 24)
  (.skip)
  (.exit 0)))
  (.seq (.block 1 (.reg [
    ⟨(some 27), .move (.t 5), none⟩,
    ⟨(some 28), .fz (.buildSlice 1 0 [] []), none⟩,
    ⟨(some 29), .buildSlice 1 1 [.nils] [(0, 1, (.t 28))], none⟩,
    ⟨(some 30), .append 1 24 (.t 27) (.t 29), none⟩,
    ⟨(some 5), .move (.t 30), none⟩] none))
  (.reg [
    ⟨(some 25), .move (.t 6), none⟩,
    ⟨(some 26), .bin 0 .add (.t 25) (.c (.int .i64 1)), none⟩,
    ⟨(some 6), .move (.t 26), none⟩] none))
def c76_1 : C := .block 0 (.loop false b76_1)
def b76 : C := .seq (.reg [
    ⟨(some 2), .fz (.box (.t 0)), none⟩,
    ⟨(some 4), .move (.c (.nils)), none⟩] none)
  (.seq (.seq (.reg [
    ⟨(some 7), .move (.t 1), none⟩,
    ⟨(some 8), .fieldAddr 1 (.t 2), none⟩,
    ⟨(some 9), .load false none (.t 8), none⟩,
    ⟨(some 10), .len (.t 9), none⟩,
    ⟨(some 11), .bin 0 .sub (.t 10) (.c (.int .i64 1)), none⟩,
    ⟨(some 12), .callf (.pure []) 54 [(.t 7), (.c (.int .i64 1)), (.t 11)], none⟩] none)
  (.cond (.t 12)
  (.seq (.reg [
    ⟨(some 13), .fieldAddr 2 (.t 2), none⟩,
    ⟨(some 14), .load false none (.t 13), none⟩,
    ⟨(some 15), .move (.t 1), none⟩,
    ⟨(some 16), .bin 0 .sub (.t 15) (.c (.int .i64 1)), none⟩,
    ⟨(some 17), .indexAddr none 1 (.t 14) (.t 16), none⟩,
    ⟨(some 18), .load false none (.t 17), none⟩,
    ⟨(some 4), .move (.t 18), none⟩] none)
  (.ret))
  (.skip)))
  (.seq (.reg [
    ⟨(some 19), .buildSlice 1 0 [] [], none⟩,
    ⟨(some 5), .move (.t 19), none⟩] none)
  (.seq (.seq (.reg [
    ⟨(some 6), .move (.c (.int .i64 0)), none⟩] none)
  (c76_1))
  (.seq (.reg [
    ⟨(some 31), .move (.t 5), none⟩,
    ⟨(some 4), .move (.t 31), none⟩] none)
  (.ret)))))
def p76 : Fn := ⟨2, 32, [.tmp 4], b76⟩
/-! loop.example/g01273/spec.l01Own -/
def b94 : C := .seq (.reg [
    ⟨(some 2), .move (.c (.nils)), none⟩] none)
  (.seq (.reg [
    ⟨(some 3), .buildSlice 1 0 [] [], none⟩,
    ⟨(some 4), .move (.t 0), none⟩,
    ⟨(some 5), .append 1 8 (.t 3) (.t 4), none⟩,
    ⟨(some 2), .move (.t 5), none⟩] none)
  (.ret))
def p94 : Fn := ⟨1, 6, [.tmp 2], b94⟩
/-! loop.example/g01273/spec.l01Mod -/
def b127 : C := .seq (.reg [
    ⟨(some 4), .move (.c (.int .i64 0)), none⟩] none)
  (.seq (.reg [
    ⟨(some 5), .move (.t 1), none⟩,
    ⟨(some 6), .move (.t 0), none⟩,
    ⟨(some 7), .bin 0 .rem (.t 5) (.t 6), none⟩,
    ⟨(some 8), .move (.t 0), none⟩,
    ⟨(some 9), .bin 0 .add (.t 7) (.t 8), none⟩,
    ⟨(some 10), .move (.t 0), none⟩,
    ⟨(some 11), .bin 0 .rem (.t 9) (.t 10), none⟩,
    ⟨(some 4), .move (.t 11), none⟩] none)
  (.ret))
def p127 : Fn := ⟨2, 12, [.tmp 4], b127⟩
/-! loop.example/g01273/spec.l01Less -/
def b136_1 : C := .seq (.seq (.reg [
    ⟨(some 12), .move (.t 10), none⟩,
    ⟨(some 13), .move (.t 1), none⟩,
    ⟨(some 14), .len (.t 13), none⟩,
    ⟨(some 15), .bin 0 .lss (.t 12) (.t 14), none⟩] none)
  (.cond (.t 15)
  (.skip)
  (.exit 0)))
  (.seq (.block 1 (.reg [
    ⟨(some 18), .move (.t 9), none⟩,
    ⟨(some 19), .move (.t 0), none⟩,
    ⟨(some 20), .move (.t 1), none⟩,
    ⟨(some 21), .move (.t 10), none⟩,
    ⟨(some 22), .indexAddr none 1 (.t 20) (.t 21), none⟩,
    ⟨(some 23), .load false none (.t 22), none⟩,
    ⟨(some 24), .move (.t 3), none⟩,
    ⟨(some 25), .move (.t 2), none⟩,
    ⟨(some 26), .move (.t 10), none⟩,
    ⟨(some 27), .indexAddr none 1 (.t 25) (.t 26), none⟩,
    ⟨(some 28), .load false none (.t 27), none⟩,
    ⟨(some 29), .bin 0 .mul (.t 24) (.t 28), none⟩,
    ⟨(some 30), .bin 0 .sub (.t 23) (.t 29), none⟩,
    ⟨(some 31), .callf (.pure []) 127 [(.t 19), (.t 30)], none⟩,
    ⟨(some 32), .buildSlice 1 1 [.int .i64 0] [(0, 1, (.t 31))], none⟩,
    ⟨(some 33), .append 1 8 (.t 18) (.t 32), none⟩,
    ⟨(some 9), .move (.t 33), none⟩] (some [[], [], [], [], [2, 3], [4], [], [], [], [7, 8], [9], [6, 10], [5, 11], [1, 12], [13], [0, 14, 13], [15, 15, 0, 1, 2, 3, 4, 5, 6, 7, 8, 9, 10, 11, 12, 13, 14, 15]])))
  (.reg [
    ⟨(some 16), .move (.t 10), none⟩,
    ⟨(some 17), .bin 0 .add (.t 16) (.c (.int .i64 1)), none⟩,
    ⟨(some 10), .move (.t 17), none⟩] none))
def c136_1 : C := .block 0 (.loop false b136_1)
def b136 : C := .seq (.reg [
    ⟨(some 8), .move (.c (.nils)), none⟩] none)
  (.seq (.reg [
    ⟨(some 11), .buildSlice 1 0 [] [], none⟩,
    ⟨(some 9), .move (.t 11), none⟩] none)
  (.seq (.seq (.reg [
    ⟨(some 10), .move (.c (.int .i64 0)), none⟩] none)
  (c136_1))
  (.seq (.reg [
    ⟨(some 34), .move (.t 9), none⟩,
    ⟨(some 8), .move (.t 34), none⟩] none)
  (.ret))))
def p136 : Fn := ⟨4, 35, [.tmp 8], b136⟩
/-! loop.example/g01273/spec.l01Rest -/
def b134_1 : C := .seq (.seq (.reg [
    ⟨(some 11), .move (.t 8), none⟩,
    ⟨(some 12), .move (.t 1), none⟩,
    ⟨(some 13), .len (.t 12), none⟩,
    ⟨(some 14), .bin 0 .lss (.t 11) (.t 13), none⟩] none)
  (.cond (.t 14)
  (.skip)
  (.exit 0)))
  (.seq (.block 1 (.reg [
    ⟨(some 17), .move (.t 0), none⟩,
    ⟨(some 18), .move (.t 7), none⟩,
    ⟨(some 19), .move (.t 1), none⟩,
    ⟨(some 20), .move (.t 8), none⟩,
    ⟨(some 21), .indexAddr none 1 (.t 19) (.t 20), none⟩,
    ⟨(some 22), .load false none (.t 21), none⟩,
    ⟨(some 23), .move (.t 7), none⟩,
    ⟨(some 24), .move (.t 1), none⟩,
    ⟨(some 25), .move (.t 8), none⟩,
    ⟨(some 26), .indexAddr none 1 (.t 24) (.t 25), none⟩,
    ⟨(some 27), .load false none (.t 26), none⟩,
    ⟨(some 28), .callf (.pure []) 81 [(.t 27)], none⟩,
    ⟨(some 29), .indexAddr none 1 (.t 23) (.t 28), none⟩,
    ⟨(some 30), .load false none (.t 29), none⟩,
    ⟨(some 31), .callf (.pure [1]) 136 [(.t 17), (.t 18), (.t 22), (.t 30)], none⟩,
    ⟨(some 7), .move (.t 31), none⟩] (some [[], [], [], [], [2, 3], [4], [], [], [], [7, 8], [9], [10], [6, 11], [12], [0, 1, 5, 13, 11], [14, 14, 0, 1, 2, 3, 4, 5, 6, 7, 8, 9, 10, 11, 12, 13, 14]])))
  (.reg [
    ⟨(some 15), .move (.t 8), none⟩,
    ⟨(some 16), .bin 0 .add (.t 15) (.c (.int .i64 1)), none⟩,
    ⟨(some 8), .move (.t 16), none⟩] none))
def c134_1 : C := .block 0 (.loop true b134_1)
def b134 : C := .seq (.reg [
    ⟨(some 6), .move (.c (.nils)), none⟩] none)
  (.seq (.reg [
    ⟨(some 9), .move (.t 2), none⟩,
    ⟨(some 10), .callf (.pure [1]) 94 [(.t 9)], none⟩,
    ⟨(some 7), .move (.t 10), none⟩] none)
  (.seq (.seq (.reg [
    ⟨(some 8), .move (.c (.int .i64 0)), none⟩] none)
  (c134_1))
  (.seq (.reg [
    ⟨(some 32), .move (.t 7), none⟩,
    ⟨(some 6), .move (.t 32), none⟩] none)
  (.ret))))
def p134 : Fn := ⟨3, 33, [.tmp 6], b134⟩
/-! loop.example/g01273/spec.l01Inverse -/
def b135_1 : C := .seq (.seq (.reg [
    ⟨(some 6), .move (.t 5), none⟩,
    ⟨(some 7), .move (.t 0), none⟩,
    ⟨(some 8), .bin 0 .lss (.t 6) (.t 7), none⟩] none)
  (.cond (.t 8)
  (.skip)
  (.exit 0)))
  (.seq (.block 1 (.seq (.reg [
    ⟨(some 11), .move (.t 5), none⟩,
    ⟨(some 12), .move (.t 0), none⟩,
    ⟨(some 13), .move (.t 1), none⟩,
    ⟨(some 14), .callf (.pure []) 127 [(.t 12), (.t 13)], none⟩,
    ⟨(some 15), .bin 0 .mul (.t 11) (.t 14), none⟩,
    ⟨(some 16), .move (.t 0), none⟩,
    ⟨(some 17), .bin 0 .rem (.t 15) (.t 16), none⟩,
    ⟨(some 18), .bin 0 .eql (.t 17) (.c (.int .i64 1)), none⟩] none)
  (.cond (.t 18)
  (.seq (.reg [
    ⟨(some 19), .move (.t 5), none⟩,
    ⟨(some 4), .move (.t 19), none⟩] none)
  (.ret))
  (.skip))))
  (.reg [
    ⟨(some 9), .move (.t 5), none⟩,
    ⟨(some 10), .bin 0 .add (.t 9) (.c (.int .i64 1)), none⟩,
    ⟨(some 5), .move (.t 10), none⟩] none))
def c135_1 : C := .block 0 (.loop false b135_1)
def b135 : C := .seq (.reg [
    ⟨(some 4), .move (.c (.int .i64 0)), none⟩] none)
  (.seq (.seq (.reg [
    ⟨(some 5), .move (.c (.int .i64 1)), none⟩] none)
  (c135_1))
  (.seq (.reg [
    ⟨(some 4), .move (.c (.int .i64 0)), none⟩] none)
  (.ret)))
def p135 : Fn := ⟨2, 20, [.tmp 4], b135⟩
/-! loop.example/g01273/spec.l01Echelon -/
def b131_2 : C := .seq (.seq (.reg [
    ⟨(some 38), .move (.t 10), none⟩,
    ⟨(some 39), .move (.t 7), none⟩,
    ⟨(some 40), .len (.t 39), none⟩,
    ⟨(some 41), .bin 0 .lss (.t 38) (.t 40), none⟩] none)
  (.cond (.t 41)
  (.skip)
  (.exit 2)))
  (.seq (.block 3 (.reg [
    ⟨(some 44), .move (.t 7), none⟩,
    ⟨(some 45), .move (.t 10), none⟩,
    ⟨(some 46), .move (.t 7), none⟩,
    ⟨(some 47), .move (.t 10), none⟩,
    ⟨(some 48), .indexAddr none 1 (.t 46) (.t 47), none⟩,
    ⟨(some 49), .load false none (.t 48), none⟩,
    ⟨(some 50), .move (.t 9), none⟩,
    ⟨(some 51), .bin 0 .mul (.t 49) (.t 50), none⟩,
    ⟨(some 52), .move (.t 0), none⟩,
    ⟨(some 53), .bin 0 .rem (.t 51) (.t 52), none⟩,
    ⟨(some 54), .indexAddr none 1 (.t 44) (.t 45), none⟩,
    ⟨none, .store 1 (.t 54) (.t 53), none⟩] none))
  (.reg [
    ⟨(some 42), .move (.t 10), none⟩,
    ⟨(some 43), .bin 0 .add (.t 42) (.c (.int .i64 1)), none⟩,
    ⟨(some 10), .move (.t 43), none⟩] none))
def c131_2 : C := .block 2 (.loop true b131_2)
def b131_3 : C := .seq (.seq (.reg [
    ⟨(some 56), .move (.t 13), none⟩,
    ⟨(some 57), .move (.t 5), none⟩,
    ⟨(some 58), .len (.t 57), none⟩,
    ⟨(some 59), .bin 0 .lss (.t 56) (.t 58), none⟩] none)
  (.cond (.t 59)
  (.skip)
  (.exit 4)))
  (.seq (.block 5 (.seq (.seq (.reg [
    ⟨(some 62), .move (.t 12), none⟩,
    ⟨(some 63), .un .not (.t 62), none⟩,
    ⟨(some 64), .move (.t 63), none⟩,
    ⟨(some 65), .move (.t 5), (some (64, true))⟩,
    ⟨(some 66), .move (.t 13), (some (64, true))⟩,
    ⟨(some 67), .indexAddr none 1 (.t 65) (.t 66), (some (64, true))⟩,
    ⟨(some 68), .load false none (.t 67), (some (64, true))⟩,
    ⟨(some 69), .callf (.pure []) 81 [(.t 68)], (some (64, true))⟩,
    ⟨(some 70), .move (.t 8), (some (64, true))⟩,
    ⟨(some 71), .bin 0 .gtr (.t 69) (.t 70), (some (64, true))⟩,
    ⟨(some 72), .pick (.t 64) (.t 71) (.c (.bool false)), none⟩] none)
  (.cond (.t 72)
  (.seq (.reg [
    ⟨(some 73), .move (.t 11), none⟩,
    ⟨(some 74), .move (.t 7), none⟩,
    ⟨(some 75), .buildSlice 1 1 [.nils] [(0, 1, (.t 74))], none⟩,
    ⟨(some 76), .append 1 24 (.t 73) (.t 75), none⟩,
    ⟨(some 11), .move (.t 76), none⟩] none)
  (.reg [
    ⟨(some 12), .move (.c (.bool true)), none⟩] none))
  (.skip)))
  (.reg [
    ⟨(some 77), .move (.t 11), none⟩,
    ⟨(some 78), .move (.t 0), none⟩,
    ⟨(some 79), .move (.t 5), none⟩,
    ⟨(some 80), .move (.t 13), none⟩,
    ⟨(some 81), .indexAddr none 1 (.t 79) (.t 80), none⟩,
    ⟨(some 82), .load false none (.t 81), none⟩,
    ⟨(some 83), .move (.t 7), none⟩,
    ⟨(some 84), .move (.t 5), none⟩,
    ⟨(some 85), .move (.t 13), none⟩,
    ⟨(some 86), .indexAddr none 1 (.t 84) (.t 85), none⟩,
    ⟨(some 87), .load false none (.t 86), none⟩,
    ⟨(some 88), .move (.t 8), none⟩,
    ⟨(some 89), .indexAddr none 1 (.t 87) (.t 88), none⟩,
    ⟨(some 90), .load false none (.t 89), none⟩,
    ⟨(some 91), .callf (.pure [1]) 136 [(.t 78), (.t 82), (.t 83), (.t 90)], none⟩,
    ⟨(some 92), .buildSlice 1 1 [.nils] [(0, 1, (.t 91))], none⟩,
    ⟨(some 93), .append 1 24 (.t 77) (.t 92), none⟩,
    ⟨(some 11), .move (.t 93), none⟩] (some [[], [], [], [], [2, 3], [4], [], [], [], [7, 8], [9], [], [10, 11], [12], [1, 5, 6, 13], [14], [0, 15, 14], [16, 16, 0, 1, 2, 3, 4, 5, 6, 7, 8, 9, 10, 11, 12, 13, 14, 15, 16]]))))
  (.reg [
    ⟨(some 60), .move (.t 13), none⟩,
    ⟨(some 61), .bin 0 .add (.t 60) (.c (.int .i64 1)), none⟩,
    ⟨(some 13), .move (.t 61), none⟩] none))
def c131_3 : C := .block 4 (.loop true b131_3)
def b131_1 : C := .seq (.seq (.reg [
    ⟨(some 15), .move (.t 6), none⟩,
    ⟨(some 16), .move (.t 1), none⟩,
    ⟨(some 17), .len (.t 16), none⟩,
    ⟨(some 18), .bin 0 .lss (.t 15) (.t 17), none⟩] none)
  (.cond (.t 18)
  (.skip)
  (.exit 0)))
  (.seq (.block 1 (.seq (.reg [
    ⟨(some 21), .move (.t 0), none⟩,
    ⟨(some 22), .move (.t 5), none⟩,
    ⟨(some 23), .move (.t 1), none⟩,
    ⟨(some 24), .move (.t 6), none⟩,
    ⟨(some 25), .indexAddr none 1 (.t 23) (.t 24), none⟩,
    ⟨(some 26), .load false none (.t 25), none⟩,
    ⟨(some 27), .callf (.pure [1]) 134 [(.t 21), (.t 22), (.t 26)], none⟩,
    ⟨(some 7), .move (.t 27), none⟩] none)
  (.seq (.reg [
    ⟨(some 28), .move (.t 7), none⟩,
    ⟨(some 29), .callf (.pure []) 81 [(.t 28)], none⟩,
    ⟨(some 8), .move (.t 29), none⟩] none)
  (.seq (.seq (.reg [
    ⟨(some 30), .move (.t 8), none⟩,
    ⟨(some 31), .bin 0 .lss (.t 30) (.c (.int .i64 0)), none⟩] none)
  (.cond (.t 31)
  (.exit 1)
  (.skip)))
  (.seq (.reg [
    ⟨(some 32), .move (.t 0), none⟩,
    ⟨(some 33), .move (.t 7), none⟩,
    ⟨(some 34), .move (.t 8), none⟩,
    ⟨(some 35), .indexAddr none 1 (.t 33) (.t 34), none⟩,
    ⟨(some 36), .load false none (.t 35), none⟩,
    ⟨(some 37), .callf (.pure []) 135 [(.t 32), (.t 36)], none⟩,
    ⟨(some 9), .move (.t 37), none⟩] none)
  (.seq (.seq (.reg [
    ⟨(some 10), .move (.c (.int .i64 0)), none⟩] none)
  (c131_2))
  (.seq (.reg [
    ⟨(some 55), .buildSlice 1 0 [] [], none⟩,
    ⟨(some 11), .move (.t 55), none⟩,
    ⟨(some 12), .move (.c (.bool false)), none⟩] none)
  (.seq (.seq (.reg [
    ⟨(some 13), .move (.c (.int .i64 0)), none⟩] none)
  (c131_3))
  (.seq (.seq (.reg [
    ⟨(some 94), .move (.t 12), none⟩,
    ⟨(some 95), .un .not (.t 94), none⟩] none)
  (.cond (.t 95)
  (.reg [
    ⟨(some 96), .move (.t 11), none⟩,
    ⟨(some 97), .move (.t 7), none⟩,
    ⟨(some 98), .buildSlice 1 1 [.nils] [(0, 1, (.t 97))], none⟩,
    ⟨(some 99), .append 1 24 (.t 96) (.t 98), none⟩,
    ⟨(some 11), .move (.t 99), none⟩] none)
  (.skip)))
  (.reg [
    ⟨(some 100), .move (.t 11), none⟩,
    ⟨(some 5), .move (.t 100), none⟩] none))))))))))
  (.reg [
    ⟨(some 19), .move (.t 6), none⟩,
    ⟨(some 20), .bin 0 .add (.t 19) (.c (.int .i64 1)), none⟩,
    ⟨(some 6), .move (.t 20), none⟩] none))
def c131_1 : C := .block 0 (.loop true b131_1)
def b131 : C := .seq (.reg [
    ⟨(some 4), .move (.c (.nils)), none⟩] none)
  (.seq (.reg [
    ⟨(some 14), .buildSlice 1 0 [] [], none⟩,
    ⟨(some 5), .move (.t 14), none⟩] none)
  (.seq (.seq (.reg [
    ⟨(some 6), .move (.c (.int .i64 0)), none⟩] none)
  (c131_1))
  (.seq (.reg [
    ⟨(some 101), .move (.t 5), none⟩,
    ⟨(some 4), .move (.t 101), none⟩] none)
  (.ret))))
def p131 : Fn := ⟨2, 102, [.tmp 4], b131⟩
/-! loop.example/g01273/spec.l01Kernel -/
def b122_1 : C := .seq (.seq (.reg [
    ⟨(some 15), .move (.t 9), none⟩,
    ⟨(some 16), .move (.t 1), none⟩,
    ⟨(some 17), .bin 0 .lss (.t 15) (.t 16), none⟩] none)
  (.cond (.t 17)
  (.skip)
  (.exit 0)))
  (.seq (.block 1 (.seq (.reg [
    ⟨(some 20), .move (.t 1), none⟩,
    ⟨(some 21), .makeSlice 1 8 [.int .i64 0] (.t 20) (.t 20), none⟩,
    ⟨(some 10), .move (.t 21), none⟩] none)
  (.seq (.reg [
    ⟨(some 22), .move (.t 10), none⟩,
    ⟨(some 23), .move (.t 9), none⟩,
    ⟨(some 24), .indexAddr none 1 (.t 22) (.t 23), none⟩,
    ⟨none, .store 1 (.t 24) (.c (.int .i64 1)), none⟩] none)
  (.seq (.reg [
    ⟨(some 25), .move (.t 2), none⟩,
    ⟨(some 26), .move (.t 9), none⟩,
    ⟨(some 27), .indexAddr none 1 (.t 25) (.t 26), none⟩,
    ⟨(some 28), .load false none (.t 27), none⟩,
    ⟨(some 29), .len (.t 28), none⟩,
    ⟨(some 8), .move (.t 29), none⟩] none)
  (.reg [
    ⟨(some 30), .move (.t 7), none⟩,
    ⟨(some 31), .move (.t 2), none⟩,
    ⟨(some 32), .move (.t 9), none⟩,
    ⟨(some 33), .indexAddr none 1 (.t 31) (.t 32), none⟩,
    ⟨(some 34), .load false none (.t 33), none⟩,
    ⟨(some 35), .callf (.pure [1]) 94 [(.t 34)], none⟩,
    ⟨(some 36), .move (.t 10), none⟩,
    ⟨(some 37), .fz (.append 1 8 (.t 35) (.t 36)), none⟩,
    ⟨(some 38), .buildSlice 1 1 [.nils] [(0, 1, (.t 37))], none⟩,
    ⟨(some 39), .append 1 24 (.t 30) (.t 38), none⟩,
    ⟨(some 7), .move (.t 39), none⟩] none)))))
  (.reg [
    ⟨(some 18), .move (.t 9), none⟩,
    ⟨(some 19), .bin 0 .add (.t 18) (.c (.int .i64 1)), none⟩,
    ⟨(some 9), .move (.t 19), none⟩] none))
def c122_1 : C := .block 0 (.loop false b122_1)
def b122_2 : C := .seq (.seq (.reg [
    ⟨(some 44), .move (.t 13), none⟩,
    ⟨(some 45), .move (.t 11), none⟩,
    ⟨(some 46), .len (.t 45), none⟩,
    ⟨(some 47), .bin 0 .lss (.t 44) (.t 46), none⟩] none)
  (.cond (.t 47)
  (.skip)
  (.exit 2)))
  (.seq (.block 3 (.seq (.reg [
    ⟨(some 50), .move (.t 11), none⟩,
    ⟨(some 51), .move (.t 13), none⟩,
    ⟨(some 52), .indexAddr none 1 (.t 50) (.t 51), none⟩,
    ⟨(some 53), .load false none (.t 52), none⟩,
    ⟨(some 54), .callf (.pure []) 81 [(.t 53)], none⟩,
    ⟨(some 55), .move (.t 8), none⟩,
    ⟨(some 56), .bin 0 .geq (.t 54) (.t 55), none⟩] none)
  (.cond (.t 56)
  (.reg [
    ⟨(some 57), .move (.t 12), none⟩,
    ⟨(some 58), .move (.t 11), none⟩,
    ⟨(some 59), .move (.t 13), none⟩,
    ⟨(some 60), .indexAddr none 1 (.t 58) (.t 59), none⟩,
    ⟨(some 61), .load false none (.t 60), none⟩,
    ⟨(some 62), .move (.t 8), none⟩,
    ⟨(some 63), .slice 1 (.t 61) (some (.t 62)) none, none⟩,
    ⟨(some 64), .callf (.pure []) 94 [(.t 63)], none⟩,
    ⟨(some 65), .buildSlice 1 1 [.nils] [(0, 1, (.t 64))], none⟩,
    ⟨(some 66), .append 1 24 (.t 57) (.t 65), none⟩,
    ⟨(some 12), .move (.t 66), none⟩] none)
  (.skip))))
  (.reg [
    ⟨(some 48), .move (.t 13), none⟩,
    ⟨(some 49), .bin 0 .add (.t 48) (.c (.int .i64 1)), none⟩,
    ⟨(some 13), .move (.t 49), none⟩] none))
def c122_2 : C := .block 2 (.loop false b122_2)
def b122 : C := .seq (.reg [
    ⟨(some 6), .move (.c (.nils)), none⟩] none)
  (.seq (.reg [
    ⟨(some 14), .buildSlice 1 0 [] [], none⟩,
    ⟨(some 7), .move (.t 14), none⟩] none)
  (.seq (.reg [
    ⟨(some 8), .move (.c (.int .i64 0)), none⟩] none)
  (.seq (.seq (.reg [
    ⟨(some 9), .move (.c (.int .i64 0)), none⟩] none)
  (c122_1))
  (.seq (.reg [
    ⟨(some 40), .move (.t 0), none⟩,
    ⟨(some 41), .frz (.t 7), none⟩,
    ⟨(some 42), .callf (.pure []) 131 [(.t 40), (.t 41)], none⟩,
    ⟨(some 43), .buildSlice 1 0 [] [], none⟩,
    ⟨(some 11), .move (.t 42), none⟩,
    ⟨(some 12), .move (.t 43), none⟩] none)
  (.seq (.seq (.reg [
    ⟨(some 13), .move (.c (.int .i64 0)), none⟩] none)
  (c122_2))
  (.seq (.reg [
    ⟨(some 67), .move (.t 12), none⟩,
    ⟨(some 6), .move (.t 67), none⟩] none)
  (.ret)))))))
def p122 : Fn := ⟨3, 68, [.tmp 6], b122⟩
/-! loop.example/g01273/spec.l01Cycles -/
def b98 : C := .seq (.reg [
    ⟨(some 2), .fz (.box (.t 0)), none⟩,
    ⟨(some 4), .move (.c (.nils)), none⟩] none)
  (.seq (.reg [
    ⟨(some 5), .fieldAddr 0 (.t 2), none⟩,
    ⟨(some 6), .load false none (.t 5), none⟩,
    ⟨(some 7), .load false (some 3) (.t 2), none⟩,
    ⟨(some 8), .move (.t 1), none⟩,
    ⟨(some 9), .callf (.pure []) 99 [(.t 7), (.t 8)], none⟩,
    ⟨(some 10), .load false (some 3) (.t 2), none⟩,
    ⟨(some 11), .move (.t 1), none⟩,
    ⟨(some 12), .callf (.pure []) 76 [(.t 10), (.t 11)], none⟩,
    ⟨(some 13), .callf (.pure []) 122 [(.t 6), (.t 9), (.t 12)], none⟩,
    ⟨(some 4), .move (.t 13), none⟩] (some [[], [0], [], [], [2, 3], [], [], [5, 6, 4], [1, 4, 7, 7], [8, 8, 0, 1, 2, 3, 4, 5, 6, 7, 8]]))
  (.ret))
def p98 : Fn := ⟨2, 14, [.tmp 4], b98⟩
/-! loop.example/g01273/spec.l08Free -/
def b61_2 : C := .seq (.seq (.reg [
    ⟨(some 21), .move (.t 9), none⟩,
    ⟨(some 22), .move (.t 5), none⟩,
    ⟨(some 23), .len (.t 22), none⟩,
    ⟨(some 24), .bin 0 .lss (.t 21) (.t 23), none⟩] none)
  (.cond (.t 24)
  (.skip)
  (.exit 2)))
  (.seq (.block 3 (.reg [
    ⟨(some 27), .move (.t 8), none⟩,
    ⟨(some 28), .move (.t 27), none⟩,
    ⟨(some 29), .move (.t 5), (some (28, false))⟩,
    ⟨(some 30), .move (.t 9), (some (28, false))⟩,
    ⟨(some 31), .indexAddr none 1 (.t 29) (.t 30), (some (28, false))⟩,
    ⟨(some 32), .load false none (.t 31), (some (28, false))⟩,
    ⟨(some 33), .callf (.pure []) 81 [(.t 32)], (some (28, false))⟩,
    ⟨(some 34), .move (.t 7), (some (28, false))⟩,
    ⟨(some 35), .bin 0 .eql (.t 33) (.t 34), (some (28, false))⟩,
    ⟨(some 36), .pick (.t 28) (.c (.bool true)) (.t 35), none⟩,
    ⟨(some 8), .move (.t 36), none⟩] none))
  (.reg [
    ⟨(some 25), .move (.t 9), none⟩,
    ⟨(some 26), .bin 0 .add (.t 25) (.c (.int .i64 1)), none⟩,
    ⟨(some 9), .move (.t 26), none⟩] none))
def c61_2 : C := .block 2 (.loop false b61_2)
def b61_1 : C := .seq (.seq (.reg [
    ⟨(some 14), .move (.t 7), none⟩,
    ⟨(some 15), .load false (some 3) (.t 2), none⟩,
    ⟨(some 16), .move (.t 1), none⟩,
    ⟨(some 17), .callf (.pure []) 99 [(.t 15), (.t 16)], none⟩,
    ⟨(some 18), .bin 0 .lss (.t 14) (.t 17), none⟩] none)
  (.cond (.t 18)
  (.skip)
  (.exit 0)))
  (.seq (.block 1 (.seq (.reg [
    ⟨(some 8), .move (.c (.bool false)), none⟩] none)
  (.seq (.seq (.reg [
    ⟨(some 9), .move (.c (.int .i64 0)), none⟩] none)
  (c61_2))
  (.seq (.reg [
    ⟨(some 37), .move (.t 8), none⟩,
    ⟨(some 38), .un .not (.t 37), none⟩] none)
  (.cond (.t 38)
  (.reg [
    ⟨(some 39), .move (.t 6), none⟩,
    ⟨(some 40), .move (.t 7), none⟩,
    ⟨(some 41), .buildSlice 1 1 [.int .i64 0] [(0, 1, (.t 40))], none⟩,
    ⟨(some 42), .append 1 8 (.t 39) (.t 41), none⟩,
    ⟨(some 6), .move (.t 42), none⟩] none)
  (.skip))))))
  (.reg [
    ⟨(some 19), .move (.t 7), none⟩,
    ⟨(some 20), .bin 0 .add (.t 19) (.c (.int .i64 1)), none⟩,
    ⟨(some 7), .move (.t 20), none⟩] none))
def c61_1 : C := .block 0 (.loop false b61_1)
def b61 : C := .seq (.reg [
    ⟨(some 2), .fz (.box (.t 0)), none⟩,
    ⟨(some 4), .move (.c (.nils)), none⟩] none)
  (.seq (.reg [
    ⟨(some 10), .load false (some 3) (.t 2), none⟩,
    ⟨(some 11), .move (.t 1), none⟩,
    ⟨(some 12), .callf (.pure []) 98 [(.t 10), (.t 11)], none⟩,
    ⟨(some 13), .buildSlice 1 0 [] [], none⟩,
    ⟨(some 5), .move (.t 12), none⟩,
    ⟨(some 6), .move (.t 13), none⟩] none)
  (.seq (.seq (.reg [
    ⟨(some 7), .move (.c (.int .i64 0)), none⟩] none)
  (c61_1))
  (.seq (.reg [
    ⟨(some 43), .move (.t 6), none⟩,
    ⟨(some 4), .move (.t 43), none⟩] none)
  (.ret))))
def p61 : Fn := ⟨2, 44, [.tmp 4], b61⟩
/-! loop.example/g01273/spec.FreePlaces -/
def b28 : C := .seq (.reg [
    ⟨(some 2), .fz (.box (.t 0)), none⟩,
    ⟨(some 4), .move (.c (.nils)), none⟩,
    ⟨(some 5), .move (.c (.int .i64 0)), none⟩] none)
  (.seq (.seq (.reg [
    ⟨(some 7), .load false (some 3) (.t 2), none⟩,
    ⟨(some 8), .move (.t 1), none⟩,
    ⟨(some 9), .callf (.pure []) 60 [(.t 7), (.t 8)], none⟩,
    ⟨(some 6), .move (.t 9), none⟩] none)
  (.seq (.reg [
    ⟨(some 10), .move (.t 6), none⟩,
    ⟨(some 11), .bin 0 .neq (.t 10) (.c (.int .i64 0)), none⟩] none)
  (.cond (.t 11)
  (.seq (.reg [
    ⟨(some 12), .move (.t 6), none⟩,
    ⟨(some 4), .move (.c (.nils)), none⟩,
    ⟨(some 5), .move (.t 12), none⟩] none)
  (.ret))
  (.skip))))
  (.seq (.reg [
    ⟨(some 13), .load false (some 3) (.t 2), none⟩,
    ⟨(some 14), .move (.t 1), none⟩,
    ⟨(some 15), .callf (.pure []) 61 [(.t 13), (.t 14)], none⟩,
    ⟨(some 4), .move (.t 15), none⟩,
    ⟨(some 5), .move (.c (.int .i64 0)), none⟩] none)
  (.ret)))
def p28 : Fn := ⟨2, 16, [.tmp 4, .tmp 5], b28⟩
/-! loop.example/g01273/impl.between -/
def b56 : C := .seq (.reg [
    ⟨(some 6), .move (.c (.bool false)), none⟩] none)
  (.seq (.reg [
    ⟨(some 7), .move (.t 0), none⟩,
    ⟨(some 8), .move (.t 1), none⟩,
    ⟨(some 9), .bin 0 .geq (.t 7) (.t 8), none⟩,
    ⟨(some 10), .move (.t 9), none⟩,
    ⟨(some 11), .move (.t 0), (some (10, true))⟩,
    ⟨(some 12), .move (.t 2), (some (10, true))⟩,
    ⟨(some 13), .bin 0 .leq (.t 11) (.t 12), (some (10, true))⟩,
    ⟨(some 14), .pick (.t 10) (.t 13) (.c (.bool false)), none⟩,
    ⟨(some 6), .move (.t 14), none⟩] none)
  (.ret))
def p56 : Fn := ⟨3, 15, [.tmp 6], b56⟩
/-! loop.example/g01273/impl.isPrime -/
def b67 : C := .seq (.reg [
    ⟨(some 2), .move (.c (.bool false)), none⟩] none)
  (.seq (.reg [
    ⟨(some 3), .move (.t 0), none⟩,
    ⟨(some 4), .bin 0 .eql (.t 3) (.c (.int .i64 2)), none⟩,
    ⟨(some 5), .move (.t 4), none⟩,
    ⟨(some 6), .move (.t 0), (some (5, false))⟩,
    ⟨(some 7), .bin 0 .eql (.t 6) (.c (.int .i64 3)), (some (5, false))⟩,
    ⟨(some 8), .pick (.t 5) (.c (.bool true)) (.t 7), none⟩,
    ⟨(some 9), .move (.t 8), none⟩,
    ⟨(some 10), .move (.t 0), (some (9, false))⟩,
    ⟨(some 11), .bin 0 .eql (.t 10) (.c (.int .i64 5)), (some (9, false))⟩,
    ⟨(some 12), .pick (.t 9) (.c (.bool true)) (.t 11), none⟩,
    ⟨(some 13), .move (.t 12), none⟩,
    ⟨(some 14), .move (.t 0), (some (13, false))⟩,
    ⟨(some 15), .bin 0 .eql (.t 14) (.c (.int .i64 7)), (some (13, false))⟩,
    ⟨(some 16), .pick (.t 13) (.c (.bool true)) (.t 15), none⟩,
    ⟨(some 2), .move (.t 16), none⟩] none)
  (.ret))
def p67 : Fn := ⟨1, 17, [.tmp 2], b67⟩
/-! slices.IndexFunc(()int64,int64) -/
def b115_1 : C := .seq (.reg [
    ⟨(some 9), .bin 0 .lss (.t 8) (.t 7), none⟩] none)
  (.seq (.cond (.t 9)
  (.skip)
  (.exit 0))
  (.seq (.block 1 (.seq (.reg [
    ⟨(some 10), .move (.t 8), none⟩,
    ⟨(some 5), .move (.t 10), none⟩] none)
  (.seq (.reg [
    ⟨(some 11), .move (.t 1), none⟩,
    ⟨(some 12), .move (.t 0), none⟩,
    ⟨(some 13), .move (.t 5), none⟩,
    ⟨(some 14), .indexAddr none 1 (.t 12) (.t 13), none⟩,
    ⟨(some 15), .load false none (.t 14), none⟩,
    ⟨(some 16), .callv (.pure []) (.t 11) [(.t 15)], none⟩] none)
  (.cond (.t 16)
  (.seq (.reg [
    ⟨(some 17), .move (.t 5), none⟩,
    ⟨(some 4), .move (.t 17), none⟩] none)
  (.ret))
  (.skip)))))
  (.reg [
    ⟨(some 18), .bin 0 .add (.t 8) (.c (.int .i64 1)), none⟩,
    ⟨(some 8), .move (.t 18), none⟩] none)))
def c115_1 : C := .block 0 (.loop false b115_1)
def b115 : C := .seq (.reg [
    ⟨(some 4), .move (.c (.int .i64 0)), none⟩] none)
  (.seq (.seq (.reg [
    ⟨(some 6), .move (.t 0), none⟩,
    ⟨(some 7), .len (.t 6), none⟩,
    ⟨(some 8), .move (.c (.int .i64 0)), none⟩] none)
  (c115_1))
  (.seq (.reg [
    ⟨(some 4), .move (.c (.int .i64 (-1))), none⟩] none)
  (.ret)))
def p115 : Fn := ⟨2, 19, [.tmp 4], b115⟩
/-! slices.ContainsFunc(()int64,int64) -/
def b82 : C := .seq (.reg [
    ⟨(some 4), .move (.c (.bool false)), none⟩] none)
  (.seq (.reg [
    ⟨(some 5), .move (.t 0), none⟩,
    ⟨(some 6), .move (.t 1), none⟩,
    ⟨(some 7), .callf (.pure []) 115 [(.t 5), (.t 6)], none⟩,
    ⟨(some 8), .bin 0 .geq (.t 7) (.c (.int .i64 0)), none⟩,
    ⟨(some 4), .move (.t 8), none⟩] none)
  (.ret))
def p82 : Fn := ⟨2, 9, [.tmp 4], b82⟩
/-! loop.example/g01273/impl.size(int64) -/
def b73 : C := .seq (.reg [
    ⟨(some 2), .move (.c (.int .i64 0)), none⟩] none)
  (.seq (.reg [
    ⟨(some 3), .move (.t 0), none⟩,
    ⟨(some 4), .len (.t 3), none⟩,
    ⟨(some 2), .move (.t 4), none⟩] none)
  (.ret))
def p73 : Fn := ⟨1, 5, [.tmp 2], b73⟩
/-! (loop.example/g01273/impl.Complex).top -/
def b86 : C := .seq (.reg [
    ⟨(some 1), .fz (.box (.t 0)), none⟩,
    ⟨(some 2), .move (.c (.int .i64 0)), none⟩] none)
  (.seq (.reg [
    ⟨(some 3), .fieldAddr 1 (.t 1), none⟩,
    ⟨(some 4), .load false none (.t 3), none⟩,
    ⟨(some 5), .callf (.pure []) 73 [(.t 4)], none⟩,
    ⟨(some 6), .bin 0 .sub (.t 5) (.c (.int .i64 1)), none⟩,
    ⟨(some 2), .move (.t 6), none⟩] none)
  (.ret))
def p86 : Fn := ⟨1, 7, [.tmp 2], b86⟩
/-! loop.example/g01273/impl.size(()()int64) -/
def b87 : C := .seq (.reg [
    ⟨(some 2), .move (.c (.int .i64 0)), none⟩] none)
  (.seq (.reg [
    ⟨(some 3), .move (.t 0), none⟩,
    ⟨(some 4), .len (.t 3), none⟩,
    ⟨(some 2), .move (.t 4), none⟩] none)
  (.ret))
def p87 : Fn := ⟨1, 5, [.tmp 2], b87⟩
/-! loop.example/g01273/impl.IsComplex$1 -/
def b88 : C := .seq (.reg [
    ⟨(some 2), .move (.c (.bool false)), none⟩] none)
  (.seq (.reg [
    ⟨(some 3), .move (.t 0), none⟩,
    ⟨(some 4), .callf (.pure []) 56 [(.t 3), (.c (.int .i64 0)), (.c (.int .i64 8))], none⟩,
    ⟨(some 5), .un .not (.t 4), none⟩,
    ⟨(some 2), .move (.t 5), none⟩] none)
  (.ret))
def p88 : Fn := ⟨1, 6, [.tmp 2], b88⟩
/-! loop.example/g01273/impl.size(()int64) -/
def b89 : C := .seq (.reg [
    ⟨(some 2), .move (.c (.int .i64 0)), none⟩] none)
  (.seq (.reg [
    ⟨(some 3), .move (.t 0), none⟩,
    ⟨(some 4), .len (.t 3), none⟩,
    ⟨(some 2), .move (.t 4), none⟩] none)
  (.ret))
def p89 : Fn := ⟨1, 5, [.tmp 2], b89⟩
/-! loop.example/g01273/impl.isVector$1 -/
def b130 : C := .seq (.reg [
    ⟨(some 3), .move (.c (.bool false)), none⟩] none)
  (.seq (.reg [
    ⟨(some 4), .move (.t 0), none⟩,
    ⟨(some 5), .load false none (.t 1), none⟩,
    ⟨(some 6), .bin 0 .sub (.t 5) (.c (.int .i64 1)), none⟩,
    ⟨(some 7), .callf (.pure []) 56 [(.t 4), (.c (.int .i64 0)), (.t 6)], none⟩,
    ⟨(some 8), .un .not (.t 7), none⟩,
    ⟨(some 3), .move (.t 8), none⟩] none)
  (.ret))
def p130 : Fn := ⟨2, 9, [.tmp 3], b130⟩
/-! loop.example/g01273/impl.isVector -/
def b129 : C := .seq (.reg [
    ⟨(some 3), .fz (.box (.t 0)), none⟩,
    ⟨(some 6), .move (.c (.bool false)), none⟩] none)
  (.seq (.reg [
    ⟨(some 7), .move (.t 2), none⟩,
    ⟨(some 8), .callf (.pure []) 73 [(.t 7)], none⟩,
    ⟨(some 9), .move (.t 1), none⟩,
    ⟨(some 10), .bin 0 .eql (.t 8) (.t 9), none⟩,
    ⟨(some 11), .move (.t 10), none⟩,
    ⟨(some 12), .move (.t 2), (some (11, true))⟩,
    ⟨(some 13), .mkfn 130 [] [(.t 3)], (some (11, true))⟩,
    ⟨(some 14), .callf (.pure []) 82 [(.t 12), (.t 13)], (some (11, true))⟩,
    ⟨(some 15), .un .not (.t 14), (some (11, true))⟩,
    ⟨(some 16), .pick (.t 11) (.t 15) (.c (.bool false)), none⟩,
    ⟨(some 6), .move (.t 16), none⟩] none)
  (.ret))
def p129 : Fn := ⟨3, 17, [.tmp 6], b129⟩
/-! loop.example/g01273/impl.areRows$1 -/
def b116 : C := .seq (.reg [
    ⟨(some 4), .move (.c (.bool false)), none⟩] none)
  (.seq (.reg [
    ⟨(some 5), .load false none (.t 1), none⟩,
    ⟨(some 6), .load false none (.t 2), none⟩,
    ⟨(some 7), .move (.t 0), none⟩,
    ⟨(some 8), .callf (.pure []) 129 [(.t 5), (.t 6), (.t 7)], none⟩,
    ⟨(some 9), .un .not (.t 8), none⟩,
    ⟨(some 4), .move (.t 9), none⟩] none)
  (.ret))
def p116 : Fn := ⟨3, 10, [.tmp 4], b116⟩
/-! slices.IndexFunc(()()int64,()int64) -/
def b128_1 : C := .seq (.reg [
    ⟨(some 9), .bin 0 .lss (.t 8) (.t 7), none⟩] none)
  (.seq (.cond (.t 9)
  (.skip)
  (.exit 0))
  (.seq (.block 1 (.seq (.reg [
    ⟨(some 10), .move (.t 8), none⟩,
    ⟨(some 5), .move (.t 10), none⟩] none)
  (.seq (.reg [
    ⟨(some 11), .move (.t 1), none⟩,
    ⟨(some 12), .move (.t 0), none⟩,
    ⟨(some 13), .move (.t 5), none⟩,
    ⟨(some 14), .indexAddr none 1 (.t 12) (.t 13), none⟩,
    ⟨(some 15), .load false none (.t 14), none⟩,
    ⟨(some 16), .callv (.pure []) (.t 11) [(.t 15)], none⟩] none)
  (.cond (.t 16)
  (.seq (.reg [
    ⟨(some 17), .move (.t 5), none⟩,
    ⟨(some 4), .move (.t 17), none⟩] none)
  (.ret))
  (.skip)))))
  (.reg [
    ⟨(some 18), .bin 0 .add (.t 8) (.c (.int .i64 1)), none⟩,
    ⟨(some 8), .move (.t 18), none⟩] none)))
def c128_1 : C := .block 0 (.loop false b128_1)
def b128 : C := .seq (.reg [
    ⟨(some 4), .move (.c (.int .i64 0)), none⟩] none)
  (.seq (.seq (.reg [
    ⟨(some 6), .move (.t 0), none⟩,
    ⟨(some 7), .len (.t 6), none⟩,
    ⟨(some 8), .move (.c (.int .i64 0)), none⟩] none)
  (c128_1))
  (.seq (.reg [
    ⟨(some 4), .move (.c (.int .i64 (-1))), none⟩] none)
  (.ret)))
def p128 : Fn := ⟨2, 19, [.tmp 4], b128⟩
/-! slices.ContainsFunc(()()int64,()int64) -/
def b117 : C := .seq (.reg [
    ⟨(some 4), .move (.c (.bool false)), none⟩] none)
  (.seq (.reg [
    ⟨(some 5), .move (.t 0), none⟩,
    ⟨(some 6), .move (.t 1), none⟩,
    ⟨(some 7), .callf (.pure []) 128 [(.t 5), (.t 6)], none⟩,
    ⟨(some 8), .bin 0 .geq (.t 7) (.c (.int .i64 0)), none⟩,
    ⟨(some 4), .move (.t 8), none⟩] none)
  (.ret))
def p117 : Fn := ⟨2, 9, [.tmp 4], b117⟩
/-! loop.example/g01273/impl.areRows -/
def b90 : C := .seq (.reg [
    ⟨(some 3), .fz (.box (.t 0)), none⟩,
    ⟨(some 4), .fz (.box (.t 1)), none⟩,
    ⟨(some 6), .move (.c (.bool false)), none⟩] none)
  (.seq (.reg [
    ⟨(some 7), .move (.t 2), none⟩,
    ⟨(some 8), .mkfn 116 [] [(.t 3), (.t 4)], none⟩,
    ⟨(some 9), .callf (.pure []) 117 [(.t 7), (.t 8)], none⟩,
    ⟨(some 10), .un .not (.t 9), none⟩,
    ⟨(some 6), .move (.t 10), none⟩] none)
  (.ret))
def p90 : Fn := ⟨3, 11, [.tmp 6], b90⟩
/-! loop.example/g01273/impl.combine -/
def b119_2 : C := .seq (.reg [
    ⟨(some 29), .bin 0 .lss (.t 28) (.t 27), none⟩] none)
  (.seq (.cond (.t 29)
  (.skip)
  (.exit 2))
  (.seq (.block 3 (.seq (.reg [
    ⟨(some 30), .move (.t 28), none⟩,
    ⟨(some 31), .indexAddr none 1 (.t 26) (.t 28), none⟩,
    ⟨(some 32), .load false none (.t 31), none⟩,
    ⟨(some 12), .move (.t 30), none⟩,
    ⟨(some 13), .move (.t 32), none⟩] none)
  (.reg [
    ⟨(some 33), .move (.t 9), none⟩,
    ⟨(some 34), .move (.t 12), none⟩,
    ⟨(some 35), .move (.t 9), none⟩,
    ⟨(some 36), .move (.t 12), none⟩,
    ⟨(some 37), .indexAddr none 1 (.t 35) (.t 36), none⟩,
    ⟨(some 38), .load false none (.t 37), none⟩,
    ⟨(some 39), .move (.t 11), none⟩,
    ⟨(some 40), .move (.t 13), none⟩,
    ⟨(some 41), .bin 0 .mul (.t 39) (.t 40), none⟩,
    ⟨(some 42), .bin 0 .add (.t 38) (.t 41), none⟩,
    ⟨(some 43), .move (.t 0), none⟩,
    ⟨(some 44), .bin 0 .rem (.t 42) (.t 43), none⟩,
    ⟨(some 45), .indexAddr none 1 (.t 33) (.t 34), none⟩,
    ⟨none, .store 1 (.t 45) (.t 44), none⟩] none)))
  (.reg [
    ⟨(some 46), .bin 0 .add (.t 28) (.c (.int .i64 1)), none⟩,
    ⟨(some 28), .move (.t 46), none⟩] none)))
def c119_2 : C := .block 2 (.loop false b119_2)
def b119_1 : C := .seq (.reg [
    ⟨(some 19), .bin 0 .lss (.t 18) (.t 17), none⟩] none)
  (.seq (.cond (.t 19)
  (.skip)
  (.exit 0))
  (.seq (.block 1 (.seq (.reg [
    ⟨(some 20), .move (.t 18), none⟩,
    ⟨(some 21), .indexAddr none 1 (.t 16) (.t 18), none⟩,
    ⟨(some 22), .load false none (.t 21), none⟩,
    ⟨(some 10), .move (.t 20), none⟩,
    ⟨(some 11), .move (.t 22), none⟩] none)
  (.seq (.reg [
    ⟨(some 23), .move (.t 3), none⟩,
    ⟨(some 24), .move (.t 10), none⟩,
    ⟨(some 25), .indexAddr none 1 (.t 23) (.t 24), none⟩,
    ⟨(some 26), .load false none (.t 25), none⟩,
    ⟨(some 27), .len (.t 26), none⟩,
    ⟨(some 28), .move (.c (.int .i64 0)), none⟩] none)
  (c119_2))))
  (.reg [
    ⟨(some 47), .bin 0 .add (.t 18) (.c (.int .i64 1)), none⟩,
    ⟨(some 18), .move (.t 47), none⟩] none)))
def c119_1 : C := .block 0 (.loop false b119_1)
def b119 : C := .seq (.reg [
    ⟨(some 8), .move (.c (.nils)), none⟩] none)
  (.seq (.reg [
    ⟨(some 14), .move (.t 1), none⟩,
    ⟨(some 15), .makeSlice 1 8 [.int .i64 0] (.t 14) (.t 14), none⟩,
    ⟨(some 9), .move (.t 15), none⟩] none)
  (.seq (.seq (.reg [
    ⟨(some 16), .move (.t 2), none⟩,
    ⟨(some 17), .len (.t 16), none⟩,
    ⟨(some 18), .move (.c (.int .i64 0)), none⟩] none)
  (c119_1))
  (.seq (.reg [
    ⟨(some 48), .move (.t 9), none⟩,
    ⟨(some 8), .move (.t 48), none⟩] none)
  (.ret))))
def p119 : Fn := ⟨4, 49, [.tmp 8], b119⟩
/-! (loop.example/g01273/impl.Complex).differential -/
def b91 : C := .seq (.reg [
    ⟨(some 3), .fz (.box (.t 0)), none⟩,
    ⟨(some 6), .move (.c (.nils)), none⟩] none)
  (.seq (.seq (.reg [
    ⟨(some 7), .move (.t 1), none⟩,
    ⟨(some 8), .bin 0 .leq (.t 7) (.c (.int .i64 0)), none⟩,
    ⟨(some 9), .move (.t 8), none⟩,
    ⟨(some 10), .move (.t 1), (some (9, false))⟩,
    ⟨(some 11), .load false (some 3) (.t 3), (some (9, false))⟩,
    ⟨(some 12), .callf (.pure []) 86 [(.t 11)], (some (9, false))⟩,
    ⟨(some 13), .bin 0 .gtr (.t 10) (.t 12), (some (9, false))⟩,
    ⟨(some 14), .pick (.t 9) (.c (.bool true)) (.t 13), none⟩] none)
  (.cond (.t 14)
  (.seq (.reg [
    ⟨(some 6), .move (.c (.nils)), none⟩] none)
  (.ret))
  (.skip)))
  (.seq (.reg [
    ⟨(some 15), .fieldAddr 0 (.t 3), none⟩,
    ⟨(some 16), .load false none (.t 15), none⟩,
    ⟨(some 17), .fieldAddr 1 (.t 3), none⟩,
    ⟨(some 18), .load false none (.t 17), none⟩,
    ⟨(some 19), .move (.t 1), none⟩,
    ⟨(some 20), .bin 0 .sub (.t 19) (.c (.int .i64 1)), none⟩,
    ⟨(some 21), .indexAddr none 1 (.t 18) (.t 20), none⟩,
    ⟨(some 22), .load false none (.t 21), none⟩,
    ⟨(some 23), .move (.t 2), none⟩,
    ⟨(some 24), .fieldAddr 2 (.t 3), none⟩,
    ⟨(some 25), .load false none (.t 24), none⟩,
    ⟨(some 26), .move (.t 1), none⟩,
    ⟨(some 27), .bin 0 .sub (.t 26) (.c (.int .i64 1)), none⟩,
    ⟨(some 28), .indexAddr none 1 (.t 25) (.t 27), none⟩,
    ⟨(some 29), .load false none (.t 28), none⟩,
    ⟨(some 30), .callf (.pure []) 119 [(.t 16), (.t 22), (.t 23), (.t 29)], none⟩,
    ⟨(some 6), .move (.t 30), none⟩] (some [[], [0], [], [2], [], [4], [3, 5], [6], [], [], [9], [], [11], [10, 12], [13], [1, 7, 8, 14], [15, 15, 0, 1, 2, 3, 4, 5, 6, 7, 8, 9, 10, 11, 12, 13, 14, 15]]))
  (.ret)))
def p91 : Fn := ⟨3, 31, [.tmp 6], b91⟩
/-! loop.example/g01273/impl.isZero$1 -/
def b118 : C := .seq (.reg [
    ⟨(some 2), .move (.c (.bool false)), none⟩] none)
  (.seq (.reg [
    ⟨(some 3), .move (.t 0), none⟩,
    ⟨(some 4), .bin 0 .neq (.t 3) (.c (.int .i64 0)), none⟩,
    ⟨(some 2), .move (.t 4), none⟩] none)
  (.ret))
def p118 : Fn := ⟨1, 5, [.tmp 2], b118⟩
/-! loop.example/g01273/impl.isZero -/
def b92 : C := .seq (.reg [
    ⟨(some 2), .move (.c (.bool false)), none⟩] none)
  (.seq (.reg [
    ⟨(some 3), .move (.t 0), none⟩,
    ⟨(some 4), .callf (.pure []) 82 [(.t 3), (.c (.fn 118 [] []))], none⟩,
    ⟨(some 5), .un .not (.t 4), none⟩,
    ⟨(some 2), .move (.t 5), none⟩] none)
  (.ret))
def p92 : Fn := ⟨1, 6, [.tmp 2], b92⟩
/-! loop.example/g01273/impl.IsComplex -/
def b42_1 : C := .seq (.reg [
    ⟨(some 35), .bin 0 .lss (.t 34) (.t 33), none⟩] none)
  (.seq (.cond (.t 35)
  (.skip)
  (.exit 0))
  (.seq (.block 1 (.seq (.reg [
    ⟨(some 36), .move (.t 34), none⟩,
    ⟨(some 37), .indexAddr none 1 (.t 32) (.t 34), none⟩,
    ⟨(some 38), .load false none (.t 37), none⟩,
    ⟨(some 3), .move (.t 36), none⟩,
    ⟨(some 4), .move (.t 38), none⟩] none)
  (.seq (.reg [
    ⟨(some 39), .move (.t 4), none⟩,
    ⟨(some 40), .callf (.pure []) 89 [(.t 39)], none⟩,
    ⟨(some 41), .fieldAddr 1 (.t 1), none⟩,
    ⟨(some 42), .load false none (.t 41), none⟩,
    ⟨(some 43), .move (.t 3), none⟩,
    ⟨(some 44), .bin 0 .add (.t 43) (.c (.int .i64 1)), none⟩,
    ⟨(some 45), .indexAddr none 1 (.t 42) (.t 44), none⟩,
    ⟨(some 46), .load false none (.t 45), none⟩,
    ⟨(some 47), .bin 0 .neq (.t 40) (.t 46), none⟩,
    ⟨(some 48), .move (.t 47), none⟩,
    ⟨(some 49), .fieldAddr 0 (.t 1), (some (48, false))⟩,
    ⟨(some 50), .load false none (.t 49), (some (48, false))⟩,
    ⟨(some 51), .fieldAddr 1 (.t 1), (some (48, false))⟩,
    ⟨(some 52), .load false none (.t 51), (some (48, false))⟩,
    ⟨(some 53), .move (.t 3), (some (48, false))⟩,
    ⟨(some 54), .indexAddr none 1 (.t 52) (.t 53), (some (48, false))⟩,
    ⟨(some 55), .load false none (.t 54), (some (48, false))⟩,
    ⟨(some 56), .move (.t 4), (some (48, false))⟩,
    ⟨(some 57), .callf (.pure []) 90 [(.t 50), (.t 55), (.t 56)], (some (48, false))⟩,
    ⟨(some 58), .un .not (.t 57), (some (48, false))⟩,
    ⟨(some 59), .pick (.t 48) (.c (.bool true)) (.t 58), none⟩] (some [[], [0], [], [2], [], [4], [3, 5], [6], [1, 7], [8, 1], [9], [10, 9], [9], [12, 9], [9], [13, 14, 9], [15, 9], [9], [11, 16, 17, 9, 9], [18, 9], [9, 19]]))
  (.cond (.t 59)
  (.seq (.reg [
    ⟨(some 2), .move (.c (.bool false)), none⟩] none)
  (.ret))
  (.skip)))))
  (.reg [
    ⟨(some 60), .bin 0 .add (.t 34) (.c (.int .i64 1)), none⟩,
    ⟨(some 34), .move (.t 60), none⟩] none)))
def c42_1 : C := .block 0 (.loop false b42_1)
def b42_3 : C := .seq (.reg [
    ⟨(some 75), .bin 0 .lss (.t 74) (.t 73), none⟩] none)
  (.seq (.cond (.t 75)
  (.skip)
  (.exit 4))
  (.seq (.block 5 (.seq (.reg [
    ⟨(some 76), .indexAddr none 1 (.t 72) (.t 74), none⟩,
    ⟨(some 77), .load false none (.t 76), none⟩,
    ⟨(some 7), .move (.t 77), none⟩] none)
  (.seq (.reg [
    ⟨(some 78), .load false (some 3) (.t 1), none⟩,
    ⟨(some 79), .move (.t 5), none⟩,
    ⟨(some 80), .bin 0 .sub (.t 79) (.c (.int .i64 1)), none⟩,
    ⟨(some 81), .move (.t 7), none⟩,
    ⟨(some 82), .callf (.pure []) 91 [(.t 78), (.t 80), (.t 81)], none⟩,
    ⟨(some 83), .callf (.pure []) 92 [(.t 82)], none⟩,
    ⟨(some 84), .un .not (.t 83), none⟩] none)
  (.cond (.t 84)
  (.seq (.reg [
    ⟨(some 2), .move (.c (.bool false)), none⟩] none)
  (.ret))
  (.skip)))))
  (.reg [
    ⟨(some 85), .bin 0 .add (.t 74) (.c (.int .i64 1)), none⟩,
    ⟨(some 74), .move (.t 85), none⟩] none)))
def c42_3 : C := .block 4 (.loop false b42_3)
def b42_2 : C := .seq (.seq (.reg [
    ⟨(some 61), .move (.t 5), none⟩,
    ⟨(some 62), .load false (some 3) (.t 1), none⟩,
    ⟨(some 63), .callf (.pure []) 86 [(.t 62)], none⟩,
    ⟨(some 64), .bin 0 .leq (.t 61) (.t 63), none⟩] none)
  (.cond (.t 64)
  (.skip)
  (.exit 2)))
  (.seq (.block 3 (.seq (.reg [
    ⟨(some 67), .fieldAddr 2 (.t 1), none⟩,
    ⟨(some 68), .load false none (.t 67), none⟩,
    ⟨(some 69), .move (.t 5), none⟩,
    ⟨(some 70), .bin 0 .sub (.t 69) (.c (.int .i64 1)), none⟩,
    ⟨(some 71), .indexAddr none 1 (.t 68) (.t 70), none⟩,
    ⟨(some 72), .load false none (.t 71), none⟩,
    ⟨(some 73), .len (.t 72), none⟩,
    ⟨(some 74), .move (.c (.int .i64 0)), none⟩] none)
  (c42_3)))
  (.reg [
    ⟨(some 65), .move (.t 5), none⟩,
    ⟨(some 66), .bin 0 .add (.t 65) (.c (.int .i64 1)), none⟩,
    ⟨(some 5), .move (.t 66), none⟩] none))
def c42_2 : C := .block 2 (.loop false b42_2)
def b42 : C := .seq (.reg [
    ⟨(some 1), .fz (.box (.t 0)), none⟩,
    ⟨(some 2), .move (.c (.bool false)), none⟩] none)
  (.seq (.seq (.reg [
    ⟨(some 8), .fieldAddr 0 (.t 1), none⟩,
    ⟨(some 9), .load false none (.t 8), none⟩,
    ⟨(some 10), .callf (.pure []) 67 [(.t 9)], none⟩,
    ⟨(some 11), .un .not (.t 10), none⟩,
    ⟨(some 12), .move (.t 11), none⟩,
    ⟨(some 13), .load false (some 3) (.t 1), (some (12, false))⟩,
    ⟨(some 14), .callf (.pure []) 86 [(.t 13)], (some (12, false))⟩,
    ⟨(some 15), .callf (.pure []) 56 [(.t 14), (.c (.int .i64 0)), (.c (.int .i64 5))], (some (12, false))⟩,
    ⟨(some 16), .un .not (.t 15), (some (12, false))⟩,
    ⟨(some 17), .pick (.t 12) (.c (.bool true)) (.t 16), none⟩,
    ⟨(some 18), .move (.t 17), none⟩,
    ⟨(some 19), .fieldAddr 2 (.t 1), (some (18, false))⟩,
    ⟨(some 20), .load false none (.t 19), (some (18, false))⟩,
    ⟨(some 21), .callf (.pure []) 87 [(.t 20)], (some (18, false))⟩,
    ⟨(some 22), .load false (some 3) (.t 1), (some (18, false))⟩,
    ⟨(some 23), .callf (.pure []) 86 [(.t 22)], (some (18, false))⟩,
    ⟨(some 24), .bin 0 .neq (.t 21) (.t 23), (some (18, false))⟩,
    ⟨(some 25), .pick (.t 18) (.c (.bool true)) (.t 24), none⟩,
    ⟨(some 26), .move (.t 25), none⟩,
    ⟨(some 27), .fieldAddr 1 (.t 1), (some (26, false))⟩,
    ⟨(some 28), .load false none (.t 27), (some (26, false))⟩,
    ⟨(some 29), .callf (.pure []) 82 [(.t 28), (.c (.fn 88 [] []))], (some (26, false))⟩,
    ⟨(some 30), .pick (.t 26) (.c (.bool true)) (.t 29), none⟩] (some [[], [0], [1], [2], [3, 2], [4], [5, 4, 4], [6, 6, 4], [7, 4], [4, 8], [9, 7], [10], [11, 10], [12, 10, 10], [10], [14, 13, 10], [13, 15, 10], [10, 16], [17, 15], [18], [19, 18], [20, 18, 18], [18, 21]]))
  (.cond (.t 30)
  (.seq (.reg [
    ⟨(some 2), .move (.c (.bool false)), none⟩] none)
  (.ret))
  (.skip)))
  (.seq (.seq (.reg [
    ⟨(some 31), .fieldAddr 2 (.t 1), none⟩,
    ⟨(some 32), .load false none (.t 31), none⟩,
    ⟨(some 33), .len (.t 32), none⟩,
    ⟨(some 34), .move (.c (.int .i64 0)), none⟩] none)
  (c42_1))
  (.seq (.seq (.reg [
    ⟨(some 5), .move (.c (.int .i64 2)), none⟩] none)
  (c42_2))
  (.seq (.reg [
    ⟨(some 2), .move (.c (.bool true)), none⟩] none)
  (.ret)))))
def p42 : Fn := ⟨1, 86, [.tmp 2], b42⟩
/-! loop.example/g01273/impl.degreeCode -/
def b62 : C := .seq (.reg [
    ⟨(some 2), .fz (.box (.t 0)), none⟩,
    ⟨(some 4), .move (.c (.int .i64 0)), none⟩] none)
  (.seq (.block 0 (.seq (.reg [
    ⟨(some 6), .load false (some 3) (.t 2), none⟩,
    ⟨(some 7), .callf (.pure []) 42 [(.t 6)], none⟩,
    ⟨(some 8), .un .not (.t 7), none⟩,
    ⟨(some 5), .move (.t 8), none⟩] none)
  (.cond (.t 5)
  (.seq (.reg [
    ⟨(some 4), .move (.c (.int .i64 1)), none⟩] none)
  (.ret))
  (.seq (.reg [
    ⟨(some 10), .move (.t 1), none⟩,
    ⟨(some 11), .load false (some 3) (.t 2), none⟩,
    ⟨(some 12), .callf (.pure []) 86 [(.t 11)], none⟩,
    ⟨(some 13), .callf (.pure []) 56 [(.t 10), (.c (.int .i64 0)), (.t 12)], none⟩,
    ⟨(some 14), .un .not (.t 13), none⟩,
    ⟨(some 9), .move (.t 14), none⟩] none)
  (.cond (.t 9)
  (.seq (.reg [
    ⟨(some 4), .move (.c (.int .i64 2)), none⟩] none)
  (.ret))
  (.skip))))))
  (.seq (.reg [
    ⟨(some 4), .move (.c (.int .i64 0)), none⟩] none)
  (.ret)))
def p62 : Fn := ⟨2, 15, [.tmp 4], b62⟩
/-! (loop.example/g01273/impl.Complex).dim -/
def b102 : C := .seq (.reg [
    ⟨(some 2), .fz (.box (.t 0)), none⟩,
    ⟨(some 4), .move (.c (.int .i64 0)), none⟩] none)
  (.seq (.seq (.reg [
    ⟨(some 5), .move (.t 1), none⟩,
    ⟨(some 6), .load false (some 3) (.t 2), none⟩,
    ⟨(some 7), .callf (.pure []) 86 [(.t 6)], none⟩,
    ⟨(some 8), .callf (.pure []) 56 [(.t 5), (.c (.int .i64 0)), (.t 7)], none⟩,
    ⟨(some 9), .un .not (.t 8), none⟩] none)
  (.cond (.t 9)
  (.seq (.reg [
    ⟨(some 4), .move (.c (.int .i64 0)), none⟩] none)
  (.ret))
  (.skip)))
  (.seq (.reg [
    ⟨(some 10), .fieldAddr 1 (.t 2), none⟩,
    ⟨(some 11), .load false none (.t 10), none⟩,
    ⟨(some 12), .move (.t 1), none⟩,
    ⟨(some 13), .indexAddr none 1 (.t 11) (.t 12), none⟩,
    ⟨(some 14), .load false none (.t 13), none⟩,
    ⟨(some 4), .move (.t 14), none⟩] none)
  (.ret)))
def p102 : Fn := ⟨2, 15, [.tmp 4], b102⟩
/-! loop.example/g01273/impl.unit -/
def b132 : C := .seq (.reg [
    ⟨(some 4), .move (.c (.nils)), none⟩] none)
  (.seq (.reg [
    ⟨(some 6), .move (.t 0), none⟩,
    ⟨(some 7), .makeSlice 1 8 [.int .i64 0] (.t 6) (.t 6), none⟩,
    ⟨(some 5), .move (.t 7), none⟩] none)
  (.seq (.reg [
    ⟨(some 8), .move (.t 5), none⟩,
    ⟨(some 9), .move (.t 1), none⟩,
    ⟨(some 10), .indexAddr none 1 (.t 8) (.t 9), none⟩,
    ⟨none, .store 1 (.t 10) (.c (.int .i64 1)), none⟩] none)
  (.seq (.reg [
    ⟨(some 11), .move (.t 5), none⟩,
    ⟨(some 4), .move (.t 11), none⟩] none)
  (.ret))))
def p132 : Fn := ⟨2, 12, [.tmp 4], b132⟩
/-! loop.example/g01273/impl.units -/
def b124_1 : C := .seq (.reg [
    ⟨(some 8), .bin 0 .lss (.t 7) (.t 6), none⟩] none)
  (.seq (.cond (.t 8)
  (.skip)
  (.exit 0))
  (.seq (.block 1 (.seq (.reg [
    ⟨(some 9), .move (.t 7), none⟩,
    ⟨(some 4), .move (.t 9), none⟩] none)
  (.reg [
    ⟨(some 10), .move (.t 3), none⟩,
    ⟨(some 11), .move (.t 0), none⟩,
    ⟨(some 12), .move (.t 4), none⟩,
    ⟨(some 13), .callf (.pure []) 132 [(.t 11), (.t 12)], none⟩,
    ⟨(some 14), .buildSlice 1 1 [.nils] [(0, 1, (.t 13))], none⟩,
    ⟨(some 15), .append 1 24 (.t 10) (.t 14), none⟩,
    ⟨(some 3), .move (.t 15), none⟩] none)))
  (.reg [
    ⟨(some 16), .bin 0 .add (.t 7) (.c (.int .i64 1)), none⟩,
    ⟨(some 7), .move (.t 16), none⟩] none)))
def c124_1 : C := .block 0 (.loop false b124_1)
def b124 : C := .seq (.reg [
    ⟨(some 2), .move (.c (.nils)), none⟩] none)
  (.seq (.reg [
    ⟨(some 5), .buildSlice 1 0 [] [], none⟩,
    ⟨(some 3), .move (.t 5), none⟩] none)
  (.seq (.seq (.reg [
    ⟨(some 6), .move (.t 0), none⟩,
    ⟨(some 7), .move (.c (.int .i64 0)), none⟩] none)
  (c124_1))
  (.seq (.reg [
    ⟨(some 17), .move (.t 3), none⟩,
    ⟨(some 2), .move (.t 17), none⟩] none)
  (.ret))))
def p124 : Fn := ⟨1, 18, [.tmp 2], b124⟩
/-! slices.Clone(()int64,int64) -/
def p96 : Fn := ⟨1, 8, [.tmp 2], .clone 1 8⟩
/-! loop.example/g01273/impl.reduce$1 -/
def b137 : C := .seq (.reg [
    ⟨(some 3), .move (.c (.bool false)), none⟩] none)
  (.seq (.reg [
    ⟨(some 4), .move (.t 0), none⟩,
    ⟨(some 5), .load false none (.t 1), none⟩,
    ⟨(some 6), .indexAddr none 1 (.t 4) (.t 5), none⟩,
    ⟨(some 7), .load false none (.t 6), none⟩,
    ⟨(some 8), .bin 0 .neq (.t 7) (.c (.int .i64 0)), none⟩,
    ⟨(some 3), .move (.t 8), none⟩] none)
  (.ret))
def p137 : Fn := ⟨2, 9, [.tmp 3], b137⟩
/-! loop.example/g01273/impl.inverse -/
def b138_1 : C := .seq (.seq (.reg [
    ⟨(some 6), .move (.t 5), none⟩,
    ⟨(some 7), .move (.t 1), none⟩,
    ⟨(some 8), .bin 0 .mul (.t 6) (.t 7), none⟩,
    ⟨(some 9), .move (.t 0), none⟩,
    ⟨(some 10), .bin 0 .rem (.t 8) (.t 9), none⟩,
    ⟨(some 11), .bin 0 .neq (.t 10) (.c (.int .i64 1)), none⟩] none)
  (.cond (.t 11)
  (.skip)
  (.exit 0)))
  (.block 1 (.reg [
    ⟨(some 12), .move (.t 5), none⟩,
    ⟨(some 13), .bin 0 .add (.t 12) (.c (.int .i64 1)), none⟩,
    ⟨(some 5), .move (.t 13), none⟩] none))
def c138_1 : C := .block 0 (.loop false b138_1)
def b138 : C := .seq (.reg [
    ⟨(some 4), .move (.c (.int .i64 0)), none⟩] none)
  (.seq (.reg [
    ⟨(some 5), .move (.c (.int .i64 1)), none⟩] none)
  (.seq (c138_1)
  (.seq (.reg [
    ⟨(some 14), .move (.t 5), none⟩,
    ⟨(some 4), .move (.t 14), none⟩] none)
  (.ret))))
def p138 : Fn := ⟨2, 15, [.tmp 4], b138⟩
/-! loop.example/g01273/impl.clear -/
def b139_1 : C := .seq (.reg [
    ⟨(some 13), .bin 0 .lss (.t 12) (.t 11), none⟩] none)
  (.seq (.cond (.t 13)
  (.skip)
  (.exit 0))
  (.seq (.block 1 (.seq (.reg [
    ⟨(some 14), .move (.t 12), none⟩,
    ⟨(some 15), .indexAddr none 1 (.t 10) (.t 12), none⟩,
    ⟨(some 16), .load false none (.t 15), none⟩,
    ⟨(some 8), .move (.t 14), none⟩,
    ⟨(some 9), .move (.t 16), none⟩] none)
  (.reg [
    ⟨(some 17), .move (.t 0), none⟩,
    ⟨(some 18), .move (.t 8), none⟩,
    ⟨(some 19), .move (.t 0), none⟩,
    ⟨(some 20), .move (.t 8), none⟩,
    ⟨(some 21), .indexAddr none 1 (.t 19) (.t 20), none⟩,
    ⟨(some 22), .load false none (.t 21), none⟩,
    ⟨(some 23), .move (.t 2), none⟩,
    ⟨(some 24), .move (.t 3), none⟩,
    ⟨(some 25), .bin 0 .sub (.t 23) (.t 24), none⟩,
    ⟨(some 26), .move (.t 9), none⟩,
    ⟨(some 27), .bin 0 .mul (.t 25) (.t 26), none⟩,
    ⟨(some 28), .bin 0 .add (.t 22) (.t 27), none⟩,
    ⟨(some 29), .move (.t 2), none⟩,
    ⟨(some 30), .bin 0 .rem (.t 28) (.t 29), none⟩,
    ⟨(some 31), .indexAddr none 1 (.t 17) (.t 18), none⟩,
    ⟨none, .store 1 (.t 31) (.t 30), none⟩] none)))
  (.reg [
    ⟨(some 32), .bin 0 .add (.t 12) (.c (.int .i64 1)), none⟩,
    ⟨(some 12), .move (.t 32), none⟩] none)))
def c139_1 : C := .block 0 (.loop true b139_1)
def b139 : C := .seq (.reg [
    ⟨(some 10), .move (.t 1), none⟩,
    ⟨(some 11), .len (.t 10), none⟩,
    ⟨(some 12), .move (.c (.int .i64 0)), none⟩] none)
  (c139_1)
def p139 : Fn := ⟨4, 33, [], b139⟩
/-! loop.example/g01273/impl.reduce -/
def b133_1 : C := .seq (.reg [
    ⟨(some 18), .bin 0 .lss (.t 17) (.t 16), none⟩] none)
  (.seq (.cond (.t 18)
  (.skip)
  (.exit 0))
  (.seq (.block 1 (.seq (.reg [
    ⟨(some 19), .indexAddr none 1 (.t 15) (.t 17), none⟩,
    ⟨(some 20), .load false none (.t 19), none⟩,
    ⟨(some 7), .move (.t 20), none⟩] none)
  (.reg [
    ⟨(some 21), .move (.t 5), none⟩,
    ⟨(some 22), .move (.t 7), none⟩,
    ⟨(some 23), .callf (.pure [1]) 96 [(.t 22)], none⟩,
    ⟨(some 24), .buildSlice 1 1 [.nils] [(0, 1, (.t 23))], none⟩,
    ⟨(some 25), .append 1 24 (.t 21) (.t 24), none⟩,
    ⟨(some 5), .move (.t 25), none⟩] none)))
  (.reg [
    ⟨(some 26), .bin 0 .add (.t 17) (.c (.int .i64 1)), none⟩,
    ⟨(some 17), .move (.t 26), none⟩] none)))
def c133_1 : C := .block 0 (.loop true b133_1)
def b133_3 : C := .seq (.reg [
    ⟨(some 78), .bin 0 .lss (.t 77) (.t 76), none⟩] none)
  (.seq (.cond (.t 78)
  (.skip)
  (.exit 4))
  (.seq (.block 5 (.seq (.reg [
    ⟨(some 79), .move (.t 77), none⟩,
    ⟨(some 12), .move (.t 79), none⟩] none)
  (.reg [
    ⟨(some 80), .move (.t 5), none⟩,
    ⟨(some 81), .move (.t 8), none⟩,
    ⟨(some 82), .indexAddr none 1 (.t 80) (.t 81), none⟩,
    ⟨(some 83), .load false none (.t 82), none⟩,
    ⟨(some 84), .move (.t 12), none⟩,
    ⟨(some 85), .move (.t 5), none⟩,
    ⟨(some 86), .move (.t 8), none⟩,
    ⟨(some 87), .indexAddr none 1 (.t 85) (.t 86), none⟩,
    ⟨(some 88), .load false none (.t 87), none⟩,
    ⟨(some 89), .move (.t 12), none⟩,
    ⟨(some 90), .indexAddr none 1 (.t 88) (.t 89), none⟩,
    ⟨(some 91), .load false none (.t 90), none⟩,
    ⟨(some 92), .move (.t 11), none⟩,
    ⟨(some 93), .bin 0 .mul (.t 91) (.t 92), none⟩,
    ⟨(some 94), .move (.t 0), none⟩,
    ⟨(some 95), .bin 0 .rem (.t 93) (.t 94), none⟩,
    ⟨(some 96), .indexAddr none 1 (.t 83) (.t 84), none⟩,
    ⟨none, .store 1 (.t 96) (.t 95), none⟩] (some [[], [], [0, 1], [2], [], [], [], [5, 6], [7], [], [8, 9], [10], [], [11, 12], [], [13, 14], [3, 4, 0, 1, 2, 3, 4, 5, 6, 7, 8, 9, 10, 11, 12, 13, 14, 15], [16, 15, 0, 1, 2, 3, 4, 5, 6, 7, 8, 9, 10, 11, 12, 13, 14, 15]]))))
  (.reg [
    ⟨(some 97), .bin 0 .add (.t 77) (.c (.int .i64 1)), none⟩,
    ⟨(some 77), .move (.t 97), none⟩] none)))
def c133_3 : C := .block 4 (.loop true b133_3)
def b133_4 : C := .seq (.reg [
    ⟨(some 101), .bin 0 .lss (.t 100) (.t 99), none⟩] none)
  (.seq (.cond (.t 101)
  (.skip)
  (.exit 6))
  (.seq (.block 7 (.seq (.reg [
    ⟨(some 102), .move (.t 100), none⟩,
    ⟨(some 13), .move (.t 102), none⟩] none)
  (.seq (.reg [
    ⟨(some 103), .move (.t 13), none⟩,
    ⟨(some 104), .move (.t 8), none⟩,
    ⟨(some 105), .bin 0 .neq (.t 103) (.t 104), none⟩] none)
  (.cond (.t 105)
  (.reg [
    ⟨(some 106), .move (.t 5), none⟩,
    ⟨(some 107), .move (.t 13), none⟩,
    ⟨(some 108), .indexAddr none 1 (.t 106) (.t 107), none⟩,
    ⟨(some 109), .load false none (.t 108), none⟩,
    ⟨(some 110), .move (.t 5), none⟩,
    ⟨(some 111), .move (.t 8), none⟩,
    ⟨(some 112), .indexAddr none 1 (.t 110) (.t 111), none⟩,
    ⟨(some 113), .load false none (.t 112), none⟩,
    ⟨(some 114), .move (.t 0), none⟩,
    ⟨(some 115), .move (.t 5), none⟩,
    ⟨(some 116), .move (.t 13), none⟩,
    ⟨(some 117), .indexAddr none 1 (.t 115) (.t 116), none⟩,
    ⟨(some 118), .load false none (.t 117), none⟩,
    ⟨(some 119), .load false none (.t 9), none⟩,
    ⟨(some 120), .indexAddr none 1 (.t 118) (.t 119), none⟩,
    ⟨(some 121), .load false none (.t 120), none⟩,
    ⟨(some 122), .callf .plain 139 [(.t 109), (.t 113), (.t 114), (.t 121)], none⟩] (some [[], [], [0, 1], [2], [], [], [4, 5], [6], [], [], [], [9, 10], [11], [], [12, 13], [14], [3, 7, 8, 15]]))
  (.skip)))))
  (.reg [
    ⟨(some 123), .bin 0 .add (.t 100) (.c (.int .i64 1)), none⟩,
    ⟨(some 100), .move (.t 123), none⟩] none)))
def c133_4 : C := .block 6 (.loop true b133_4)
def b133_2 : C := .seq (.reg [
    ⟨(some 36), .bin 0 .lss (.t 35) (.t 34), none⟩] none)
  (.seq (.cond (.t 36)
  (.skip)
  (.exit 2))
  (.seq (.block 3 (.seq (.reg [
    ⟨(some 37), .move (.t 35), none⟩,
    ⟨(some 9), .alloc [.int .i64 0], none⟩,
    ⟨none, .store 1 (.t 9) (.t 37), none⟩] none)
  (.seq (.reg [
    ⟨(some 38), .move (.t 5), none⟩,
    ⟨(some 39), .move (.t 8), none⟩,
    ⟨(some 40), .slice 1 (.t 38) (some (.t 39)) none, none⟩,
    ⟨(some 41), .mkfn 137 [] [(.t 9)], none⟩,
    ⟨(some 42), .callf (.pure []) 128 [(.t 40), (.t 41)], none⟩,
    ⟨(some 10), .move (.t 42), none⟩] none)
  (.seq (.seq (.reg [
    ⟨(some 43), .move (.t 10), none⟩,
    ⟨(some 44), .bin 0 .lss (.t 43) (.c (.int .i64 0)), none⟩] none)
  (.cond (.t 44)
  (.exit 3)
  (.skip)))
  (.seq (.reg [
    ⟨(some 45), .move (.t 5), none⟩,
    ⟨(some 46), .move (.t 8), none⟩,
    ⟨(some 47), .move (.t 5), none⟩,
    ⟨(some 48), .move (.t 8), none⟩,
    ⟨(some 49), .move (.t 10), none⟩,
    ⟨(some 50), .bin 0 .add (.t 48) (.t 49), none⟩,
    ⟨(some 51), .move (.t 5), none⟩,
    ⟨(some 52), .move (.t 8), none⟩,
    ⟨(some 53), .move (.t 10), none⟩,
    ⟨(some 54), .bin 0 .add (.t 52) (.t 53), none⟩,
    ⟨(some 55), .indexAddr none 1 (.t 51) (.t 54), none⟩,
    ⟨(some 56), .load false none (.t 55), none⟩,
    ⟨(some 57), .move (.t 5), none⟩,
    ⟨(some 58), .move (.t 8), none⟩,
    ⟨(some 59), .indexAddr none 1 (.t 57) (.t 58), none⟩,
    ⟨(some 60), .load false none (.t 59), none⟩,
    ⟨(some 61), .indexAddr none 1 (.t 45) (.t 46), none⟩,
    ⟨none, .store 1 (.t 61) (.t 56), none⟩,
    ⟨(some 62), .indexAddr none 1 (.t 47) (.t 50), none⟩,
    ⟨none, .store 1 (.t 62) (.t 60), none⟩] (some [[], [], [], [], [], [3, 4], [], [], [], [7, 8], [6, 9], [10], [], [], [12, 13], [14], [0, 1, 0, 1, 6, 7, 8, 9, 10, 11, 15], [16, 11, 0, 1, 6, 7, 8, 9, 10, 11, 15], [2, 5, 0, 1, 2, 3, 4, 5, 6, 7, 8, 9, 10, 11, 12, 13, 14, 15, 16, 17], [18, 15, 17, 0, 1, 2, 3, 4, 5, 6, 7, 8, 9, 10, 11, 12, 13, 14, 15, 16, 17]]))
  (.seq (.reg [
    ⟨(some 63), .move (.t 0), none⟩,
    ⟨(some 64), .move (.t 5), none⟩,
    ⟨(some 65), .move (.t 8), none⟩,
    ⟨(some 66), .indexAddr none 1 (.t 64) (.t 65), none⟩,
    ⟨(some 67), .load false none (.t 66), none⟩,
    ⟨(some 68), .load false none (.t 9), none⟩,
    ⟨(some 69), .indexAddr none 1 (.t 67) (.t 68), none⟩,
    ⟨(some 70), .load false none (.t 69), none⟩,
    ⟨(some 71), .callf (.pure []) 138 [(.t 63), (.t 70)], none⟩,
    ⟨(some 11), .move (.t 71), none⟩] (some [[], [], [], [1, 2], [3], [], [4, 5], [6], [0, 7], [8, 8, 0, 1, 2, 3, 4, 5, 6, 7, 8]]))
  (.seq (.seq (.reg [
    ⟨(some 72), .move (.t 5), none⟩,
    ⟨(some 73), .move (.t 8), none⟩,
    ⟨(some 74), .indexAddr none 1 (.t 72) (.t 73), none⟩,
    ⟨(some 75), .load false none (.t 74), none⟩,
    ⟨(some 76), .len (.t 75), none⟩,
    ⟨(some 77), .move (.c (.int .i64 0)), none⟩] none)
  (c133_3))
  (.seq (.seq (.reg [
    ⟨(some 98), .move (.t 5), none⟩,
    ⟨(some 99), .len (.t 98), none⟩,
    ⟨(some 100), .move (.c (.int .i64 0)), none⟩] none)
  (c133_4))
  (.seq (.reg [
    ⟨(some 124), .move (.t 8), none⟩,
    ⟨(some 125), .bin 0 .add (.t 124) (.c (.int .i64 1)), none⟩,
    ⟨(some 8), .move (.t 125), none⟩] none)
  (.seq (.reg [
    ⟨(some 126), .move (.t 8), none⟩,
    ⟨(some 127), .move (.t 5), none⟩,
    ⟨(some 128), .len (.t 127), none⟩,
    ⟨(some 129), .bin 0 .eql (.t 126) (.t 128), none⟩] none)
  (.cond (.t 129)
  (.exit 2)
  (.skip))))))))))))
  (.reg [
    ⟨(some 130), .bin 0 .add (.t 35) (.c (.int .i64 1)), none⟩,
    ⟨(some 35), .move (.t 130), none⟩] none)))
def c133_2 : C := .block 2 (.loop true b133_2)
def b133 : C := .seq (.reg [
    ⟨(some 4), .move (.c (.nils)), none⟩] none)
  (.seq (.reg [
    ⟨(some 14), .buildSlice 1 0 [] [], none⟩,
    ⟨(some 5), .move (.t 14), none⟩] none)
  (.seq (.seq (.reg [
    ⟨(some 15), .move (.t 1), none⟩,
    ⟨(some 16), .len (.t 15), none⟩,
    ⟨(some 17), .move (.c (.int .i64 0)), none⟩] none)
  (c133_1))
  (.seq (.seq (.reg [
    ⟨(some 27), .move (.t 5), none⟩,
    ⟨(some 28), .len (.t 27), none⟩,
    ⟨(some 29), .bin 0 .eql (.t 28) (.c (.int .i64 0)), none⟩] none)
  (.cond (.t 29)
  (.seq (.reg [
    ⟨(some 30), .move (.t 5), none⟩,
    ⟨(some 4), .move (.t 30), none⟩] none)
  (.ret))
  (.skip)))
  (.seq (.reg [
    ⟨(some 8), .move (.c (.int .i64 0)), none⟩] none)
  (.seq (.seq (.reg [
    ⟨(some 31), .move (.t 5), none⟩,
    ⟨(some 32), .indexAddr none 1 (.t 31) (.c (.int .i64 0)), none⟩,
    ⟨(some 33), .load false none (.t 32), none⟩,
    ⟨(some 34), .len (.t 33), none⟩,
    ⟨(some 35), .move (.c (.int .i64 0)), none⟩] none)
  (c133_2))
  (.seq (.reg [
    ⟨(some 131), .move (.t 5), none⟩,
    ⟨(some 132), .move (.t 8), none⟩,
    ⟨(some 133), .slice 1 (.t 131) none (some (.t 132)), none⟩,
    ⟨(some 4), .move (.t 133), none⟩] none)
  (.ret)))))))
def p133 : Fn := ⟨2, 134, [.tmp 4], b133⟩
/-! loop.example/g01273/impl.kernel -/
def b125_1 : C := .seq (.reg [
    ⟨(some 26), .bin 0 .lss (.t 25) (.t 24), none⟩] none)
  (.seq (.cond (.t 26)
  (.skip)
  (.exit 0))
  (.seq (.block 1 (.seq (.reg [
    ⟨(some 27), .move (.t 25), none⟩,
    ⟨(some 28), .indexAddr none 1 (.t 23) (.t 25), none⟩,
    ⟨(some 29), .load false none (.t 28), none⟩,
    ⟨(some 8), .move (.t 27), none⟩,
    ⟨(some 9), .move (.t 29), none⟩] none)
  (.seq (.reg [
    ⟨(some 30), .move (.t 9), none⟩,
    ⟨(some 31), .callf (.pure [1]) 96 [(.t 30)], none⟩,
    ⟨(some 32), .move (.t 5), none⟩,
    ⟨(some 33), .appendZ 1 8 [.int .i64 0] (.t 31) (.t 32), none⟩,
    ⟨(some 10), .move (.t 33), none⟩] none)
  (.seq (.reg [
    ⟨(some 34), .move (.t 10), none⟩,
    ⟨(some 35), .move (.t 6), none⟩,
    ⟨(some 36), .move (.t 8), none⟩,
    ⟨(some 37), .bin 0 .add (.t 35) (.t 36), none⟩,
    ⟨(some 38), .indexAddr none 1 (.t 34) (.t 37), none⟩,
    ⟨none, .store 1 (.t 38) (.c (.int .i64 1)), none⟩] none)
  (.reg [
    ⟨(some 39), .move (.t 7), none⟩,
    ⟨(some 40), .frz (.t 10), none⟩,
    ⟨(some 41), .buildSlice 1 1 [.nils] [(0, 1, (.t 40))], none⟩,
    ⟨(some 42), .append 1 24 (.t 39) (.t 41), none⟩,
    ⟨(some 7), .move (.t 42), none⟩] none)))))
  (.reg [
    ⟨(some 43), .bin 0 .add (.t 25) (.c (.int .i64 1)), none⟩,
    ⟨(some 25), .move (.t 43), none⟩] none)))
def c125_1 : C := .block 0 (.loop false b125_1)
def b125_2 : C := .seq (.reg [
    ⟨(some 50), .bin 0 .lss (.t 49) (.t 48), none⟩] none)
  (.seq (.cond (.t 50)
  (.skip)
  (.exit 2))
  (.seq (.block 3 (.seq (.reg [
    ⟨(some 51), .indexAddr none 1 (.t 47) (.t 49), none⟩,
    ⟨(some 52), .load false none (.t 51), none⟩,
    ⟨(some 13), .move (.t 52), none⟩] none)
  (.seq (.reg [
    ⟨(some 53), .move (.t 13), none⟩,
    ⟨(some 54), .move (.t 6), none⟩,
    ⟨(some 55), .slice 1 (.t 53) none (some (.t 54)), none⟩,
    ⟨(some 56), .callf (.pure []) 92 [(.t 55)], none⟩] none)
  (.cond (.t 56)
  (.reg [
    ⟨(some 57), .move (.t 11), none⟩,
    ⟨(some 58), .move (.t 13), none⟩,
    ⟨(some 59), .move (.t 6), none⟩,
    ⟨(some 60), .slice 1 (.t 58) (some (.t 59)) none, none⟩,
    ⟨(some 61), .buildSlice 1 1 [.nils] [(0, 1, (.t 60))], none⟩,
    ⟨(some 62), .append 1 24 (.t 57) (.t 61), none⟩,
    ⟨(some 11), .move (.t 62), none⟩] none)
  (.skip)))))
  (.reg [
    ⟨(some 63), .bin 0 .add (.t 49) (.c (.int .i64 1)), none⟩,
    ⟨(some 49), .move (.t 63), none⟩] none)))
def c125_2 : C := .block 2 (.loop false b125_2)
def b125 : C := .seq (.reg [
    ⟨(some 4), .move (.c (.nils)), none⟩] none)
  (.seq (.reg [
    ⟨(some 14), .move (.t 1), none⟩,
    ⟨(some 15), .len (.t 14), none⟩,
    ⟨(some 5), .move (.t 15), none⟩] none)
  (.seq (.seq (.reg [
    ⟨(some 16), .move (.t 5), none⟩,
    ⟨(some 17), .bin 0 .eql (.t 16) (.c (.int .i64 0)), none⟩] none)
  (.cond (.t 17)
  (.seq (.reg [
    ⟨(some 4), .move (.c (.nils)), none⟩] none)
  (.ret))
  (.skip)))
  (.seq (.reg [
    ⟨(some 18), .move (.t 1), none⟩,
    ⟨(some 19), .indexAddr none 1 (.t 18) (.c (.int .i64 0)), none⟩,
    ⟨(some 20), .load false none (.t 19), none⟩,
    ⟨(some 21), .len (.t 20), none⟩,
    ⟨(some 22), .buildSlice 1 0 [] [], none⟩,
    ⟨(some 6), .move (.t 21), none⟩,
    ⟨(some 7), .move (.t 22), none⟩] none)
  (.seq (.seq (.reg [
    ⟨(some 23), .move (.t 1), none⟩,
    ⟨(some 24), .len (.t 23), none⟩,
    ⟨(some 25), .move (.c (.int .i64 0)), none⟩] none)
  (c125_1))
  (.seq (.reg [
    ⟨(some 44), .buildSlice 1 0 [] [], none⟩,
    ⟨(some 11), .move (.t 44), none⟩] none)
  (.seq (.seq (.reg [
    ⟨(some 45), .move (.t 0), none⟩,
    ⟨(some 46), .frz (.t 7), none⟩,
    ⟨(some 47), .callf (.pure []) 133 [(.t 45), (.t 46)], none⟩,
    ⟨(some 48), .len (.t 47), none⟩,
    ⟨(some 49), .move (.c (.int .i64 0)), none⟩] none)
  (c125_2))
  (.seq (.reg [
    ⟨(some 64), .move (.t 0), none⟩,
    ⟨(some 65), .frz (.t 11), none⟩,
    ⟨(some 66), .callf (.pure []) 133 [(.t 64), (.t 65)], none⟩,
    ⟨(some 4), .move (.t 66), none⟩] none)
  (.ret))))))))
def p125 : Fn := ⟨2, 67, [.tmp 4], b125⟩
/-! (loop.example/g01273/impl.Complex).cycles -/
def b100 : C := .seq (.reg [
    ⟨(some 2), .fz (.box (.t 0)), none⟩,
    ⟨(some 4), .move (.c (.nils)), none⟩] none)
  (.seq (.seq (.reg [
    ⟨(some 5), .move (.t 1), none⟩,
    ⟨(some 6), .bin 0 .leq (.t 5) (.c (.int .i64 0)), none⟩,
    ⟨(some 7), .move (.t 6), none⟩,
    ⟨(some 8), .move (.t 1), (some (7, false))⟩,
    ⟨(some 9), .load false (some 3) (.t 2), (some (7, false))⟩,
    ⟨(some 10), .callf (.pure []) 86 [(.t 9)], (some (7, false))⟩,
    ⟨(some 11), .bin 0 .gtr (.t 8) (.t 10), (some (7, false))⟩,
    ⟨(some 12), .pick (.t 7) (.c (.bool true)) (.t 11), none⟩] none)
  (.cond (.t 12)
  (.seq (.reg [
    ⟨(some 13), .load false (some 3) (.t 2), none⟩,
    ⟨(some 14), .move (.t 1), none⟩,
    ⟨(some 15), .callf (.pure []) 102 [(.t 13), (.t 14)], none⟩,
    ⟨(some 16), .callf (.pure []) 124 [(.t 15)], none⟩,
    ⟨(some 4), .move (.t 16), none⟩] none)
  (.ret))
  (.skip)))
  (.seq (.reg [
    ⟨(some 17), .fieldAddr 0 (.t 2), none⟩,
    ⟨(some 18), .load false none (.t 17), none⟩,
    ⟨(some 19), .fieldAddr 2 (.t 2), none⟩,
    ⟨(some 20), .load false none (.t 19), none⟩,
    ⟨(some 21), .move (.t 1), none⟩,
    ⟨(some 22), .bin 0 .sub (.t 21) (.c (.int .i64 1)), none⟩,
    ⟨(some 23), .indexAddr none 1 (.t 20) (.t 22), none⟩,
    ⟨(some 24), .load false none (.t 23), none⟩,
    ⟨(some 25), .callf (.pure []) 125 [(.t 18), (.t 24)], none⟩,
    ⟨(some 4), .move (.t 25), none⟩] (some [[], [0], [], [2], [], [4], [3, 5], [6], [1, 7], [8, 8, 0, 1, 2, 3, 4, 5, 6, 7, 8]]))
  (.ret)))
def p100 : Fn := ⟨2, 26, [.tmp 4], b100⟩
/-! loop.example/g01273/impl.leads$1 -/
def b123 : C := .seq (.reg [
    ⟨(some 2), .move (.c (.bool false)), none⟩] none)
  (.seq (.reg [
    ⟨(some 3), .move (.t 0), none⟩,
    ⟨(some 4), .bin 0 .neq (.t 3) (.c (.int .i64 0)), none⟩,
    ⟨(some 2), .move (.t 4), none⟩] none)
  (.ret))
def p123 : Fn := ⟨1, 5, [.tmp 2], b123⟩
/-! loop.example/g01273/impl.leads -/
def b101_1 : C := .seq (.reg [
    ⟨(some 10), .bin 0 .lss (.t 9) (.t 8), none⟩] none)
  (.seq (.cond (.t 10)
  (.skip)
  (.exit 0))
  (.seq (.block 1 (.seq (.reg [
    ⟨(some 11), .indexAddr none 1 (.t 7) (.t 9), none⟩,
    ⟨(some 12), .load false none (.t 11), none⟩,
    ⟨(some 5), .move (.t 12), none⟩] none)
  (.reg [
    ⟨(some 13), .move (.t 3), none⟩,
    ⟨(some 14), .move (.t 5), none⟩,
    ⟨(some 15), .callf (.pure []) 115 [(.t 14), (.c (.fn 123 [] []))], none⟩,
    ⟨(some 16), .buildSlice 1 1 [.int .i64 0] [(0, 1, (.t 15))], none⟩,
    ⟨(some 17), .append 1 8 (.t 13) (.t 16), none⟩,
    ⟨(some 3), .move (.t 17), none⟩] none)))
  (.reg [
    ⟨(some 18), .bin 0 .add (.t 9) (.c (.int .i64 1)), none⟩,
    ⟨(some 9), .move (.t 18), none⟩] none)))
def c101_1 : C := .block 0 (.loop false b101_1)
def b101 : C := .seq (.reg [
    ⟨(some 2), .move (.c (.nils)), none⟩] none)
  (.seq (.reg [
    ⟨(some 6), .buildSlice 1 0 [] [], none⟩,
    ⟨(some 3), .move (.t 6), none⟩] none)
  (.seq (.seq (.reg [
    ⟨(some 7), .move (.t 0), none⟩,
    ⟨(some 8), .len (.t 7), none⟩,
    ⟨(some 9), .move (.c (.int .i64 0)), none⟩] none)
  (c101_1))
  (.seq (.reg [
    ⟨(some 19), .move (.t 3), none⟩,
    ⟨(some 2), .move (.t 19), none⟩] none)
  (.ret))))
def p101 : Fn := ⟨1, 20, [.tmp 2], b101⟩
/-! slices.Index(()int,int) -/
def b126_1 : C := .seq (.reg [
    ⟨(some 9), .bin 0 .lss (.t 8) (.t 7), none⟩] none)
  (.seq (.cond (.t 9)
  (.skip)
  (.exit 0))
  (.seq (.block 1 (.seq (.reg [
    ⟨(some 10), .move (.t 8), none⟩,
    ⟨(some 5), .move (.t 10), none⟩] none)
  (.seq (.reg [
    ⟨(some 11), .move (.t 1), none⟩,
    ⟨(some 12), .move (.t 0), none⟩,
    ⟨(some 13), .move (.t 5), none⟩,
    ⟨(some 14), .indexAddr none 1 (.t 12) (.t 13), none⟩,
    ⟨(some 15), .load false none (.t 14), none⟩,
    ⟨(some 16), .bin 0 .eql (.t 11) (.t 15), none⟩] none)
  (.cond (.t 16)
  (.seq (.reg [
    ⟨(some 17), .move (.t 5), none⟩,
    ⟨(some 4), .move (.t 17), none⟩] none)
  (.ret))
  (.skip)))))
  (.reg [
    ⟨(some 18), .bin 0 .add (.t 8) (.c (.int .i64 1)), none⟩,
    ⟨(some 8), .move (.t 18), none⟩] none)))
def c126_1 : C := .block 0 (.loop false b126_1)
def b126 : C := .seq (.reg [
    ⟨(some 4), .move (.c (.int .i64 0)), none⟩] none)
  (.seq (.seq (.reg [
    ⟨(some 6), .move (.t 0), none⟩,
    ⟨(some 7), .len (.t 6), none⟩,
    ⟨(some 8), .move (.c (.int .i64 0)), none⟩] none)
  (c126_1))
  (.seq (.reg [
    ⟨(some 4), .move (.c (.int .i64 (-1))), none⟩] none)
  (.ret)))
def p126 : Fn := ⟨2, 19, [.tmp 4], b126⟩
/-! slices.Contains(()int,int) -/
def b103 : C := .seq (.reg [
    ⟨(some 4), .move (.c (.bool false)), none⟩] none)
  (.seq (.reg [
    ⟨(some 5), .move (.t 0), none⟩,
    ⟨(some 6), .move (.t 1), none⟩,
    ⟨(some 7), .callf (.pure []) 126 [(.t 5), (.t 6)], none⟩,
    ⟨(some 8), .bin 0 .geq (.t 7) (.c (.int .i64 0)), none⟩,
    ⟨(some 4), .move (.t 8), none⟩] none)
  (.ret))
def p103 : Fn := ⟨2, 9, [.tmp 4], b103⟩
/-! (loop.example/g01273/impl.Complex).free -/
def b63_1 : C := .seq (.reg [
    ⟨(some 17), .bin 0 .lss (.t 16) (.t 15), none⟩] none)
  (.seq (.cond (.t 17)
  (.skip)
  (.exit 0))
  (.seq (.block 1 (.seq (.reg [
    ⟨(some 18), .move (.t 16), none⟩,
    ⟨(some 7), .move (.t 18), none⟩] none)
  (.seq (.reg [
    ⟨(some 19), .move (.t 6), none⟩,
    ⟨(some 20), .move (.t 7), none⟩,
    ⟨(some 21), .callf (.pure []) 103 [(.t 19), (.t 20)], none⟩,
    ⟨(some 22), .un .not (.t 21), none⟩] none)
  (.cond (.t 22)
  (.reg [
    ⟨(some 23), .move (.t 5), none⟩,
    ⟨(some 24), .move (.t 7), none⟩,
    ⟨(some 25), .buildSlice 1 1 [.int .i64 0] [(0, 1, (.t 24))], none⟩,
    ⟨(some 26), .append 1 8 (.t 23) (.t 25), none⟩,
    ⟨(some 5), .move (.t 26), none⟩] none)
  (.skip)))))
  (.reg [
    ⟨(some 27), .bin 0 .add (.t 16) (.c (.int .i64 1)), none⟩,
    ⟨(some 16), .move (.t 27), none⟩] none)))
def c63_1 : C := .block 0 (.loop false b63_1)
def b63 : C := .seq (.reg [
    ⟨(some 2), .fz (.box (.t 0)), none⟩,
    ⟨(some 4), .move (.c (.nils)), none⟩] none)
  (.seq (.reg [
    ⟨(some 8), .buildSlice 1 0 [] [], none⟩,
    ⟨(some 9), .load false (some 3) (.t 2), none⟩,
    ⟨(some 10), .move (.t 1), none⟩,
    ⟨(some 11), .callf (.pure []) 100 [(.t 9), (.t 10)], none⟩,
    ⟨(some 12), .callf (.pure []) 101 [(.t 11)], none⟩,
    ⟨(some 5), .move (.t 8), none⟩,
    ⟨(some 6), .move (.t 12), none⟩] none)
  (.seq (.seq (.reg [
    ⟨(some 13), .load false (some 3) (.t 2), none⟩,
    ⟨(some 14), .move (.t 1), none⟩,
    ⟨(some 15), .callf (.pure []) 102 [(.t 13), (.t 14)], none⟩,
    ⟨(some 16), .move (.c (.int .i64 0)), none⟩] none)
  (c63_1))
  (.seq (.reg [
    ⟨(some 28), .move (.t 5), none⟩,
    ⟨(some 4), .move (.t 28), none⟩] none)
  (.ret))))
def p63 : Fn := ⟨2, 29, [.tmp 4], b63⟩
/-! loop.example/g01273/impl.FreePlaces -/
def b29 : C := .seq (.reg [
    ⟨(some 2), .fz (.box (.t 0)), none⟩,
    ⟨(some 4), .move (.c (.nils)), none⟩,
    ⟨(some 5), .move (.c (.int .i64 0)), none⟩] none)
  (.seq (.seq (.reg [
    ⟨(some 7), .load false (some 3) (.t 2), none⟩,
    ⟨(some 8), .move (.t 1), none⟩,
    ⟨(some 9), .callf (.pure []) 62 [(.t 7), (.t 8)], none⟩,
    ⟨(some 6), .move (.t 9), none⟩] none)
  (.seq (.reg [
    ⟨(some 10), .move (.t 6), none⟩,
    ⟨(some 11), .bin 0 .neq (.t 10) (.c (.int .i64 0)), none⟩] none)
  (.cond (.t 11)
  (.seq (.reg [
    ⟨(some 12), .move (.t 6), none⟩,
    ⟨(some 4), .move (.c (.nils)), none⟩,
    ⟨(some 5), .move (.t 12), none⟩] none)
  (.ret))
  (.skip))))
  (.seq (.reg [
    ⟨(some 13), .load false (some 3) (.t 2), none⟩,
    ⟨(some 14), .move (.t 1), none⟩,
    ⟨(some 15), .callf (.pure [1]) 63 [(.t 13), (.t 14)], none⟩,
    ⟨(some 4), .move (.t 15), none⟩,
    ⟨(some 5), .move (.c (.int .i64 0)), none⟩] none)
  (.ret)))
def p29 : Fn := ⟨2, 16, [.tmp 4, .tmp 5], b29⟩
/-! loop.example/g01273/laws.heldInt64S -/
def b32_1 : C := .seq (.seq (.reg [
    ⟨(some 6), .move (.t 5), none⟩,
    ⟨(some 7), .move (.t 0), none⟩,
    ⟨(some 8), .len (.t 7), none⟩,
    ⟨(some 9), .bin 0 .lss (.t 6) (.t 8), none⟩] none)
  (.cond (.t 9)
  (.skip)
  (.exit 0)))
  (.seq (.block 1 (.seq (.seq (.reg [
    ⟨(some 12), .move (.t 0), none⟩,
    ⟨(some 13), .move (.t 5), none⟩,
    ⟨(some 14), .indexAddr none 1 (.t 12) (.t 13), none⟩,
    ⟨(some 15), .load false none (.t 14), none⟩,
    ⟨(some 16), .move (.t 1), none⟩,
    ⟨(some 17), .bin 0 .neq (.t 15) (.t 16), none⟩] none)
  (.cond (.t 17)
  (.seq (.reg [
    ⟨(some 4), .move (.c (.int .i64 (-1))), none⟩] none)
  (.ret))
  (.skip)))
  (.reg [
    ⟨(some 18), .move (.t 1), none⟩,
    ⟨(some 19), .bin 0 .add (.t 18) (.c (.int .i64 1)), none⟩,
    ⟨(some 1), .move (.t 19), none⟩] none)))
  (.reg [
    ⟨(some 10), .move (.t 5), none⟩,
    ⟨(some 11), .bin 0 .add (.t 10) (.c (.int .i64 1)), none⟩,
    ⟨(some 5), .move (.t 11), none⟩] none))
def c32_1 : C := .block 0 (.loop false b32_1)
def b32 : C := .seq (.reg [
    ⟨(some 4), .move (.c (.int .i64 0)), none⟩] none)
  (.seq (.seq (.reg [
    ⟨(some 5), .move (.c (.int .i64 0)), none⟩] none)
  (c32_1))
  (.seq (.reg [
    ⟨(some 20), .move (.t 1), none⟩,
    ⟨(some 4), .move (.t 20), none⟩] none)
  (.ret)))
def p32 : Fn := ⟨2, 21, [.tmp 4], b32⟩
/-! loop.example/g01273/laws.FnExactFreePlaces -/
def b114 : C := .seq (.reg [
    ⟨(some 2), .fz (.box (.t 0)), none⟩,
    ⟨(some 4), .move (.c (.bool false)), none⟩] none)
  (.seq (.reg [
    ⟨(some 5), .move (.c (.int .i64 1048576)), none⟩] none)
  (.seq (.reg [
    ⟨(some 16), .load false (some 3) (.t 2), none⟩,
    ⟨(some 17), .move (.t 5), none⟩,
    ⟨(some 18), .callf (.pure []) 10 [(.t 16), (.t 17)], none⟩,
    ⟨(some 5), .move (.t 18), none⟩] none)
  (.seq (.seq (.reg [
    ⟨(some 19), .move (.t 5), none⟩,
    ⟨(some 20), .bin 0 .lss (.t 19) (.c (.int .i64 0)), none⟩] none)
  (.cond (.t 20)
  (.seq (.reg [
    ⟨(some 4), .move (.c (.bool true)), none⟩] none)
  (.ret))
  (.skip)))
  (.seq (.reg [
    ⟨(some 22), .load false (some 3) (.t 2), none⟩,
    ⟨(some 23), .callf (.pure []) 12 [(.t 22)], none⟩,
    ⟨(some 24), .move (.t 1), none⟩,
    ⟨(some 25), .callf (.pure []) 28 [(.t 23), (.t 24)], none⟩,
    ⟨(some 21), .move (.t 25), none⟩,
    ⟨(some 26), .extract 0 (.t 21), none⟩,
    ⟨(some 27), .extract 1 (.t 21), none⟩,
    ⟨(some 6), .move (.t 26), none⟩,
    ⟨(some 7), .move (.t 27), none⟩] none)
  (.seq (.reg [
    ⟨(some 28), .load false (some 3) (.t 2), none⟩,
    ⟨(some 29), .callf (.pure [1, 1, 1]) 12 [(.t 28)], none⟩,
    ⟨(some 8), .alloc [.int .i64 0, .nils, .nils], none⟩,
    ⟨none, .store 3 (.t 8) (.t 29), none⟩] none)
  (.seq (.reg [
    ⟨(some 31), .load false (some 3) (.t 8), none⟩,
    ⟨(some 32), .move (.t 1), none⟩,
    ⟨(some 33), .callf (.pure [1]) 29 [(.t 31), (.t 32)], none⟩,
    ⟨(some 30), .move (.t 33), none⟩,
    ⟨(some 34), .extract 0 (.t 30), none⟩,
    ⟨(some 35), .extract 1 (.t 30), none⟩,
    ⟨(some 9), .move (.t 34), none⟩,
    ⟨(some 10), .move (.t 35), none⟩] none)
  (.seq (.seq (.reg [
    ⟨(some 36), .move (.t 9), none⟩,
    ⟨(some 37), .move (.t 6), none⟩,
    ⟨(some 38), .callf (.pure []) 30 [(.t 36), (.t 37)], none⟩,
    ⟨(some 39), .un .not (.t 38), none⟩,
    ⟨(some 40), .move (.t 39), none⟩,
    ⟨(some 41), .move (.t 10), (some (40, false))⟩,
    ⟨(some 42), .move (.t 7), (some (40, false))⟩,
    ⟨(some 43), .bin 0 .neq (.t 41) (.t 42), (some (40, false))⟩,
    ⟨(some 44), .pick (.t 40) (.c (.bool true)) (.t 43), none⟩] none)
  (.cond (.t 44)
  (.seq (.reg [
    ⟨(some 4), .move (.c (.bool false)), none⟩] none)
  (.ret))
  (.skip)))
  (.seq (.seq (.reg [
    ⟨(some 45), .load false (some 3) (.t 8), none⟩,
    ⟨(some 46), .load false (some 3) (.t 2), none⟩,
    ⟨(some 47), .callf (.pure []) 12 [(.t 46)], none⟩,
    ⟨(some 48), .callf (.pure []) 16 [(.t 45), (.t 47)], none⟩,
    ⟨(some 49), .un .not (.t 48), none⟩] (some [[], [], [1], [0, 2, 2], [3]]))
  (.cond (.t 49)
  (.seq (.reg [
    ⟨(some 4), .move (.c (.bool false)), none⟩] none)
  (.ret))
  (.skip)))
  (.seq (.reg [
    ⟨(some 11), .move (.c (.int .i64 1)), none⟩] none)
  (.seq (.reg [
    ⟨(some 50), .load false (some 3) (.t 8), none⟩,
    ⟨(some 51), .move (.t 11), none⟩,
    ⟨(some 52), .callf .plain 20 [(.t 50), (.t 51)], none⟩,
    ⟨(some 11), .move (.t 52), none⟩] none)
  (.seq (.seq (.reg [
    ⟨(some 53), .move (.t 11), none⟩,
    ⟨(some 54), .bin 0 .lss (.t 53) (.c (.int .i64 0)), none⟩,
    ⟨(some 55), .move (.t 54), none⟩,
    ⟨(some 56), .move (.t 9), (some (55, false))⟩,
    ⟨(some 57), .move (.t 6), (some (55, false))⟩,
    ⟨(some 58), .callf (.pure []) 30 [(.t 56), (.t 57)], (some (55, false))⟩,
    ⟨(some 59), .un .not (.t 58), (some (55, false))⟩,
    ⟨(some 60), .pick (.t 55) (.c (.bool true)) (.t 59), none⟩,
    ⟨(some 61), .move (.t 60), none⟩,
    ⟨(some 62), .move (.t 10), (some (61, false))⟩,
    ⟨(some 63), .move (.t 7), (some (61, false))⟩,
    ⟨(some 64), .bin 0 .neq (.t 62) (.t 63), (some (61, false))⟩,
    ⟨(some 65), .pick (.t 61) (.c (.bool true)) (.t 64), none⟩] none)
  (.cond (.t 65)
  (.seq (.reg [
    ⟨(some 4), .move (.c (.bool false)), none⟩] none)
  (.ret))
  (.skip)))
  (.seq (.reg [
    ⟨(some 12), .move (.c (.int .i64 1)), none⟩] none)
  (.seq (.reg [
    ⟨(some 66), .move (.t 9), none⟩,
    ⟨(some 67), .move (.t 12), none⟩,
    ⟨(some 68), .callf .plain 31 [(.t 66), (.t 67)], none⟩,
    ⟨(some 12), .move (.t 68), none⟩] none)
  (.seq (.reg [
    ⟨(some 13), .move (.c (.int .i64 1)), none⟩] none)
  (.seq (.reg [
    ⟨(some 69), .move (.t 9), none⟩,
    ⟨(some 70), .move (.t 13), none⟩,
    ⟨(some 71), .callf (.pure []) 32 [(.t 69), (.t 70)], none⟩,
    ⟨(some 13), .move (.t 71), none⟩] none)
  (.seq (.seq (.reg [
    ⟨(some 72), .move (.t 13), none⟩,
    ⟨(some 73), .bin 0 .lss (.t 72) (.c (.int .i64 0)), none⟩] none)
  (.cond (.t 73)
  (.seq (.reg [
    ⟨(some 4), .move (.c (.bool false)), none⟩] none)
  (.ret))
  (.skip)))
  (.seq (.seq (.reg [
    ⟨(some 74), .move (.t 13), none⟩,
    ⟨(some 75), .move (.t 12), none⟩,
    ⟨(some 76), .bin 0 .neq (.t 74) (.t 75), none⟩] none)
  (.cond (.t 76)
  (.seq (.reg [
    ⟨(some 4), .move (.c (.bool false)), none⟩] none)
  (.ret))
  (.skip)))
  (.seq (.reg [
    ⟨(some 78), .load false (some 3) (.t 2), none⟩,
    ⟨(some 79), .callf (.pure []) 12 [(.t 78)], none⟩,
    ⟨(some 80), .move (.t 1), none⟩,
    ⟨(some 81), .callf (.pure []) 29 [(.t 79), (.t 80)], none⟩,
    ⟨(some 77), .move (.t 81), none⟩,
    ⟨(some 82), .extract 0 (.t 77), none⟩,
    ⟨(some 83), .extract 1 (.t 77), none⟩,
    ⟨(some 14), .move (.t 82), none⟩,
    ⟨(some 15), .move (.t 83), none⟩] none)
  (.seq (.seq (.reg [
    ⟨(some 84), .move (.t 14), none⟩,
    ⟨(some 85), .move (.t 6), none⟩,
    ⟨(some 86), .callf (.pure []) 30 [(.t 84), (.t 85)], none⟩,
    ⟨(some 87), .un .not (.t 86), none⟩,
    ⟨(some 88), .move (.t 87), none⟩,
    ⟨(some 89), .move (.t 15), (some (88, false))⟩,
    ⟨(some 90), .move (.t 7), (some (88, false))⟩,
    ⟨(some 91), .bin 0 .neq (.t 89) (.t 90), (some (88, false))⟩,
    ⟨(some 92), .pick (.t 88) (.c (.bool true)) (.t 91), none⟩] none)
  (.cond (.t 92)
  (.seq (.reg [
    ⟨(some 4), .move (.c (.bool false)), none⟩] none)
  (.ret))
  (.skip)))
  (.seq (.reg [
    ⟨(some 13), .move (.c (.int .i64 1)), none⟩] none)
  (.seq (.reg [
    ⟨(some 93), .move (.t 9), none⟩,
    ⟨(some 94), .move (.t 13), none⟩,
    ⟨(some 95), .callf (.pure []) 32 [(.t 93), (.t 94)], none⟩,
    ⟨(some 13), .move (.t 95), none⟩] none)
  (.seq (.seq (.reg [
    ⟨(some 96), .move (.t 13), none⟩,
    ⟨(some 97), .bin 0 .lss (.t 96) (.c (.int .i64 0)), none⟩] none)
  (.cond (.t 97)
  (.seq (.reg [
    ⟨(some 4), .move (.c (.bool false)), none⟩] none)
  (.ret))
  (.skip)))
  (.seq (.seq (.reg [
    ⟨(some 98), .move (.t 13), none⟩,
    ⟨(some 99), .move (.t 12), none⟩,
    ⟨(some 100), .bin 0 .neq (.t 98) (.t 99), none⟩] none)
  (.cond (.t 100)
  (.seq (.reg [
    ⟨(some 4), .move (.c (.bool false)), none⟩] none)
  (.ret))
  (.skip)))
  (.seq (.reg [
    ⟨(some 4), .move (.c (.bool true)), none⟩] none)
  (.ret)))))))))))))))))))))))))
def p114 : Fn := ⟨2, 101, [.tmp 4], b114⟩
def progList : List (Nat × Fn) := [(43, p43), (44, p44), (11, p11), (10, p10), (47, p47), (48, p48), (13, p13), (12, p12), (30, p30), (51, p51), (17, p17), (16, p16), (31, p31), (52, p52), (21, p21), (20, p20), (54, p54), (78, p78), (79, p79), (80, p80), (81, p81), (39, p39), (60, p60), (99, p99), (76, p76), (94, p94), (127, p127), (136, p136), (134, p134), (135, p135), (131, p131), (122, p122), (98, p98), (61, p61), (28, p28), (56, p56), (67, p67), (115, p115), (82, p82), (73, p73), (86, p86), (87, p87), (88, p88), (89, p89), (130, p130), (129, p129), (116, p116), (128, p128), (117, p117), (90, p90), (119, p119), (91, p91), (118, p118), (92, p92), (42, p42), (62, p62), (102, p102), (132, p132), (124, p124), (96, p96), (137, p137), (138, p138), (139, p139), (133, p133), (125, p125), (100, p100), (123, p123), (101, p101), (126, p126), (103, p103), (63, p63), (29, p29), (32, p32), (114, p114)]
def progAt : List (Nat × Fn) → Nat → Option Fn
  | [], _ => none
  | (a, f) :: r, g => if a == g then some f else progAt r g
def A : Prog := progAt progList
end Rv
