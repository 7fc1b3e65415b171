/- The law and what it reaches, as code of the abstract machine. -/
import Derived.Test.YtjcipnbpeagglaaRv1
namespace Rv.Nd
set_option maxRecDepth 100000
/-- loop.example.g01273.spec.NewDesk. -/
def p1 : Fn := ⟨0, 2, [.cell 0 (some 7)],
  .seq (.reg [
      ⟨(some 0), .alloc [.int .i64 0, .nils, .nils, .nils, .int .i64 0, .nils, .nils], none⟩] none)
  (.seq (.reg [
      ⟨(some 1), .callf .plain 33 [], none⟩,
      ⟨none, .store 7 (.t 0) (.t 1), none⟩] none)
  (.ret))⟩
/-- loop.example.g01273.impl.NewDesk. -/
def p2 : Fn := ⟨0, 17, [.cell 0 (some 7)],
  .seq (.reg [
      ⟨(some 0), .alloc [.int .i64 0, .nils, .nils, .nils, .int .i64 0, .nils, .nils], none⟩] none)
  (.seq (.reg [
      ⟨(some 6), .callf .plain 34 [(.c (.str [100, 105, 115, 99])), (.c (.int .i64 3))], none⟩,
      ⟨(some 5), .move (.t 6), none⟩,
      ⟨(some 7), .extract 0 (.t 5), none⟩,
      ⟨(some 8), .extract 1 (.t 5), none⟩,
      ⟨(some 1), .alloc [.int .i64 0, .int .i64 0, .int .i64 0, .int .i64 0, .int .i64 0, .int .i64 0, .int .i64 0, .int .i64 0, .int .i64 0, .int .i64 0, .int .i64 0, .int .i64 0, .int .i64 0, .int .i64 0, .int .i64 0, .int .i64 0, .int .i64 0, .int .i64 0, .int .u8 0, .int .u8 0, .int .u8 0, .int .u8 0, .int .u8 0, .int .u8 0, .int .u8 0, .int .u8 0, .int .u8 0, .int .u8 0, .int .u8 0, .int .u8 0, .int .u8 0, .int .u8 0, .int .u8 0, .int .u8 0, .int .u8 0, .int .u8 0, .int .u8 0, .int .u8 0, .int .u8 0, .int .u8 0, .int .u8 0, .int .u8 0, .int .u8 0, .int .u8 0, .int .u8 0, .int .u8 0, .int .u8 0, .int .u8 0, .int .u8 0, .int .u8 0, .int .u8 0, .int .u8 0, .int .u8 0, .int .u8 0, .int .u8 0, .int .u8 0, .int .u8 0, .int .u8 0, .int .u8 0, .int .u8 0, .int .u8 0, .int .u8 0, .int .u8 0, .int .u8 0, .int .u8 0, .int .u8 0, .int .u8 0, .int .u8 0, .int .u8 0, .int .u8 0, .int .u8 0, .int .u8 0, .int .u8 0, .int .u8 0, .int .u8 0, .int .u8 0, .int .u8 0, .int .u8 0, .int .u8 0, .int .u8 0, .int .u8 0, .int .u8 0, .int .u8 0, .int .u8 0, .int .u8 0, .int .u8 0, .int .u8 0, .int .u8 0, .int .u8 0, .int .u8 0, .int .u8 0, .int .u8 0, .int .u8 0, .int .u8 0, .int .u8 0, .int .u8 0, .int .u8 0, .int .u8 0, .int .u8 0, .int .u8 0, .int .u8 0, .int .u8 0, .int .u8 0, .int .u8 0, .int .u8 0, .int .u8 0, .int .u8 0, .int .u8 0, .int .u8 0, .int .u8 0, .int .u8 0, .int .u8 0, .int .u8 0, .int .u8 0, .int .u8 0, .int .u8 0, .int .u8 0, .int .u8 0, .int .u8 0, .int .u8 0, .int .u8 0, .int .u8 0, .int .u8 0, .int .u8 0, .int .u8 0, .int .u8 0, .int .u8 0, .int .u8 0, .int .u8 0, .int .u8 0, .int .u8 0, .int .u8 0, .int .u8 0, .int .u8 0, .int .u8 0, .int .u8 0, .int .u8 0, .int .u8 0, .int .u8 0, .int .u8 0, .int .u8 0, .int .u8 0, .int .u8 0, .int .u8 0, .int .u8 0, .int .u8 0, .int .u8 0, .int .u8 0, .int .u8 0, .int .u8 0, .int .u8 0, .int .u8 0, .int .u8 0, .int .u8 0, .int .u8 0, .int .u8 0, .int .u8 0, .int .u8 0, .int .u8 0, .int .u8 0, .int .u8 0, .int .u8 0, .int .u8 0, .int .u8 0, .int .u8 0, .int .u8 0, .int .u8 0, .int .u8 0, .int .u8 0, .int .u8 0, .int .u8 0, .int .u8 0, .int .u8 0, .int .u8 0, .int .u8 0, .int .u8 0, .int .u8 0, .int .u8 0, .int .u8 0, .int .u8 0, .int .u8 0, .int .u8 0, .int .u8 0, .int .u8 0, .int .u8 0, .int .u8 0, .int .u8 0, .int .u8 0, .int .u8 0, .int .u8 0, .int .u8 0, .int .u8 0, .int .u8 0, .int .u8 0, .int .u8 0, .int .u8 0, .int .u8 0, .int .u8 0, .int .u8 0, .int .u8 0, .int .u8 0, .int .u8 0, .int .u8 0, .int .u8 0, .int .u8 0, .int .u8 0, .int .u8 0, .int .u8 0, .int .u8 0, .int .u8 0, .int .u8 0, .int .u8 0, .int .u8 0, .int .u8 0, .int .u8 0, .int .u8 0, .int .u8 0, .int .u8 0, .int .u8 0, .int .u8 0, .int .u8 0, .int .u8 0, .int .u8 0, .int .u8 0, .int .u8 0, .int .u8 0, .int .u8 0, .int .u8 0, .int .u8 0, .int .u8 0, .int .u8 0, .int .u8 0, .int .u8 0, .int .u8 0, .int .u8 0, .int .u8 0, .int .u8 0, .int .u8 0, .int .u8 0, .int .u8 0, .int .u8 0, .int .u8 0, .int .u8 0, .int .u8 0, .int .u8 0, .int .u8 0, .int .u8 0, .int .u8 0, .int .u8 0, .int .u8 0, .int .u8 0, .int .u8 0, .int .u8 0, .int .u8 0, .int .u8 0, .int .u8 0, .int .u8 0, .int .u8 0, .int .u8 0, .int .u8 0, .int .u8 0, .int .u8 0, .int .u8 0, .int .u8 0, .int .u8 0, .int .u8 0, .int .u8 0, .int .u8 0, .int .u8 0, .int .u8 0, .int .u8 0, .int .u8 0, .int .u8 0, .int .u8 0, .int .u8 0, .int .u8 0, .int .u8 0, .int .u8 0, .int .u8 0, .int .u8 0, .int .u8 0, .int .u8 0, .int .u8 0, .int .u8 0, .int .u8 0, .int .u8 0, .int .u8 0, .int .u8 0, .int .u8 0, .int .u8 0, .int .u8 0, .int .u8 0, .int .u8 0, .int .u8 0, .int .u8 0, .int .u8 0, .int .u8 0, .int .u8 0, .int .u8 0, .int .u8 0, .int .u8 0, .int .u8 0, .int .u8 0, .int .u8 0, .int .u8 0, .int .u8 0, .int .u8 0, .int .u8 0, .int .u8 0, .int .u8 0, .int .u8 0, .int .u8 0, .int .u8 0, .int .u8 0, .int .u8 0, .int .u8 0, .int .u8 0, .int .u8 0, .int .u8 0, .int .u8 0, .int .u8 0, .int .u8 0, .int .u8 0, .int .u8 0, .int .u8 0, .int .u8 0, .int .u8 0, .int .u8 0, .int .u8 0, .int .u8 0, .int .u8 0, .int .u8 0, .int .u8 0, .int .u8 0, .int .u8 0, .int .u8 0, .int .u8 0, .int .u8 0, .int .u8 0, .int .u8 0, .int .u8 0, .int .u8 0, .int .u8 0, .int .u8 0, .int .u8 0, .int .u8 0, .int .u8 0, .int .u8 0, .int .u8 0, .int .u8 0, .int .u8 0, .int .u8 0, .int .u8 0, .int .u8 0, .int .u8 0, .int .u8 0, .int .u8 0, .int .u8 0, .int .u8 0, .int .u8 0, .int .u8 0, .int .u8 0, .int .u8 0, .int .u8 0, .int .u8 0, .int .u8 0, .int .u8 0, .int .u8 0, .int .u8 0, .int .u8 0, .int .u8 0, .int .u8 0, .int .u8 0, .int .u8 0, .int .u8 0, .int .u8 0, .int .u8 0, .int .u8 0, .int .u8 0, .int .u8 0, .int .u8 0, .int .u8 0, .int .u8 0, .int .u8 0, .int .u8 0, .int .u8 0, .int .u8 0, .int .u8 0, .int .u8 0, .int .u8 0, .int .u8 0, .int .u8 0, .int .u8 0, .int .u8 0, .int .u8 0, .int .u8 0, .int .u8 0, .int .u8 0, .int .u8 0, .int .u8 0, .int .u8 0, .int .u8 0, .int .u8 0, .int .u8 0, .int .u8 0, .int .u8 0, .int .u8 0, .int .u8 0, .int .u8 0, .int .u8 0, .int .u8 0, .int .u8 0, .int .u8 0, .int .u8 0, .int .u8 0, .int .u8 0, .int .u8 0, .int .u8 0, .int .u8 0, .int .u8 0, .int .u8 0, .int .u8 0, .int .u8 0, .int .u8 0, .int .u8 0, .int .u8 0, .int .u8 0, .int .u8 0, .int .u8 0, .int .u8 0, .int .u8 0, .int .u8 0, .int .u8 0, .int .u8 0, .int .u8 0, .int .u8 0, .int .u8 0, .int .u8 0, .int .u8 0, .int .u8 0, .int .u8 0, .int .u8 0, .int .u8 0, .int .u8 0, .int .u8 0, .int .u8 0, .int .u8 0, .int .u8 0, .int .u8 0, .int .u8 0, .int .u8 0, .int .u8 0, .int .u8 0, .int .u8 0, .int .u8 0, .int .u8 0, .int .u8 0, .int .u8 0, .int .u8 0, .int .u8 0, .int .u8 0, .int .u8 0, .int .u8 0, .int .u8 0, .int .u8 0, .int .u8 0, .int .u8 0, .int .u8 0, .int .u8 0, .int .u8 0, .int .u8 0, .int .u8 0, .int .u8 0, .int .u8 0, .int .u8 0, .int .u8 0, .int .u8 0, .int .u8 0, .int .u8 0, .int .u8 0, .int .u8 0, .int .u8 0, .int .u8 0, .int .u8 0, .int .u8 0, .int .u8 0, .int .u8 0, .int .u8 0, .int .u8 0, .int .u8 0, .int .u8 0, .int .u8 0, .int .u8 0, .int .u8 0, .int .u8 0, .int .u8 0, .int .u8 0, .int .u8 0, .int .u8 0, .int .u8 0, .int .u8 0, .int .u8 0, .int .u8 0, .int .u8 0, .int .u8 0, .int .u8 0, .int .u8 0, .int .u8 0, .int .u8 0, .int .u8 0, .int .u8 0, .int .u8 0, .int .u8 0, .int .u8 0, .int .u8 0, .int .u8 0, .int .u8 0, .int .u8 0, .int .u8 0, .int .u8 0, .int .u8 0, .int .u8 0, .int .u8 0, .int .u8 0, .int .u8 0, .int .u8 0, .int .u8 0, .int .u8 0, .int .u8 0, .int .u8 0, .int .u8 0, .int .u8 0, .int .u8 0, .int .u8 0, .int .u8 0, .int .u8 0, .int .u8 0, .int .u8 0, .int .u8 0, .int .u8 0, .int .u8 0, .int .u8 0, .int .u8 0, .int .u8 0, .int .u8 0, .int .u8 0, .int .u8 0, .int .u8 0, .int .u8 0, .int .u8 0, .int .u8 0, .int .u8 0, .int .u8 0, .int .u8 0, .int .u8 0, .int .u8 0, .int .u8 0, .int .u8 0, .int .u8 0, .int .u8 0, .int .u8 0, .int .u8 0, .int .u8 0, .int .u8 0, .int .u8 0, .int .u8 0, .int .u8 0, .int .u8 0, .int .u8 0, .int .u8 0, .int .u8 0, .int .u8 0, .int .u8 0, .int .u8 0, .int .u8 0, .int .u8 0, .int .u8 0, .int .u8 0, .int .u8 0, .int .u8 0, .int .u8 0, .int .u8 0, .int .u8 0, .int .u8 0, .int .u8 0, .int .u8 0, .int .u8 0, .int .u8 0, .int .u8 0, .int .u8 0, .int .u8 0, .int .u8 0, .int .u8 0, .int .u8 0], none⟩,
      ⟨none, .store 594 (.t 1) (.t 7), none⟩,
      ⟨(some 2), .move (.t 8), none⟩] none)
  (.seq (.reg [
      ⟨(some 10), .callf .plain 35 [(.c (.int .i64 3))], none⟩,
      ⟨(some 9), .move (.t 10), none⟩,
      ⟨(some 11), .extract 0 (.t 9), none⟩,
      ⟨(some 12), .extract 1 (.t 9), none⟩,
      ⟨(some 3), .alloc [.int .i64 0, .nils, .nils], none⟩,
      ⟨none, .store 3 (.t 3) (.t 11), none⟩,
      ⟨(some 4), .move (.t 12), none⟩] none)
  (.seq (.reg [
      ⟨(some 13), .load false (some 594) (.t 1), none⟩,
      ⟨(some 14), .callf (.pure [1, 1, 1]) 36 [(.t 13)], none⟩,
      ⟨(some 15), .load false (some 3) (.t 3), none⟩,
      ⟨(some 16), .build [.int .i64 0, .nils, .nils, .nils, .int .i64 0, .nils, .nils] [(0, 4, (.t 14)), (4, 3, (.t 15))], none⟩,
      ⟨none, .store 7 (.t 0) (.t 16), none⟩] (some [[], [0], [], [1, 2], [3, 1, 0, 1, 2, 3]]))
  (.ret))))⟩
/-- loop.example.g01273.laws.eqDesk. -/
def p3 : Fn := ⟨2, 17, [.tmp 4],
  .seq (.reg [
      ⟨(some 2), .box (.t 0), none⟩,
      ⟨(some 3), .box (.t 1), none⟩,
      ⟨(some 4), .move (.c (.bool false)), none⟩] none)
  (.seq (.seq (.reg [
        ⟨(some 5), .fieldAddr 0 (.t 2), none⟩,
        ⟨(some 6), .load false (some 4) (.t 5), none⟩,
        ⟨(some 7), .fieldAddr 0 (.t 3), none⟩,
        ⟨(some 8), .load false (some 4) (.t 7), none⟩,
        ⟨(some 9), .callf .plain 25 [(.t 6), (.t 8)], none⟩,
        ⟨(some 10), .un .not (.t 9), none⟩] none)
    (.cond (.t 10)
    (.seq (.reg [
          ⟨(some 4), .move (.c (.bool false)), none⟩] none)
      (.ret))
    (.skip)))
  (.seq (.seq (.reg [
        ⟨(some 11), .fieldAddr 4 (.t 2), none⟩,
        ⟨(some 12), .load false (some 3) (.t 11), none⟩,
        ⟨(some 13), .fieldAddr 4 (.t 3), none⟩,
        ⟨(some 14), .load false (some 3) (.t 13), none⟩,
        ⟨(some 15), .callf .plain 16 [(.t 12), (.t 14)], none⟩,
        ⟨(some 16), .un .not (.t 15), none⟩] none)
    (.cond (.t 16)
    (.seq (.reg [
          ⟨(some 4), .move (.c (.bool false)), none⟩] none)
      (.ret))
    (.skip)))
  (.seq (.reg [
      ⟨(some 4), .move (.c (.bool true)), none⟩] none)
  (.ret))))⟩
/-- loop.example.g01273.laws.markDesk. -/
def p4 : Fn := ⟨2, 14, [.tmp 4],
  .seq (.reg [
      ⟨(some 2), .box (.t 0), none⟩,
      ⟨(some 4), .move (.c (.int .i64 0)), none⟩] none)
  (.seq (.reg [
      ⟨(some 5), .fieldAddr 0 (.t 2), none⟩,
      ⟨(some 6), .load false (some 4) (.t 5), none⟩,
      ⟨(some 7), .move (.t 1), none⟩,
      ⟨(some 8), .callf .plain 26 [(.t 6), (.t 7)], none⟩,
      ⟨(some 1), .move (.t 8), none⟩] none)
  (.seq (.reg [
      ⟨(some 9), .fieldAddr 4 (.t 2), none⟩,
      ⟨(some 10), .load false (some 3) (.t 9), none⟩,
      ⟨(some 11), .move (.t 1), none⟩,
      ⟨(some 12), .callf .plain 20 [(.t 10), (.t 11)], none⟩,
      ⟨(some 1), .move (.t 12), none⟩] none)
  (.seq (.reg [
      ⟨(some 13), .move (.t 1), none⟩,
      ⟨(some 4), .move (.t 13), none⟩] none)
  (.ret))))⟩
/-- loop.example.g01273.laws.heldDesk. -/
def p5 : Fn := ⟨2, 18, [.tmp 4],
  .seq (.reg [
      ⟨(some 2), .box (.t 0), none⟩,
      ⟨(some 4), .move (.c (.int .i64 0)), none⟩] none)
  (.seq (.reg [
      ⟨(some 5), .fieldAddr 0 (.t 2), none⟩,
      ⟨(some 6), .load false (some 4) (.t 5), none⟩,
      ⟨(some 7), .move (.t 1), none⟩,
      ⟨(some 8), .callf .plain 27 [(.t 6), (.t 7)], none⟩,
      ⟨(some 1), .move (.t 8), none⟩] none)
  (.seq (.seq (.reg [
        ⟨(some 9), .move (.t 1), none⟩,
        ⟨(some 10), .bin 0 .lss (.t 9) (.c (.int .i64 0)), none⟩] none)
    (.cond (.t 10)
    (.seq (.reg [
          ⟨(some 4), .move (.c (.int .i64 (-1))), none⟩] none)
      (.ret))
    (.skip)))
  (.seq (.reg [
      ⟨(some 11), .fieldAddr 4 (.t 2), none⟩,
      ⟨(some 12), .load false (some 3) (.t 11), none⟩,
      ⟨(some 13), .move (.t 1), none⟩,
      ⟨(some 14), .callf .plain 22 [(.t 12), (.t 13)], none⟩,
      ⟨(some 1), .move (.t 14), none⟩] none)
  (.seq (.seq (.reg [
        ⟨(some 15), .move (.t 1), none⟩,
        ⟨(some 16), .bin 0 .lss (.t 15) (.c (.int .i64 0)), none⟩] none)
    (.cond (.t 16)
    (.seq (.reg [
          ⟨(some 4), .move (.c (.int .i64 (-1))), none⟩] none)
      (.ret))
    (.skip)))
  (.seq (.reg [
      ⟨(some 17), .move (.t 1), none⟩,
      ⟨(some 4), .move (.t 17), none⟩] none)
  (.ret))))))⟩
/-- loop.example.g01273.laws.eqComplex. -/
def p16 : Fn := ⟨2, 22, [.tmp 4],
  .seq (.reg [
      ⟨(some 2), .box (.t 0), none⟩,
      ⟨(some 3), .box (.t 1), none⟩,
      ⟨(some 4), .move (.c (.bool false)), none⟩] none)
  (.seq (.seq (.reg [
        ⟨(some 5), .fieldAddr 0 (.t 2), none⟩,
        ⟨(some 6), .load false none (.t 5), none⟩,
        ⟨(some 7), .fieldAddr 0 (.t 3), none⟩,
        ⟨(some 8), .load false none (.t 7), none⟩,
        ⟨(some 9), .bin 0 .neq (.t 6) (.t 8), none⟩] none)
    (.cond (.t 9)
    (.seq (.reg [
          ⟨(some 4), .move (.c (.bool false)), none⟩] none)
      (.ret))
    (.skip)))
  (.seq (.seq (.reg [
        ⟨(some 10), .fieldAddr 1 (.t 2), none⟩,
        ⟨(some 11), .load false none (.t 10), none⟩,
        ⟨(some 12), .fieldAddr 1 (.t 3), none⟩,
        ⟨(some 13), .load false none (.t 12), none⟩,
        ⟨(some 14), .callf .plain 30 [(.t 11), (.t 13)], none⟩,
        ⟨(some 15), .un .not (.t 14), none⟩] none)
    (.cond (.t 15)
    (.seq (.reg [
          ⟨(some 4), .move (.c (.bool false)), none⟩] none)
      (.ret))
    (.skip)))
  (.seq (.seq (.reg [
        ⟨(some 16), .fieldAddr 2 (.t 2), none⟩,
        ⟨(some 17), .load false none (.t 16), none⟩,
        ⟨(some 18), .fieldAddr 2 (.t 3), none⟩,
        ⟨(some 19), .load false none (.t 18), none⟩,
        ⟨(some 20), .callf .plain 17 [(.t 17), (.t 19)], none⟩,
        ⟨(some 21), .un .not (.t 20), none⟩] none)
    (.cond (.t 21)
    (.seq (.reg [
          ⟨(some 4), .move (.c (.bool false)), none⟩] none)
      (.ret))
    (.skip)))
  (.seq (.reg [
      ⟨(some 4), .move (.c (.bool true)), none⟩] none)
  (.ret)))))⟩
/-- loop.example.g01273.laws.eqInt64SSS. -/
def p17 : Fn := ⟨2, 27, [.tmp 4],
  .seq (.reg [
      ⟨(some 4), .move (.c (.bool false)), none⟩] none)
  (.seq (.seq (.reg [
        ⟨(some 6), .move (.t 0), none⟩,
        ⟨(some 7), .len (.t 6), none⟩,
        ⟨(some 8), .move (.t 1), none⟩,
        ⟨(some 9), .len (.t 8), none⟩,
        ⟨(some 10), .bin 0 .neq (.t 7) (.t 9), none⟩] none)
    (.cond (.t 10)
    (.seq (.reg [
          ⟨(some 4), .move (.c (.bool false)), none⟩] none)
      (.ret))
    (.skip)))
  (.seq (.seq (.reg [
        ⟨(some 5), .move (.c (.int .i64 0)), none⟩] none)
    (.block 0 (.loop true (.seq (.seq (.reg [
              ⟨(some 11), .move (.t 5), none⟩,
              ⟨(some 12), .move (.t 0), none⟩,
              ⟨(some 13), .len (.t 12), none⟩,
              ⟨(some 14), .bin 0 .lss (.t 11) (.t 13), none⟩] none)
          (.cond (.t 14)
          (.skip)
          (.exit 0)))
        (.seq (.block 1 (.seq (.reg [
                ⟨(some 17), .move (.t 0), none⟩,
                ⟨(some 18), .move (.t 5), none⟩,
                ⟨(some 19), .indexAddr none 1 (.t 17) (.t 18), none⟩,
                ⟨(some 20), .load false none (.t 19), none⟩,
                ⟨(some 21), .move (.t 1), none⟩,
                ⟨(some 22), .move (.t 5), none⟩,
                ⟨(some 23), .indexAddr none 1 (.t 21) (.t 22), none⟩,
                ⟨(some 24), .load false none (.t 23), none⟩,
                ⟨(some 25), .callf .plain 51 [(.t 20), (.t 24)], none⟩,
                ⟨(some 26), .un .not (.t 25), none⟩] (some [[], [], [0, 1], [2], [], [], [4, 5], [6], [3, 7], [8]]))
            (.cond (.t 26)
            (.seq (.reg [
                  ⟨(some 4), .move (.c (.bool false)), none⟩] none)
              (.ret))
            (.skip))))
        (.reg [
          ⟨(some 15), .move (.t 5), none⟩,
          ⟨(some 16), .bin 0 .add (.t 15) (.c (.int .i64 1)), none⟩,
          ⟨(some 5), .move (.t 16), none⟩] none))))))
  (.seq (.reg [
      ⟨(some 4), .move (.c (.bool true)), none⟩] none)
  (.ret))))⟩
/-- loop.example.g01273.laws.markComplex. -/
def p20 : Fn := ⟨2, 14, [.tmp 4],
  .seq (.reg [
      ⟨(some 2), .box (.t 0), none⟩,
      ⟨(some 4), .move (.c (.int .i64 0)), none⟩] none)
  (.seq (.reg [
      ⟨(some 5), .fieldAddr 1 (.t 2), none⟩,
      ⟨(some 6), .load false none (.t 5), none⟩,
      ⟨(some 7), .move (.t 1), none⟩,
      ⟨(some 8), .callf .plain 31 [(.t 6), (.t 7)], none⟩,
      ⟨(some 1), .move (.t 8), none⟩] none)
  (.seq (.reg [
      ⟨(some 9), .fieldAddr 2 (.t 2), none⟩,
      ⟨(some 10), .load false none (.t 9), none⟩,
      ⟨(some 11), .move (.t 1), none⟩,
      ⟨(some 12), .callf .plain 21 [(.t 10), (.t 11)], none⟩,
      ⟨(some 1), .move (.t 12), none⟩] none)
  (.seq (.reg [
      ⟨(some 13), .move (.t 1), none⟩,
      ⟨(some 4), .move (.t 13), none⟩] none)
  (.ret))))⟩
/-- loop.example.g01273.laws.markInt64SSS. -/
def p21 : Fn := ⟨2, 19, [.tmp 4],
  .seq (.reg [
      ⟨(some 4), .move (.c (.int .i64 0)), none⟩] none)
  (.seq (.seq (.reg [
        ⟨(some 5), .move (.c (.int .i64 0)), none⟩] none)
    (.block 0 (.loop true (.seq (.seq (.reg [
              ⟨(some 6), .move (.t 5), none⟩,
              ⟨(some 7), .move (.t 0), none⟩,
              ⟨(some 8), .len (.t 7), none⟩,
              ⟨(some 9), .bin 0 .lss (.t 6) (.t 8), none⟩] none)
          (.cond (.t 9)
          (.skip)
          (.exit 0)))
        (.seq (.block 1 (.reg [
              ⟨(some 12), .move (.t 0), none⟩,
              ⟨(some 13), .move (.t 5), none⟩,
              ⟨(some 14), .indexAddr none 1 (.t 12) (.t 13), none⟩,
              ⟨(some 15), .load false none (.t 14), none⟩,
              ⟨(some 16), .move (.t 1), none⟩,
              ⟨(some 17), .callf .plain 52 [(.t 15), (.t 16)], none⟩,
              ⟨(some 1), .move (.t 17), none⟩] none))
        (.reg [
          ⟨(some 10), .move (.t 5), none⟩,
          ⟨(some 11), .bin 0 .add (.t 10) (.c (.int .i64 1)), none⟩,
          ⟨(some 5), .move (.t 11), none⟩] none))))))
  (.seq (.reg [
      ⟨(some 18), .move (.t 1), none⟩,
      ⟨(some 4), .move (.t 18), none⟩] none)
  (.ret)))⟩
/-- loop.example.g01273.laws.heldComplex. -/
def p22 : Fn := ⟨2, 18, [.tmp 4],
  .seq (.reg [
      ⟨(some 2), .box (.t 0), none⟩,
      ⟨(some 4), .move (.c (.int .i64 0)), none⟩] none)
  (.seq (.reg [
      ⟨(some 5), .fieldAddr 1 (.t 2), none⟩,
      ⟨(some 6), .load false none (.t 5), none⟩,
      ⟨(some 7), .move (.t 1), none⟩,
      ⟨(some 8), .callf .plain 32 [(.t 6), (.t 7)], none⟩,
      ⟨(some 1), .move (.t 8), none⟩] none)
  (.seq (.seq (.reg [
        ⟨(some 9), .move (.t 1), none⟩,
        ⟨(some 10), .bin 0 .lss (.t 9) (.c (.int .i64 0)), none⟩] none)
    (.cond (.t 10)
    (.seq (.reg [
          ⟨(some 4), .move (.c (.int .i64 (-1))), none⟩] none)
      (.ret))
    (.skip)))
  (.seq (.reg [
      ⟨(some 11), .fieldAddr 2 (.t 2), none⟩,
      ⟨(some 12), .load false none (.t 11), none⟩,
      ⟨(some 13), .move (.t 1), none⟩,
      ⟨(some 14), .callf .plain 53 [(.t 12), (.t 13)], none⟩,
      ⟨(some 1), .move (.t 14), none⟩] none)
  (.seq (.seq (.reg [
        ⟨(some 15), .move (.t 1), none⟩,
        ⟨(some 16), .bin 0 .lss (.t 15) (.c (.int .i64 0)), none⟩] none)
    (.cond (.t 16)
    (.seq (.reg [
          ⟨(some 4), .move (.c (.int .i64 (-1))), none⟩] none)
      (.ret))
    (.skip)))
  (.seq (.reg [
      ⟨(some 17), .move (.t 1), none⟩,
      ⟨(some 4), .move (.t 17), none⟩] none)
  (.ret))))))⟩
/-- loop.example.g01273.laws.eqFiltered. -/
def p25 : Fn := ⟨2, 17, [.tmp 4],
  .seq (.reg [
      ⟨(some 2), .box (.t 0), none⟩,
      ⟨(some 3), .box (.t 1), none⟩,
      ⟨(some 4), .move (.c (.bool false)), none⟩] none)
  (.seq (.seq (.reg [
        ⟨(some 5), .fieldAddr 0 (.t 2), none⟩,
        ⟨(some 6), .load false (some 3) (.t 5), none⟩,
        ⟨(some 7), .fieldAddr 0 (.t 3), none⟩,
        ⟨(some 8), .load false (some 3) (.t 7), none⟩,
        ⟨(some 9), .callf .plain 16 [(.t 6), (.t 8)], none⟩,
        ⟨(some 10), .un .not (.t 9), none⟩] none)
    (.cond (.t 10)
    (.seq (.reg [
          ⟨(some 4), .move (.c (.bool false)), none⟩] none)
      (.ret))
    (.skip)))
  (.seq (.seq (.reg [
        ⟨(some 11), .fieldAddr 3 (.t 2), none⟩,
        ⟨(some 12), .load false none (.t 11), none⟩,
        ⟨(some 13), .fieldAddr 3 (.t 3), none⟩,
        ⟨(some 14), .load false none (.t 13), none⟩,
        ⟨(some 15), .callf .plain 51 [(.t 12), (.t 14)], none⟩,
        ⟨(some 16), .un .not (.t 15), none⟩] none)
    (.cond (.t 16)
    (.seq (.reg [
          ⟨(some 4), .move (.c (.bool false)), none⟩] none)
      (.ret))
    (.skip)))
  (.seq (.reg [
      ⟨(some 4), .move (.c (.bool true)), none⟩] none)
  (.ret))))⟩
/-- loop.example.g01273.laws.markFiltered. -/
def p26 : Fn := ⟨2, 14, [.tmp 4],
  .seq (.reg [
      ⟨(some 2), .box (.t 0), none⟩,
      ⟨(some 4), .move (.c (.int .i64 0)), none⟩] none)
  (.seq (.reg [
      ⟨(some 5), .fieldAddr 0 (.t 2), none⟩,
      ⟨(some 6), .load false (some 3) (.t 5), none⟩,
      ⟨(some 7), .move (.t 1), none⟩,
      ⟨(some 8), .callf .plain 20 [(.t 6), (.t 7)], none⟩,
      ⟨(some 1), .move (.t 8), none⟩] none)
  (.seq (.reg [
      ⟨(some 9), .fieldAddr 3 (.t 2), none⟩,
      ⟨(some 10), .load false none (.t 9), none⟩,
      ⟨(some 11), .move (.t 1), none⟩,
      ⟨(some 12), .callf .plain 52 [(.t 10), (.t 11)], none⟩,
      ⟨(some 1), .move (.t 12), none⟩] none)
  (.seq (.reg [
      ⟨(some 13), .move (.t 1), none⟩,
      ⟨(some 4), .move (.t 13), none⟩] none)
  (.ret))))⟩
/-- loop.example.g01273.laws.heldFiltered. -/
def p27 : Fn := ⟨2, 18, [.tmp 4],
  .seq (.reg [
      ⟨(some 2), .box (.t 0), none⟩,
      ⟨(some 4), .move (.c (.int .i64 0)), none⟩] none)
  (.seq (.reg [
      ⟨(some 5), .fieldAddr 0 (.t 2), none⟩,
      ⟨(some 6), .load false (some 3) (.t 5), none⟩,
      ⟨(some 7), .move (.t 1), none⟩,
      ⟨(some 8), .callf .plain 22 [(.t 6), (.t 7)], none⟩,
      ⟨(some 1), .move (.t 8), none⟩] none)
  (.seq (.seq (.reg [
        ⟨(some 9), .move (.t 1), none⟩,
        ⟨(some 10), .bin 0 .lss (.t 9) (.c (.int .i64 0)), none⟩] none)
    (.cond (.t 10)
    (.seq (.reg [
          ⟨(some 4), .move (.c (.int .i64 (-1))), none⟩] none)
      (.ret))
    (.skip)))
  (.seq (.reg [
      ⟨(some 11), .fieldAddr 3 (.t 2), none⟩,
      ⟨(some 12), .load false none (.t 11), none⟩,
      ⟨(some 13), .move (.t 1), none⟩,
      ⟨(some 14), .callf .plain 59 [(.t 12), (.t 13)], none⟩,
      ⟨(some 1), .move (.t 14), none⟩] none)
  (.seq (.seq (.reg [
        ⟨(some 15), .move (.t 1), none⟩,
        ⟨(some 16), .bin 0 .lss (.t 15) (.c (.int .i64 0)), none⟩] none)
    (.cond (.t 16)
    (.seq (.reg [
          ⟨(some 4), .move (.c (.int .i64 (-1))), none⟩] none)
      (.ret))
    (.skip)))
  (.seq (.reg [
      ⟨(some 17), .move (.t 1), none⟩,
      ⟨(some 4), .move (.t 17), none⟩] none)
  (.ret))))))⟩
/-- loop.example.g01273.laws.eqInt64S. -/
def p30 : Fn := ⟨2, 26, [.tmp 4],
  .seq (.reg [
      ⟨(some 4), .move (.c (.bool false)), none⟩] none)
  (.seq (.seq (.reg [
        ⟨(some 6), .move (.t 0), none⟩,
        ⟨(some 7), .len (.t 6), none⟩,
        ⟨(some 8), .move (.t 1), none⟩,
        ⟨(some 9), .len (.t 8), none⟩,
        ⟨(some 10), .bin 0 .neq (.t 7) (.t 9), none⟩] none)
    (.cond (.t 10)
    (.seq (.reg [
          ⟨(some 4), .move (.c (.bool false)), none⟩] none)
      (.ret))
    (.skip)))
  (.seq (.seq (.reg [
        ⟨(some 5), .move (.c (.int .i64 0)), none⟩] none)
    (.block 0 (.loop true (.seq (.seq (.reg [
              ⟨(some 11), .move (.t 5), none⟩,
              ⟨(some 12), .move (.t 0), none⟩,
              ⟨(some 13), .len (.t 12), none⟩,
              ⟨(some 14), .bin 0 .lss (.t 11) (.t 13), none⟩] none)
          (.cond (.t 14)
          (.skip)
          (.exit 0)))
        (.seq (.block 1 (.seq (.reg [
                ⟨(some 17), .move (.t 0), none⟩,
                ⟨(some 18), .move (.t 5), none⟩,
                ⟨(some 19), .indexAddr none 1 (.t 17) (.t 18), none⟩,
                ⟨(some 20), .load false none (.t 19), none⟩,
                ⟨(some 21), .move (.t 1), none⟩,
                ⟨(some 22), .move (.t 5), none⟩,
                ⟨(some 23), .indexAddr none 1 (.t 21) (.t 22), none⟩,
                ⟨(some 24), .load false none (.t 23), none⟩,
                ⟨(some 25), .bin 0 .neq (.t 20) (.t 24), none⟩] (some [[], [], [0, 1], [2], [], [], [4, 5], [6], [3, 7]]))
            (.cond (.t 25)
            (.seq (.reg [
                  ⟨(some 4), .move (.c (.bool false)), none⟩] none)
              (.ret))
            (.skip))))
        (.reg [
          ⟨(some 15), .move (.t 5), none⟩,
          ⟨(some 16), .bin 0 .add (.t 15) (.c (.int .i64 1)), none⟩,
          ⟨(some 5), .move (.t 16), none⟩] none))))))
  (.seq (.reg [
      ⟨(some 4), .move (.c (.bool true)), none⟩] none)
  (.ret))))⟩
/-- loop.example.g01273.laws.markInt64S. -/
def p31 : Fn := ⟨2, 19, [.tmp 4],
  .seq (.reg [
      ⟨(some 4), .move (.c (.int .i64 0)), none⟩] none)
  (.seq (.seq (.reg [
        ⟨(some 5), .move (.c (.int .i64 0)), none⟩] none)
    (.block 0 (.loop true (.seq (.seq (.reg [
              ⟨(some 6), .move (.t 5), none⟩,
              ⟨(some 7), .move (.t 0), none⟩,
              ⟨(some 8), .len (.t 7), none⟩,
              ⟨(some 9), .bin 0 .lss (.t 6) (.t 8), none⟩] none)
          (.cond (.t 9)
          (.skip)
          (.exit 0)))
        (.seq (.block 1 (.seq (.reg [
                ⟨(some 12), .move (.t 0), none⟩,
                ⟨(some 13), .move (.t 5), none⟩,
                ⟨(some 14), .move (.t 1), none⟩,
                ⟨(some 15), .indexAddr none 1 (.t 12) (.t 13), none⟩,
                ⟨none, .store 1 (.t 15) (.t 14), none⟩] none)
            (.reg [
              ⟨(some 16), .move (.t 1), none⟩,
              ⟨(some 17), .bin 0 .add (.t 16) (.c (.int .i64 1)), none⟩,
              ⟨(some 1), .move (.t 17), none⟩] none)))
        (.reg [
          ⟨(some 10), .move (.t 5), none⟩,
          ⟨(some 11), .bin 0 .add (.t 10) (.c (.int .i64 1)), none⟩,
          ⟨(some 5), .move (.t 11), none⟩] none))))))
  (.seq (.reg [
      ⟨(some 18), .move (.t 1), none⟩,
      ⟨(some 4), .move (.t 18), none⟩] none)
  (.ret)))⟩
/-- loop.example.g01273.laws.heldInt64S. -/
def p32 : Fn := ⟨2, 21, [.tmp 4],
  .seq (.reg [
      ⟨(some 4), .move (.c (.int .i64 0)), none⟩] none)
  (.seq (.seq (.reg [
        ⟨(some 5), .move (.c (.int .i64 0)), none⟩] none)
    (.block 0 (.loop true (.seq (.seq (.reg [
              ⟨(some 6), .move (.t 5), none⟩,
              ⟨(some 7), .move (.t 0), none⟩,
              ⟨(some 8), .len (.t 7), none⟩,
              ⟨(some 9), .bin 0 .lss (.t 6) (.t 8), none⟩] none)
          (.cond (.t 9)
          (.skip)
          (.exit 0)))
        (.seq (.block 1 (.seq (.seq (.reg [
                  ⟨(some 12), .move (.t 0), none⟩,
                  ⟨(some 13), .move (.t 5), none⟩,
                  ⟨(some 14), .indexAddr none 1 (.t 12) (.t 13), none⟩,
                  ⟨(some 15), .load false none (.t 14), none⟩,
                  ⟨(some 16), .move (.t 1), none⟩,
                  ⟨(some 17), .bin 0 .neq (.t 15) (.t 16), none⟩] none)
              (.cond (.t 17)
              (.seq (.reg [
                    ⟨(some 4), .move (.c (.int .i64 (-1))), none⟩] none)
                (.ret))
              (.skip)))
            (.reg [
              ⟨(some 18), .move (.t 1), none⟩,
              ⟨(some 19), .bin 0 .add (.t 18) (.c (.int .i64 1)), none⟩,
              ⟨(some 1), .move (.t 19), none⟩] none)))
        (.reg [
          ⟨(some 10), .move (.t 5), none⟩,
          ⟨(some 11), .bin 0 .add (.t 10) (.c (.int .i64 1)), none⟩,
          ⟨(some 5), .move (.t 11), none⟩] none))))))
  (.seq (.reg [
      ⟨(some 20), .move (.t 1), none⟩,
      ⟨(some 4), .move (.t 20), none⟩] none)
  (.ret)))⟩
/-- loop.example.g01273.spec.l11New. -/
def p33 : Fn := ⟨0, 11, [.cell 0 (some 7)],
  .seq (.reg [
      ⟨(some 0), .alloc [.int .i64 0, .nils, .nils, .nils, .int .i64 0, .nils, .nils], none⟩] none)
  (.seq (.reg [
      ⟨(some 4), .callf .plain 64 [(.c (.str [100, 105, 115, 99])), (.c (.int .i64 3))], none⟩,
      ⟨(some 3), .move (.t 4), none⟩,
      ⟨(some 5), .extract 0 (.t 3), none⟩,
      ⟨(some 6), .extract 1 (.t 3), none⟩,
      ⟨(some 1), .alloc [.int .i64 0, .int .i64 0, .int .i64 0, .int .i64 0, .int .i64 0, .int .i64 0, .int .i64 0, .int .i64 0, .int .i64 0, .int .i64 0, .int .i64 0, .int .i64 0, .int .i64 0, .int .i64 0, .int .i64 0, .int .i64 0, .int .i64 0, .int .i64 0, .int .u8 0, .int .u8 0, .int .u8 0, .int .u8 0, .int .u8 0, .int .u8 0, .int .u8 0, .int .u8 0, .int .u8 0, .int .u8 0, .int .u8 0, .int .u8 0, .int .u8 0, .int .u8 0, .int .u8 0, .int .u8 0, .int .u8 0, .int .u8 0, .int .u8 0, .int .u8 0, .int .u8 0, .int .u8 0, .int .u8 0, .int .u8 0, .int .u8 0, .int .u8 0, .int .u8 0, .int .u8 0, .int .u8 0, .int .u8 0, .int .u8 0, .int .u8 0, .int .u8 0, .int .u8 0, .int .u8 0, .int .u8 0, .int .u8 0, .int .u8 0, .int .u8 0, .int .u8 0, .int .u8 0, .int .u8 0, .int .u8 0, .int .u8 0, .int .u8 0, .int .u8 0, .int .u8 0, .int .u8 0, .int .u8 0, .int .u8 0, .int .u8 0, .int .u8 0, .int .u8 0, .int .u8 0, .int .u8 0, .int .u8 0, .int .u8 0, .int .u8 0, .int .u8 0, .int .u8 0, .int .u8 0, .int .u8 0, .int .u8 0, .int .u8 0, .int .u8 0, .int .u8 0, .int .u8 0, .int .u8 0, .int .u8 0, .int .u8 0, .int .u8 0, .int .u8 0, .int .u8 0, .int .u8 0, .int .u8 0, .int .u8 0, .int .u8 0, .int .u8 0, .int .u8 0, .int .u8 0, .int .u8 0, .int .u8 0, .int .u8 0, .int .u8 0, .int .u8 0, .int .u8 0, .int .u8 0, .int .u8 0, .int .u8 0, .int .u8 0, .int .u8 0, .int .u8 0, .int .u8 0, .int .u8 0, .int .u8 0, .int .u8 0, .int .u8 0, .int .u8 0, .int .u8 0, .int .u8 0, .int .u8 0, .int .u8 0, .int .u8 0, .int .u8 0, .int .u8 0, .int .u8 0, .int .u8 0, .int .u8 0, .int .u8 0, .int .u8 0, .int .u8 0, .int .u8 0, .int .u8 0, .int .u8 0, .int .u8 0, .int .u8 0, .int .u8 0, .int .u8 0, .int .u8 0, .int .u8 0, .int .u8 0, .int .u8 0, .int .u8 0, .int .u8 0, .int .u8 0, .int .u8 0, .int .u8 0, .int .u8 0, .int .u8 0, .int .u8 0, .int .u8 0, .int .u8 0, .int .u8 0, .int .u8 0, .int .u8 0, .int .u8 0, .int .u8 0, .int .u8 0, .int .u8 0, .int .u8 0, .int .u8 0, .int .u8 0, .int .u8 0, .int .u8 0, .int .u8 0, .int .u8 0, .int .u8 0, .int .u8 0, .int .u8 0, .int .u8 0, .int .u8 0, .int .u8 0, .int .u8 0, .int .u8 0, .int .u8 0, .int .u8 0, .int .u8 0, .int .u8 0, .int .u8 0, .int .u8 0, .int .u8 0, .int .u8 0, .int .u8 0, .int .u8 0, .int .u8 0, .int .u8 0, .int .u8 0, .int .u8 0, .int .u8 0, .int .u8 0, .int .u8 0, .int .u8 0, .int .u8 0, .int .u8 0, .int .u8 0, .int .u8 0, .int .u8 0, .int .u8 0, .int .u8 0, .int .u8 0, .int .u8 0, .int .u8 0, .int .u8 0, .int .u8 0, .int .u8 0, .int .u8 0, .int .u8 0, .int .u8 0, .int .u8 0, .int .u8 0, .int .u8 0, .int .u8 0, .int .u8 0, .int .u8 0, .int .u8 0, .int .u8 0, .int .u8 0, .int .u8 0, .int .u8 0, .int .u8 0, .int .u8 0, .int .u8 0, .int .u8 0, .int .u8 0, .int .u8 0, .int .u8 0, .int .u8 0, .int .u8 0, .int .u8 0, .int .u8 0, .int .u8 0, .int .u8 0, .int .u8 0, .int .u8 0, .int .u8 0, .int .u8 0, .int .u8 0, .int .u8 0, .int .u8 0, .int .u8 0, .int .u8 0, .int .u8 0, .int .u8 0, .int .u8 0, .int .u8 0, .int .u8 0, .int .u8 0, .int .u8 0, .int .u8 0, .int .u8 0, .int .u8 0, .int .u8 0, .int .u8 0, .int .u8 0, .int .u8 0, .int .u8 0, .int .u8 0, .int .u8 0, .int .u8 0, .int .u8 0, .int .u8 0, .int .u8 0, .int .u8 0, .int .u8 0, .int .u8 0, .int .u8 0, .int .u8 0, .int .u8 0, .int .u8 0, .int .u8 0, .int .u8 0, .int .u8 0, .int .u8 0, .int .u8 0, .int .u8 0, .int .u8 0, .int .u8 0, .int .u8 0, .int .u8 0, .int .u8 0, .int .u8 0, .int .u8 0, .int .u8 0, .int .u8 0, .int .u8 0, .int .u8 0, .int .u8 0, .int .u8 0, .int .u8 0, .int .u8 0, .int .u8 0, .int .u8 0, .int .u8 0, .int .u8 0, .int .u8 0, .int .u8 0, .int .u8 0, .int .u8 0, .int .u8 0, .int .u8 0, .int .u8 0, .int .u8 0, .int .u8 0, .int .u8 0, .int .u8 0, .int .u8 0, .int .u8 0, .int .u8 0, .int .u8 0, .int .u8 0, .int .u8 0, .int .u8 0, .int .u8 0, .int .u8 0, .int .u8 0, .int .u8 0, .int .u8 0, .int .u8 0, .int .u8 0, .int .u8 0, .int .u8 0, .int .u8 0, .int .u8 0, .int .u8 0, .int .u8 0, .int .u8 0, .int .u8 0, .int .u8 0, .int .u8 0, .int .u8 0, .int .u8 0, .int .u8 0, .int .u8 0, .int .u8 0, .int .u8 0, .int .u8 0, .int .u8 0, .int .u8 0, .int .u8 0, .int .u8 0, .int .u8 0, .int .u8 0, .int .u8 0, .int .u8 0, .int .u8 0, .int .u8 0, .int .u8 0, .int .u8 0, .int .u8 0, .int .u8 0, .int .u8 0, .int .u8 0, .int .u8 0, .int .u8 0, .int .u8 0, .int .u8 0, .int .u8 0, .int .u8 0, .int .u8 0, .int .u8 0, .int .u8 0, .int .u8 0, .int .u8 0, .int .u8 0, .int .u8 0, .int .u8 0, .int .u8 0, .int .u8 0, .int .u8 0, .int .u8 0, .int .u8 0, .int .u8 0, .int .u8 0, .int .u8 0, .int .u8 0, .int .u8 0, .int .u8 0, .int .u8 0, .int .u8 0, .int .u8 0, .int .u8 0, .int .u8 0, .int .u8 0, .int .u8 0, .int .u8 0, .int .u8 0, .int .u8 0, .int .u8 0, .int .u8 0, .int .u8 0, .int .u8 0, .int .u8 0, .int .u8 0, .int .u8 0, .int .u8 0, .int .u8 0, .int .u8 0, .int .u8 0, .int .u8 0, .int .u8 0, .int .u8 0, .int .u8 0, .int .u8 0, .int .u8 0, .int .u8 0, .int .u8 0, .int .u8 0, .int .u8 0, .int .u8 0, .int .u8 0, .int .u8 0, .int .u8 0, .int .u8 0, .int .u8 0, .int .u8 0, .int .u8 0, .int .u8 0, .int .u8 0, .int .u8 0, .int .u8 0, .int .u8 0, .int .u8 0, .int .u8 0, .int .u8 0, .int .u8 0, .int .u8 0, .int .u8 0, .int .u8 0, .int .u8 0, .int .u8 0, .int .u8 0, .int .u8 0, .int .u8 0, .int .u8 0, .int .u8 0, .int .u8 0, .int .u8 0, .int .u8 0, .int .u8 0, .int .u8 0, .int .u8 0, .int .u8 0, .int .u8 0, .int .u8 0, .int .u8 0, .int .u8 0, .int .u8 0, .int .u8 0, .int .u8 0, .int .u8 0, .int .u8 0, .int .u8 0, .int .u8 0, .int .u8 0, .int .u8 0, .int .u8 0, .int .u8 0, .int .u8 0, .int .u8 0, .int .u8 0, .int .u8 0, .int .u8 0, .int .u8 0, .int .u8 0, .int .u8 0, .int .u8 0, .int .u8 0, .int .u8 0, .int .u8 0, .int .u8 0, .int .u8 0, .int .u8 0, .int .u8 0, .int .u8 0, .int .u8 0, .int .u8 0, .int .u8 0, .int .u8 0, .int .u8 0, .int .u8 0, .int .u8 0, .int .u8 0, .int .u8 0, .int .u8 0, .int .u8 0, .int .u8 0, .int .u8 0, .int .u8 0, .int .u8 0, .int .u8 0, .int .u8 0, .int .u8 0, .int .u8 0, .int .u8 0, .int .u8 0, .int .u8 0, .int .u8 0, .int .u8 0, .int .u8 0, .int .u8 0, .int .u8 0, .int .u8 0, .int .u8 0, .int .u8 0, .int .u8 0, .int .u8 0, .int .u8 0, .int .u8 0, .int .u8 0, .int .u8 0, .int .u8 0, .int .u8 0, .int .u8 0, .int .u8 0, .int .u8 0, .int .u8 0, .int .u8 0, .int .u8 0, .int .u8 0, .int .u8 0, .int .u8 0, .int .u8 0, .int .u8 0, .int .u8 0, .int .u8 0, .int .u8 0, .int .u8 0, .int .u8 0, .int .u8 0, .int .u8 0, .int .u8 0, .int .u8 0, .int .u8 0, .int .u8 0, .int .u8 0, .int .u8 0, .int .u8 0, .int .u8 0, .int .u8 0, .int .u8 0, .int .u8 0, .int .u8 0, .int .u8 0, .int .u8 0, .int .u8 0, .int .u8 0, .int .u8 0, .int .u8 0, .int .u8 0, .int .u8 0, .int .u8 0, .int .u8 0, .int .u8 0, .int .u8 0, .int .u8 0, .int .u8 0, .int .u8 0, .int .u8 0, .int .u8 0, .int .u8 0, .int .u8 0, .int .u8 0, .int .u8 0, .int .u8 0, .int .u8 0, .int .u8 0, .int .u8 0, .int .u8 0, .int .u8 0, .int .u8 0, .int .u8 0, .int .u8 0, .int .u8 0, .int .u8 0, .int .u8 0, .int .u8 0, .int .u8 0, .int .u8 0, .int .u8 0, .int .u8 0, .int .u8 0, .int .u8 0, .int .u8 0, .int .u8 0, .int .u8 0, .int .u8 0, .int .u8 0, .int .u8 0, .int .u8 0, .int .u8 0, .int .u8 0, .int .u8 0, .int .u8 0, .int .u8 0, .int .u8 0, .int .u8 0], none⟩,
      ⟨none, .store 594 (.t 1) (.t 5), none⟩,
      ⟨(some 2), .move (.t 6), none⟩] none)
  (.seq (.reg [
      ⟨(some 7), .load false (some 594) (.t 1), none⟩,
      ⟨(some 8), .callf .plain 65 [(.t 7)], none⟩,
      ⟨(some 9), .callf .plain 66 [(.c (.int .i64 3))], none⟩,
      ⟨(some 10), .build [.int .i64 0, .nils, .nils, .nils, .int .i64 0, .nils, .nils] [(0, 4, (.t 8)), (4, 3, (.t 9))], none⟩,
      ⟨none, .store 7 (.t 0) (.t 10), none⟩] none)
  (.ret)))⟩
/-- loop.example.g01273.impl.NamedDga. -/
def p34 : Fn := ⟨2, 67, [.cell 4 (some 594), .tmp 5],
  .seq (.reg [
      ⟨(some 4), .alloc [.int .i64 0, .int .i64 0, .int .i64 0, .int .i64 0, .int .i64 0, .int .i64 0, .int .i64 0, .int .i64 0, .int .i64 0, .int .i64 0, .int .i64 0, .int .i64 0, .int .i64 0, .int .i64 0, .int .i64 0, .int .i64 0, .int .i64 0, .int .i64 0, .int .u8 0, .int .u8 0, .int .u8 0, .int .u8 0, .int .u8 0, .int .u8 0, .int .u8 0, .int .u8 0, .int .u8 0, .int .u8 0, .int .u8 0, .int .u8 0, .int .u8 0, .int .u8 0, .int .u8 0, .int .u8 0, .int .u8 0, .int .u8 0, .int .u8 0, .int .u8 0, .int .u8 0, .int .u8 0, .int .u8 0, .int .u8 0, .int .u8 0, .int .u8 0, .int .u8 0, .int .u8 0, .int .u8 0, .int .u8 0, .int .u8 0, .int .u8 0, .int .u8 0, .int .u8 0, .int .u8 0, .int .u8 0, .int .u8 0, .int .u8 0, .int .u8 0, .int .u8 0, .int .u8 0, .int .u8 0, .int .u8 0, .int .u8 0, .int .u8 0, .int .u8 0, .int .u8 0, .int .u8 0, .int .u8 0, .int .u8 0, .int .u8 0, .int .u8 0, .int .u8 0, .int .u8 0, .int .u8 0, .int .u8 0, .int .u8 0, .int .u8 0, .int .u8 0, .int .u8 0, .int .u8 0, .int .u8 0, .int .u8 0, .int .u8 0, .int .u8 0, .int .u8 0, .int .u8 0, .int .u8 0, .int .u8 0, .int .u8 0, .int .u8 0, .int .u8 0, .int .u8 0, .int .u8 0, .int .u8 0, .int .u8 0, .int .u8 0, .int .u8 0, .int .u8 0, .int .u8 0, .int .u8 0, .int .u8 0, .int .u8 0, .int .u8 0, .int .u8 0, .int .u8 0, .int .u8 0, .int .u8 0, .int .u8 0, .int .u8 0, .int .u8 0, .int .u8 0, .int .u8 0, .int .u8 0, .int .u8 0, .int .u8 0, .int .u8 0, .int .u8 0, .int .u8 0, .int .u8 0, .int .u8 0, .int .u8 0, .int .u8 0, .int .u8 0, .int .u8 0, .int .u8 0, .int .u8 0, .int .u8 0, .int .u8 0, .int .u8 0, .int .u8 0, .int .u8 0, .int .u8 0, .int .u8 0, .int .u8 0, .int .u8 0, .int .u8 0, .int .u8 0, .int .u8 0, .int .u8 0, .int .u8 0, .int .u8 0, .int .u8 0, .int .u8 0, .int .u8 0, .int .u8 0, .int .u8 0, .int .u8 0, .int .u8 0, .int .u8 0, .int .u8 0, .int .u8 0, .int .u8 0, .int .u8 0, .int .u8 0, .int .u8 0, .int .u8 0, .int .u8 0, .int .u8 0, .int .u8 0, .int .u8 0, .int .u8 0, .int .u8 0, .int .u8 0, .int .u8 0, .int .u8 0, .int .u8 0, .int .u8 0, .int .u8 0, .int .u8 0, .int .u8 0, .int .u8 0, .int .u8 0, .int .u8 0, .int .u8 0, .int .u8 0, .int .u8 0, .int .u8 0, .int .u8 0, .int .u8 0, .int .u8 0, .int .u8 0, .int .u8 0, .int .u8 0, .int .u8 0, .int .u8 0, .int .u8 0, .int .u8 0, .int .u8 0, .int .u8 0, .int .u8 0, .int .u8 0, .int .u8 0, .int .u8 0, .int .u8 0, .int .u8 0, .int .u8 0, .int .u8 0, .int .u8 0, .int .u8 0, .int .u8 0, .int .u8 0, .int .u8 0, .int .u8 0, .int .u8 0, .int .u8 0, .int .u8 0, .int .u8 0, .int .u8 0, .int .u8 0, .int .u8 0, .int .u8 0, .int .u8 0, .int .u8 0, .int .u8 0, .int .u8 0, .int .u8 0, .int .u8 0, .int .u8 0, .int .u8 0, .int .u8 0, .int .u8 0, .int .u8 0, .int .u8 0, .int .u8 0, .int .u8 0, .int .u8 0, .int .u8 0, .int .u8 0, .int .u8 0, .int .u8 0, .int .u8 0, .int .u8 0, .int .u8 0, .int .u8 0, .int .u8 0, .int .u8 0, .int .u8 0, .int .u8 0, .int .u8 0, .int .u8 0, .int .u8 0, .int .u8 0, .int .u8 0, .int .u8 0, .int .u8 0, .int .u8 0, .int .u8 0, .int .u8 0, .int .u8 0, .int .u8 0, .int .u8 0, .int .u8 0, .int .u8 0, .int .u8 0, .int .u8 0, .int .u8 0, .int .u8 0, .int .u8 0, .int .u8 0, .int .u8 0, .int .u8 0, .int .u8 0, .int .u8 0, .int .u8 0, .int .u8 0, .int .u8 0, .int .u8 0, .int .u8 0, .int .u8 0, .int .u8 0, .int .u8 0, .int .u8 0, .int .u8 0, .int .u8 0, .int .u8 0, .int .u8 0, .int .u8 0, .int .u8 0, .int .u8 0, .int .u8 0, .int .u8 0, .int .u8 0, .int .u8 0, .int .u8 0, .int .u8 0, .int .u8 0, .int .u8 0, .int .u8 0, .int .u8 0, .int .u8 0, .int .u8 0, .int .u8 0, .int .u8 0, .int .u8 0, .int .u8 0, .int .u8 0, .int .u8 0, .int .u8 0, .int .u8 0, .int .u8 0, .int .u8 0, .int .u8 0, .int .u8 0, .int .u8 0, .int .u8 0, .int .u8 0, .int .u8 0, .int .u8 0, .int .u8 0, .int .u8 0, .int .u8 0, .int .u8 0, .int .u8 0, .int .u8 0, .int .u8 0, .int .u8 0, .int .u8 0, .int .u8 0, .int .u8 0, .int .u8 0, .int .u8 0, .int .u8 0, .int .u8 0, .int .u8 0, .int .u8 0, .int .u8 0, .int .u8 0, .int .u8 0, .int .u8 0, .int .u8 0, .int .u8 0, .int .u8 0, .int .u8 0, .int .u8 0, .int .u8 0, .int .u8 0, .int .u8 0, .int .u8 0, .int .u8 0, .int .u8 0, .int .u8 0, .int .u8 0, .int .u8 0, .int .u8 0, .int .u8 0, .int .u8 0, .int .u8 0, .int .u8 0, .int .u8 0, .int .u8 0, .int .u8 0, .int .u8 0, .int .u8 0, .int .u8 0, .int .u8 0, .int .u8 0, .int .u8 0, .int .u8 0, .int .u8 0, .int .u8 0, .int .u8 0, .int .u8 0, .int .u8 0, .int .u8 0, .int .u8 0, .int .u8 0, .int .u8 0, .int .u8 0, .int .u8 0, .int .u8 0, .int .u8 0, .int .u8 0, .int .u8 0, .int .u8 0, .int .u8 0, .int .u8 0, .int .u8 0, .int .u8 0, .int .u8 0, .int .u8 0, .int .u8 0, .int .u8 0, .int .u8 0, .int .u8 0, .int .u8 0, .int .u8 0, .int .u8 0, .int .u8 0, .int .u8 0, .int .u8 0, .int .u8 0, .int .u8 0, .int .u8 0, .int .u8 0, .int .u8 0, .int .u8 0, .int .u8 0, .int .u8 0, .int .u8 0, .int .u8 0, .int .u8 0, .int .u8 0, .int .u8 0, .int .u8 0, .int .u8 0, .int .u8 0, .int .u8 0, .int .u8 0, .int .u8 0, .int .u8 0, .int .u8 0, .int .u8 0, .int .u8 0, .int .u8 0, .int .u8 0, .int .u8 0, .int .u8 0, .int .u8 0, .int .u8 0, .int .u8 0, .int .u8 0, .int .u8 0, .int .u8 0, .int .u8 0, .int .u8 0, .int .u8 0, .int .u8 0, .int .u8 0, .int .u8 0, .int .u8 0, .int .u8 0, .int .u8 0, .int .u8 0, .int .u8 0, .int .u8 0, .int .u8 0, .int .u8 0, .int .u8 0, .int .u8 0, .int .u8 0, .int .u8 0, .int .u8 0, .int .u8 0, .int .u8 0, .int .u8 0, .int .u8 0, .int .u8 0, .int .u8 0, .int .u8 0, .int .u8 0, .int .u8 0, .int .u8 0, .int .u8 0, .int .u8 0, .int .u8 0, .int .u8 0, .int .u8 0, .int .u8 0, .int .u8 0, .int .u8 0, .int .u8 0, .int .u8 0, .int .u8 0, .int .u8 0, .int .u8 0, .int .u8 0, .int .u8 0, .int .u8 0, .int .u8 0, .int .u8 0, .int .u8 0, .int .u8 0, .int .u8 0, .int .u8 0, .int .u8 0, .int .u8 0, .int .u8 0, .int .u8 0, .int .u8 0, .int .u8 0, .int .u8 0, .int .u8 0, .int .u8 0, .int .u8 0, .int .u8 0, .int .u8 0, .int .u8 0, .int .u8 0, .int .u8 0, .int .u8 0, .int .u8 0, .int .u8 0, .int .u8 0, .int .u8 0, .int .u8 0, .int .u8 0, .int .u8 0, .int .u8 0, .int .u8 0, .int .u8 0, .int .u8 0, .int .u8 0, .int .u8 0, .int .u8 0, .int .u8 0, .int .u8 0, .int .u8 0, .int .u8 0, .int .u8 0, .int .u8 0, .int .u8 0, .int .u8 0, .int .u8 0, .int .u8 0, .int .u8 0, .int .u8 0, .int .u8 0, .int .u8 0, .int .u8 0, .int .u8 0, .int .u8 0, .int .u8 0, .int .u8 0, .int .u8 0, .int .u8 0, .int .u8 0, .int .u8 0, .int .u8 0, .int .u8 0, .int .u8 0, .int .u8 0, .int .u8 0, .int .u8 0, .int .u8 0, .int .u8 0, .int .u8 0, .int .u8 0, .int .u8 0, .int .u8 0, .int .u8 0, .int .u8 0, .int .u8 0, .int .u8 0, .int .u8 0, .int .u8 0, .int .u8 0, .int .u8 0, .int .u8 0, .int .u8 0, .int .u8 0, .int .u8 0, .int .u8 0, .int .u8 0, .int .u8 0, .int .u8 0, .int .u8 0, .int .u8 0, .int .u8 0, .int .u8 0, .int .u8 0, .int .u8 0, .int .u8 0, .int .u8 0, .int .u8 0, .int .u8 0, .int .u8 0, .int .u8 0, .int .u8 0, .int .u8 0, .int .u8 0, .int .u8 0, .int .u8 0, .int .u8 0, .int .u8 0, .int .u8 0, .int .u8 0, .int .u8 0, .int .u8 0, .int .u8 0, .int .u8 0, .int .u8 0, .int .u8 0, .int .u8 0, .int .u8 0, .int .u8 0, .int .u8 0, .int .u8 0, .int .u8 0, .int .u8 0, .int .u8 0, .int .u8 0, .int .u8 0, .int .u8 0, .int .u8 0, .int .u8 0], none⟩,
      ⟨(some 5), .move (.c (.int .i64 0)), none⟩] none)
  (.seq (.seq (.reg [
        ⟨(some 8), .move (.t 1), none⟩,
        ⟨(some 9), .callf .plain 67 [(.t 8)], none⟩,
        ⟨(some 10), .un .not (.t 9), none⟩] none)
    (.cond (.t 10)
    (.seq (.reg [
          ⟨(some 11), .build [.int .i64 0, .int .i64 0, .int .i64 0, .int .i64 0, .int .i64 0, .int .i64 0, .int .i64 0, .int .i64 0, .int .i64 0, .int .i64 0, .int .i64 0, .int .i64 0, .int .i64 0, .int .i64 0, .int .i64 0, .int .i64 0, .int .i64 0, .int .i64 0, .int .u8 0, .int .u8 0, .int .u8 0, .int .u8 0, .int .u8 0, .int .u8 0, .int .u8 0, .int .u8 0, .int .u8 0, .int .u8 0, .int .u8 0, .int .u8 0, .int .u8 0, .int .u8 0, .int .u8 0, .int .u8 0, .int .u8 0, .int .u8 0, .int .u8 0, .int .u8 0, .int .u8 0, .int .u8 0, .int .u8 0, .int .u8 0, .int .u8 0, .int .u8 0, .int .u8 0, .int .u8 0, .int .u8 0, .int .u8 0, .int .u8 0, .int .u8 0, .int .u8 0, .int .u8 0, .int .u8 0, .int .u8 0, .int .u8 0, .int .u8 0, .int .u8 0, .int .u8 0, .int .u8 0, .int .u8 0, .int .u8 0, .int .u8 0, .int .u8 0, .int .u8 0, .int .u8 0, .int .u8 0, .int .u8 0, .int .u8 0, .int .u8 0, .int .u8 0, .int .u8 0, .int .u8 0, .int .u8 0, .int .u8 0, .int .u8 0, .int .u8 0, .int .u8 0, .int .u8 0, .int .u8 0, .int .u8 0, .int .u8 0, .int .u8 0, .int .u8 0, .int .u8 0, .int .u8 0, .int .u8 0, .int .u8 0, .int .u8 0, .int .u8 0, .int .u8 0, .int .u8 0, .int .u8 0, .int .u8 0, .int .u8 0, .int .u8 0, .int .u8 0, .int .u8 0, .int .u8 0, .int .u8 0, .int .u8 0, .int .u8 0, .int .u8 0, .int .u8 0, .int .u8 0, .int .u8 0, .int .u8 0, .int .u8 0, .int .u8 0, .int .u8 0, .int .u8 0, .int .u8 0, .int .u8 0, .int .u8 0, .int .u8 0, .int .u8 0, .int .u8 0, .int .u8 0, .int .u8 0, .int .u8 0, .int .u8 0, .int .u8 0, .int .u8 0, .int .u8 0, .int .u8 0, .int .u8 0, .int .u8 0, .int .u8 0, .int .u8 0, .int .u8 0, .int .u8 0, .int .u8 0, .int .u8 0, .int .u8 0, .int .u8 0, .int .u8 0, .int .u8 0, .int .u8 0, .int .u8 0, .int .u8 0, .int .u8 0, .int .u8 0, .int .u8 0, .int .u8 0, .int .u8 0, .int .u8 0, .int .u8 0, .int .u8 0, .int .u8 0, .int .u8 0, .int .u8 0, .int .u8 0, .int .u8 0, .int .u8 0, .int .u8 0, .int .u8 0, .int .u8 0, .int .u8 0, .int .u8 0, .int .u8 0, .int .u8 0, .int .u8 0, .int .u8 0, .int .u8 0, .int .u8 0, .int .u8 0, .int .u8 0, .int .u8 0, .int .u8 0, .int .u8 0, .int .u8 0, .int .u8 0, .int .u8 0, .int .u8 0, .int .u8 0, .int .u8 0, .int .u8 0, .int .u8 0, .int .u8 0, .int .u8 0, .int .u8 0, .int .u8 0, .int .u8 0, .int .u8 0, .int .u8 0, .int .u8 0, .int .u8 0, .int .u8 0, .int .u8 0, .int .u8 0, .int .u8 0, .int .u8 0, .int .u8 0, .int .u8 0, .int .u8 0, .int .u8 0, .int .u8 0, .int .u8 0, .int .u8 0, .int .u8 0, .int .u8 0, .int .u8 0, .int .u8 0, .int .u8 0, .int .u8 0, .int .u8 0, .int .u8 0, .int .u8 0, .int .u8 0, .int .u8 0, .int .u8 0, .int .u8 0, .int .u8 0, .int .u8 0, .int .u8 0, .int .u8 0, .int .u8 0, .int .u8 0, .int .u8 0, .int .u8 0, .int .u8 0, .int .u8 0, .int .u8 0, .int .u8 0, .int .u8 0, .int .u8 0, .int .u8 0, .int .u8 0, .int .u8 0, .int .u8 0, .int .u8 0, .int .u8 0, .int .u8 0, .int .u8 0, .int .u8 0, .int .u8 0, .int .u8 0, .int .u8 0, .int .u8 0, .int .u8 0, .int .u8 0, .int .u8 0, .int .u8 0, .int .u8 0, .int .u8 0, .int .u8 0, .int .u8 0, .int .u8 0, .int .u8 0, .int .u8 0, .int .u8 0, .int .u8 0, .int .u8 0, .int .u8 0, .int .u8 0, .int .u8 0, .int .u8 0, .int .u8 0, .int .u8 0, .int .u8 0, .int .u8 0, .int .u8 0, .int .u8 0, .int .u8 0, .int .u8 0, .int .u8 0, .int .u8 0, .int .u8 0, .int .u8 0, .int .u8 0, .int .u8 0, .int .u8 0, .int .u8 0, .int .u8 0, .int .u8 0, .int .u8 0, .int .u8 0, .int .u8 0, .int .u8 0, .int .u8 0, .int .u8 0, .int .u8 0, .int .u8 0, .int .u8 0, .int .u8 0, .int .u8 0, .int .u8 0, .int .u8 0, .int .u8 0, .int .u8 0, .int .u8 0, .int .u8 0, .int .u8 0, .int .u8 0, .int .u8 0, .int .u8 0, .int .u8 0, .int .u8 0, .int .u8 0, .int .u8 0, .int .u8 0, .int .u8 0, .int .u8 0, .int .u8 0, .int .u8 0, .int .u8 0, .int .u8 0, .int .u8 0, .int .u8 0, .int .u8 0, .int .u8 0, .int .u8 0, .int .u8 0, .int .u8 0, .int .u8 0, .int .u8 0, .int .u8 0, .int .u8 0, .int .u8 0, .int .u8 0, .int .u8 0, .int .u8 0, .int .u8 0, .int .u8 0, .int .u8 0, .int .u8 0, .int .u8 0, .int .u8 0, .int .u8 0, .int .u8 0, .int .u8 0, .int .u8 0, .int .u8 0, .int .u8 0, .int .u8 0, .int .u8 0, .int .u8 0, .int .u8 0, .int .u8 0, .int .u8 0, .int .u8 0, .int .u8 0, .int .u8 0, .int .u8 0, .int .u8 0, .int .u8 0, .int .u8 0, .int .u8 0, .int .u8 0, .int .u8 0, .int .u8 0, .int .u8 0, .int .u8 0, .int .u8 0, .int .u8 0, .int .u8 0, .int .u8 0, .int .u8 0, .int .u8 0, .int .u8 0, .int .u8 0, .int .u8 0, .int .u8 0, .int .u8 0, .int .u8 0, .int .u8 0, .int .u8 0, .int .u8 0, .int .u8 0, .int .u8 0, .int .u8 0, .int .u8 0, .int .u8 0, .int .u8 0, .int .u8 0, .int .u8 0, .int .u8 0, .int .u8 0, .int .u8 0, .int .u8 0, .int .u8 0, .int .u8 0, .int .u8 0, .int .u8 0, .int .u8 0, .int .u8 0, .int .u8 0, .int .u8 0, .int .u8 0, .int .u8 0, .int .u8 0, .int .u8 0, .int .u8 0, .int .u8 0, .int .u8 0, .int .u8 0, .int .u8 0, .int .u8 0, .int .u8 0, .int .u8 0, .int .u8 0, .int .u8 0, .int .u8 0, .int .u8 0, .int .u8 0, .int .u8 0, .int .u8 0, .int .u8 0, .int .u8 0, .int .u8 0, .int .u8 0, .int .u8 0, .int .u8 0, .int .u8 0, .int .u8 0, .int .u8 0, .int .u8 0, .int .u8 0, .int .u8 0, .int .u8 0, .int .u8 0, .int .u8 0, .int .u8 0, .int .u8 0, .int .u8 0, .int .u8 0, .int .u8 0, .int .u8 0, .int .u8 0, .int .u8 0, .int .u8 0, .int .u8 0, .int .u8 0, .int .u8 0, .int .u8 0, .int .u8 0, .int .u8 0, .int .u8 0, .int .u8 0, .int .u8 0, .int .u8 0, .int .u8 0, .int .u8 0, .int .u8 0, .int .u8 0, .int .u8 0, .int .u8 0, .int .u8 0, .int .u8 0, .int .u8 0, .int .u8 0, .int .u8 0, .int .u8 0, .int .u8 0, .int .u8 0, .int .u8 0, .int .u8 0, .int .u8 0, .int .u8 0, .int .u8 0, .int .u8 0, .int .u8 0, .int .u8 0, .int .u8 0, .int .u8 0, .int .u8 0, .int .u8 0, .int .u8 0, .int .u8 0, .int .u8 0, .int .u8 0, .int .u8 0, .int .u8 0, .int .u8 0, .int .u8 0, .int .u8 0, .int .u8 0, .int .u8 0, .int .u8 0, .int .u8 0, .int .u8 0, .int .u8 0, .int .u8 0, .int .u8 0, .int .u8 0, .int .u8 0, .int .u8 0, .int .u8 0, .int .u8 0, .int .u8 0, .int .u8 0, .int .u8 0, .int .u8 0, .int .u8 0, .int .u8 0, .int .u8 0, .int .u8 0, .int .u8 0, .int .u8 0, .int .u8 0, .int .u8 0, .int .u8 0, .int .u8 0, .int .u8 0, .int .u8 0, .int .u8 0, .int .u8 0, .int .u8 0, .int .u8 0, .int .u8 0, .int .u8 0, .int .u8 0, .int .u8 0, .int .u8 0, .int .u8 0, .int .u8 0, .int .u8 0, .int .u8 0, .int .u8 0, .int .u8 0, .int .u8 0, .int .u8 0, .int .u8 0, .int .u8 0, .int .u8 0, .int .u8 0, .int .u8 0, .int .u8 0, .int .u8 0, .int .u8 0, .int .u8 0, .int .u8 0, .int .u8 0, .int .u8 0, .int .u8 0, .int .u8 0, .int .u8 0, .int .u8 0, .int .u8 0, .int .u8 0, .int .u8 0, .int .u8 0, .int .u8 0, .int .u8 0, .int .u8 0, .int .u8 0, .int .u8 0, .int .u8 0, .int .u8 0, .int .u8 0, .int .u8 0, .int .u8 0, .int .u8 0, .int .u8 0, .int .u8 0, .int .u8 0, .int .u8 0, .int .u8 0, .int .u8 0, .int .u8 0, .int .u8 0, .int .u8 0, .int .u8 0, .int .u8 0, .int .u8 0, .int .u8 0, .int .u8 0, .int .u8 0, .int .u8 0, .int .u8 0, .int .u8 0, .int .u8 0, .int .u8 0, .int .u8 0, .int .u8 0, .int .u8 0, .int .u8 0, .int .u8 0, .int .u8 0, .int .u8 0, .int .u8 0, .int .u8 0, .int .u8 0, .int .u8 0, .int .u8 0, .int .u8 0, .int .u8 0, .int .u8 0, .int .u8 0, .int .u8 0, .int .u8 0, .int .u8 0, .int .u8 0, .int .u8 0, .int .u8 0] [], none⟩,
          ⟨none, .store 594 (.t 4) (.t 11), none⟩,
          ⟨(some 5), .move (.c (.int .i64 2)), none⟩] none)
      (.ret))
    (.skip)))
  (.seq (.seq (.reg [
        ⟨(some 12), .move (.t 0), none⟩] none)
    (.block 0 (.seq (.reg [
          ⟨(some 14), .bin 0 .eql (.t 12) (.c (.str [112, 111, 105, 110, 116])), none⟩,
          ⟨(some 13), .move (.t 14), none⟩] none)
      (.cond (.t 13)
      (.seq (.reg [
            ⟨(some 15), .move (.t 1), none⟩,
            ⟨(some 16), .buildSlice 1 1 [.int .i64 0] [(0, 1, (.c (.int .i64 0)))], none⟩,
            ⟨(some 17), .buildSlice 1 1 [.int .i64 0] [(0, 1, (.c (.int .i64 0)))], none⟩,
            ⟨(some 18), .callf (.pure []) 68 [(.t 15), (.t 16), (.t 17)], none⟩,
            ⟨none, .store 594 (.t 4) (.t 18), none⟩,
            ⟨(some 5), .move (.c (.int .i64 0)), none⟩] none)
        (.ret))
      (.seq (.reg [
            ⟨(some 20), .bin 0 .eql (.t 12) (.c (.str [99, 105, 114, 99, 108, 101])), none⟩,
            ⟨(some 19), .move (.t 20), none⟩] none)
        (.cond (.t 19)
        (.seq (.reg [
              ⟨(some 21), .move (.t 1), none⟩,
              ⟨(some 22), .buildSlice 1 2 [.int .i64 0, .int .i64 0] [(0, 1, (.c (.int .i64 0))), (1, 1, (.c (.int .i64 1)))], none⟩,
              ⟨(some 23), .buildSlice 1 2 [.int .i64 0, .int .i64 0] [(0, 1, (.c (.int .i64 0))), (1, 1, (.c (.int .i64 1)))], none⟩,
              ⟨(some 24), .callf (.pure []) 68 [(.t 21), (.t 22), (.t 23)], none⟩,
              ⟨none, .store 594 (.t 4) (.t 24), none⟩,
              ⟨(some 5), .move (.c (.int .i64 0)), none⟩] none)
          (.ret))
        (.seq (.reg [
              ⟨(some 26), .bin 0 .eql (.t 12) (.c (.str [116, 111, 114, 117, 115])), none⟩,
              ⟨(some 25), .move (.t 26), none⟩] none)
          (.cond (.t 25)
          (.seq (.reg [
                ⟨(some 27), .move (.t 1), none⟩,
                ⟨(some 28), .buildSlice 1 4 [.int .i64 0, .int .i64 0, .int .i64 0, .int .i64 0] [(0, 1, (.c (.int .i64 0))), (1, 1, (.c (.int .i64 1))), (2, 1, (.c (.int .i64 1))), (3, 1, (.c (.int .i64 2)))], none⟩,
                ⟨(some 29), .buildSlice 1 4 [.int .i64 0, .int .i64 0, .int .i64 0, .int .i64 0] [(0, 1, (.c (.int .i64 0))), (1, 1, (.c (.int .i64 1))), (2, 1, (.c (.int .i64 1))), (3, 1, (.c (.int .i64 2)))], none⟩,
                ⟨(some 30), .callf (.pure []) 68 [(.t 27), (.t 28), (.t 29)], none⟩,
                ⟨(some 6), .alloc [.int .i64 0, .int .i64 0, .int .i64 0, .int .i64 0, .int .i64 0, .int .i64 0, .int .i64 0, .int .i64 0, .int .i64 0, .int .i64 0, .int .i64 0, .int .i64 0, .int .i64 0, .int .i64 0, .int .i64 0, .int .i64 0, .int .i64 0, .int .i64 0, .int .u8 0, .int .u8 0, .int .u8 0, .int .u8 0, .int .u8 0, .int .u8 0, .int .u8 0, .int .u8 0, .int .u8 0, .int .u8 0, .int .u8 0, .int .u8 0, .int .u8 0, .int .u8 0, .int .u8 0, .int .u8 0, .int .u8 0, .int .u8 0, .int .u8 0, .int .u8 0, .int .u8 0, .int .u8 0, .int .u8 0, .int .u8 0, .int .u8 0, .int .u8 0, .int .u8 0, .int .u8 0, .int .u8 0, .int .u8 0, .int .u8 0, .int .u8 0, .int .u8 0, .int .u8 0, .int .u8 0, .int .u8 0, .int .u8 0, .int .u8 0, .int .u8 0, .int .u8 0, .int .u8 0, .int .u8 0, .int .u8 0, .int .u8 0, .int .u8 0, .int .u8 0, .int .u8 0, .int .u8 0, .int .u8 0, .int .u8 0, .int .u8 0, .int .u8 0, .int .u8 0, .int .u8 0, .int .u8 0, .int .u8 0, .int .u8 0, .int .u8 0, .int .u8 0, .int .u8 0, .int .u8 0, .int .u8 0, .int .u8 0, .int .u8 0, .int .u8 0, .int .u8 0, .int .u8 0, .int .u8 0, .int .u8 0, .int .u8 0, .int .u8 0, .int .u8 0, .int .u8 0, .int .u8 0, .int .u8 0, .int .u8 0, .int .u8 0, .int .u8 0, .int .u8 0, .int .u8 0, .int .u8 0, .int .u8 0, .int .u8 0, .int .u8 0, .int .u8 0, .int .u8 0, .int .u8 0, .int .u8 0, .int .u8 0, .int .u8 0, .int .u8 0, .int .u8 0, .int .u8 0, .int .u8 0, .int .u8 0, .int .u8 0, .int .u8 0, .int .u8 0, .int .u8 0, .int .u8 0, .int .u8 0, .int .u8 0, .int .u8 0, .int .u8 0, .int .u8 0, .int .u8 0, .int .u8 0, .int .u8 0, .int .u8 0, .int .u8 0, .int .u8 0, .int .u8 0, .int .u8 0, .int .u8 0, .int .u8 0, .int .u8 0, .int .u8 0, .int .u8 0, .int .u8 0, .int .u8 0, .int .u8 0, .int .u8 0, .int .u8 0, .int .u8 0, .int .u8 0, .int .u8 0, .int .u8 0, .int .u8 0, .int .u8 0, .int .u8 0, .int .u8 0, .int .u8 0, .int .u8 0, .int .u8 0, .int .u8 0, .int .u8 0, .int .u8 0, .int .u8 0, .int .u8 0, .int .u8 0, .int .u8 0, .int .u8 0, .int .u8 0, .int .u8 0, .int .u8 0, .int .u8 0, .int .u8 0, .int .u8 0, .int .u8 0, .int .u8 0, .int .u8 0, .int .u8 0, .int .u8 0, .int .u8 0, .int .u8 0, .int .u8 0, .int .u8 0, .int .u8 0, .int .u8 0, .int .u8 0, .int .u8 0, .int .u8 0, .int .u8 0, .int .u8 0, .int .u8 0, .int .u8 0, .int .u8 0, .int .u8 0, .int .u8 0, .int .u8 0, .int .u8 0, .int .u8 0, .int .u8 0, .int .u8 0, .int .u8 0, .int .u8 0, .int .u8 0, .int .u8 0, .int .u8 0, .int .u8 0, .int .u8 0, .int .u8 0, .int .u8 0, .int .u8 0, .int .u8 0, .int .u8 0, .int .u8 0, .int .u8 0, .int .u8 0, .int .u8 0, .int .u8 0, .int .u8 0, .int .u8 0, .int .u8 0, .int .u8 0, .int .u8 0, .int .u8 0, .int .u8 0, .int .u8 0, .int .u8 0, .int .u8 0, .int .u8 0, .int .u8 0, .int .u8 0, .int .u8 0, .int .u8 0, .int .u8 0, .int .u8 0, .int .u8 0, .int .u8 0, .int .u8 0, .int .u8 0, .int .u8 0, .int .u8 0, .int .u8 0, .int .u8 0, .int .u8 0, .int .u8 0, .int .u8 0, .int .u8 0, .int .u8 0, .int .u8 0, .int .u8 0, .int .u8 0, .int .u8 0, .int .u8 0, .int .u8 0, .int .u8 0, .int .u8 0, .int .u8 0, .int .u8 0, .int .u8 0, .int .u8 0, .int .u8 0, .int .u8 0, .int .u8 0, .int .u8 0, .int .u8 0, .int .u8 0, .int .u8 0, .int .u8 0, .int .u8 0, .int .u8 0, .int .u8 0, .int .u8 0, .int .u8 0, .int .u8 0, .int .u8 0, .int .u8 0, .int .u8 0, .int .u8 0, .int .u8 0, .int .u8 0, .int .u8 0, .int .u8 0, .int .u8 0, .int .u8 0, .int .u8 0, .int .u8 0, .int .u8 0, .int .u8 0, .int .u8 0, .int .u8 0, .int .u8 0, .int .u8 0, .int .u8 0, .int .u8 0, .int .u8 0, .int .u8 0, .int .u8 0, .int .u8 0, .int .u8 0, .int .u8 0, .int .u8 0, .int .u8 0, .int .u8 0, .int .u8 0, .int .u8 0, .int .u8 0, .int .u8 0, .int .u8 0, .int .u8 0, .int .u8 0, .int .u8 0, .int .u8 0, .int .u8 0, .int .u8 0, .int .u8 0, .int .u8 0, .int .u8 0, .int .u8 0, .int .u8 0, .int .u8 0, .int .u8 0, .int .u8 0, .int .u8 0, .int .u8 0, .int .u8 0, .int .u8 0, .int .u8 0, .int .u8 0, .int .u8 0, .int .u8 0, .int .u8 0, .int .u8 0, .int .u8 0, .int .u8 0, .int .u8 0, .int .u8 0, .int .u8 0, .int .u8 0, .int .u8 0, .int .u8 0, .int .u8 0, .int .u8 0, .int .u8 0, .int .u8 0, .int .u8 0, .int .u8 0, .int .u8 0, .int .u8 0, .int .u8 0, .int .u8 0, .int .u8 0, .int .u8 0, .int .u8 0, .int .u8 0, .int .u8 0, .int .u8 0, .int .u8 0, .int .u8 0, .int .u8 0, .int .u8 0, .int .u8 0, .int .u8 0, .int .u8 0, .int .u8 0, .int .u8 0, .int .u8 0, .int .u8 0, .int .u8 0, .int .u8 0, .int .u8 0, .int .u8 0, .int .u8 0, .int .u8 0, .int .u8 0, .int .u8 0, .int .u8 0, .int .u8 0, .int .u8 0, .int .u8 0, .int .u8 0, .int .u8 0, .int .u8 0, .int .u8 0, .int .u8 0, .int .u8 0, .int .u8 0, .int .u8 0, .int .u8 0, .int .u8 0, .int .u8 0, .int .u8 0, .int .u8 0, .int .u8 0, .int .u8 0, .int .u8 0, .int .u8 0, .int .u8 0, .int .u8 0, .int .u8 0, .int .u8 0, .int .u8 0, .int .u8 0, .int .u8 0, .int .u8 0, .int .u8 0, .int .u8 0, .int .u8 0, .int .u8 0, .int .u8 0, .int .u8 0, .int .u8 0, .int .u8 0, .int .u8 0, .int .u8 0, .int .u8 0, .int .u8 0, .int .u8 0, .int .u8 0, .int .u8 0, .int .u8 0, .int .u8 0, .int .u8 0, .int .u8 0, .int .u8 0, .int .u8 0, .int .u8 0, .int .u8 0, .int .u8 0, .int .u8 0, .int .u8 0, .int .u8 0, .int .u8 0, .int .u8 0, .int .u8 0, .int .u8 0, .int .u8 0, .int .u8 0, .int .u8 0, .int .u8 0, .int .u8 0, .int .u8 0, .int .u8 0, .int .u8 0, .int .u8 0, .int .u8 0, .int .u8 0, .int .u8 0, .int .u8 0, .int .u8 0, .int .u8 0, .int .u8 0, .int .u8 0, .int .u8 0, .int .u8 0, .int .u8 0, .int .u8 0, .int .u8 0, .int .u8 0, .int .u8 0, .int .u8 0, .int .u8 0, .int .u8 0, .int .u8 0, .int .u8 0, .int .u8 0, .int .u8 0, .int .u8 0, .int .u8 0, .int .u8 0, .int .u8 0, .int .u8 0, .int .u8 0, .int .u8 0, .int .u8 0, .int .u8 0, .int .u8 0, .int .u8 0, .int .u8 0, .int .u8 0, .int .u8 0, .int .u8 0, .int .u8 0, .int .u8 0, .int .u8 0, .int .u8 0, .int .u8 0, .int .u8 0, .int .u8 0, .int .u8 0, .int .u8 0, .int .u8 0, .int .u8 0, .int .u8 0, .int .u8 0, .int .u8 0, .int .u8 0, .int .u8 0, .int .u8 0, .int .u8 0, .int .u8 0, .int .u8 0, .int .u8 0, .int .u8 0, .int .u8 0, .int .u8 0, .int .u8 0, .int .u8 0, .int .u8 0, .int .u8 0, .int .u8 0, .int .u8 0, .int .u8 0, .int .u8 0, .int .u8 0, .int .u8 0, .int .u8 0, .int .u8 0, .int .u8 0, .int .u8 0, .int .u8 0, .int .u8 0, .int .u8 0, .int .u8 0, .int .u8 0, .int .u8 0, .int .u8 0, .int .u8 0, .int .u8 0, .int .u8 0, .int .u8 0, .int .u8 0, .int .u8 0, .int .u8 0, .int .u8 0, .int .u8 0, .int .u8 0, .int .u8 0, .int .u8 0, .int .u8 0, .int .u8 0, .int .u8 0, .int .u8 0, .int .u8 0, .int .u8 0, .int .u8 0, .int .u8 0, .int .u8 0, .int .u8 0, .int .u8 0, .int .u8 0, .int .u8 0, .int .u8 0, .int .u8 0, .int .u8 0, .int .u8 0, .int .u8 0, .int .u8 0, .int .u8 0, .int .u8 0, .int .u8 0, .int .u8 0, .int .u8 0, .int .u8 0, .int .u8 0, .int .u8 0, .int .u8 0, .int .u8 0, .int .u8 0, .int .u8 0, .int .u8 0, .int .u8 0, .int .u8 0, .int .u8 0, .int .u8 0, .int .u8 0, .int .u8 0, .int .u8 0, .int .u8 0, .int .u8 0, .int .u8 0, .int .u8 0, .int .u8 0, .int .u8 0, .int .u8 0, .int .u8 0, .int .u8 0, .int .u8 0, .int .u8 0, .int .u8 0, .int .u8 0, .int .u8 0, .int .u8 0, .int .u8 0, .int .u8 0, .int .u8 0, .int .u8 0, .int .u8 0, .int .u8 0, .int .u8 0, .int .u8 0, .int .u8 0, .int .u8 0, .int .u8 0], none⟩,
                ⟨none, .store 594 (.t 6) (.t 30), none⟩] none)
            (.seq (.reg [
                ⟨(some 31), .load false (some 594) (.t 6), none⟩,
                ⟨(some 32), .callf .plain 69 [(.t 31), (.c (.int .i64 3))], none⟩,
                ⟨(some 33), .fieldAddr 82 (.t 6), none⟩,
                ⟨(some 34), .indexAddr (some 8) 64 (.t 33) (.c (.int .i64 1)), none⟩,
                ⟨(some 35), .indexAddr (some 8) 8 (.t 34) (.c (.int .i64 2)), none⟩,
                ⟨none, .store 8 (.t 35) (.t 32), none⟩] none)
            (.seq (.reg [
                ⟨(some 36), .load false (some 594) (.t 6), none⟩,
                ⟨(some 37), .build [.int .u8 0, .int .u8 0, .int .u8 0, .int .u8 0, .int .u8 0, .int .u8 0, .int .u8 0, .int .u8 0] [], none⟩,
                ⟨(some 38), .load false (some 594) (.t 6), none⟩,
                ⟨(some 39), .callf (.pure []) 69 [(.t 38), (.c (.int .i64 3))], none⟩,
                ⟨(some 40), .callf (.pure []) 70 [(.t 36), (.t 37), (.t 39), (.c (.int .i64 (-1)))], none⟩,
                ⟨(some 41), .fieldAddr 82 (.t 6), none⟩,
                ⟨(some 42), .indexAddr (some 8) 64 (.t 41) (.c (.int .i64 2)), none⟩,
                ⟨(some 43), .indexAddr (some 8) 8 (.t 42) (.c (.int .i64 1)), none⟩,
                ⟨none, .store 8 (.t 43) (.t 40), none⟩] (some [[], [], [], [2], [0, 1, 3, 3], [], [5], [6, 0, 1, 2, 3, 4], [7, 4, 4, 0, 1, 2, 3, 4]]))
            (.seq (.reg [
                ⟨(some 44), .load false (some 594) (.t 6), none⟩,
                ⟨none, .store 594 (.t 4) (.t 44), none⟩,
                ⟨(some 5), .move (.c (.int .i64 0)), none⟩] none)
            (.ret)))))
          (.seq (.reg [
                ⟨(some 46), .bin 0 .eql (.t 12) (.c (.str [100, 105, 115, 99])), none⟩,
                ⟨(some 45), .move (.t 46), none⟩] none)
            (.cond (.t 45)
            (.seq (.reg [
                  ⟨(some 47), .move (.t 1), none⟩,
                  ⟨(some 48), .buildSlice 1 4 [.int .i64 0, .int .i64 0, .int .i64 0, .int .i64 0] [(0, 1, (.c (.int .i64 0))), (1, 1, (.c (.int .i64 0))), (2, 1, (.c (.int .i64 1))), (3, 1, (.c (.int .i64 1)))], none⟩,
                  ⟨(some 49), .buildSlice 1 4 [.int .i64 0, .int .i64 0, .int .i64 0, .int .i64 0] [(0, 1, (.c (.int .i64 0))), (1, 1, (.c (.int .i64 1))), (2, 1, (.c (.int .i64 1))), (3, 1, (.c (.int .i64 2)))], none⟩,
                  ⟨(some 50), .callf (.pure []) 68 [(.t 47), (.t 48), (.t 49)], none⟩,
                  ⟨(some 7), .alloc [.int .i64 0, .int .i64 0, .int .i64 0, .int .i64 0, .int .i64 0, .int .i64 0, .int .i64 0, .int .i64 0, .int .i64 0, .int .i64 0, .int .i64 0, .int .i64 0, .int .i64 0, .int .i64 0, .int .i64 0, .int .i64 0, .int .i64 0, .int .i64 0, .int .u8 0, .int .u8 0, .int .u8 0, .int .u8 0, .int .u8 0, .int .u8 0, .int .u8 0, .int .u8 0, .int .u8 0, .int .u8 0, .int .u8 0, .int .u8 0, .int .u8 0, .int .u8 0, .int .u8 0, .int .u8 0, .int .u8 0, .int .u8 0, .int .u8 0, .int .u8 0, .int .u8 0, .int .u8 0, .int .u8 0, .int .u8 0, .int .u8 0, .int .u8 0, .int .u8 0, .int .u8 0, .int .u8 0, .int .u8 0, .int .u8 0, .int .u8 0, .int .u8 0, .int .u8 0, .int .u8 0, .int .u8 0, .int .u8 0, .int .u8 0, .int .u8 0, .int .u8 0, .int .u8 0, .int .u8 0, .int .u8 0, .int .u8 0, .int .u8 0, .int .u8 0, .int .u8 0, .int .u8 0, .int .u8 0, .int .u8 0, .int .u8 0, .int .u8 0, .int .u8 0, .int .u8 0, .int .u8 0, .int .u8 0, .int .u8 0, .int .u8 0, .int .u8 0, .int .u8 0, .int .u8 0, .int .u8 0, .int .u8 0, .int .u8 0, .int .u8 0, .int .u8 0, .int .u8 0, .int .u8 0, .int .u8 0, .int .u8 0, .int .u8 0, .int .u8 0, .int .u8 0, .int .u8 0, .int .u8 0, .int .u8 0, .int .u8 0, .int .u8 0, .int .u8 0, .int .u8 0, .int .u8 0, .int .u8 0, .int .u8 0, .int .u8 0, .int .u8 0, .int .u8 0, .int .u8 0, .int .u8 0, .int .u8 0, .int .u8 0, .int .u8 0, .int .u8 0, .int .u8 0, .int .u8 0, .int .u8 0, .int .u8 0, .int .u8 0, .int .u8 0, .int .u8 0, .int .u8 0, .int .u8 0, .int .u8 0, .int .u8 0, .int .u8 0, .int .u8 0, .int .u8 0, .int .u8 0, .int .u8 0, .int .u8 0, .int .u8 0, .int .u8 0, .int .u8 0, .int .u8 0, .int .u8 0, .int .u8 0, .int .u8 0, .int .u8 0, .int .u8 0, .int .u8 0, .int .u8 0, .int .u8 0, .int .u8 0, .int .u8 0, .int .u8 0, .int .u8 0, .int .u8 0, .int .u8 0, .int .u8 0, .int .u8 0, .int .u8 0, .int .u8 0, .int .u8 0, .int .u8 0, .int .u8 0, .int .u8 0, .int .u8 0, .int .u8 0, .int .u8 0, .int .u8 0, .int .u8 0, .int .u8 0, .int .u8 0, .int .u8 0, .int .u8 0, .int .u8 0, .int .u8 0, .int .u8 0, .int .u8 0, .int .u8 0, .int .u8 0, .int .u8 0, .int .u8 0, .int .u8 0, .int .u8 0, .int .u8 0, .int .u8 0, .int .u8 0, .int .u8 0, .int .u8 0, .int .u8 0, .int .u8 0, .int .u8 0, .int .u8 0, .int .u8 0, .int .u8 0, .int .u8 0, .int .u8 0, .int .u8 0, .int .u8 0, .int .u8 0, .int .u8 0, .int .u8 0, .int .u8 0, .int .u8 0, .int .u8 0, .int .u8 0, .int .u8 0, .int .u8 0, .int .u8 0, .int .u8 0, .int .u8 0, .int .u8 0, .int .u8 0, .int .u8 0, .int .u8 0, .int .u8 0, .int .u8 0, .int .u8 0, .int .u8 0, .int .u8 0, .int .u8 0, .int .u8 0, .int .u8 0, .int .u8 0, .int .u8 0, .int .u8 0, .int .u8 0, .int .u8 0, .int .u8 0, .int .u8 0, .int .u8 0, .int .u8 0, .int .u8 0, .int .u8 0, .int .u8 0, .int .u8 0, .int .u8 0, .int .u8 0, .int .u8 0, .int .u8 0, .int .u8 0, .int .u8 0, .int .u8 0, .int .u8 0, .int .u8 0, .int .u8 0, .int .u8 0, .int .u8 0, .int .u8 0, .int .u8 0, .int .u8 0, .int .u8 0, .int .u8 0, .int .u8 0, .int .u8 0, .int .u8 0, .int .u8 0, .int .u8 0, .int .u8 0, .int .u8 0, .int .u8 0, .int .u8 0, .int .u8 0, .int .u8 0, .int .u8 0, .int .u8 0, .int .u8 0, .int .u8 0, .int .u8 0, .int .u8 0, .int .u8 0, .int .u8 0, .int .u8 0, .int .u8 0, .int .u8 0, .int .u8 0, .int .u8 0, .int .u8 0, .int .u8 0, .int .u8 0, .int .u8 0, .int .u8 0, .int .u8 0, .int .u8 0, .int .u8 0, .int .u8 0, .int .u8 0, .int .u8 0, .int .u8 0, .int .u8 0, .int .u8 0, .int .u8 0, .int .u8 0, .int .u8 0, .int .u8 0, .int .u8 0, .int .u8 0, .int .u8 0, .int .u8 0, .int .u8 0, .int .u8 0, .int .u8 0, .int .u8 0, .int .u8 0, .int .u8 0, .int .u8 0, .int .u8 0, .int .u8 0, .int .u8 0, .int .u8 0, .int .u8 0, .int .u8 0, .int .u8 0, .int .u8 0, .int .u8 0, .int .u8 0, .int .u8 0, .int .u8 0, .int .u8 0, .int .u8 0, .int .u8 0, .int .u8 0, .int .u8 0, .int .u8 0, .int .u8 0, .int .u8 0, .int .u8 0, .int .u8 0, .int .u8 0, .int .u8 0, .int .u8 0, .int .u8 0, .int .u8 0, .int .u8 0, .int .u8 0, .int .u8 0, .int .u8 0, .int .u8 0, .int .u8 0, .int .u8 0, .int .u8 0, .int .u8 0, .int .u8 0, .int .u8 0, .int .u8 0, .int .u8 0, .int .u8 0, .int .u8 0, .int .u8 0, .int .u8 0, .int .u8 0, .int .u8 0, .int .u8 0, .int .u8 0, .int .u8 0, .int .u8 0, .int .u8 0, .int .u8 0, .int .u8 0, .int .u8 0, .int .u8 0, .int .u8 0, .int .u8 0, .int .u8 0, .int .u8 0, .int .u8 0, .int .u8 0, .int .u8 0, .int .u8 0, .int .u8 0, .int .u8 0, .int .u8 0, .int .u8 0, .int .u8 0, .int .u8 0, .int .u8 0, .int .u8 0, .int .u8 0, .int .u8 0, .int .u8 0, .int .u8 0, .int .u8 0, .int .u8 0, .int .u8 0, .int .u8 0, .int .u8 0, .int .u8 0, .int .u8 0, .int .u8 0, .int .u8 0, .int .u8 0, .int .u8 0, .int .u8 0, .int .u8 0, .int .u8 0, .int .u8 0, .int .u8 0, .int .u8 0, .int .u8 0, .int .u8 0, .int .u8 0, .int .u8 0, .int .u8 0, .int .u8 0, .int .u8 0, .int .u8 0, .int .u8 0, .int .u8 0, .int .u8 0, .int .u8 0, .int .u8 0, .int .u8 0, .int .u8 0, .int .u8 0, .int .u8 0, .int .u8 0, .int .u8 0, .int .u8 0, .int .u8 0, .int .u8 0, .int .u8 0, .int .u8 0, .int .u8 0, .int .u8 0, .int .u8 0, .int .u8 0, .int .u8 0, .int .u8 0, .int .u8 0, .int .u8 0, .int .u8 0, .int .u8 0, .int .u8 0, .int .u8 0, .int .u8 0, .int .u8 0, .int .u8 0, .int .u8 0, .int .u8 0, .int .u8 0, .int .u8 0, .int .u8 0, .int .u8 0, .int .u8 0, .int .u8 0, .int .u8 0, .int .u8 0, .int .u8 0, .int .u8 0, .int .u8 0, .int .u8 0, .int .u8 0, .int .u8 0, .int .u8 0, .int .u8 0, .int .u8 0, .int .u8 0, .int .u8 0, .int .u8 0, .int .u8 0, .int .u8 0, .int .u8 0, .int .u8 0, .int .u8 0, .int .u8 0, .int .u8 0, .int .u8 0, .int .u8 0, .int .u8 0, .int .u8 0, .int .u8 0, .int .u8 0, .int .u8 0, .int .u8 0, .int .u8 0, .int .u8 0, .int .u8 0, .int .u8 0, .int .u8 0, .int .u8 0, .int .u8 0, .int .u8 0, .int .u8 0, .int .u8 0, .int .u8 0, .int .u8 0, .int .u8 0, .int .u8 0, .int .u8 0, .int .u8 0, .int .u8 0, .int .u8 0, .int .u8 0, .int .u8 0, .int .u8 0, .int .u8 0, .int .u8 0, .int .u8 0, .int .u8 0, .int .u8 0, .int .u8 0, .int .u8 0, .int .u8 0, .int .u8 0, .int .u8 0, .int .u8 0, .int .u8 0, .int .u8 0, .int .u8 0, .int .u8 0, .int .u8 0, .int .u8 0, .int .u8 0, .int .u8 0, .int .u8 0, .int .u8 0, .int .u8 0, .int .u8 0, .int .u8 0, .int .u8 0, .int .u8 0, .int .u8 0, .int .u8 0, .int .u8 0, .int .u8 0, .int .u8 0, .int .u8 0, .int .u8 0, .int .u8 0, .int .u8 0, .int .u8 0, .int .u8 0, .int .u8 0, .int .u8 0, .int .u8 0, .int .u8 0, .int .u8 0, .int .u8 0, .int .u8 0, .int .u8 0, .int .u8 0, .int .u8 0, .int .u8 0, .int .u8 0, .int .u8 0, .int .u8 0, .int .u8 0, .int .u8 0, .int .u8 0, .int .u8 0, .int .u8 0, .int .u8 0, .int .u8 0, .int .u8 0, .int .u8 0, .int .u8 0, .int .u8 0, .int .u8 0, .int .u8 0, .int .u8 0, .int .u8 0, .int .u8 0, .int .u8 0, .int .u8 0, .int .u8 0, .int .u8 0, .int .u8 0, .int .u8 0, .int .u8 0, .int .u8 0, .int .u8 0, .int .u8 0, .int .u8 0, .int .u8 0, .int .u8 0, .int .u8 0, .int .u8 0, .int .u8 0, .int .u8 0, .int .u8 0, .int .u8 0, .int .u8 0, .int .u8 0, .int .u8 0, .int .u8 0, .int .u8 0, .int .u8 0, .int .u8 0, .int .u8 0, .int .u8 0, .int .u8 0, .int .u8 0, .int .u8 0, .int .u8 0, .int .u8 0, .int .u8 0, .int .u8 0, .int .u8 0, .int .u8 0, .int .u8 0, .int .u8 0, .int .u8 0, .int .u8 0, .int .u8 0, .int .u8 0, .int .u8 0], none⟩,
                  ⟨none, .store 594 (.t 7) (.t 50), none⟩] none)
              (.seq (.reg [
                  ⟨(some 51), .load false (some 594) (.t 7), none⟩,
                  ⟨(some 52), .callf (.pure []) 69 [(.t 51), (.c (.int .i64 3))], none⟩,
                  ⟨(some 53), .load false (some 594) (.t 7), none⟩,
                  ⟨(some 54), .callf (.pure []) 69 [(.t 53), (.c (.int .i64 3))], none⟩,
                  ⟨(some 55), .fieldAddr 82 (.t 7), none⟩,
                  ⟨(some 56), .indexAddr (some 8) 64 (.t 55) (.c (.int .i64 1)), none⟩,
                  ⟨(some 57), .indexAddr (some 8) 8 (.t 56) (.c (.int .i64 2)), none⟩,
                  ⟨none, .store 8 (.t 57) (.t 52), none⟩,
                  ⟨(some 58), .fieldAddr 82 (.t 7), none⟩,
                  ⟨(some 59), .indexAddr (some 8) 64 (.t 58) (.c (.int .i64 2)), none⟩,
                  ⟨(some 60), .indexAddr (some 8) 8 (.t 59) (.c (.int .i64 1)), none⟩,
                  ⟨none, .store 8 (.t 60) (.t 54), none⟩] (some [[], [0], [], [2, 1], [], [4], [5, 0, 1, 2], [6, 1, 3, 0, 1, 2], [], [8], [9, 0, 1, 2, 3, 4, 5, 6, 7], [10, 3, 7, 0, 1, 2, 3, 4, 5, 6, 7]]))
              (.seq (.reg [
                  ⟨(some 61), .load false (some 594) (.t 7), none⟩,
                  ⟨(some 62), .callf .plain 69 [(.t 61), (.c (.int .i64 1))], none⟩,
                  ⟨(some 63), .fieldAddr 18 (.t 7), none⟩,
                  ⟨(some 64), .indexAddr (some 8) 8 (.t 63) (.c (.int .i64 2)), none⟩,
                  ⟨none, .store 8 (.t 64) (.t 62), none⟩] none)
              (.seq (.reg [
                  ⟨(some 65), .load false (some 594) (.t 7), none⟩,
                  ⟨none, .store 594 (.t 4) (.t 65), none⟩,
                  ⟨(some 5), .move (.c (.int .i64 0)), none⟩] none)
              (.ret)))))
            (.skip)))))))))))
  (.seq (.reg [
      ⟨(some 66), .build [.int .i64 0, .int .i64 0, .int .i64 0, .int .i64 0, .int .i64 0, .int .i64 0, .int .i64 0, .int .i64 0, .int .i64 0, .int .i64 0, .int .i64 0, .int .i64 0, .int .i64 0, .int .i64 0, .int .i64 0, .int .i64 0, .int .i64 0, .int .i64 0, .int .u8 0, .int .u8 0, .int .u8 0, .int .u8 0, .int .u8 0, .int .u8 0, .int .u8 0, .int .u8 0, .int .u8 0, .int .u8 0, .int .u8 0, .int .u8 0, .int .u8 0, .int .u8 0, .int .u8 0, .int .u8 0, .int .u8 0, .int .u8 0, .int .u8 0, .int .u8 0, .int .u8 0, .int .u8 0, .int .u8 0, .int .u8 0, .int .u8 0, .int .u8 0, .int .u8 0, .int .u8 0, .int .u8 0, .int .u8 0, .int .u8 0, .int .u8 0, .int .u8 0, .int .u8 0, .int .u8 0, .int .u8 0, .int .u8 0, .int .u8 0, .int .u8 0, .int .u8 0, .int .u8 0, .int .u8 0, .int .u8 0, .int .u8 0, .int .u8 0, .int .u8 0, .int .u8 0, .int .u8 0, .int .u8 0, .int .u8 0, .int .u8 0, .int .u8 0, .int .u8 0, .int .u8 0, .int .u8 0, .int .u8 0, .int .u8 0, .int .u8 0, .int .u8 0, .int .u8 0, .int .u8 0, .int .u8 0, .int .u8 0, .int .u8 0, .int .u8 0, .int .u8 0, .int .u8 0, .int .u8 0, .int .u8 0, .int .u8 0, .int .u8 0, .int .u8 0, .int .u8 0, .int .u8 0, .int .u8 0, .int .u8 0, .int .u8 0, .int .u8 0, .int .u8 0, .int .u8 0, .int .u8 0, .int .u8 0, .int .u8 0, .int .u8 0, .int .u8 0, .int .u8 0, .int .u8 0, .int .u8 0, .int .u8 0, .int .u8 0, .int .u8 0, .int .u8 0, .int .u8 0, .int .u8 0, .int .u8 0, .int .u8 0, .int .u8 0, .int .u8 0, .int .u8 0, .int .u8 0, .int .u8 0, .int .u8 0, .int .u8 0, .int .u8 0, .int .u8 0, .int .u8 0, .int .u8 0, .int .u8 0, .int .u8 0, .int .u8 0, .int .u8 0, .int .u8 0, .int .u8 0, .int .u8 0, .int .u8 0, .int .u8 0, .int .u8 0, .int .u8 0, .int .u8 0, .int .u8 0, .int .u8 0, .int .u8 0, .int .u8 0, .int .u8 0, .int .u8 0, .int .u8 0, .int .u8 0, .int .u8 0, .int .u8 0, .int .u8 0, .int .u8 0, .int .u8 0, .int .u8 0, .int .u8 0, .int .u8 0, .int .u8 0, .int .u8 0, .int .u8 0, .int .u8 0, .int .u8 0, .int .u8 0, .int .u8 0, .int .u8 0, .int .u8 0, .int .u8 0, .int .u8 0, .int .u8 0, .int .u8 0, .int .u8 0, .int .u8 0, .int .u8 0, .int .u8 0, .int .u8 0, .int .u8 0, .int .u8 0, .int .u8 0, .int .u8 0, .int .u8 0, .int .u8 0, .int .u8 0, .int .u8 0, .int .u8 0, .int .u8 0, .int .u8 0, .int .u8 0, .int .u8 0, .int .u8 0, .int .u8 0, .int .u8 0, .int .u8 0, .int .u8 0, .int .u8 0, .int .u8 0, .int .u8 0, .int .u8 0, .int .u8 0, .int .u8 0, .int .u8 0, .int .u8 0, .int .u8 0, .int .u8 0, .int .u8 0, .int .u8 0, .int .u8 0, .int .u8 0, .int .u8 0, .int .u8 0, .int .u8 0, .int .u8 0, .int .u8 0, .int .u8 0, .int .u8 0, .int .u8 0, .int .u8 0, .int .u8 0, .int .u8 0, .int .u8 0, .int .u8 0, .int .u8 0, .int .u8 0, .int .u8 0, .int .u8 0, .int .u8 0, .int .u8 0, .int .u8 0, .int .u8 0, .int .u8 0, .int .u8 0, .int .u8 0, .int .u8 0, .int .u8 0, .int .u8 0, .int .u8 0, .int .u8 0, .int .u8 0, .int .u8 0, .int .u8 0, .int .u8 0, .int .u8 0, .int .u8 0, .int .u8 0, .int .u8 0, .int .u8 0, .int .u8 0, .int .u8 0, .int .u8 0, .int .u8 0, .int .u8 0, .int .u8 0, .int .u8 0, .int .u8 0, .int .u8 0, .int .u8 0, .int .u8 0, .int .u8 0, .int .u8 0, .int .u8 0, .int .u8 0, .int .u8 0, .int .u8 0, .int .u8 0, .int .u8 0, .int .u8 0, .int .u8 0, .int .u8 0, .int .u8 0, .int .u8 0, .int .u8 0, .int .u8 0, .int .u8 0, .int .u8 0, .int .u8 0, .int .u8 0, .int .u8 0, .int .u8 0, .int .u8 0, .int .u8 0, .int .u8 0, .int .u8 0, .int .u8 0, .int .u8 0, .int .u8 0, .int .u8 0, .int .u8 0, .int .u8 0, .int .u8 0, .int .u8 0, .int .u8 0, .int .u8 0, .int .u8 0, .int .u8 0, .int .u8 0, .int .u8 0, .int .u8 0, .int .u8 0, .int .u8 0, .int .u8 0, .int .u8 0, .int .u8 0, .int .u8 0, .int .u8 0, .int .u8 0, .int .u8 0, .int .u8 0, .int .u8 0, .int .u8 0, .int .u8 0, .int .u8 0, .int .u8 0, .int .u8 0, .int .u8 0, .int .u8 0, .int .u8 0, .int .u8 0, .int .u8 0, .int .u8 0, .int .u8 0, .int .u8 0, .int .u8 0, .int .u8 0, .int .u8 0, .int .u8 0, .int .u8 0, .int .u8 0, .int .u8 0, .int .u8 0, .int .u8 0, .int .u8 0, .int .u8 0, .int .u8 0, .int .u8 0, .int .u8 0, .int .u8 0, .int .u8 0, .int .u8 0, .int .u8 0, .int .u8 0, .int .u8 0, .int .u8 0, .int .u8 0, .int .u8 0, .int .u8 0, .int .u8 0, .int .u8 0, .int .u8 0, .int .u8 0, .int .u8 0, .int .u8 0, .int .u8 0, .int .u8 0, .int .u8 0, .int .u8 0, .int .u8 0, .int .u8 0, .int .u8 0, .int .u8 0, .int .u8 0, .int .u8 0, .int .u8 0, .int .u8 0, .int .u8 0, .int .u8 0, .int .u8 0, .int .u8 0, .int .u8 0, .int .u8 0, .int .u8 0, .int .u8 0, .int .u8 0, .int .u8 0, .int .u8 0, .int .u8 0, .int .u8 0, .int .u8 0, .int .u8 0, .int .u8 0, .int .u8 0, .int .u8 0, .int .u8 0, .int .u8 0, .int .u8 0, .int .u8 0, .int .u8 0, .int .u8 0, .int .u8 0, .int .u8 0, .int .u8 0, .int .u8 0, .int .u8 0, .int .u8 0, .int .u8 0, .int .u8 0, .int .u8 0, .int .u8 0, .int .u8 0, .int .u8 0, .int .u8 0, .int .u8 0, .int .u8 0, .int .u8 0, .int .u8 0, .int .u8 0, .int .u8 0, .int .u8 0, .int .u8 0, .int .u8 0, .int .u8 0, .int .u8 0, .int .u8 0, .int .u8 0, .int .u8 0, .int .u8 0, .int .u8 0, .int .u8 0, .int .u8 0, .int .u8 0, .int .u8 0, .int .u8 0, .int .u8 0, .int .u8 0, .int .u8 0, .int .u8 0, .int .u8 0, .int .u8 0, .int .u8 0, .int .u8 0, .int .u8 0, .int .u8 0, .int .u8 0, .int .u8 0, .int .u8 0, .int .u8 0, .int .u8 0, .int .u8 0, .int .u8 0, .int .u8 0, .int .u8 0, .int .u8 0, .int .u8 0, .int .u8 0, .int .u8 0, .int .u8 0, .int .u8 0, .int .u8 0, .int .u8 0, .int .u8 0, .int .u8 0, .int .u8 0, .int .u8 0, .int .u8 0, .int .u8 0, .int .u8 0, .int .u8 0, .int .u8 0, .int .u8 0, .int .u8 0, .int .u8 0, .int .u8 0, .int .u8 0, .int .u8 0, .int .u8 0, .int .u8 0, .int .u8 0, .int .u8 0, .int .u8 0, .int .u8 0, .int .u8 0, .int .u8 0, .int .u8 0, .int .u8 0, .int .u8 0, .int .u8 0, .int .u8 0, .int .u8 0, .int .u8 0, .int .u8 0, .int .u8 0, .int .u8 0, .int .u8 0, .int .u8 0, .int .u8 0, .int .u8 0, .int .u8 0, .int .u8 0, .int .u8 0, .int .u8 0, .int .u8 0, .int .u8 0, .int .u8 0, .int .u8 0, .int .u8 0, .int .u8 0, .int .u8 0, .int .u8 0, .int .u8 0, .int .u8 0, .int .u8 0, .int .u8 0, .int .u8 0, .int .u8 0, .int .u8 0, .int .u8 0, .int .u8 0, .int .u8 0, .int .u8 0, .int .u8 0, .int .u8 0, .int .u8 0, .int .u8 0, .int .u8 0, .int .u8 0, .int .u8 0, .int .u8 0, .int .u8 0, .int .u8 0, .int .u8 0, .int .u8 0, .int .u8 0, .int .u8 0, .int .u8 0, .int .u8 0, .int .u8 0, .int .u8 0, .int .u8 0, .int .u8 0, .int .u8 0, .int .u8 0, .int .u8 0, .int .u8 0, .int .u8 0, .int .u8 0, .int .u8 0, .int .u8 0, .int .u8 0, .int .u8 0, .int .u8 0, .int .u8 0, .int .u8 0, .int .u8 0, .int .u8 0, .int .u8 0, .int .u8 0, .int .u8 0, .int .u8 0, .int .u8 0, .int .u8 0, .int .u8 0, .int .u8 0, .int .u8 0, .int .u8 0, .int .u8 0, .int .u8 0, .int .u8 0, .int .u8 0, .int .u8 0, .int .u8 0, .int .u8 0, .int .u8 0, .int .u8 0, .int .u8 0, .int .u8 0, .int .u8 0, .int .u8 0, .int .u8 0, .int .u8 0, .int .u8 0, .int .u8 0, .int .u8 0, .int .u8 0, .int .u8 0, .int .u8 0, .int .u8 0, .int .u8 0, .int .u8 0, .int .u8 0, .int .u8 0, .int .u8 0, .int .u8 0, .int .u8 0, .int .u8 0, .int .u8 0, .int .u8 0, .int .u8 0, .int .u8 0, .int .u8 0, .int .u8 0, .int .u8 0, .int .u8 0, .int .u8 0, .int .u8 0, .int .u8 0, .int .u8 0, .int .u8 0, .int .u8 0, .int .u8 0, .int .u8 0] [], none⟩,
      ⟨none, .store 594 (.t 4) (.t 66), none⟩,
      ⟨(some 5), .move (.c (.int .i64 4)), none⟩] none)
  (.ret))))⟩
/-- loop.example.g01273.impl.UnitComplex. -/
def p35 : Fn := ⟨1, 8, [.cell 2 (some 3), .tmp 3],
  .seq (.reg [
      ⟨(some 2), .alloc [.int .i64 0, .nils, .nils], none⟩,
      ⟨(some 3), .move (.c (.int .i64 0)), none⟩] none)
  (.seq (.reg [
      ⟨(some 4), .move (.t 0), none⟩,
      ⟨(some 5), .callf .plain 71 [(.t 4), (.c (.int .i64 0))], none⟩,
      ⟨(some 6), .extract 0 (.t 5), none⟩,
      ⟨(some 7), .extract 1 (.t 5), none⟩,
      ⟨none, .store 3 (.t 2) (.t 6), none⟩,
      ⟨(some 3), .move (.t 7), none⟩] none)
  (.ret))⟩
/-- (loop.example.g01273.impl.Dga).filtered. -/
def p36 : Fn := ⟨1, 101, [.cell 2 (some 4)],
  .seq (.reg [
      ⟨(some 1), .box (.t 0), none⟩,
      ⟨(some 2), .alloc [.int .i64 0, .nils, .nils, .nils], none⟩] none)
  (.seq (.reg [
      ⟨(some 14), .build [.int .i64 0, .nils, .nils, .nils] [], none⟩,
      ⟨(some 15), .buildSlice 1 0 [] [], none⟩,
      ⟨(some 3), .alloc [.int .i64 0, .nils, .nils, .nils], none⟩,
      ⟨none, .store 4 (.t 3) (.t 14), none⟩,
      ⟨(some 4), .move (.t 15), none⟩] none)
  (.seq (.seq (.reg [
        ⟨(some 16), .fieldAddr 1 (.t 1), none⟩,
        ⟨(some 17), .load false none (.t 16), none⟩,
        ⟨(some 18), .bin 0 .sub (.t 17) (.c (.int .i64 1)), none⟩,
        ⟨(some 19), .fieldAddr 2 (.t 1), none⟩,
        ⟨(some 20), .indexAddr (some 8) 1 (.t 19) (.t 18), none⟩,
        ⟨(some 21), .load false none (.t 20), none⟩,
        ⟨(some 22), .bin 0 .add (.t 21) (.c (.int .i64 1)), none⟩,
        ⟨(some 23), .move (.c (.int .i64 0)), none⟩] none)
    (.block 0 (.loop true (.seq (.reg [
            ⟨(some 24), .bin 0 .lss (.t 23) (.t 22), none⟩] none)
        (.seq (.cond (.t 24)
          (.skip)
          (.exit 0))
        (.seq (.block 1 (.seq (.reg [
                ⟨(some 25), .move (.t 23), none⟩,
                ⟨(some 5), .move (.t 25), none⟩] none)
            (.seq (.reg [
                ⟨(some 26), .buildSlice 1 0 [] [], none⟩,
                ⟨(some 6), .move (.t 26), none⟩] none)
            (.seq (.seq (.reg [
                  ⟨(some 27), .load false (some 594) (.t 1), none⟩,
                  ⟨(some 28), .move (.t 5), none⟩,
                  ⟨(some 29), .callf .plain 72 [(.t 27), (.t 28)], none⟩,
                  ⟨(some 30), .len (.t 29), none⟩,
                  ⟨(some 31), .move (.c (.int .i64 0)), none⟩] none)
              (.block 2 (.loop true (.seq (.reg [
                      ⟨(some 32), .bin 0 .lss (.t 31) (.t 30), none⟩] none)
                  (.seq (.cond (.t 32)
                    (.skip)
                    (.exit 2))
                  (.seq (.block 3 (.seq (.reg [
                          ⟨(some 33), .indexAddr none 1 (.t 29) (.t 31), none⟩,
                          ⟨(some 34), .load false none (.t 33), none⟩,
                          ⟨(some 8), .move (.t 34), none⟩] none)
                      (.reg [
                        ⟨(some 35), .move (.t 6), none⟩,
                        ⟨(some 36), .move (.t 8), none⟩,
                        ⟨(some 37), .fieldAddr 10 (.t 1), none⟩,
                        ⟨(some 38), .indexAddr (some 8) 1 (.t 37) (.t 36), none⟩,
                        ⟨(some 39), .load false none (.t 38), none⟩,
                        ⟨(some 40), .buildSlice 1 1 [.int .i64 0] [(0, 1, (.t 39))], none⟩,
                        ⟨(some 41), .append 1 8 (.t 35) (.t 40), none⟩,
                        ⟨(some 6), .move (.t 41), none⟩] none)))
                  (.reg [
                    ⟨(some 42), .bin 0 .add (.t 31) (.c (.int .i64 1)), none⟩,
                    ⟨(some 31), .move (.t 42), none⟩] none)))))))
            (.reg [
              ⟨(some 43), .fieldAddr 3 (.t 3), none⟩,
              ⟨(some 44), .load false none (.t 43), none⟩,
              ⟨(some 45), .move (.t 6), none⟩,
              ⟨(some 46), .buildSlice 1 1 [.nils] [(0, 1, (.t 45))], none⟩,
              ⟨(some 47), .append 1 24 (.t 44) (.t 46), none⟩,
              ⟨(some 48), .move (.t 4), none⟩,
              ⟨(some 49), .move (.t 6), none⟩,
              ⟨(some 50), .callf .plain 73 [(.t 49)], none⟩,
              ⟨(some 51), .buildSlice 1 1 [.int .i64 0] [(0, 1, (.t 50))], none⟩,
              ⟨(some 52), .append 1 8 (.t 48) (.t 51), none⟩,
              ⟨(some 53), .fieldAddr 3 (.t 3), none⟩,
              ⟨none, .store 1 (.t 53) (.t 47), none⟩,
              ⟨(some 4), .move (.t 52), none⟩] none)))))
        (.reg [
          ⟨(some 54), .bin 0 .add (.t 23) (.c (.int .i64 1)), none⟩,
          ⟨(some 23), .move (.t 54), none⟩] none)))))))
  (.seq (.reg [
      ⟨(some 55), .fieldAddr 0 (.t 1), none⟩,
      ⟨(some 56), .load false none (.t 55), none⟩,
      ⟨(some 57), .move (.t 4), none⟩,
      ⟨(some 58), .callf .plain 74 [(.t 56), (.t 57)], none⟩,
      ⟨(some 59), .fieldAddr 0 (.t 3), none⟩,
      ⟨none, .store 3 (.t 59) (.t 58), none⟩] none)
  (.seq (.seq (.reg [
        ⟨(some 9), .move (.c (.int .i64 1)), none⟩] none)
    (.block 4 (.loop true (.seq (.seq (.reg [
              ⟨(some 60), .move (.t 9), none⟩,
              ⟨(some 61), .move (.t 4), none⟩,
              ⟨(some 62), .callf .plain 73 [(.t 61)], none⟩,
              ⟨(some 63), .bin 0 .lss (.t 60) (.t 62), none⟩] none)
          (.cond (.t 63)
          (.skip)
          (.exit 4)))
        (.seq (.block 5 (.seq (.reg [
                ⟨(some 66), .load false (some 594) (.t 1), none⟩,
                ⟨(some 67), .move (.t 9), none⟩,
                ⟨(some 68), .callf .plain 72 [(.t 66), (.t 67)], none⟩,
                ⟨(some 69), .len (.t 68), none⟩,
                ⟨(some 70), .move (.c (.int .i64 0)), none⟩] none)
            (.block 6 (.loop true (.seq (.reg [
                    ⟨(some 71), .bin 0 .lss (.t 70) (.t 69), none⟩] none)
                (.seq (.cond (.t 71)
                  (.skip)
                  (.exit 6))
                (.seq (.block 7 (.seq (.reg [
                        ⟨(some 72), .move (.t 70), none⟩,
                        ⟨(some 73), .indexAddr none 1 (.t 68) (.t 70), none⟩,
                        ⟨(some 74), .load false none (.t 73), none⟩,
                        ⟨(some 10), .move (.t 72), none⟩,
                        ⟨(some 11), .move (.t 74), none⟩] none)
                    (.seq (.reg [
                        ⟨(some 75), .load false (some 594) (.t 1), none⟩,
                        ⟨(some 76), .move (.t 9), none⟩,
                        ⟨(some 77), .bin 0 .sub (.t 76) (.c (.int .i64 1)), none⟩,
                        ⟨(some 78), .callf .plain 72 [(.t 75), (.t 77)], none⟩,
                        ⟨(some 79), .len (.t 78), none⟩,
                        ⟨(some 80), .move (.c (.int .i64 0)), none⟩] none)
                    (.block 8 (.loop true (.seq (.reg [
                            ⟨(some 81), .bin 0 .lss (.t 80) (.t 79), none⟩] none)
                        (.seq (.cond (.t 81)
                          (.skip)
                          (.exit 8))
                        (.seq (.block 9 (.seq (.reg [
                                ⟨(some 82), .move (.t 80), none⟩,
                                ⟨(some 83), .indexAddr none 1 (.t 78) (.t 80), none⟩,
                                ⟨(some 84), .load false none (.t 83), none⟩,
                                ⟨(some 12), .move (.t 82), none⟩,
                                ⟨(some 13), .move (.t 84), none⟩] none)
                            (.reg [
                              ⟨(some 85), .fieldAddr 0 (.t 3), none⟩,
                              ⟨(some 86), .load false (some 3) (.t 85), none⟩,
                              ⟨(some 87), .move (.t 9), none⟩,
                              ⟨(some 88), .move (.t 10), none⟩,
                              ⟨(some 89), .move (.t 12), none⟩,
                              ⟨(some 90), .move (.t 11), none⟩,
                              ⟨(some 91), .move (.t 13), none⟩,
                              ⟨(some 92), .fieldAddr 18 (.t 1), none⟩,
                              ⟨(some 93), .indexAddr (some 8) 8 (.t 92) (.t 90), none⟩,
                              ⟨(some 94), .indexAddr (some 8) 1 (.t 93) (.t 91), none⟩,
                              ⟨(some 95), .load false none (.t 94), none⟩,
                              ⟨(some 96), .toInt .i64 (.t 95), none⟩,
                              ⟨(some 97), .callf .plain 75 [(.t 86), (.t 87), (.t 88), (.t 89), (.t 96)], none⟩] (some [[], [0], [], [], [], [], [], [], [7, 5], [8, 6], [9], [10], [1, 2, 3, 4, 11]]))))
                        (.reg [
                          ⟨(some 98), .bin 0 .add (.t 80) (.c (.int .i64 1)), none⟩,
                          ⟨(some 80), .move (.t 98), none⟩] none)))))))))
                (.reg [
                  ⟨(some 99), .bin 0 .add (.t 70) (.c (.int .i64 1)), none⟩,
                  ⟨(some 70), .move (.t 99), none⟩] none))))))))
        (.reg [
          ⟨(some 64), .move (.t 9), none⟩,
          ⟨(some 65), .bin 0 .add (.t 64) (.c (.int .i64 1)), none⟩,
          ⟨(some 9), .move (.t 65), none⟩] none))))))
  (.seq (.reg [
      ⟨(some 100), .load false (some 4) (.t 3), none⟩,
      ⟨none, .store 4 (.t 2) (.t 100), none⟩] none)
  (.ret))))))⟩
/-- loop.example.g01273.laws.eqInt64SS. -/
def p51 : Fn := ⟨2, 27, [.tmp 4],
  .seq (.reg [
      ⟨(some 4), .move (.c (.bool false)), none⟩] none)
  (.seq (.seq (.reg [
        ⟨(some 6), .move (.t 0), none⟩,
        ⟨(some 7), .len (.t 6), none⟩,
        ⟨(some 8), .move (.t 1), none⟩,
        ⟨(some 9), .len (.t 8), none⟩,
        ⟨(some 10), .bin 0 .neq (.t 7) (.t 9), none⟩] none)
    (.cond (.t 10)
    (.seq (.reg [
          ⟨(some 4), .move (.c (.bool false)), none⟩] none)
      (.ret))
    (.skip)))
  (.seq (.seq (.reg [
        ⟨(some 5), .move (.c (.int .i64 0)), none⟩] none)
    (.block 0 (.loop true (.seq (.seq (.reg [
              ⟨(some 11), .move (.t 5), none⟩,
              ⟨(some 12), .move (.t 0), none⟩,
              ⟨(some 13), .len (.t 12), none⟩,
              ⟨(some 14), .bin 0 .lss (.t 11) (.t 13), none⟩] none)
          (.cond (.t 14)
          (.skip)
          (.exit 0)))
        (.seq (.block 1 (.seq (.reg [
                ⟨(some 17), .move (.t 0), none⟩,
                ⟨(some 18), .move (.t 5), none⟩,
                ⟨(some 19), .indexAddr none 1 (.t 17) (.t 18), none⟩,
                ⟨(some 20), .load false none (.t 19), none⟩,
                ⟨(some 21), .move (.t 1), none⟩,
                ⟨(some 22), .move (.t 5), none⟩,
                ⟨(some 23), .indexAddr none 1 (.t 21) (.t 22), none⟩,
                ⟨(some 24), .load false none (.t 23), none⟩,
                ⟨(some 25), .callf .plain 30 [(.t 20), (.t 24)], none⟩,
                ⟨(some 26), .un .not (.t 25), none⟩] (some [[], [], [0, 1], [2], [], [], [4, 5], [6], [3, 7], [8]]))
            (.cond (.t 26)
            (.seq (.reg [
                  ⟨(some 4), .move (.c (.bool false)), none⟩] none)
              (.ret))
            (.skip))))
        (.reg [
          ⟨(some 15), .move (.t 5), none⟩,
          ⟨(some 16), .bin 0 .add (.t 15) (.c (.int .i64 1)), none⟩,
          ⟨(some 5), .move (.t 16), none⟩] none))))))
  (.seq (.reg [
      ⟨(some 4), .move (.c (.bool true)), none⟩] none)
  (.ret))))⟩
/-- loop.example.g01273.laws.markInt64SS. -/
def p52 : Fn := ⟨2, 19, [.tmp 4],
  .seq (.reg [
      ⟨(some 4), .move (.c (.int .i64 0)), none⟩] none)
  (.seq (.seq (.reg [
        ⟨(some 5), .move (.c (.int .i64 0)), none⟩] none)
    (.block 0 (.loop true (.seq (.seq (.reg [
              ⟨(some 6), .move (.t 5), none⟩,
              ⟨(some 7), .move (.t 0), none⟩,
              ⟨(some 8), .len (.t 7), none⟩,
              ⟨(some 9), .bin 0 .lss (.t 6) (.t 8), none⟩] none)
          (.cond (.t 9)
          (.skip)
          (.exit 0)))
        (.seq (.block 1 (.reg [
              ⟨(some 12), .move (.t 0), none⟩,
              ⟨(some 13), .move (.t 5), none⟩,
              ⟨(some 14), .indexAddr none 1 (.t 12) (.t 13), none⟩,
              ⟨(some 15), .load false none (.t 14), none⟩,
              ⟨(some 16), .move (.t 1), none⟩,
              ⟨(some 17), .callf .plain 31 [(.t 15), (.t 16)], none⟩,
              ⟨(some 1), .move (.t 17), none⟩] none))
        (.reg [
          ⟨(some 10), .move (.t 5), none⟩,
          ⟨(some 11), .bin 0 .add (.t 10) (.c (.int .i64 1)), none⟩,
          ⟨(some 5), .move (.t 11), none⟩] none))))))
  (.seq (.reg [
      ⟨(some 18), .move (.t 1), none⟩,
      ⟨(some 4), .move (.t 18), none⟩] none)
  (.ret)))⟩
/-- loop.example.g01273.laws.heldInt64SSS. -/
def p53 : Fn := ⟨2, 21, [.tmp 4],
  .seq (.reg [
      ⟨(some 4), .move (.c (.int .i64 0)), none⟩] none)
  (.seq (.seq (.reg [
        ⟨(some 5), .move (.c (.int .i64 0)), none⟩] none)
    (.block 0 (.loop true (.seq (.seq (.reg [
              ⟨(some 6), .move (.t 5), none⟩,
              ⟨(some 7), .move (.t 0), none⟩,
              ⟨(some 8), .len (.t 7), none⟩,
              ⟨(some 9), .bin 0 .lss (.t 6) (.t 8), none⟩] none)
          (.cond (.t 9)
          (.skip)
          (.exit 0)))
        (.seq (.block 1 (.seq (.reg [
                ⟨(some 12), .move (.t 0), none⟩,
                ⟨(some 13), .move (.t 5), none⟩,
                ⟨(some 14), .indexAddr none 1 (.t 12) (.t 13), none⟩,
                ⟨(some 15), .load false none (.t 14), none⟩,
                ⟨(some 16), .move (.t 1), none⟩,
                ⟨(some 17), .callf .plain 59 [(.t 15), (.t 16)], none⟩,
                ⟨(some 1), .move (.t 17), none⟩] none)
            (.seq (.reg [
                ⟨(some 18), .move (.t 1), none⟩,
                ⟨(some 19), .bin 0 .lss (.t 18) (.c (.int .i64 0)), none⟩] none)
            (.cond (.t 19)
            (.seq (.reg [
                  ⟨(some 4), .move (.c (.int .i64 (-1))), none⟩] none)
              (.ret))
            (.skip)))))
        (.reg [
          ⟨(some 10), .move (.t 5), none⟩,
          ⟨(some 11), .bin 0 .add (.t 10) (.c (.int .i64 1)), none⟩,
          ⟨(some 5), .move (.t 11), none⟩] none))))))
  (.seq (.reg [
      ⟨(some 20), .move (.t 1), none⟩,
      ⟨(some 4), .move (.t 20), none⟩] none)
  (.ret)))⟩
/-- loop.example.g01273.impl.between. -/
def p56 : Fn := ⟨3, 15, [.tmp 6],
  .seq (.reg [
      ⟨(some 6), .move (.c (.bool false)), none⟩] none)
  (.seq (.reg [
      ⟨(some 7), .move (.t 0), none⟩,
      ⟨(some 8), .move (.t 1), none⟩,
      ⟨(some 9), .bin 0 .geq (.t 7) (.t 8), none⟩,
      ⟨(some 10), .move (.t 9), none⟩,
      ⟨(some 11), .move (.t 0), (some (10, true))⟩,
      ⟨(some 12), .move (.t 2), (some (10, true))⟩,
      ⟨(some 13), .bin 0 .leq (.t 11) (.t 12), (some (10, true))⟩,
      ⟨(some 14), .pick (.t 10) (.t 13) (.c (.bool false)), none⟩,
      ⟨(some 6), .move (.t 14), none⟩] none)
  (.ret))⟩
/-- loop.example.g01273.laws.heldInt64SS. -/
def p59 : Fn := ⟨2, 21, [.tmp 4],
  .seq (.reg [
      ⟨(some 4), .move (.c (.int .i64 0)), none⟩] none)
  (.seq (.seq (.reg [
        ⟨(some 5), .move (.c (.int .i64 0)), none⟩] none)
    (.block 0 (.loop true (.seq (.seq (.reg [
              ⟨(some 6), .move (.t 5), none⟩,
              ⟨(some 7), .move (.t 0), none⟩,
              ⟨(some 8), .len (.t 7), none⟩,
              ⟨(some 9), .bin 0 .lss (.t 6) (.t 8), none⟩] none)
          (.cond (.t 9)
          (.skip)
          (.exit 0)))
        (.seq (.block 1 (.seq (.reg [
                ⟨(some 12), .move (.t 0), none⟩,
                ⟨(some 13), .move (.t 5), none⟩,
                ⟨(some 14), .indexAddr none 1 (.t 12) (.t 13), none⟩,
                ⟨(some 15), .load false none (.t 14), none⟩,
                ⟨(some 16), .move (.t 1), none⟩,
                ⟨(some 17), .callf .plain 32 [(.t 15), (.t 16)], none⟩,
                ⟨(some 1), .move (.t 17), none⟩] none)
            (.seq (.reg [
                ⟨(some 18), .move (.t 1), none⟩,
                ⟨(some 19), .bin 0 .lss (.t 18) (.c (.int .i64 0)), none⟩] none)
            (.cond (.t 19)
            (.seq (.reg [
                  ⟨(some 4), .move (.c (.int .i64 (-1))), none⟩] none)
              (.ret))
            (.skip)))))
        (.reg [
          ⟨(some 10), .move (.t 5), none⟩,
          ⟨(some 11), .bin 0 .add (.t 10) (.c (.int .i64 1)), none⟩,
          ⟨(some 5), .move (.t 11), none⟩] none))))))
  (.seq (.reg [
      ⟨(some 20), .move (.t 1), none⟩,
      ⟨(some 4), .move (.t 20), none⟩] none)
  (.ret)))⟩
/-- loop.example.g01273.spec.l10Named. -/
def p64 : Fn := ⟨2, 79, [.cell 4 (some 594), .tmp 5],
  .seq (.reg [
      ⟨(some 4), .alloc [.int .i64 0, .int .i64 0, .int .i64 0, .int .i64 0, .int .i64 0, .int .i64 0, .int .i64 0, .int .i64 0, .int .i64 0, .int .i64 0, .int .i64 0, .int .i64 0, .int .i64 0, .int .i64 0, .int .i64 0, .int .i64 0, .int .i64 0, .int .i64 0, .int .u8 0, .int .u8 0, .int .u8 0, .int .u8 0, .int .u8 0, .int .u8 0, .int .u8 0, .int .u8 0, .int .u8 0, .int .u8 0, .int .u8 0, .int .u8 0, .int .u8 0, .int .u8 0, .int .u8 0, .int .u8 0, .int .u8 0, .int .u8 0, .int .u8 0, .int .u8 0, .int .u8 0, .int .u8 0, .int .u8 0, .int .u8 0, .int .u8 0, .int .u8 0, .int .u8 0, .int .u8 0, .int .u8 0, .int .u8 0, .int .u8 0, .int .u8 0, .int .u8 0, .int .u8 0, .int .u8 0, .int .u8 0, .int .u8 0, .int .u8 0, .int .u8 0, .int .u8 0, .int .u8 0, .int .u8 0, .int .u8 0, .int .u8 0, .int .u8 0, .int .u8 0, .int .u8 0, .int .u8 0, .int .u8 0, .int .u8 0, .int .u8 0, .int .u8 0, .int .u8 0, .int .u8 0, .int .u8 0, .int .u8 0, .int .u8 0, .int .u8 0, .int .u8 0, .int .u8 0, .int .u8 0, .int .u8 0, .int .u8 0, .int .u8 0, .int .u8 0, .int .u8 0, .int .u8 0, .int .u8 0, .int .u8 0, .int .u8 0, .int .u8 0, .int .u8 0, .int .u8 0, .int .u8 0, .int .u8 0, .int .u8 0, .int .u8 0, .int .u8 0, .int .u8 0, .int .u8 0, .int .u8 0, .int .u8 0, .int .u8 0, .int .u8 0, .int .u8 0, .int .u8 0, .int .u8 0, .int .u8 0, .int .u8 0, .int .u8 0, .int .u8 0, .int .u8 0, .int .u8 0, .int .u8 0, .int .u8 0, .int .u8 0, .int .u8 0, .int .u8 0, .int .u8 0, .int .u8 0, .int .u8 0, .int .u8 0, .int .u8 0, .int .u8 0, .int .u8 0, .int .u8 0, .int .u8 0, .int .u8 0, .int .u8 0, .int .u8 0, .int .u8 0, .int .u8 0, .int .u8 0, .int .u8 0, .int .u8 0, .int .u8 0, .int .u8 0, .int .u8 0, .int .u8 0, .int .u8 0, .int .u8 0, .int .u8 0, .int .u8 0, .int .u8 0, .int .u8 0, .int .u8 0, .int .u8 0, .int .u8 0, .int .u8 0, .int .u8 0, .int .u8 0, .int .u8 0, .int .u8 0, .int .u8 0, .int .u8 0, .int .u8 0, .int .u8 0, .int .u8 0, .int .u8 0, .int .u8 0, .int .u8 0, .int .u8 0, .int .u8 0, .int .u8 0, .int .u8 0, .int .u8 0, .int .u8 0, .int .u8 0, .int .u8 0, .int .u8 0, .int .u8 0, .int .u8 0, .int .u8 0, .int .u8 0, .int .u8 0, .int .u8 0, .int .u8 0, .int .u8 0, .int .u8 0, .int .u8 0, .int .u8 0, .int .u8 0, .int .u8 0, .int .u8 0, .int .u8 0, .int .u8 0, .int .u8 0, .int .u8 0, .int .u8 0, .int .u8 0, .int .u8 0, .int .u8 0, .int .u8 0, .int .u8 0, .int .u8 0, .int .u8 0, .int .u8 0, .int .u8 0, .int .u8 0, .int .u8 0, .int .u8 0, .int .u8 0, .int .u8 0, .int .u8 0, .int .u8 0, .int .u8 0, .int .u8 0, .int .u8 0, .int .u8 0, .int .u8 0, .int .u8 0, .int .u8 0, .int .u8 0, .int .u8 0, .int .u8 0, .int .u8 0, .int .u8 0, .int .u8 0, .int .u8 0, .int .u8 0, .int .u8 0, .int .u8 0, .int .u8 0, .int .u8 0, .int .u8 0, .int .u8 0, .int .u8 0, .int .u8 0, .int .u8 0, .int .u8 0, .int .u8 0, .int .u8 0, .int .u8 0, .int .u8 0, .int .u8 0, .int .u8 0, .int .u8 0, .int .u8 0, .int .u8 0, .int .u8 0, .int .u8 0, .int .u8 0, .int .u8 0, .int .u8 0, .int .u8 0, .int .u8 0, .int .u8 0, .int .u8 0, .int .u8 0, .int .u8 0, .int .u8 0, .int .u8 0, .int .u8 0, .int .u8 0, .int .u8 0, .int .u8 0, .int .u8 0, .int .u8 0, .int .u8 0, .int .u8 0, .int .u8 0, .int .u8 0, .int .u8 0, .int .u8 0, .int .u8 0, .int .u8 0, .int .u8 0, .int .u8 0, .int .u8 0, .int .u8 0, .int .u8 0, .int .u8 0, .int .u8 0, .int .u8 0, .int .u8 0, .int .u8 0, .int .u8 0, .int .u8 0, .int .u8 0, .int .u8 0, .int .u8 0, .int .u8 0, .int .u8 0, .int .u8 0, .int .u8 0, .int .u8 0, .int .u8 0, .int .u8 0, .int .u8 0, .int .u8 0, .int .u8 0, .int .u8 0, .int .u8 0, .int .u8 0, .int .u8 0, .int .u8 0, .int .u8 0, .int .u8 0, .int .u8 0, .int .u8 0, .int .u8 0, .int .u8 0, .int .u8 0, .int .u8 0, .int .u8 0, .int .u8 0, .int .u8 0, .int .u8 0, .int .u8 0, .int .u8 0, .int .u8 0, .int .u8 0, .int .u8 0, .int .u8 0, .int .u8 0, .int .u8 0, .int .u8 0, .int .u8 0, .int .u8 0, .int .u8 0, .int .u8 0, .int .u8 0, .int .u8 0, .int .u8 0, .int .u8 0, .int .u8 0, .int .u8 0, .int .u8 0, .int .u8 0, .int .u8 0, .int .u8 0, .int .u8 0, .int .u8 0, .int .u8 0, .int .u8 0, .int .u8 0, .int .u8 0, .int .u8 0, .int .u8 0, .int .u8 0, .int .u8 0, .int .u8 0, .int .u8 0, .int .u8 0, .int .u8 0, .int .u8 0, .int .u8 0, .int .u8 0, .int .u8 0, .int .u8 0, .int .u8 0, .int .u8 0, .int .u8 0, .int .u8 0, .int .u8 0, .int .u8 0, .int .u8 0, .int .u8 0, .int .u8 0, .int .u8 0, .int .u8 0, .int .u8 0, .int .u8 0, .int .u8 0, .int .u8 0, .int .u8 0, .int .u8 0, .int .u8 0, .int .u8 0, .int .u8 0, .int .u8 0, .int .u8 0, .int .u8 0, .int .u8 0, .int .u8 0, .int .u8 0, .int .u8 0, .int .u8 0, .int .u8 0, .int .u8 0, .int .u8 0, .int .u8 0, .int .u8 0, .int .u8 0, .int .u8 0, .int .u8 0, .int .u8 0, .int .u8 0, .int .u8 0, .int .u8 0, .int .u8 0, .int .u8 0, .int .u8 0, .int .u8 0, .int .u8 0, .int .u8 0, .int .u8 0, .int .u8 0, .int .u8 0, .int .u8 0, .int .u8 0, .int .u8 0, .int .u8 0, .int .u8 0, .int .u8 0, .int .u8 0, .int .u8 0, .int .u8 0, .int .u8 0, .int .u8 0, .int .u8 0, .int .u8 0, .int .u8 0, .int .u8 0, .int .u8 0, .int .u8 0, .int .u8 0, .int .u8 0, .int .u8 0, .int .u8 0, .int .u8 0, .int .u8 0, .int .u8 0, .int .u8 0, .int .u8 0, .int .u8 0, .int .u8 0, .int .u8 0, .int .u8 0, .int .u8 0, .int .u8 0, .int .u8 0, .int .u8 0, .int .u8 0, .int .u8 0, .int .u8 0, .int .u8 0, .int .u8 0, .int .u8 0, .int .u8 0, .int .u8 0, .int .u8 0, .int .u8 0, .int .u8 0, .int .u8 0, .int .u8 0, .int .u8 0, .int .u8 0, .int .u8 0, .int .u8 0, .int .u8 0, .int .u8 0, .int .u8 0, .int .u8 0, .int .u8 0, .int .u8 0, .int .u8 0, .int .u8 0, .int .u8 0, .int .u8 0, .int .u8 0, .int .u8 0, .int .u8 0, .int .u8 0, .int .u8 0, .int .u8 0, .int .u8 0, .int .u8 0, .int .u8 0, .int .u8 0, .int .u8 0, .int .u8 0, .int .u8 0, .int .u8 0, .int .u8 0, .int .u8 0, .int .u8 0, .int .u8 0, .int .u8 0, .int .u8 0, .int .u8 0, .int .u8 0, .int .u8 0, .int .u8 0, .int .u8 0, .int .u8 0, .int .u8 0, .int .u8 0, .int .u8 0, .int .u8 0, .int .u8 0, .int .u8 0, .int .u8 0, .int .u8 0, .int .u8 0, .int .u8 0, .int .u8 0, .int .u8 0, .int .u8 0, .int .u8 0, .int .u8 0, .int .u8 0, .int .u8 0, .int .u8 0, .int .u8 0, .int .u8 0, .int .u8 0, .int .u8 0, .int .u8 0, .int .u8 0, .int .u8 0, .int .u8 0, .int .u8 0, .int .u8 0, .int .u8 0, .int .u8 0, .int .u8 0, .int .u8 0, .int .u8 0, .int .u8 0, .int .u8 0, .int .u8 0, .int .u8 0, .int .u8 0, .int .u8 0, .int .u8 0, .int .u8 0, .int .u8 0, .int .u8 0, .int .u8 0, .int .u8 0, .int .u8 0, .int .u8 0, .int .u8 0, .int .u8 0, .int .u8 0, .int .u8 0, .int .u8 0, .int .u8 0, .int .u8 0, .int .u8 0, .int .u8 0, .int .u8 0, .int .u8 0, .int .u8 0, .int .u8 0, .int .u8 0, .int .u8 0, .int .u8 0, .int .u8 0, .int .u8 0, .int .u8 0, .int .u8 0, .int .u8 0, .int .u8 0, .int .u8 0, .int .u8 0, .int .u8 0, .int .u8 0, .int .u8 0, .int .u8 0, .int .u8 0, .int .u8 0, .int .u8 0, .int .u8 0, .int .u8 0, .int .u8 0, .int .u8 0, .int .u8 0, .int .u8 0, .int .u8 0, .int .u8 0, .int .u8 0, .int .u8 0, .int .u8 0, .int .u8 0, .int .u8 0, .int .u8 0, .int .u8 0, .int .u8 0, .int .u8 0, .int .u8 0, .int .u8 0, .int .u8 0, .int .u8 0, .int .u8 0, .int .u8 0, .int .u8 0, .int .u8 0, .int .u8 0, .int .u8 0, .int .u8 0, .int .u8 0, .int .u8 0, .int .u8 0, .int .u8 0], none⟩,
      ⟨(some 5), .move (.c (.bool false)), none⟩] none)
  (.seq (.reg [
      ⟨(some 8), .move (.t 1), none⟩,
      ⟨(some 9), .build [.int .i64 0, .int .i64 0, .int .i64 0, .int .i64 0, .int .i64 0, .int .i64 0, .int .i64 0, .int .i64 0, .int .i64 0, .int .i64 0, .int .i64 0, .int .i64 0, .int .i64 0, .int .i64 0, .int .i64 0, .int .i64 0, .int .i64 0, .int .i64 0, .int .u8 0, .int .u8 0, .int .u8 0, .int .u8 0, .int .u8 0, .int .u8 0, .int .u8 0, .int .u8 0, .int .u8 0, .int .u8 0, .int .u8 0, .int .u8 0, .int .u8 0, .int .u8 0, .int .u8 0, .int .u8 0, .int .u8 0, .int .u8 0, .int .u8 0, .int .u8 0, .int .u8 0, .int .u8 0, .int .u8 0, .int .u8 0, .int .u8 0, .int .u8 0, .int .u8 0, .int .u8 0, .int .u8 0, .int .u8 0, .int .u8 0, .int .u8 0, .int .u8 0, .int .u8 0, .int .u8 0, .int .u8 0, .int .u8 0, .int .u8 0, .int .u8 0, .int .u8 0, .int .u8 0, .int .u8 0, .int .u8 0, .int .u8 0, .int .u8 0, .int .u8 0, .int .u8 0, .int .u8 0, .int .u8 0, .int .u8 0, .int .u8 0, .int .u8 0, .int .u8 0, .int .u8 0, .int .u8 0, .int .u8 0, .int .u8 0, .int .u8 0, .int .u8 0, .int .u8 0, .int .u8 0, .int .u8 0, .int .u8 0, .int .u8 0, .int .u8 0, .int .u8 0, .int .u8 0, .int .u8 0, .int .u8 0, .int .u8 0, .int .u8 0, .int .u8 0, .int .u8 0, .int .u8 0, .int .u8 0, .int .u8 0, .int .u8 0, .int .u8 0, .int .u8 0, .int .u8 0, .int .u8 0, .int .u8 0, .int .u8 0, .int .u8 0, .int .u8 0, .int .u8 0, .int .u8 0, .int .u8 0, .int .u8 0, .int .u8 0, .int .u8 0, .int .u8 0, .int .u8 0, .int .u8 0, .int .u8 0, .int .u8 0, .int .u8 0, .int .u8 0, .int .u8 0, .int .u8 0, .int .u8 0, .int .u8 0, .int .u8 0, .int .u8 0, .int .u8 0, .int .u8 0, .int .u8 0, .int .u8 0, .int .u8 0, .int .u8 0, .int .u8 0, .int .u8 0, .int .u8 0, .int .u8 0, .int .u8 0, .int .u8 0, .int .u8 0, .int .u8 0, .int .u8 0, .int .u8 0, .int .u8 0, .int .u8 0, .int .u8 0, .int .u8 0, .int .u8 0, .int .u8 0, .int .u8 0, .int .u8 0, .int .u8 0, .int .u8 0, .int .u8 0, .int .u8 0, .int .u8 0, .int .u8 0, .int .u8 0, .int .u8 0, .int .u8 0, .int .u8 0, .int .u8 0, .int .u8 0, .int .u8 0, .int .u8 0, .int .u8 0, .int .u8 0, .int .u8 0, .int .u8 0, .int .u8 0, .int .u8 0, .int .u8 0, .int .u8 0, .int .u8 0, .int .u8 0, .int .u8 0, .int .u8 0, .int .u8 0, .int .u8 0, .int .u8 0, .int .u8 0, .int .u8 0, .int .u8 0, .int .u8 0, .int .u8 0, .int .u8 0, .int .u8 0, .int .u8 0, .int .u8 0, .int .u8 0, .int .u8 0, .int .u8 0, .int .u8 0, .int .u8 0, .int .u8 0, .int .u8 0, .int .u8 0, .int .u8 0, .int .u8 0, .int .u8 0, .int .u8 0, .int .u8 0, .int .u8 0, .int .u8 0, .int .u8 0, .int .u8 0, .int .u8 0, .int .u8 0, .int .u8 0, .int .u8 0, .int .u8 0, .int .u8 0, .int .u8 0, .int .u8 0, .int .u8 0, .int .u8 0, .int .u8 0, .int .u8 0, .int .u8 0, .int .u8 0, .int .u8 0, .int .u8 0, .int .u8 0, .int .u8 0, .int .u8 0, .int .u8 0, .int .u8 0, .int .u8 0, .int .u8 0, .int .u8 0, .int .u8 0, .int .u8 0, .int .u8 0, .int .u8 0, .int .u8 0, .int .u8 0, .int .u8 0, .int .u8 0, .int .u8 0, .int .u8 0, .int .u8 0, .int .u8 0, .int .u8 0, .int .u8 0, .int .u8 0, .int .u8 0, .int .u8 0, .int .u8 0, .int .u8 0, .int .u8 0, .int .u8 0, .int .u8 0, .int .u8 0, .int .u8 0, .int .u8 0, .int .u8 0, .int .u8 0, .int .u8 0, .int .u8 0, .int .u8 0, .int .u8 0, .int .u8 0, .int .u8 0, .int .u8 0, .int .u8 0, .int .u8 0, .int .u8 0, .int .u8 0, .int .u8 0, .int .u8 0, .int .u8 0, .int .u8 0, .int .u8 0, .int .u8 0, .int .u8 0, .int .u8 0, .int .u8 0, .int .u8 0, .int .u8 0, .int .u8 0, .int .u8 0, .int .u8 0, .int .u8 0, .int .u8 0, .int .u8 0, .int .u8 0, .int .u8 0, .int .u8 0, .int .u8 0, .int .u8 0, .int .u8 0, .int .u8 0, .int .u8 0, .int .u8 0, .int .u8 0, .int .u8 0, .int .u8 0, .int .u8 0, .int .u8 0, .int .u8 0, .int .u8 0, .int .u8 0, .int .u8 0, .int .u8 0, .int .u8 0, .int .u8 0, .int .u8 0, .int .u8 0, .int .u8 0, .int .u8 0, .int .u8 0, .int .u8 0, .int .u8 0, .int .u8 0, .int .u8 0, .int .u8 0, .int .u8 0, .int .u8 0, .int .u8 0, .int .u8 0, .int .u8 0, .int .u8 0, .int .u8 0, .int .u8 0, .int .u8 0, .int .u8 0, .int .u8 0, .int .u8 0, .int .u8 0, .int .u8 0, .int .u8 0, .int .u8 0, .int .u8 0, .int .u8 0, .int .u8 0, .int .u8 0, .int .u8 0, .int .u8 0, .int .u8 0, .int .u8 0, .int .u8 0, .int .u8 0, .int .u8 0, .int .u8 0, .int .u8 0, .int .u8 0, .int .u8 0, .int .u8 0, .int .u8 0, .int .u8 0, .int .u8 0, .int .u8 0, .int .u8 0, .int .u8 0, .int .u8 0, .int .u8 0, .int .u8 0, .int .u8 0, .int .u8 0, .int .u8 0, .int .u8 0, .int .u8 0, .int .u8 0, .int .u8 0, .int .u8 0, .int .u8 0, .int .u8 0, .int .u8 0, .int .u8 0, .int .u8 0, .int .u8 0, .int .u8 0, .int .u8 0, .int .u8 0, .int .u8 0, .int .u8 0, .int .u8 0, .int .u8 0, .int .u8 0, .int .u8 0, .int .u8 0, .int .u8 0, .int .u8 0, .int .u8 0, .int .u8 0, .int .u8 0, .int .u8 0, .int .u8 0, .int .u8 0, .int .u8 0, .int .u8 0, .int .u8 0, .int .u8 0, .int .u8 0, .int .u8 0, .int .u8 0, .int .u8 0, .int .u8 0, .int .u8 0, .int .u8 0, .int .u8 0, .int .u8 0, .int .u8 0, .int .u8 0, .int .u8 0, .int .u8 0, .int .u8 0, .int .u8 0, .int .u8 0, .int .u8 0, .int .u8 0, .int .u8 0, .int .u8 0, .int .u8 0, .int .u8 0, .int .u8 0, .int .u8 0, .int .u8 0, .int .u8 0, .int .u8 0, .int .u8 0, .int .u8 0, .int .u8 0, .int .u8 0, .int .u8 0, .int .u8 0, .int .u8 0, .int .u8 0, .int .u8 0, .int .u8 0, .int .u8 0, .int .u8 0, .int .u8 0, .int .u8 0, .int .u8 0, .int .u8 0, .int .u8 0, .int .u8 0, .int .u8 0, .int .u8 0, .int .u8 0, .int .u8 0, .int .u8 0, .int .u8 0, .int .u8 0, .int .u8 0, .int .u8 0, .int .u8 0, .int .u8 0, .int .u8 0, .int .u8 0, .int .u8 0, .int .u8 0, .int .u8 0, .int .u8 0, .int .u8 0, .int .u8 0, .int .u8 0, .int .u8 0, .int .u8 0, .int .u8 0, .int .u8 0, .int .u8 0, .int .u8 0, .int .u8 0, .int .u8 0, .int .u8 0, .int .u8 0, .int .u8 0, .int .u8 0, .int .u8 0, .int .u8 0, .int .u8 0, .int .u8 0, .int .u8 0, .int .u8 0, .int .u8 0, .int .u8 0, .int .u8 0, .int .u8 0, .int .u8 0, .int .u8 0, .int .u8 0, .int .u8 0, .int .u8 0, .int .u8 0, .int .u8 0, .int .u8 0, .int .u8 0, .int .u8 0, .int .u8 0, .int .u8 0, .int .u8 0, .int .u8 0, .int .u8 0, .int .u8 0, .int .u8 0, .int .u8 0, .int .u8 0, .int .u8 0, .int .u8 0, .int .u8 0, .int .u8 0, .int .u8 0, .int .u8 0, .int .u8 0, .int .u8 0, .int .u8 0, .int .u8 0, .int .u8 0, .int .u8 0, .int .u8 0, .int .u8 0, .int .u8 0, .int .u8 0, .int .u8 0, .int .u8 0, .int .u8 0, .int .u8 0, .int .u8 0, .int .u8 0, .int .u8 0, .int .u8 0, .int .u8 0, .int .u8 0, .int .u8 0, .int .u8 0, .int .u8 0, .int .u8 0, .int .u8 0, .int .u8 0, .int .u8 0, .int .u8 0, .int .u8 0, .int .u8 0, .int .u8 0, .int .u8 0, .int .u8 0, .int .u8 0, .int .u8 0, .int .u8 0, .int .u8 0, .int .u8 0, .int .u8 0, .int .u8 0, .int .u8 0, .int .u8 0, .int .u8 0, .int .u8 0, .int .u8 0, .int .u8 0, .int .u8 0, .int .u8 0, .int .u8 0, .int .u8 0, .int .u8 0, .int .u8 0, .int .u8 0, .int .u8 0, .int .u8 0, .int .u8 0, .int .u8 0, .int .u8 0, .int .u8 0, .int .u8 0, .int .u8 0, .int .u8 0, .int .u8 0, .int .u8 0, .int .u8 0, .int .u8 0, .int .u8 0, .int .u8 0, .int .u8 0, .int .u8 0, .int .u8 0, .int .u8 0, .int .u8 0, .int .u8 0, .int .u8 0, .int .u8 0, .int .u8 0, .int .u8 0, .int .u8 0, .int .u8 0, .int .u8 0, .int .u8 0, .int .u8 0, .int .u8 0, .int .u8 0, .int .u8 0, .int .u8 0, .int .u8 0, .int .u8 0, .int .u8 0, .int .u8 0, .int .u8 0, .int .u8 0, .int .u8 0] [(0, 1, (.t 8)), (1, 1, (.c (.int .i64 4)))], none⟩,
      ⟨(some 6), .alloc [.int .i64 0, .int .i64 0, .int .i64 0, .int .i64 0, .int .i64 0, .int .i64 0, .int .i64 0, .int .i64 0, .int .i64 0, .int .i64 0, .int .i64 0, .int .i64 0, .int .i64 0, .int .i64 0, .int .i64 0, .int .i64 0, .int .i64 0, .int .i64 0, .int .u8 0, .int .u8 0, .int .u8 0, .int .u8 0, .int .u8 0, .int .u8 0, .int .u8 0, .int .u8 0, .int .u8 0, .int .u8 0, .int .u8 0, .int .u8 0, .int .u8 0, .int .u8 0, .int .u8 0, .int .u8 0, .int .u8 0, .int .u8 0, .int .u8 0, .int .u8 0, .int .u8 0, .int .u8 0, .int .u8 0, .int .u8 0, .int .u8 0, .int .u8 0, .int .u8 0, .int .u8 0, .int .u8 0, .int .u8 0, .int .u8 0, .int .u8 0, .int .u8 0, .int .u8 0, .int .u8 0, .int .u8 0, .int .u8 0, .int .u8 0, .int .u8 0, .int .u8 0, .int .u8 0, .int .u8 0, .int .u8 0, .int .u8 0, .int .u8 0, .int .u8 0, .int .u8 0, .int .u8 0, .int .u8 0, .int .u8 0, .int .u8 0, .int .u8 0, .int .u8 0, .int .u8 0, .int .u8 0, .int .u8 0, .int .u8 0, .int .u8 0, .int .u8 0, .int .u8 0, .int .u8 0, .int .u8 0, .int .u8 0, .int .u8 0, .int .u8 0, .int .u8 0, .int .u8 0, .int .u8 0, .int .u8 0, .int .u8 0, .int .u8 0, .int .u8 0, .int .u8 0, .int .u8 0, .int .u8 0, .int .u8 0, .int .u8 0, .int .u8 0, .int .u8 0, .int .u8 0, .int .u8 0, .int .u8 0, .int .u8 0, .int .u8 0, .int .u8 0, .int .u8 0, .int .u8 0, .int .u8 0, .int .u8 0, .int .u8 0, .int .u8 0, .int .u8 0, .int .u8 0, .int .u8 0, .int .u8 0, .int .u8 0, .int .u8 0, .int .u8 0, .int .u8 0, .int .u8 0, .int .u8 0, .int .u8 0, .int .u8 0, .int .u8 0, .int .u8 0, .int .u8 0, .int .u8 0, .int .u8 0, .int .u8 0, .int .u8 0, .int .u8 0, .int .u8 0, .int .u8 0, .int .u8 0, .int .u8 0, .int .u8 0, .int .u8 0, .int .u8 0, .int .u8 0, .int .u8 0, .int .u8 0, .int .u8 0, .int .u8 0, .int .u8 0, .int .u8 0, .int .u8 0, .int .u8 0, .int .u8 0, .int .u8 0, .int .u8 0, .int .u8 0, .int .u8 0, .int .u8 0, .int .u8 0, .int .u8 0, .int .u8 0, .int .u8 0, .int .u8 0, .int .u8 0, .int .u8 0, .int .u8 0, .int .u8 0, .int .u8 0, .int .u8 0, .int .u8 0, .int .u8 0, .int .u8 0, .int .u8 0, .int .u8 0, .int .u8 0, .int .u8 0, .int .u8 0, .int .u8 0, .int .u8 0, .int .u8 0, .int .u8 0, .int .u8 0, .int .u8 0, .int .u8 0, .int .u8 0, .int .u8 0, .int .u8 0, .int .u8 0, .int .u8 0, .int .u8 0, .int .u8 0, .int .u8 0, .int .u8 0, .int .u8 0, .int .u8 0, .int .u8 0, .int .u8 0, .int .u8 0, .int .u8 0, .int .u8 0, .int .u8 0, .int .u8 0, .int .u8 0, .int .u8 0, .int .u8 0, .int .u8 0, .int .u8 0, .int .u8 0, .int .u8 0, .int .u8 0, .int .u8 0, .int .u8 0, .int .u8 0, .int .u8 0, .int .u8 0, .int .u8 0, .int .u8 0, .int .u8 0, .int .u8 0, .int .u8 0, .int .u8 0, .int .u8 0, .int .u8 0, .int .u8 0, .int .u8 0, .int .u8 0, .int .u8 0, .int .u8 0, .int .u8 0, .int .u8 0, .int .u8 0, .int .u8 0, .int .u8 0, .int .u8 0, .int .u8 0, .int .u8 0, .int .u8 0, .int .u8 0, .int .u8 0, .int .u8 0, .int .u8 0, .int .u8 0, .int .u8 0, .int .u8 0, .int .u8 0, .int .u8 0, .int .u8 0, .int .u8 0, .int .u8 0, .int .u8 0, .int .u8 0, .int .u8 0, .int .u8 0, .int .u8 0, .int .u8 0, .int .u8 0, .int .u8 0, .int .u8 0, .int .u8 0, .int .u8 0, .int .u8 0, .int .u8 0, .int .u8 0, .int .u8 0, .int .u8 0, .int .u8 0, .int .u8 0, .int .u8 0, .int .u8 0, .int .u8 0, .int .u8 0, .int .u8 0, .int .u8 0, .int .u8 0, .int .u8 0, .int .u8 0, .int .u8 0, .int .u8 0, .int .u8 0, .int .u8 0, .int .u8 0, .int .u8 0, .int .u8 0, .int .u8 0, .int .u8 0, .int .u8 0, .int .u8 0, .int .u8 0, .int .u8 0, .int .u8 0, .int .u8 0, .int .u8 0, .int .u8 0, .int .u8 0, .int .u8 0, .int .u8 0, .int .u8 0, .int .u8 0, .int .u8 0, .int .u8 0, .int .u8 0, .int .u8 0, .int .u8 0, .int .u8 0, .int .u8 0, .int .u8 0, .int .u8 0, .int .u8 0, .int .u8 0, .int .u8 0, .int .u8 0, .int .u8 0, .int .u8 0, .int .u8 0, .int .u8 0, .int .u8 0, .int .u8 0, .int .u8 0, .int .u8 0, .int .u8 0, .int .u8 0, .int .u8 0, .int .u8 0, .int .u8 0, .int .u8 0, .int .u8 0, .int .u8 0, .int .u8 0, .int .u8 0, .int .u8 0, .int .u8 0, .int .u8 0, .int .u8 0, .int .u8 0, .int .u8 0, .int .u8 0, .int .u8 0, .int .u8 0, .int .u8 0, .int .u8 0, .int .u8 0, .int .u8 0, .int .u8 0, .int .u8 0, .int .u8 0, .int .u8 0, .int .u8 0, .int .u8 0, .int .u8 0, .int .u8 0, .int .u8 0, .int .u8 0, .int .u8 0, .int .u8 0, .int .u8 0, .int .u8 0, .int .u8 0, .int .u8 0, .int .u8 0, .int .u8 0, .int .u8 0, .int .u8 0, .int .u8 0, .int .u8 0, .int .u8 0, .int .u8 0, .int .u8 0, .int .u8 0, .int .u8 0, .int .u8 0, .int .u8 0, .int .u8 0, .int .u8 0, .int .u8 0, .int .u8 0, .int .u8 0, .int .u8 0, .int .u8 0, .int .u8 0, .int .u8 0, .int .u8 0, .int .u8 0, .int .u8 0, .int .u8 0, .int .u8 0, .int .u8 0, .int .u8 0, .int .u8 0, .int .u8 0, .int .u8 0, .int .u8 0, .int .u8 0, .int .u8 0, .int .u8 0, .int .u8 0, .int .u8 0, .int .u8 0, .int .u8 0, .int .u8 0, .int .u8 0, .int .u8 0, .int .u8 0, .int .u8 0, .int .u8 0, .int .u8 0, .int .u8 0, .int .u8 0, .int .u8 0, .int .u8 0, .int .u8 0, .int .u8 0, .int .u8 0, .int .u8 0, .int .u8 0, .int .u8 0, .int .u8 0, .int .u8 0, .int .u8 0, .int .u8 0, .int .u8 0, .int .u8 0, .int .u8 0, .int .u8 0, .int .u8 0, .int .u8 0, .int .u8 0, .int .u8 0, .int .u8 0, .int .u8 0, .int .u8 0, .int .u8 0, .int .u8 0, .int .u8 0, .int .u8 0, .int .u8 0, .int .u8 0, .int .u8 0, .int .u8 0, .int .u8 0, .int .u8 0, .int .u8 0, .int .u8 0, .int .u8 0, .int .u8 0, .int .u8 0, .int .u8 0, .int .u8 0, .int .u8 0, .int .u8 0, .int .u8 0, .int .u8 0, .int .u8 0, .int .u8 0, .int .u8 0, .int .u8 0, .int .u8 0, .int .u8 0, .int .u8 0, .int .u8 0, .int .u8 0, .int .u8 0, .int .u8 0, .int .u8 0, .int .u8 0, .int .u8 0, .int .u8 0, .int .u8 0, .int .u8 0, .int .u8 0, .int .u8 0, .int .u8 0, .int .u8 0, .int .u8 0, .int .u8 0, .int .u8 0, .int .u8 0, .int .u8 0, .int .u8 0, .int .u8 0, .int .u8 0, .int .u8 0, .int .u8 0, .int .u8 0, .int .u8 0, .int .u8 0, .int .u8 0, .int .u8 0, .int .u8 0, .int .u8 0, .int .u8 0, .int .u8 0, .int .u8 0, .int .u8 0, .int .u8 0, .int .u8 0, .int .u8 0, .int .u8 0, .int .u8 0, .int .u8 0, .int .u8 0, .int .u8 0, .int .u8 0, .int .u8 0, .int .u8 0, .int .u8 0, .int .u8 0, .int .u8 0, .int .u8 0, .int .u8 0, .int .u8 0, .int .u8 0, .int .u8 0, .int .u8 0, .int .u8 0, .int .u8 0, .int .u8 0, .int .u8 0, .int .u8 0, .int .u8 0, .int .u8 0, .int .u8 0, .int .u8 0, .int .u8 0, .int .u8 0, .int .u8 0, .int .u8 0, .int .u8 0, .int .u8 0, .int .u8 0, .int .u8 0, .int .u8 0, .int .u8 0, .int .u8 0, .int .u8 0, .int .u8 0, .int .u8 0, .int .u8 0, .int .u8 0, .int .u8 0, .int .u8 0, .int .u8 0, .int .u8 0, .int .u8 0, .int .u8 0, .int .u8 0, .int .u8 0, .int .u8 0, .int .u8 0, .int .u8 0, .int .u8 0, .int .u8 0, .int .u8 0, .int .u8 0, .int .u8 0, .int .u8 0, .int .u8 0, .int .u8 0, .int .u8 0, .int .u8 0, .int .u8 0, .int .u8 0, .int .u8 0, .int .u8 0, .int .u8 0, .int .u8 0, .int .u8 0, .int .u8 0, .int .u8 0, .int .u8 0, .int .u8 0, .int .u8 0, .int .u8 0, .int .u8 0, .int .u8 0, .int .u8 0, .int .u8 0, .int .u8 0, .int .u8 0, .int .u8 0, .int .u8 0, .int .u8 0, .int .u8 0, .int .u8 0, .int .u8 0, .int .u8 0, .int .u8 0, .int .u8 0, .int .u8 0, .int .u8 0, .int .u8 0, .int .u8 0, .int .u8 0, .int .u8 0, .int .u8 0, .int .u8 0, .int .u8 0, .int .u8 0, .int .u8 0, .int .u8 0, .int .u8 0, .int .u8 0], none⟩,
      ⟨none, .store 594 (.t 6) (.t 9), none⟩] none)
  (.seq (.seq (.reg [
        ⟨(some 10), .move (.t 0), none⟩] none)
    (.block 0 (.seq (.reg [
          ⟨(some 13), .bin 0 .eql (.t 10) (.c (.str [112, 111, 105, 110, 116])), none⟩,
          ⟨(some 12), .move (.t 13), none⟩] none)
      (.cond (.t 12)
      (.reg [
          ⟨(some 14), .fieldAddr 1 (.t 6), none⟩,
          ⟨none, .store 1 (.t 14) (.c (.int .i64 1)), none⟩] none)
      (.seq (.reg [
            ⟨(some 16), .bin 0 .eql (.t 10) (.c (.str [99, 105, 114, 99, 108, 101])), none⟩,
            ⟨(some 15), .move (.t 16), none⟩] none)
        (.cond (.t 15)
        (.seq (.reg [
              ⟨(some 17), .fieldAddr 1 (.t 6), none⟩,
              ⟨none, .store 1 (.t 17) (.c (.int .i64 2)), none⟩] none)
          (.reg [
            ⟨(some 18), .fieldAddr 2 (.t 6), none⟩,
            ⟨(some 19), .indexAddr (some 8) 1 (.t 18) (.c (.int .i64 1)), none⟩,
            ⟨none, .store 1 (.t 19) (.c (.int .i64 1)), none⟩] none))
        (.seq (.reg [
              ⟨(some 21), .bin 0 .eql (.t 10) (.c (.str [116, 111, 114, 117, 115])), none⟩,
              ⟨(some 20), .move (.t 21), none⟩] none)
          (.cond (.t 20)
          (.reg [
              ⟨(some 22), .build [.int .i64 0, .int .i64 0, .int .i64 0, .int .i64 0, .int .i64 0, .int .i64 0, .int .i64 0, .int .i64 0] [(0, 1, (.c (.int .i64 0))), (1, 1, (.c (.int .i64 1))), (2, 1, (.c (.int .i64 1))), (3, 1, (.c (.int .i64 2)))], none⟩,
              ⟨(some 23), .fieldAddr 2 (.t 6), none⟩,
              ⟨none, .store 8 (.t 23) (.t 22), none⟩] none)
          (.seq (.reg [
                ⟨(some 25), .bin 0 .eql (.t 10) (.c (.str [100, 105, 115, 99])), none⟩,
                ⟨(some 24), .move (.t 25), none⟩] none)
            (.cond (.t 24)
            (.reg [
                ⟨(some 26), .build [.int .i64 0, .int .i64 0, .int .i64 0, .int .i64 0, .int .i64 0, .int .i64 0, .int .i64 0, .int .i64 0] [(0, 1, (.c (.int .i64 0))), (1, 1, (.c (.int .i64 0))), (2, 1, (.c (.int .i64 1))), (3, 1, (.c (.int .i64 1)))], none⟩,
                ⟨(some 27), .fieldAddr 2 (.t 6), none⟩,
                ⟨none, .store 8 (.t 27) (.t 26), none⟩] none)
            (.seq (.reg [
                  ⟨(some 11), .load false (some 594) (.t 6), none⟩,
                  ⟨none, .store 594 (.t 4) (.t 11), none⟩,
                  ⟨(some 5), .move (.c (.bool false)), none⟩] none)
              (.ret))))))))))))
  (.seq (.reg [
      ⟨(some 28), .fieldAddr 2 (.t 6), none⟩,
      ⟨(some 29), .load false (some 8) (.t 28), none⟩,
      ⟨(some 30), .fieldAddr 10 (.t 6), none⟩,
      ⟨none, .store 8 (.t 30) (.t 29), none⟩] none)
  (.seq (.seq (.reg [
        ⟨(some 7), .move (.c (.int .i64 0)), none⟩] none)
    (.block 1 (.loop true (.seq (.seq (.reg [
              ⟨(some 31), .move (.t 7), none⟩,
              ⟨(some 32), .fieldAddr 1 (.t 6), none⟩,
              ⟨(some 33), .load false none (.t 32), none⟩,
              ⟨(some 34), .bin 0 .lss (.t 31) (.t 33), none⟩] none)
          (.cond (.t 34)
          (.skip)
          (.exit 1)))
        (.seq (.block 2 (.seq (.reg [
                ⟨(some 37), .move (.t 7), none⟩,
                ⟨(some 38), .move (.t 7), none⟩,
                ⟨(some 39), .callf .plain 104 [(.t 38)], none⟩,
                ⟨(some 40), .fieldAddr 82 (.t 6), none⟩,
                ⟨(some 41), .indexAddr (some 8) 64 (.t 40) (.c (.int .i64 0)), none⟩,
                ⟨(some 42), .indexAddr (some 8) 8 (.t 41) (.t 37), none⟩,
                ⟨none, .store 8 (.t 42) (.t 39), none⟩] none)
            (.reg [
              ⟨(some 43), .move (.t 7), none⟩,
              ⟨(some 44), .move (.t 7), none⟩,
              ⟨(some 45), .callf .plain 104 [(.t 44)], none⟩,
              ⟨(some 46), .fieldAddr 82 (.t 6), none⟩,
              ⟨(some 47), .indexAddr (some 8) 64 (.t 46) (.t 43), none⟩,
              ⟨(some 48), .indexAddr (some 8) 8 (.t 47) (.c (.int .i64 0)), none⟩,
              ⟨none, .store 8 (.t 48) (.t 45), none⟩] (some [[], [], [1], [], [3, 0], [4, 0, 1, 2], [5, 2, 2, 0, 1, 2]]))))
        (.reg [
          ⟨(some 35), .move (.t 7), none⟩,
          ⟨(some 36), .bin 0 .add (.t 35) (.c (.int .i64 1)), none⟩,
          ⟨(some 7), .move (.t 36), none⟩] none))))))
  (.seq (.seq (.reg [
        ⟨(some 49), .move (.t 0), none⟩] none)
    (.block 3 (.seq (.reg [
          ⟨(some 51), .bin 0 .eql (.t 49) (.c (.str [116, 111, 114, 117, 115])), none⟩,
          ⟨(some 50), .move (.t 51), none⟩] none)
      (.cond (.t 50)
      (.seq (.reg [
            ⟨(some 52), .callf .plain 104 [(.c (.int .i64 3))], none⟩,
            ⟨(some 53), .fieldAddr 82 (.t 6), none⟩,
            ⟨(some 54), .indexAddr (some 8) 64 (.t 53) (.c (.int .i64 1)), none⟩,
            ⟨(some 55), .indexAddr (some 8) 8 (.t 54) (.c (.int .i64 2)), none⟩,
            ⟨none, .store 8 (.t 55) (.t 52), none⟩] none)
        (.reg [
          ⟨(some 56), .move (.t 1), none⟩,
          ⟨(some 57), .build [.int .u8 0, .int .u8 0, .int .u8 0, .int .u8 0, .int .u8 0, .int .u8 0, .int .u8 0, .int .u8 0] [], none⟩,
          ⟨(some 58), .callf .plain 104 [(.c (.int .i64 3))], none⟩,
          ⟨(some 59), .callf .plain 105 [(.t 56), (.t 57), (.t 58), (.c (.int .i64 (-1)))], none⟩,
          ⟨(some 60), .fieldAddr 82 (.t 6), none⟩,
          ⟨(some 61), .indexAddr (some 8) 64 (.t 60) (.c (.int .i64 2)), none⟩,
          ⟨(some 62), .indexAddr (some 8) 8 (.t 61) (.c (.int .i64 1)), none⟩,
          ⟨none, .store 8 (.t 62) (.t 59), none⟩] none))
      (.seq (.reg [
            ⟨(some 64), .bin 0 .eql (.t 49) (.c (.str [100, 105, 115, 99])), none⟩,
            ⟨(some 63), .move (.t 64), none⟩] none)
        (.cond (.t 63)
        (.seq (.reg [
              ⟨(some 65), .build [.int .i64 0, .int .i64 0, .int .i64 0, .int .i64 0, .int .i64 0, .int .i64 0, .int .i64 0, .int .i64 0] [(0, 1, (.c (.int .i64 0))), (1, 1, (.c (.int .i64 1))), (2, 1, (.c (.int .i64 1))), (3, 1, (.c (.int .i64 2)))], none⟩,
              ⟨(some 66), .fieldAddr 10 (.t 6), none⟩,
              ⟨none, .store 8 (.t 66) (.t 65), none⟩] none)
          (.seq (.reg [
              ⟨(some 67), .callf .plain 104 [(.c (.int .i64 3))], none⟩,
              ⟨(some 68), .fieldAddr 82 (.t 6), none⟩,
              ⟨(some 69), .indexAddr (some 8) 64 (.t 68) (.c (.int .i64 1)), none⟩,
              ⟨(some 70), .indexAddr (some 8) 8 (.t 69) (.c (.int .i64 2)), none⟩,
              ⟨none, .store 8 (.t 70) (.t 67), none⟩] none)
          (.seq (.reg [
              ⟨(some 71), .callf .plain 104 [(.c (.int .i64 3))], none⟩,
              ⟨(some 72), .fieldAddr 82 (.t 6), none⟩,
              ⟨(some 73), .indexAddr (some 8) 64 (.t 72) (.c (.int .i64 2)), none⟩,
              ⟨(some 74), .indexAddr (some 8) 8 (.t 73) (.c (.int .i64 1)), none⟩,
              ⟨none, .store 8 (.t 74) (.t 71), none⟩] none)
          (.reg [
            ⟨(some 75), .callf .plain 104 [(.c (.int .i64 1))], none⟩,
            ⟨(some 76), .fieldAddr 18 (.t 6), none⟩,
            ⟨(some 77), .indexAddr (some 8) 8 (.t 76) (.c (.int .i64 2)), none⟩,
            ⟨none, .store 8 (.t 77) (.t 75), none⟩] none))))
        (.skip)))))))
  (.seq (.reg [
      ⟨(some 78), .load false (some 594) (.t 6), none⟩,
      ⟨none, .store 594 (.t 4) (.t 78), none⟩,
      ⟨(some 5), .move (.c (.bool true)), none⟩] none)
  (.ret)))))))⟩
/-- loop.example.g01273.spec.l10Filtered. -/
def p65 : Fn := ⟨1, 87, [.cell 2 (some 4)],
  .seq (.reg [
      ⟨(some 1), .box (.t 0), none⟩,
      ⟨(some 2), .alloc [.int .i64 0, .nils, .nils, .nils], none⟩] none)
  (.seq (.reg [
      ⟨(some 9), .fieldAddr 0 (.t 1), none⟩,
      ⟨(some 10), .load false none (.t 9), none⟩,
      ⟨(some 11), .buildSlice 1 0 [] [], none⟩,
      ⟨(some 12), .buildSlice 1 0 [] [], none⟩,
      ⟨(some 13), .build [.int .i64 0, .nils, .nils] [(0, 1, (.t 10)), (1, 1, (.t 11)), (2, 1, (.t 12))], none⟩,
      ⟨(some 14), .buildSlice 1 0 [] [], none⟩,
      ⟨(some 15), .build [.int .i64 0, .nils, .nils, .nils] [(0, 3, (.t 13)), (3, 1, (.t 14))], none⟩,
      ⟨(some 3), .alloc [.int .i64 0, .nils, .nils, .nils], none⟩,
      ⟨none, .store 4 (.t 3) (.t 15), none⟩] none)
  (.seq (.seq (.reg [
        ⟨(some 4), .move (.c (.int .i64 0)), none⟩] none)
    (.block 0 (.loop true (.seq (.seq (.reg [
              ⟨(some 16), .move (.t 4), none⟩,
              ⟨(some 17), .fieldAddr 1 (.t 1), none⟩,
              ⟨(some 18), .load false none (.t 17), none⟩,
              ⟨(some 19), .bin 0 .sub (.t 18) (.c (.int .i64 1)), none⟩,
              ⟨(some 20), .fieldAddr 2 (.t 1), none⟩,
              ⟨(some 21), .indexAddr (some 8) 1 (.t 20) (.t 19), none⟩,
              ⟨(some 22), .load false none (.t 21), none⟩,
              ⟨(some 23), .bin 0 .leq (.t 16) (.t 22), none⟩] none)
          (.cond (.t 23)
          (.skip)
          (.exit 0)))
        (.seq (.block 1 (.seq (.reg [
                ⟨(some 26), .load false (some 594) (.t 1), none⟩,
                ⟨(some 27), .move (.t 4), none⟩,
                ⟨(some 28), .callf .plain 106 [(.t 26), (.t 27)], none⟩,
                ⟨(some 29), .buildSlice 1 0 [] [], none⟩,
                ⟨(some 30), .buildSlice 1 0 [] [], none⟩,
                ⟨(some 5), .move (.t 28), none⟩,
                ⟨(some 6), .move (.t 29), none⟩,
                ⟨(some 7), .move (.t 30), none⟩] none)
            (.seq (.seq (.reg [
                  ⟨(some 8), .move (.c (.int .i64 0)), none⟩] none)
              (.block 2 (.loop true (.seq (.seq (.reg [
                        ⟨(some 31), .move (.t 8), none⟩,
                        ⟨(some 32), .move (.t 5), none⟩,
                        ⟨(some 33), .len (.t 32), none⟩,
                        ⟨(some 34), .bin 0 .lss (.t 31) (.t 33), none⟩] none)
                    (.cond (.t 34)
                    (.skip)
                    (.exit 2)))
                  (.seq (.block 3 (.seq (.reg [
                          ⟨(some 37), .move (.t 6), none⟩,
                          ⟨(some 38), .move (.t 5), none⟩,
                          ⟨(some 39), .move (.t 8), none⟩,
                          ⟨(some 40), .indexAddr none 1 (.t 38) (.t 39), none⟩,
                          ⟨(some 41), .load false none (.t 40), none⟩,
                          ⟨(some 42), .fieldAddr 10 (.t 1), none⟩,
                          ⟨(some 43), .indexAddr (some 8) 1 (.t 42) (.t 41), none⟩,
                          ⟨(some 44), .load false none (.t 43), none⟩,
                          ⟨(some 45), .buildSlice 1 1 [.int .i64 0] [(0, 1, (.t 44))], none⟩,
                          ⟨(some 46), .append 1 8 (.t 37) (.t 45), none⟩,
                          ⟨(some 6), .move (.t 46), none⟩] none)
                      (.reg [
                        ⟨(some 47), .move (.t 7), none⟩,
                        ⟨(some 48), .load false (some 594) (.t 1), none⟩,
                        ⟨(some 49), .move (.t 4), none⟩,
                        ⟨(some 50), .bin 0 .sub (.t 49) (.c (.int .i64 1)), none⟩,
                        ⟨(some 51), .move (.t 5), none⟩,
                        ⟨(some 52), .move (.t 8), none⟩,
                        ⟨(some 53), .indexAddr none 1 (.t 51) (.t 52), none⟩,
                        ⟨(some 54), .load false none (.t 53), none⟩,
                        ⟨(some 55), .fieldAddr 18 (.t 1), none⟩,
                        ⟨(some 56), .indexAddr (some 8) 8 (.t 55) (.t 54), none⟩,
                        ⟨(some 57), .load false (some 8) (.t 56), none⟩,
                        ⟨(some 58), .callf .plain 107 [(.t 48), (.t 50), (.t 57)], none⟩,
                        ⟨(some 59), .buildSlice 1 1 [.nils] [(0, 1, (.t 58))], none⟩,
                        ⟨(some 60), .append 1 24 (.t 47) (.t 59), none⟩,
                        ⟨(some 7), .move (.t 60), none⟩] (some [[], [], [], [2], [], [], [4, 5], [6], [], [8, 7], [9], [1, 3, 10], [11], [0, 12, 11], [13, 13, 0, 1, 2, 3, 4, 5, 6, 7, 8, 9, 10, 11, 12, 13]]))))
                  (.reg [
                    ⟨(some 35), .move (.t 8), none⟩,
                    ⟨(some 36), .bin 0 .add (.t 35) (.c (.int .i64 1)), none⟩,
                    ⟨(some 8), .move (.t 36), none⟩] none))))))
            (.seq (.reg [
                ⟨(some 61), .fieldAddr 0 (.t 3), none⟩,
                ⟨(some 62), .fieldAddr 1 (.t 61), none⟩,
                ⟨(some 63), .load false none (.t 62), none⟩,
                ⟨(some 64), .move (.t 5), none⟩,
                ⟨(some 65), .len (.t 64), none⟩,
                ⟨(some 66), .buildSlice 1 1 [.int .i64 0] [(0, 1, (.t 65))], none⟩,
                ⟨(some 67), .append 1 8 (.t 63) (.t 66), none⟩,
                ⟨(some 68), .fieldAddr 0 (.t 3), none⟩,
                ⟨(some 69), .fieldAddr 1 (.t 68), none⟩,
                ⟨none, .store 1 (.t 69) (.t 67), none⟩] none)
            (.seq (.reg [
                ⟨(some 70), .fieldAddr 3 (.t 3), none⟩,
                ⟨(some 71), .load false none (.t 70), none⟩,
                ⟨(some 72), .move (.t 6), none⟩,
                ⟨(some 73), .buildSlice 1 1 [.nils] [(0, 1, (.t 72))], none⟩,
                ⟨(some 74), .append 1 24 (.t 71) (.t 73), none⟩,
                ⟨(some 75), .fieldAddr 3 (.t 3), none⟩,
                ⟨none, .store 1 (.t 75) (.t 74), none⟩] none)
            (.seq (.reg [
                ⟨(some 76), .move (.t 4), none⟩,
                ⟨(some 77), .bin 0 .gtr (.t 76) (.c (.int .i64 0)), none⟩] none)
            (.cond (.t 77)
            (.reg [
                ⟨(some 78), .fieldAddr 0 (.t 3), none⟩,
                ⟨(some 79), .fieldAddr 2 (.t 78), none⟩,
                ⟨(some 80), .load false none (.t 79), none⟩,
                ⟨(some 81), .move (.t 7), none⟩,
                ⟨(some 82), .buildSlice 1 1 [.nils] [(0, 1, (.t 81))], none⟩,
                ⟨(some 83), .append 1 24 (.t 80) (.t 82), none⟩,
                ⟨(some 84), .fieldAddr 0 (.t 3), none⟩,
                ⟨(some 85), .fieldAddr 2 (.t 84), none⟩,
                ⟨none, .store 1 (.t 85) (.t 83), none⟩] none)
            (.skip))))))))
        (.reg [
          ⟨(some 24), .move (.t 4), none⟩,
          ⟨(some 25), .bin 0 .add (.t 24) (.c (.int .i64 1)), none⟩,
          ⟨(some 4), .move (.t 25), none⟩] none))))))
  (.seq (.reg [
      ⟨(some 86), .load false (some 4) (.t 3), none⟩,
      ⟨none, .store 4 (.t 2) (.t 86), none⟩] none)
  (.ret))))⟩
/-- loop.example.g01273.spec.l06Unit. -/
def p66 : Fn := ⟨1, 7, [.cell 2 (some 3)],
  .seq (.reg [
      ⟨(some 2), .alloc [.int .i64 0, .nils, .nils], none⟩] none)
  (.seq (.reg [
      ⟨(some 3), .move (.t 0), none⟩,
      ⟨(some 4), .buildSlice 1 1 [.int .i64 0] [(0, 1, (.c (.int .i64 1)))], none⟩,
      ⟨(some 5), .buildSlice 1 0 [] [], none⟩,
      ⟨(some 6), .build [.int .i64 0, .nils, .nils] [(0, 1, (.t 3)), (1, 1, (.t 4)), (2, 1, (.t 5))], none⟩,
      ⟨none, .store 3 (.t 2) (.t 6), none⟩] none)
  (.ret))⟩
/-- loop.example.g01273.impl.isPrime. -/
def p67 : Fn := ⟨1, 17, [.tmp 2],
  .seq (.reg [
      ⟨(some 2), .move (.c (.bool false)), none⟩] none)
  (.seq (.reg [
      ⟨(some 3), .move (.t 0), none⟩,
      ⟨(some 4), .bin 0 .eql (.t 3) (.c (.int .i64 2)), none⟩,
      ⟨(some 5), .move (.t 4), none⟩,
      ⟨(some 6), .move (.t 0), (some (5, false))⟩,
      ⟨(some 7), .bin 0 .eql (.t 6) (.c (.int .i64 3)), (some (5, false))⟩,
      ⟨(some 8), .pick (.t 5) (.c (.bool true)) (.t 7), none⟩,
      ⟨(some 9), .move (.t 8), none⟩,
      ⟨(some 10), .move (.t 0), (some (9, false))⟩,
      ⟨(some 11), .bin 0 .eql (.t 10) (.c (.int .i64 5)), (some (9, false))⟩,
      ⟨(some 12), .pick (.t 9) (.c (.bool true)) (.t 11), none⟩,
      ⟨(some 13), .move (.t 12), none⟩,
      ⟨(some 14), .move (.t 0), (some (13, false))⟩,
      ⟨(some 15), .bin 0 .eql (.t 14) (.c (.int .i64 7)), (some (13, false))⟩,
      ⟨(some 16), .pick (.t 13) (.c (.bool true)) (.t 15), none⟩,
      ⟨(some 2), .move (.t 16), none⟩] none)
  (.ret))⟩
/-- loop.example.g01273.impl.withUnit. -/
def p68 : Fn := ⟨3, 48, [.cell 6 (some 594)],
  .seq (.reg [
      ⟨(some 6), .alloc [.int .i64 0, .int .i64 0, .int .i64 0, .int .i64 0, .int .i64 0, .int .i64 0, .int .i64 0, .int .i64 0, .int .i64 0, .int .i64 0, .int .i64 0, .int .i64 0, .int .i64 0, .int .i64 0, .int .i64 0, .int .i64 0, .int .i64 0, .int .i64 0, .int .u8 0, .int .u8 0, .int .u8 0, .int .u8 0, .int .u8 0, .int .u8 0, .int .u8 0, .int .u8 0, .int .u8 0, .int .u8 0, .int .u8 0, .int .u8 0, .int .u8 0, .int .u8 0, .int .u8 0, .int .u8 0, .int .u8 0, .int .u8 0, .int .u8 0, .int .u8 0, .int .u8 0, .int .u8 0, .int .u8 0, .int .u8 0, .int .u8 0, .int .u8 0, .int .u8 0, .int .u8 0, .int .u8 0, .int .u8 0, .int .u8 0, .int .u8 0, .int .u8 0, .int .u8 0, .int .u8 0, .int .u8 0, .int .u8 0, .int .u8 0, .int .u8 0, .int .u8 0, .int .u8 0, .int .u8 0, .int .u8 0, .int .u8 0, .int .u8 0, .int .u8 0, .int .u8 0, .int .u8 0, .int .u8 0, .int .u8 0, .int .u8 0, .int .u8 0, .int .u8 0, .int .u8 0, .int .u8 0, .int .u8 0, .int .u8 0, .int .u8 0, .int .u8 0, .int .u8 0, .int .u8 0, .int .u8 0, .int .u8 0, .int .u8 0, .int .u8 0, .int .u8 0, .int .u8 0, .int .u8 0, .int .u8 0, .int .u8 0, .int .u8 0, .int .u8 0, .int .u8 0, .int .u8 0, .int .u8 0, .int .u8 0, .int .u8 0, .int .u8 0, .int .u8 0, .int .u8 0, .int .u8 0, .int .u8 0, .int .u8 0, .int .u8 0, .int .u8 0, .int .u8 0, .int .u8 0, .int .u8 0, .int .u8 0, .int .u8 0, .int .u8 0, .int .u8 0, .int .u8 0, .int .u8 0, .int .u8 0, .int .u8 0, .int .u8 0, .int .u8 0, .int .u8 0, .int .u8 0, .int .u8 0, .int .u8 0, .int .u8 0, .int .u8 0, .int .u8 0, .int .u8 0, .int .u8 0, .int .u8 0, .int .u8 0, .int .u8 0, .int .u8 0, .int .u8 0, .int .u8 0, .int .u8 0, .int .u8 0, .int .u8 0, .int .u8 0, .int .u8 0, .int .u8 0, .int .u8 0, .int .u8 0, .int .u8 0, .int .u8 0, .int .u8 0, .int .u8 0, .int .u8 0, .int .u8 0, .int .u8 0, .int .u8 0, .int .u8 0, .int .u8 0, .int .u8 0, .int .u8 0, .int .u8 0, .int .u8 0, .int .u8 0, .int .u8 0, .int .u8 0, .int .u8 0, .int .u8 0, .int .u8 0, .int .u8 0, .int .u8 0, .int .u8 0, .int .u8 0, .int .u8 0, .int .u8 0, .int .u8 0, .int .u8 0, .int .u8 0, .int .u8 0, .int .u8 0, .int .u8 0, .int .u8 0, .int .u8 0, .int .u8 0, .int .u8 0, .int .u8 0, .int .u8 0, .int .u8 0, .int .u8 0, .int .u8 0, .int .u8 0, .int .u8 0, .int .u8 0, .int .u8 0, .int .u8 0, .int .u8 0, .int .u8 0, .int .u8 0, .int .u8 0, .int .u8 0, .int .u8 0, .int .u8 0, .int .u8 0, .int .u8 0, .int .u8 0, .int .u8 0, .int .u8 0, .int .u8 0, .int .u8 0, .int .u8 0, .int .u8 0, .int .u8 0, .int .u8 0, .int .u8 0, .int .u8 0, .int .u8 0, .int .u8 0, .int .u8 0, .int .u8 0, .int .u8 0, .int .u8 0, .int .u8 0, .int .u8 0, .int .u8 0, .int .u8 0, .int .u8 0, .int .u8 0, .int .u8 0, .int .u8 0, .int .u8 0, .int .u8 0, .int .u8 0, .int .u8 0, .int .u8 0, .int .u8 0, .int .u8 0, .int .u8 0, .int .u8 0, .int .u8 0, .int .u8 0, .int .u8 0, .int .u8 0, .int .u8 0, .int .u8 0, .int .u8 0, .int .u8 0, .int .u8 0, .int .u8 0, .int .u8 0, .int .u8 0, .int .u8 0, .int .u8 0, .int .u8 0, .int .u8 0, .int .u8 0, .int .u8 0, .int .u8 0, .int .u8 0, .int .u8 0, .int .u8 0, .int .u8 0, .int .u8 0, .int .u8 0, .int .u8 0, .int .u8 0, .int .u8 0, .int .u8 0, .int .u8 0, .int .u8 0, .int .u8 0, .int .u8 0, .int .u8 0, .int .u8 0, .int .u8 0, .int .u8 0, .int .u8 0, .int .u8 0, .int .u8 0, .int .u8 0, .int .u8 0, .int .u8 0, .int .u8 0, .int .u8 0, .int .u8 0, .int .u8 0, .int .u8 0, .int .u8 0, .int .u8 0, .int .u8 0, .int .u8 0, .int .u8 0, .int .u8 0, .int .u8 0, .int .u8 0, .int .u8 0, .int .u8 0, .int .u8 0, .int .u8 0, .int .u8 0, .int .u8 0, .int .u8 0, .int .u8 0, .int .u8 0, .int .u8 0, .int .u8 0, .int .u8 0, .int .u8 0, .int .u8 0, .int .u8 0, .int .u8 0, .int .u8 0, .int .u8 0, .int .u8 0, .int .u8 0, .int .u8 0, .int .u8 0, .int .u8 0, .int .u8 0, .int .u8 0, .int .u8 0, .int .u8 0, .int .u8 0, .int .u8 0, .int .u8 0, .int .u8 0, .int .u8 0, .int .u8 0, .int .u8 0, .int .u8 0, .int .u8 0, .int .u8 0, .int .u8 0, .int .u8 0, .int .u8 0, .int .u8 0, .int .u8 0, .int .u8 0, .int .u8 0, .int .u8 0, .int .u8 0, .int .u8 0, .int .u8 0, .int .u8 0, .int .u8 0, .int .u8 0, .int .u8 0, .int .u8 0, .int .u8 0, .int .u8 0, .int .u8 0, .int .u8 0, .int .u8 0, .int .u8 0, .int .u8 0, .int .u8 0, .int .u8 0, .int .u8 0, .int .u8 0, .int .u8 0, .int .u8 0, .int .u8 0, .int .u8 0, .int .u8 0, .int .u8 0, .int .u8 0, .int .u8 0, .int .u8 0, .int .u8 0, .int .u8 0, .int .u8 0, .int .u8 0, .int .u8 0, .int .u8 0, .int .u8 0, .int .u8 0, .int .u8 0, .int .u8 0, .int .u8 0, .int .u8 0, .int .u8 0, .int .u8 0, .int .u8 0, .int .u8 0, .int .u8 0, .int .u8 0, .int .u8 0, .int .u8 0, .int .u8 0, .int .u8 0, .int .u8 0, .int .u8 0, .int .u8 0, .int .u8 0, .int .u8 0, .int .u8 0, .int .u8 0, .int .u8 0, .int .u8 0, .int .u8 0, .int .u8 0, .int .u8 0, .int .u8 0, .int .u8 0, .int .u8 0, .int .u8 0, .int .u8 0, .int .u8 0, .int .u8 0, .int .u8 0, .int .u8 0, .int .u8 0, .int .u8 0, .int .u8 0, .int .u8 0, .int .u8 0, .int .u8 0, .int .u8 0, .int .u8 0, .int .u8 0, .int .u8 0, .int .u8 0, .int .u8 0, .int .u8 0, .int .u8 0, .int .u8 0, .int .u8 0, .int .u8 0, .int .u8 0, .int .u8 0, .int .u8 0, .int .u8 0, .int .u8 0, .int .u8 0, .int .u8 0, .int .u8 0, .int .u8 0, .int .u8 0, .int .u8 0, .int .u8 0, .int .u8 0, .int .u8 0, .int .u8 0, .int .u8 0, .int .u8 0, .int .u8 0, .int .u8 0, .int .u8 0, .int .u8 0, .int .u8 0, .int .u8 0, .int .u8 0, .int .u8 0, .int .u8 0, .int .u8 0, .int .u8 0, .int .u8 0, .int .u8 0, .int .u8 0, .int .u8 0, .int .u8 0, .int .u8 0, .int .u8 0, .int .u8 0, .int .u8 0, .int .u8 0, .int .u8 0, .int .u8 0, .int .u8 0, .int .u8 0, .int .u8 0, .int .u8 0, .int .u8 0, .int .u8 0, .int .u8 0, .int .u8 0, .int .u8 0, .int .u8 0, .int .u8 0, .int .u8 0, .int .u8 0, .int .u8 0, .int .u8 0, .int .u8 0, .int .u8 0, .int .u8 0, .int .u8 0, .int .u8 0, .int .u8 0, .int .u8 0, .int .u8 0, .int .u8 0, .int .u8 0, .int .u8 0, .int .u8 0, .int .u8 0, .int .u8 0, .int .u8 0, .int .u8 0, .int .u8 0, .int .u8 0, .int .u8 0, .int .u8 0, .int .u8 0, .int .u8 0, .int .u8 0, .int .u8 0, .int .u8 0, .int .u8 0, .int .u8 0, .int .u8 0, .int .u8 0, .int .u8 0, .int .u8 0, .int .u8 0, .int .u8 0, .int .u8 0, .int .u8 0, .int .u8 0, .int .u8 0, .int .u8 0, .int .u8 0, .int .u8 0, .int .u8 0, .int .u8 0, .int .u8 0, .int .u8 0, .int .u8 0, .int .u8 0, .int .u8 0, .int .u8 0, .int .u8 0, .int .u8 0, .int .u8 0, .int .u8 0, .int .u8 0, .int .u8 0, .int .u8 0, .int .u8 0, .int .u8 0, .int .u8 0, .int .u8 0, .int .u8 0, .int .u8 0, .int .u8 0, .int .u8 0, .int .u8 0, .int .u8 0, .int .u8 0, .int .u8 0, .int .u8 0, .int .u8 0, .int .u8 0, .int .u8 0, .int .u8 0, .int .u8 0, .int .u8 0, .int .u8 0, .int .u8 0, .int .u8 0, .int .u8 0, .int .u8 0, .int .u8 0, .int .u8 0, .int .u8 0, .int .u8 0, .int .u8 0, .int .u8 0, .int .u8 0, .int .u8 0, .int .u8 0, .int .u8 0, .int .u8 0, .int .u8 0, .int .u8 0, .int .u8 0, .int .u8 0, .int .u8 0, .int .u8 0, .int .u8 0, .int .u8 0, .int .u8 0, .int .u8 0, .int .u8 0, .int .u8 0, .int .u8 0, .int .u8 0, .int .u8 0, .int .u8 0, .int .u8 0, .int .u8 0, .int .u8 0, .int .u8 0, .int .u8 0, .int .u8 0, .int .u8 0, .int .u8 0, .int .u8 0, .int .u8 0, .int .u8 0, .int .u8 0, .int .u8 0, .int .u8 0, .int .u8 0, .int .u8 0], none⟩] none)
  (.seq (.reg [
      ⟨(some 10), .move (.t 0), none⟩,
      ⟨(some 11), .move (.t 1), none⟩,
      ⟨(some 12), .callf .plain 73 [(.t 11)], none⟩,
      ⟨(some 13), .build [.int .i64 0, .int .i64 0, .int .i64 0, .int .i64 0, .int .i64 0, .int .i64 0, .int .i64 0, .int .i64 0, .int .i64 0, .int .i64 0, .int .i64 0, .int .i64 0, .int .i64 0, .int .i64 0, .int .i64 0, .int .i64 0, .int .i64 0, .int .i64 0, .int .u8 0, .int .u8 0, .int .u8 0, .int .u8 0, .int .u8 0, .int .u8 0, .int .u8 0, .int .u8 0, .int .u8 0, .int .u8 0, .int .u8 0, .int .u8 0, .int .u8 0, .int .u8 0, .int .u8 0, .int .u8 0, .int .u8 0, .int .u8 0, .int .u8 0, .int .u8 0, .int .u8 0, .int .u8 0, .int .u8 0, .int .u8 0, .int .u8 0, .int .u8 0, .int .u8 0, .int .u8 0, .int .u8 0, .int .u8 0, .int .u8 0, .int .u8 0, .int .u8 0, .int .u8 0, .int .u8 0, .int .u8 0, .int .u8 0, .int .u8 0, .int .u8 0, .int .u8 0, .int .u8 0, .int .u8 0, .int .u8 0, .int .u8 0, .int .u8 0, .int .u8 0, .int .u8 0, .int .u8 0, .int .u8 0, .int .u8 0, .int .u8 0, .int .u8 0, .int .u8 0, .int .u8 0, .int .u8 0, .int .u8 0, .int .u8 0, .int .u8 0, .int .u8 0, .int .u8 0, .int .u8 0, .int .u8 0, .int .u8 0, .int .u8 0, .int .u8 0, .int .u8 0, .int .u8 0, .int .u8 0, .int .u8 0, .int .u8 0, .int .u8 0, .int .u8 0, .int .u8 0, .int .u8 0, .int .u8 0, .int .u8 0, .int .u8 0, .int .u8 0, .int .u8 0, .int .u8 0, .int .u8 0, .int .u8 0, .int .u8 0, .int .u8 0, .int .u8 0, .int .u8 0, .int .u8 0, .int .u8 0, .int .u8 0, .int .u8 0, .int .u8 0, .int .u8 0, .int .u8 0, .int .u8 0, .int .u8 0, .int .u8 0, .int .u8 0, .int .u8 0, .int .u8 0, .int .u8 0, .int .u8 0, .int .u8 0, .int .u8 0, .int .u8 0, .int .u8 0, .int .u8 0, .int .u8 0, .int .u8 0, .int .u8 0, .int .u8 0, .int .u8 0, .int .u8 0, .int .u8 0, .int .u8 0, .int .u8 0, .int .u8 0, .int .u8 0, .int .u8 0, .int .u8 0, .int .u8 0, .int .u8 0, .int .u8 0, .int .u8 0, .int .u8 0, .int .u8 0, .int .u8 0, .int .u8 0, .int .u8 0, .int .u8 0, .int .u8 0, .int .u8 0, .int .u8 0, .int .u8 0, .int .u8 0, .int .u8 0, .int .u8 0, .int .u8 0, .int .u8 0, .int .u8 0, .int .u8 0, .int .u8 0, .int .u8 0, .int .u8 0, .int .u8 0, .int .u8 0, .int .u8 0, .int .u8 0, .int .u8 0, .int .u8 0, .int .u8 0, .int .u8 0, .int .u8 0, .int .u8 0, .int .u8 0, .int .u8 0, .int .u8 0, .int .u8 0, .int .u8 0, .int .u8 0, .int .u8 0, .int .u8 0, .int .u8 0, .int .u8 0, .int .u8 0, .int .u8 0, .int .u8 0, .int .u8 0, .int .u8 0, .int .u8 0, .int .u8 0, .int .u8 0, .int .u8 0, .int .u8 0, .int .u8 0, .int .u8 0, .int .u8 0, .int .u8 0, .int .u8 0, .int .u8 0, .int .u8 0, .int .u8 0, .int .u8 0, .int .u8 0, .int .u8 0, .int .u8 0, .int .u8 0, .int .u8 0, .int .u8 0, .int .u8 0, .int .u8 0, .int .u8 0, .int .u8 0, .int .u8 0, .int .u8 0, .int .u8 0, .int .u8 0, .int .u8 0, .int .u8 0, .int .u8 0, .int .u8 0, .int .u8 0, .int .u8 0, .int .u8 0, .int .u8 0, .int .u8 0, .int .u8 0, .int .u8 0, .int .u8 0, .int .u8 0, .int .u8 0, .int .u8 0, .int .u8 0, .int .u8 0, .int .u8 0, .int .u8 0, .int .u8 0, .int .u8 0, .int .u8 0, .int .u8 0, .int .u8 0, .int .u8 0, .int .u8 0, .int .u8 0, .int .u8 0, .int .u8 0, .int .u8 0, .int .u8 0, .int .u8 0, .int .u8 0, .int .u8 0, .int .u8 0, .int .u8 0, .int .u8 0, .int .u8 0, .int .u8 0, .int .u8 0, .int .u8 0, .int .u8 0, .int .u8 0, .int .u8 0, .int .u8 0, .int .u8 0, .int .u8 0, .int .u8 0, .int .u8 0, .int .u8 0, .int .u8 0, .int .u8 0, .int .u8 0, .int .u8 0, .int .u8 0, .int .u8 0, .int .u8 0, .int .u8 0, .int .u8 0, .int .u8 0, .int .u8 0, .int .u8 0, .int .u8 0, .int .u8 0, .int .u8 0, .int .u8 0, .int .u8 0, .int .u8 0, .int .u8 0, .int .u8 0, .int .u8 0, .int .u8 0, .int .u8 0, .int .u8 0, .int .u8 0, .int .u8 0, .int .u8 0, .int .u8 0, .int .u8 0, .int .u8 0, .int .u8 0, .int .u8 0, .int .u8 0, .int .u8 0, .int .u8 0, .int .u8 0, .int .u8 0, .int .u8 0, .int .u8 0, .int .u8 0, .int .u8 0, .int .u8 0, .int .u8 0, .int .u8 0, .int .u8 0, .int .u8 0, .int .u8 0, .int .u8 0, .int .u8 0, .int .u8 0, .int .u8 0, .int .u8 0, .int .u8 0, .int .u8 0, .int .u8 0, .int .u8 0, .int .u8 0, .int .u8 0, .int .u8 0, .int .u8 0, .int .u8 0, .int .u8 0, .int .u8 0, .int .u8 0, .int .u8 0, .int .u8 0, .int .u8 0, .int .u8 0, .int .u8 0, .int .u8 0, .int .u8 0, .int .u8 0, .int .u8 0, .int .u8 0, .int .u8 0, .int .u8 0, .int .u8 0, .int .u8 0, .int .u8 0, .int .u8 0, .int .u8 0, .int .u8 0, .int .u8 0, .int .u8 0, .int .u8 0, .int .u8 0, .int .u8 0, .int .u8 0, .int .u8 0, .int .u8 0, .int .u8 0, .int .u8 0, .int .u8 0, .int .u8 0, .int .u8 0, .int .u8 0, .int .u8 0, .int .u8 0, .int .u8 0, .int .u8 0, .int .u8 0, .int .u8 0, .int .u8 0, .int .u8 0, .int .u8 0, .int .u8 0, .int .u8 0, .int .u8 0, .int .u8 0, .int .u8 0, .int .u8 0, .int .u8 0, .int .u8 0, .int .u8 0, .int .u8 0, .int .u8 0, .int .u8 0, .int .u8 0, .int .u8 0, .int .u8 0, .int .u8 0, .int .u8 0, .int .u8 0, .int .u8 0, .int .u8 0, .int .u8 0, .int .u8 0, .int .u8 0, .int .u8 0, .int .u8 0, .int .u8 0, .int .u8 0, .int .u8 0, .int .u8 0, .int .u8 0, .int .u8 0, .int .u8 0, .int .u8 0, .int .u8 0, .int .u8 0, .int .u8 0, .int .u8 0, .int .u8 0, .int .u8 0, .int .u8 0, .int .u8 0, .int .u8 0, .int .u8 0, .int .u8 0, .int .u8 0, .int .u8 0, .int .u8 0, .int .u8 0, .int .u8 0, .int .u8 0, .int .u8 0, .int .u8 0, .int .u8 0, .int .u8 0, .int .u8 0, .int .u8 0, .int .u8 0, .int .u8 0, .int .u8 0, .int .u8 0, .int .u8 0, .int .u8 0, .int .u8 0, .int .u8 0, .int .u8 0, .int .u8 0, .int .u8 0, .int .u8 0, .int .u8 0, .int .u8 0, .int .u8 0, .int .u8 0, .int .u8 0, .int .u8 0, .int .u8 0, .int .u8 0, .int .u8 0, .int .u8 0, .int .u8 0, .int .u8 0, .int .u8 0, .int .u8 0, .int .u8 0, .int .u8 0, .int .u8 0, .int .u8 0, .int .u8 0, .int .u8 0, .int .u8 0, .int .u8 0, .int .u8 0, .int .u8 0, .int .u8 0, .int .u8 0, .int .u8 0, .int .u8 0, .int .u8 0, .int .u8 0, .int .u8 0, .int .u8 0, .int .u8 0, .int .u8 0, .int .u8 0, .int .u8 0, .int .u8 0, .int .u8 0, .int .u8 0, .int .u8 0, .int .u8 0, .int .u8 0, .int .u8 0, .int .u8 0, .int .u8 0, .int .u8 0, .int .u8 0, .int .u8 0, .int .u8 0, .int .u8 0, .int .u8 0, .int .u8 0, .int .u8 0, .int .u8 0, .int .u8 0, .int .u8 0, .int .u8 0, .int .u8 0, .int .u8 0, .int .u8 0, .int .u8 0, .int .u8 0, .int .u8 0, .int .u8 0, .int .u8 0, .int .u8 0, .int .u8 0, .int .u8 0, .int .u8 0, .int .u8 0, .int .u8 0, .int .u8 0, .int .u8 0, .int .u8 0, .int .u8 0, .int .u8 0, .int .u8 0, .int .u8 0, .int .u8 0, .int .u8 0, .int .u8 0, .int .u8 0, .int .u8 0, .int .u8 0, .int .u8 0, .int .u8 0, .int .u8 0, .int .u8 0, .int .u8 0, .int .u8 0, .int .u8 0, .int .u8 0, .int .u8 0, .int .u8 0, .int .u8 0, .int .u8 0, .int .u8 0, .int .u8 0, .int .u8 0, .int .u8 0, .int .u8 0, .int .u8 0, .int .u8 0, .int .u8 0, .int .u8 0, .int .u8 0, .int .u8 0, .int .u8 0, .int .u8 0, .int .u8 0, .int .u8 0, .int .u8 0, .int .u8 0, .int .u8 0, .int .u8 0, .int .u8 0, .int .u8 0, .int .u8 0, .int .u8 0, .int .u8 0, .int .u8 0, .int .u8 0, .int .u8 0, .int .u8 0, .int .u8 0, .int .u8 0, .int .u8 0, .int .u8 0, .int .u8 0, .int .u8 0, .int .u8 0, .int .u8 0, .int .u8 0, .int .u8 0, .int .u8 0, .int .u8 0, .int .u8 0, .int .u8 0, .int .u8 0, .int .u8 0, .int .u8 0, .int .u8 0, .int .u8 0, .int .u8 0, .int .u8 0, .int .u8 0, .int .u8 0, .int .u8 0, .int .u8 0, .int .u8 0, .int .u8 0, .int .u8 0, .int .u8 0, .int .u8 0, .int .u8 0, .int .u8 0, .int .u8 0] [(0, 1, (.t 10)), (1, 1, (.t 12))], none⟩,
      ⟨(some 7), .alloc [.int .i64 0, .int .i64 0, .int .i64 0, .int .i64 0, .int .i64 0, .int .i64 0, .int .i64 0, .int .i64 0, .int .i64 0, .int .i64 0, .int .i64 0, .int .i64 0, .int .i64 0, .int .i64 0, .int .i64 0, .int .i64 0, .int .i64 0, .int .i64 0, .int .u8 0, .int .u8 0, .int .u8 0, .int .u8 0, .int .u8 0, .int .u8 0, .int .u8 0, .int .u8 0, .int .u8 0, .int .u8 0, .int .u8 0, .int .u8 0, .int .u8 0, .int .u8 0, .int .u8 0, .int .u8 0, .int .u8 0, .int .u8 0, .int .u8 0, .int .u8 0, .int .u8 0, .int .u8 0, .int .u8 0, .int .u8 0, .int .u8 0, .int .u8 0, .int .u8 0, .int .u8 0, .int .u8 0, .int .u8 0, .int .u8 0, .int .u8 0, .int .u8 0, .int .u8 0, .int .u8 0, .int .u8 0, .int .u8 0, .int .u8 0, .int .u8 0, .int .u8 0, .int .u8 0, .int .u8 0, .int .u8 0, .int .u8 0, .int .u8 0, .int .u8 0, .int .u8 0, .int .u8 0, .int .u8 0, .int .u8 0, .int .u8 0, .int .u8 0, .int .u8 0, .int .u8 0, .int .u8 0, .int .u8 0, .int .u8 0, .int .u8 0, .int .u8 0, .int .u8 0, .int .u8 0, .int .u8 0, .int .u8 0, .int .u8 0, .int .u8 0, .int .u8 0, .int .u8 0, .int .u8 0, .int .u8 0, .int .u8 0, .int .u8 0, .int .u8 0, .int .u8 0, .int .u8 0, .int .u8 0, .int .u8 0, .int .u8 0, .int .u8 0, .int .u8 0, .int .u8 0, .int .u8 0, .int .u8 0, .int .u8 0, .int .u8 0, .int .u8 0, .int .u8 0, .int .u8 0, .int .u8 0, .int .u8 0, .int .u8 0, .int .u8 0, .int .u8 0, .int .u8 0, .int .u8 0, .int .u8 0, .int .u8 0, .int .u8 0, .int .u8 0, .int .u8 0, .int .u8 0, .int .u8 0, .int .u8 0, .int .u8 0, .int .u8 0, .int .u8 0, .int .u8 0, .int .u8 0, .int .u8 0, .int .u8 0, .int .u8 0, .int .u8 0, .int .u8 0, .int .u8 0, .int .u8 0, .int .u8 0, .int .u8 0, .int .u8 0, .int .u8 0, .int .u8 0, .int .u8 0, .int .u8 0, .int .u8 0, .int .u8 0, .int .u8 0, .int .u8 0, .int .u8 0, .int .u8 0, .int .u8 0, .int .u8 0, .int .u8 0, .int .u8 0, .int .u8 0, .int .u8 0, .int .u8 0, .int .u8 0, .int .u8 0, .int .u8 0, .int .u8 0, .int .u8 0, .int .u8 0, .int .u8 0, .int .u8 0, .int .u8 0, .int .u8 0, .int .u8 0, .int .u8 0, .int .u8 0, .int .u8 0, .int .u8 0, .int .u8 0, .int .u8 0, .int .u8 0, .int .u8 0, .int .u8 0, .int .u8 0, .int .u8 0, .int .u8 0, .int .u8 0, .int .u8 0, .int .u8 0, .int .u8 0, .int .u8 0, .int .u8 0, .int .u8 0, .int .u8 0, .int .u8 0, .int .u8 0, .int .u8 0, .int .u8 0, .int .u8 0, .int .u8 0, .int .u8 0, .int .u8 0, .int .u8 0, .int .u8 0, .int .u8 0, .int .u8 0, .int .u8 0, .int .u8 0, .int .u8 0, .int .u8 0, .int .u8 0, .int .u8 0, .int .u8 0, .int .u8 0, .int .u8 0, .int .u8 0, .int .u8 0, .int .u8 0, .int .u8 0, .int .u8 0, .int .u8 0, .int .u8 0, .int .u8 0, .int .u8 0, .int .u8 0, .int .u8 0, .int .u8 0, .int .u8 0, .int .u8 0, .int .u8 0, .int .u8 0, .int .u8 0, .int .u8 0, .int .u8 0, .int .u8 0, .int .u8 0, .int .u8 0, .int .u8 0, .int .u8 0, .int .u8 0, .int .u8 0, .int .u8 0, .int .u8 0, .int .u8 0, .int .u8 0, .int .u8 0, .int .u8 0, .int .u8 0, .int .u8 0, .int .u8 0, .int .u8 0, .int .u8 0, .int .u8 0, .int .u8 0, .int .u8 0, .int .u8 0, .int .u8 0, .int .u8 0, .int .u8 0, .int .u8 0, .int .u8 0, .int .u8 0, .int .u8 0, .int .u8 0, .int .u8 0, .int .u8 0, .int .u8 0, .int .u8 0, .int .u8 0, .int .u8 0, .int .u8 0, .int .u8 0, .int .u8 0, .int .u8 0, .int .u8 0, .int .u8 0, .int .u8 0, .int .u8 0, .int .u8 0, .int .u8 0, .int .u8 0, .int .u8 0, .int .u8 0, .int .u8 0, .int .u8 0, .int .u8 0, .int .u8 0, .int .u8 0, .int .u8 0, .int .u8 0, .int .u8 0, .int .u8 0, .int .u8 0, .int .u8 0, .int .u8 0, .int .u8 0, .int .u8 0, .int .u8 0, .int .u8 0, .int .u8 0, .int .u8 0, .int .u8 0, .int .u8 0, .int .u8 0, .int .u8 0, .int .u8 0, .int .u8 0, .int .u8 0, .int .u8 0, .int .u8 0, .int .u8 0, .int .u8 0, .int .u8 0, .int .u8 0, .int .u8 0, .int .u8 0, .int .u8 0, .int .u8 0, .int .u8 0, .int .u8 0, .int .u8 0, .int .u8 0, .int .u8 0, .int .u8 0, .int .u8 0, .int .u8 0, .int .u8 0, .int .u8 0, .int .u8 0, .int .u8 0, .int .u8 0, .int .u8 0, .int .u8 0, .int .u8 0, .int .u8 0, .int .u8 0, .int .u8 0, .int .u8 0, .int .u8 0, .int .u8 0, .int .u8 0, .int .u8 0, .int .u8 0, .int .u8 0, .int .u8 0, .int .u8 0, .int .u8 0, .int .u8 0, .int .u8 0, .int .u8 0, .int .u8 0, .int .u8 0, .int .u8 0, .int .u8 0, .int .u8 0, .int .u8 0, .int .u8 0, .int .u8 0, .int .u8 0, .int .u8 0, .int .u8 0, .int .u8 0, .int .u8 0, .int .u8 0, .int .u8 0, .int .u8 0, .int .u8 0, .int .u8 0, .int .u8 0, .int .u8 0, .int .u8 0, .int .u8 0, .int .u8 0, .int .u8 0, .int .u8 0, .int .u8 0, .int .u8 0, .int .u8 0, .int .u8 0, .int .u8 0, .int .u8 0, .int .u8 0, .int .u8 0, .int .u8 0, .int .u8 0, .int .u8 0, .int .u8 0, .int .u8 0, .int .u8 0, .int .u8 0, .int .u8 0, .int .u8 0, .int .u8 0, .int .u8 0, .int .u8 0, .int .u8 0, .int .u8 0, .int .u8 0, .int .u8 0, .int .u8 0, .int .u8 0, .int .u8 0, .int .u8 0, .int .u8 0, .int .u8 0, .int .u8 0, .int .u8 0, .int .u8 0, .int .u8 0, .int .u8 0, .int .u8 0, .int .u8 0, .int .u8 0, .int .u8 0, .int .u8 0, .int .u8 0, .int .u8 0, .int .u8 0, .int .u8 0, .int .u8 0, .int .u8 0, .int .u8 0, .int .u8 0, .int .u8 0, .int .u8 0, .int .u8 0, .int .u8 0, .int .u8 0, .int .u8 0, .int .u8 0, .int .u8 0, .int .u8 0, .int .u8 0, .int .u8 0, .int .u8 0, .int .u8 0, .int .u8 0, .int .u8 0, .int .u8 0, .int .u8 0, .int .u8 0, .int .u8 0, .int .u8 0, .int .u8 0, .int .u8 0, .int .u8 0, .int .u8 0, .int .u8 0, .int .u8 0, .int .u8 0, .int .u8 0, .int .u8 0, .int .u8 0, .int .u8 0, .int .u8 0, .int .u8 0, .int .u8 0, .int .u8 0, .int .u8 0, .int .u8 0, .int .u8 0, .int .u8 0, .int .u8 0, .int .u8 0, .int .u8 0, .int .u8 0, .int .u8 0, .int .u8 0, .int .u8 0, .int .u8 0, .int .u8 0, .int .u8 0, .int .u8 0, .int .u8 0, .int .u8 0, .int .u8 0, .int .u8 0, .int .u8 0, .int .u8 0, .int .u8 0, .int .u8 0, .int .u8 0, .int .u8 0, .int .u8 0, .int .u8 0, .int .u8 0, .int .u8 0, .int .u8 0, .int .u8 0, .int .u8 0, .int .u8 0, .int .u8 0, .int .u8 0, .int .u8 0, .int .u8 0, .int .u8 0, .int .u8 0, .int .u8 0, .int .u8 0, .int .u8 0, .int .u8 0, .int .u8 0, .int .u8 0, .int .u8 0, .int .u8 0, .int .u8 0, .int .u8 0, .int .u8 0, .int .u8 0, .int .u8 0, .int .u8 0, .int .u8 0, .int .u8 0, .int .u8 0, .int .u8 0, .int .u8 0, .int .u8 0, .int .u8 0, .int .u8 0, .int .u8 0, .int .u8 0, .int .u8 0, .int .u8 0, .int .u8 0, .int .u8 0, .int .u8 0, .int .u8 0, .int .u8 0, .int .u8 0, .int .u8 0, .int .u8 0, .int .u8 0, .int .u8 0, .int .u8 0, .int .u8 0, .int .u8 0, .int .u8 0, .int .u8 0, .int .u8 0, .int .u8 0, .int .u8 0, .int .u8 0, .int .u8 0, .int .u8 0, .int .u8 0, .int .u8 0, .int .u8 0, .int .u8 0, .int .u8 0, .int .u8 0, .int .u8 0, .int .u8 0, .int .u8 0, .int .u8 0, .int .u8 0, .int .u8 0, .int .u8 0, .int .u8 0, .int .u8 0, .int .u8 0, .int .u8 0, .int .u8 0, .int .u8 0, .int .u8 0, .int .u8 0, .int .u8 0, .int .u8 0, .int .u8 0, .int .u8 0, .int .u8 0, .int .u8 0, .int .u8 0, .int .u8 0, .int .u8 0, .int .u8 0, .int .u8 0, .int .u8 0, .int .u8 0, .int .u8 0, .int .u8 0, .int .u8 0, .int .u8 0, .int .u8 0, .int .u8 0, .int .u8 0, .int .u8 0, .int .u8 0, .int .u8 0, .int .u8 0, .int .u8 0, .int .u8 0, .int .u8 0, .int .u8 0, .int .u8 0, .int .u8 0, .int .u8 0, .int .u8 0, .int .u8 0, .int .u8 0, .int .u8 0, .int .u8 0, .int .u8 0, .int .u8 0, .int .u8 0, .int .u8 0], none⟩,
      ⟨none, .store 594 (.t 7) (.t 13), none⟩] none)
  (.seq (.seq (.reg [
        ⟨(some 14), .move (.t 1), none⟩,
        ⟨(some 15), .len (.t 14), none⟩,
        ⟨(some 16), .move (.c (.int .i64 0)), none⟩] none)
    (.block 0 (.loop true (.seq (.reg [
            ⟨(some 17), .bin 0 .lss (.t 16) (.t 15), none⟩] none)
        (.seq (.cond (.t 17)
          (.skip)
          (.exit 0))
        (.seq (.block 1 (.seq (.reg [
                ⟨(some 18), .move (.t 16), none⟩,
                ⟨(some 19), .indexAddr none 1 (.t 14) (.t 16), none⟩,
                ⟨(some 20), .load false none (.t 19), none⟩,
                ⟨(some 8), .move (.t 18), none⟩,
                ⟨(some 9), .move (.t 20), none⟩] none)
            (.seq (.reg [
                ⟨(some 21), .move (.t 8), none⟩,
                ⟨(some 22), .move (.t 8), none⟩,
                ⟨(some 23), .move (.t 9), none⟩,
                ⟨(some 24), .move (.t 2), none⟩,
                ⟨(some 25), .move (.t 8), none⟩,
                ⟨(some 26), .indexAddr none 1 (.t 24) (.t 25), none⟩,
                ⟨(some 27), .load true none (.t 26), none⟩,
                ⟨(some 28), .fieldAddr 2 (.t 7), none⟩,
                ⟨(some 29), .indexAddr (some 8) 1 (.t 28) (.t 21), none⟩,
                ⟨none, .store 1 (.t 29) (.t 23), none⟩,
                ⟨(some 30), .fieldAddr 10 (.t 7), none⟩,
                ⟨(some 31), .indexAddr (some 8) 1 (.t 30) (.t 22), none⟩,
                ⟨none, .store 1 (.t 31) (.t 27), none⟩] (some [[], [], [], [], [], [3, 4], [5], [], [7, 0, 0, 2], [8, 2, 0, 2], [], [10, 1, 0, 1, 2, 3, 4, 5, 6, 7, 8, 9], [11, 6, 9, 0, 1, 2, 3, 4, 5, 6, 7, 8, 9]]))
            (.reg [
              ⟨(some 32), .move (.t 8), none⟩,
              ⟨(some 33), .move (.t 8), none⟩,
              ⟨(some 34), .load false (some 594) (.t 7), none⟩,
              ⟨(some 35), .move (.t 8), none⟩,
              ⟨(some 36), .callf (.pure []) 69 [(.t 34), (.t 35)], none⟩,
              ⟨(some 37), .load false (some 594) (.t 7), none⟩,
              ⟨(some 38), .move (.t 8), none⟩,
              ⟨(some 39), .callf (.pure []) 69 [(.t 37), (.t 38)], none⟩,
              ⟨(some 40), .fieldAddr 82 (.t 7), none⟩,
              ⟨(some 41), .indexAddr (some 8) 64 (.t 40) (.c (.int .i64 0)), none⟩,
              ⟨(some 42), .indexAddr (some 8) 8 (.t 41) (.t 32), none⟩,
              ⟨none, .store 8 (.t 42) (.t 36), none⟩,
              ⟨(some 43), .fieldAddr 82 (.t 7), none⟩,
              ⟨(some 44), .indexAddr (some 8) 64 (.t 43) (.t 33), none⟩,
              ⟨(some 45), .indexAddr (some 8) 8 (.t 44) (.c (.int .i64 0)), none⟩,
              ⟨none, .store 8 (.t 45) (.t 39), none⟩] (some [[], [], [], [], [2, 3], [], [], [5, 6, 4], [], [8], [9, 0, 0, 2, 3, 4, 5], [10, 4, 7, 0, 2, 3, 4, 5], [], [12, 1], [13, 0, 1, 2, 3, 4, 5, 6, 7, 8, 9, 10, 11], [14, 7, 11, 0, 1, 2, 3, 4, 5, 6, 7, 8, 9, 10, 11]])))))
        (.reg [
          ⟨(some 46), .bin 0 .add (.t 16) (.c (.int .i64 1)), none⟩,
          ⟨(some 16), .move (.t 46), none⟩] none)))))))
  (.seq (.reg [
      ⟨(some 47), .load false (some 594) (.t 7), none⟩,
      ⟨none, .store 594 (.t 6) (.t 47), none⟩] none)
  (.ret))))⟩
/-- (loop.example.g01273.impl.Dga).basis. -/
def p69 : Fn := ⟨2, 10, [.cell 4 (some 8)],
  .seq (.reg [
      ⟨(some 2), .box (.t 0), none⟩,
      ⟨(some 4), .alloc [.int .u8 0, .int .u8 0, .int .u8 0, .int .u8 0, .int .u8 0, .int .u8 0, .int .u8 0, .int .u8 0], none⟩] none)
  (.seq (.reg [
      ⟨(some 6), .build [.int .u8 0, .int .u8 0, .int .u8 0, .int .u8 0, .int .u8 0, .int .u8 0, .int .u8 0, .int .u8 0] [], none⟩,
      ⟨(some 5), .alloc [.int .u8 0, .int .u8 0, .int .u8 0, .int .u8 0, .int .u8 0, .int .u8 0, .int .u8 0, .int .u8 0], none⟩,
      ⟨none, .store 8 (.t 5) (.t 6), none⟩] none)
  (.seq (.reg [
      ⟨(some 7), .move (.t 1), none⟩,
      ⟨(some 8), .indexAddr (some 8) 1 (.t 5) (.t 7), none⟩,
      ⟨none, .store 1 (.t 8) (.c (.int .u8 1)), none⟩] none)
  (.seq (.reg [
      ⟨(some 9), .load false (some 8) (.t 5), none⟩,
      ⟨none, .store 8 (.t 4) (.t 9), none⟩] none)
  (.ret))))⟩
/-- (loop.example.g01273.impl.Dga).plus. -/
def p70 : Fn := ⟨4, 43, [.cell 8 (some 8)],
  .seq (.reg [
      ⟨(some 4), .box (.t 0), none⟩,
      ⟨(some 5), .box (.t 1), none⟩,
      ⟨(some 6), .box (.t 2), none⟩,
      ⟨(some 8), .alloc [.int .u8 0, .int .u8 0, .int .u8 0, .int .u8 0, .int .u8 0, .int .u8 0, .int .u8 0, .int .u8 0], none⟩] none)
  (.seq (.reg [
      ⟨(some 11), .move (.t 3), none⟩,
      ⟨(some 12), .fieldAddr 0 (.t 4), none⟩,
      ⟨(some 13), .load false none (.t 12), none⟩,
      ⟨(some 14), .bin 0 .rem (.t 11) (.t 13), none⟩,
      ⟨(some 15), .fieldAddr 0 (.t 4), none⟩,
      ⟨(some 16), .load false none (.t 15), none⟩,
      ⟨(some 17), .bin 0 .add (.t 14) (.t 16), none⟩,
      ⟨(some 18), .fieldAddr 0 (.t 4), none⟩,
      ⟨(some 19), .load false none (.t 18), none⟩,
      ⟨(some 20), .bin 0 .rem (.t 17) (.t 19), none⟩,
      ⟨(some 3), .move (.t 20), none⟩] (some [[], [], [1], [0, 2], [], [4], [3, 5], [], [7], [6, 8], [9, 0, 1, 2, 3, 4, 5, 6, 7, 8, 9]]))
  (.seq (.seq (.reg [
        ⟨(some 21), .load false (some 8) (.t 6), none⟩,
        ⟨(some 22), .move (.c (.int .i64 0)), none⟩] none)
    (.block 0 (.loop true (.seq (.reg [
            ⟨(some 23), .bin 0 .lss (.t 22) (.c (.int .i64 8)), none⟩] none)
        (.seq (.cond (.t 23)
          (.skip)
          (.exit 0))
        (.seq (.block 1 (.seq (.reg [
                ⟨(some 24), .move (.t 22), none⟩,
                ⟨(some 25), .indexA 8 1 none (.t 21) (.t 22), none⟩,
                ⟨(some 9), .move (.t 24), none⟩,
                ⟨(some 10), .move (.t 25), none⟩] none)
            (.reg [
              ⟨(some 26), .move (.t 9), none⟩,
              ⟨(some 27), .move (.t 9), none⟩,
              ⟨(some 28), .indexAddr (some 8) 1 (.t 5) (.t 27), none⟩,
              ⟨(some 29), .load false none (.t 28), none⟩,
              ⟨(some 30), .toInt .i64 (.t 29), none⟩,
              ⟨(some 31), .move (.t 3), none⟩,
              ⟨(some 32), .move (.t 10), none⟩,
              ⟨(some 33), .toInt .i64 (.t 32), none⟩,
              ⟨(some 34), .bin 0 .mul (.t 31) (.t 33), none⟩,
              ⟨(some 35), .bin 0 .add (.t 30) (.t 34), none⟩,
              ⟨(some 36), .fieldAddr 0 (.t 4), none⟩,
              ⟨(some 37), .load false none (.t 36), none⟩,
              ⟨(some 38), .bin 0 .rem (.t 35) (.t 37), none⟩,
              ⟨(some 39), .toInt .u8 (.t 38), none⟩,
              ⟨(some 40), .indexAddr (some 8) 1 (.t 5) (.t 26), none⟩,
              ⟨none, .store 1 (.t 40) (.t 39), none⟩] (some [[], [], [1], [2], [3], [], [], [6], [5, 7], [4, 8], [], [10], [9, 11], [12], [0, 0, 1, 2, 3, 4, 5, 6, 7, 8, 9, 10, 11, 12, 13], [14, 13, 0, 1, 2, 3, 4, 5, 6, 7, 8, 9, 10, 11, 12, 13]]))))
        (.reg [
          ⟨(some 41), .bin 0 .add (.t 22) (.c (.int .i64 1)), none⟩,
          ⟨(some 22), .move (.t 41), none⟩] none)))))))
  (.seq (.reg [
      ⟨(some 42), .load false (some 8) (.t 5), none⟩,
      ⟨none, .store 8 (.t 8) (.t 42), none⟩] none)
  (.ret))))⟩
/-- loop.example.g01273.impl.SphereComplex. -/
def p71 : Fn := ⟨2, 26, [.cell 4 (some 3), .tmp 5],
  .seq (.reg [
      ⟨(some 4), .alloc [.int .i64 0, .nils, .nils], none⟩,
      ⟨(some 5), .move (.c (.int .i64 0)), none⟩] none)
  (.seq (.seq (.reg [
        ⟨(some 7), .move (.t 0), none⟩,
        ⟨(some 8), .callf .plain 67 [(.t 7)], none⟩,
        ⟨(some 9), .un .not (.t 8), none⟩,
        ⟨(some 10), .move (.t 9), none⟩,
        ⟨(some 11), .move (.t 1), (some (10, false))⟩,
        ⟨(some 12), .callf .plain 56 [(.t 11), (.c (.int .i64 0)), (.c (.int .i64 5))], (some (10, false))⟩,
        ⟨(some 13), .un .not (.t 12), (some (10, false))⟩,
        ⟨(some 14), .pick (.t 10) (.c (.bool true)) (.t 13), none⟩] none)
    (.cond (.t 14)
    (.seq (.reg [
          ⟨(some 15), .build [.int .i64 0, .nils, .nils] [], none⟩,
          ⟨none, .store 3 (.t 4) (.t 15), none⟩,
          ⟨(some 5), .move (.c (.int .i64 2)), none⟩] none)
      (.ret))
    (.skip)))
  (.seq (.reg [
      ⟨(some 16), .move (.t 1), none⟩,
      ⟨(some 17), .bin 0 .add (.t 16) (.c (.int .i64 1)), none⟩,
      ⟨(some 18), .makeSlice 1 8 [.int .i64 0] (.t 17) (.t 17), none⟩,
      ⟨(some 6), .move (.t 18), none⟩] none)
  (.seq (.reg [
      ⟨(some 19), .move (.t 6), none⟩,
      ⟨(some 20), .move (.t 1), none⟩,
      ⟨(some 21), .indexAddr none 1 (.t 19) (.t 20), none⟩,
      ⟨none, .store 1 (.t 21) (.c (.int .i64 1)), none⟩] none)
  (.seq (.reg [
      ⟨(some 22), .move (.t 0), none⟩,
      ⟨(some 23), .move (.t 6), none⟩,
      ⟨(some 24), .callf .plain 96 [(.t 23)], none⟩,
      ⟨(some 25), .callf .plain 74 [(.t 22), (.t 24)], none⟩,
      ⟨none, .store 3 (.t 4) (.t 25), none⟩,
      ⟨(some 5), .move (.c (.int .i64 0)), none⟩] none)
  (.ret)))))⟩
/-- (loop.example.g01273.impl.Dga).members. -/
def p72 : Fn := ⟨2, 25, [.tmp 4],
  .seq (.reg [
      ⟨(some 2), .box (.t 0), none⟩,
      ⟨(some 4), .move (.c (.nils)), none⟩] none)
  (.seq (.reg [
      ⟨(some 7), .buildSlice 1 0 [] [], none⟩,
      ⟨(some 5), .move (.t 7), none⟩] none)
  (.seq (.seq (.reg [
        ⟨(some 8), .fieldAddr 1 (.t 2), none⟩,
        ⟨(some 9), .load false none (.t 8), none⟩,
        ⟨(some 10), .move (.c (.int .i64 0)), none⟩] none)
    (.block 0 (.loop true (.seq (.reg [
            ⟨(some 11), .bin 0 .lss (.t 10) (.t 9), none⟩] none)
        (.seq (.cond (.t 11)
          (.skip)
          (.exit 0))
        (.seq (.block 1 (.seq (.reg [
                ⟨(some 12), .move (.t 10), none⟩,
                ⟨(some 6), .move (.t 12), none⟩] none)
            (.seq (.reg [
                ⟨(some 13), .move (.t 6), none⟩,
                ⟨(some 14), .fieldAddr 2 (.t 2), none⟩,
                ⟨(some 15), .indexAddr (some 8) 1 (.t 14) (.t 13), none⟩,
                ⟨(some 16), .load false none (.t 15), none⟩,
                ⟨(some 17), .move (.t 1), none⟩,
                ⟨(some 18), .bin 0 .eql (.t 16) (.t 17), none⟩] none)
            (.cond (.t 18)
            (.reg [
                ⟨(some 19), .move (.t 5), none⟩,
                ⟨(some 20), .move (.t 6), none⟩,
                ⟨(some 21), .buildSlice 1 1 [.int .i64 0] [(0, 1, (.t 20))], none⟩,
                ⟨(some 22), .append 1 8 (.t 19) (.t 21), none⟩,
                ⟨(some 5), .move (.t 22), none⟩] none)
            (.skip)))))
        (.reg [
          ⟨(some 23), .bin 0 .add (.t 10) (.c (.int .i64 1)), none⟩,
          ⟨(some 10), .move (.t 23), none⟩] none)))))))
  (.seq (.reg [
      ⟨(some 24), .move (.t 5), none⟩,
      ⟨(some 4), .move (.t 24), none⟩] none)
  (.ret))))⟩
/-- loop.example.g01273.impl.size(int64). -/
def p73 : Fn := ⟨1, 5, [.tmp 2],
  .seq (.reg [
      ⟨(some 2), .move (.c (.int .i64 0)), none⟩] none)
  (.seq (.reg [
      ⟨(some 3), .move (.t 0), none⟩,
      ⟨(some 4), .len (.t 3), none⟩,
      ⟨(some 2), .move (.t 4), none⟩] none)
  (.ret))⟩
/-- loop.example.g01273.impl.blank. -/
def p74 : Fn := ⟨2, 41, [.cell 4 (some 3)],
  .seq (.reg [
      ⟨(some 4), .alloc [.int .i64 0, .nils, .nils], none⟩] none)
  (.seq (.reg [
      ⟨(some 8), .move (.t 0), none⟩,
      ⟨(some 9), .move (.t 1), none⟩,
      ⟨(some 10), .build [.int .i64 0, .nils, .nils] [(0, 1, (.t 8)), (1, 1, (.t 9))], none⟩,
      ⟨(some 5), .alloc [.int .i64 0, .nils, .nils], none⟩,
      ⟨none, .store 3 (.t 5) (.t 10), none⟩] none)
  (.seq (.seq (.reg [
        ⟨(some 6), .move (.c (.int .i64 1)), none⟩] none)
    (.block 0 (.loop true (.seq (.seq (.reg [
              ⟨(some 11), .move (.t 6), none⟩,
              ⟨(some 12), .move (.t 1), none⟩,
              ⟨(some 13), .callf .plain 73 [(.t 12)], none⟩,
              ⟨(some 14), .bin 0 .lss (.t 11) (.t 13), none⟩] none)
          (.cond (.t 14)
          (.skip)
          (.exit 0)))
        (.seq (.block 1 (.seq (.reg [
                ⟨(some 17), .buildSlice 1 0 [] [], none⟩,
                ⟨(some 7), .move (.t 17), none⟩] none)
            (.seq (.seq (.reg [
                  ⟨(some 18), .move (.t 1), none⟩,
                  ⟨(some 19), .move (.t 6), none⟩,
                  ⟨(some 20), .indexAddr none 1 (.t 18) (.t 19), none⟩,
                  ⟨(some 21), .load false none (.t 20), none⟩,
                  ⟨(some 22), .move (.c (.int .i64 0)), none⟩] none)
              (.block 2 (.loop true (.seq (.reg [
                      ⟨(some 23), .bin 0 .lss (.t 22) (.t 21), none⟩] none)
                  (.seq (.cond (.t 23)
                    (.skip)
                    (.exit 2))
                  (.seq (.block 3 (.reg [
                        ⟨(some 24), .move (.t 7), none⟩,
                        ⟨(some 25), .move (.t 1), none⟩,
                        ⟨(some 26), .move (.t 6), none⟩,
                        ⟨(some 27), .bin 0 .sub (.t 26) (.c (.int .i64 1)), none⟩,
                        ⟨(some 28), .indexAddr none 1 (.t 25) (.t 27), none⟩,
                        ⟨(some 29), .load false none (.t 28), none⟩,
                        ⟨(some 30), .makeSlice 1 8 [.int .i64 0] (.t 29) (.t 29), none⟩,
                        ⟨(some 31), .buildSlice 1 1 [.nils] [(0, 1, (.t 30))], none⟩,
                        ⟨(some 32), .append 1 24 (.t 24) (.t 31), none⟩,
                        ⟨(some 7), .move (.t 32), none⟩] none))
                  (.reg [
                    ⟨(some 33), .bin 0 .add (.t 22) (.c (.int .i64 1)), none⟩,
                    ⟨(some 22), .move (.t 33), none⟩] none)))))))
            (.reg [
              ⟨(some 34), .fieldAddr 2 (.t 5), none⟩,
              ⟨(some 35), .load false none (.t 34), none⟩,
              ⟨(some 36), .move (.t 7), none⟩,
              ⟨(some 37), .buildSlice 1 1 [.nils] [(0, 1, (.t 36))], none⟩,
              ⟨(some 38), .append 1 24 (.t 35) (.t 37), none⟩,
              ⟨(some 39), .fieldAddr 2 (.t 5), none⟩,
              ⟨none, .store 1 (.t 39) (.t 38), none⟩] none))))
        (.reg [
          ⟨(some 15), .move (.t 6), none⟩,
          ⟨(some 16), .bin 0 .add (.t 15) (.c (.int .i64 1)), none⟩,
          ⟨(some 6), .move (.t 16), none⟩] none))))))
  (.seq (.reg [
      ⟨(some 40), .load false (some 3) (.t 5), none⟩,
      ⟨none, .store 3 (.t 4) (.t 40), none⟩] none)
  (.ret))))⟩
/-- (loop.example.g01273.impl.Complex).addAt. -/
def p75 : Fn := ⟨5, 38, [],
  .seq (.reg [
      ⟨(some 5), .box (.t 0), none⟩] none)
  (.seq (.reg [
      ⟨(some 11), .fieldAddr 2 (.t 5), none⟩,
      ⟨(some 12), .load false none (.t 11), none⟩,
      ⟨(some 13), .move (.t 1), none⟩,
      ⟨(some 14), .bin 0 .sub (.t 13) (.c (.int .i64 1)), none⟩,
      ⟨(some 15), .indexAddr none 1 (.t 12) (.t 14), none⟩,
      ⟨(some 16), .load false none (.t 15), none⟩,
      ⟨(some 17), .move (.t 2), none⟩,
      ⟨(some 18), .indexAddr none 1 (.t 16) (.t 17), none⟩,
      ⟨(some 19), .load false none (.t 18), none⟩,
      ⟨(some 20), .move (.t 3), none⟩,
      ⟨(some 21), .indexAddr none 1 (.t 19) (.t 20), none⟩,
      ⟨(some 10), .move (.t 21), none⟩] none)
  (.reg [
    ⟨(some 22), .move (.t 10), none⟩,
    ⟨(some 23), .move (.t 10), none⟩,
    ⟨(some 24), .nilCheck (.t 23), none⟩,
    ⟨(some 25), .load false none (.t 24), none⟩,
    ⟨(some 26), .move (.t 4), none⟩,
    ⟨(some 27), .bin 0 .add (.t 25) (.t 26), none⟩,
    ⟨(some 28), .fieldAddr 0 (.t 5), none⟩,
    ⟨(some 29), .load false none (.t 28), none⟩,
    ⟨(some 30), .bin 0 .rem (.t 27) (.t 29), none⟩,
    ⟨(some 31), .fieldAddr 0 (.t 5), none⟩,
    ⟨(some 32), .load false none (.t 31), none⟩,
    ⟨(some 33), .bin 0 .add (.t 30) (.t 32), none⟩,
    ⟨(some 34), .fieldAddr 0 (.t 5), none⟩,
    ⟨(some 35), .load false none (.t 34), none⟩,
    ⟨(some 36), .bin 0 .rem (.t 33) (.t 35), none⟩,
    ⟨(some 37), .nilCheck (.t 22), none⟩,
    ⟨none, .store 1 (.t 37) (.t 36), none⟩] (some [[], [], [1], [2], [], [3, 4], [], [6], [5, 7], [], [9], [8, 10], [], [12], [11, 13], [0, 0, 1, 2, 3, 4, 5, 6, 7, 8, 9, 10, 11, 12, 13, 14], [15, 14, 0, 1, 2, 3, 4, 5, 6, 7, 8, 9, 10, 11, 12, 13, 14]])))⟩
/-- slices.Clone(()int64,int64). -/
def p96 : Fn := ⟨1, 8, [.tmp 2],
  .seq (.reg [
      ⟨(some 2), .move (.c (.nils)), none⟩] none)
  (.seq (.seq (.reg [
        ⟨(some 3), .move (.t 0), none⟩,
        ⟨(some 4), .bin 2 .eql (.t 3) (.c (.nils)), none⟩] none)
    (.cond (.t 4)
    (.seq (.reg [
          ⟨(some 2), .move (.c (.nils)), none⟩] none)
      (.ret))
    (.skip)))
  (.seq (.reg [
      ⟨(some 5), .buildSlice 1 0 [] [], none⟩,
      ⟨(some 6), .move (.t 0), none⟩,
      ⟨(some 7), .append 1 8 (.t 5) (.t 6), none⟩,
      ⟨(some 2), .move (.t 7), none⟩] none)
  (.ret)))⟩
/-- loop.example.g01273.spec.l10Unit. -/
def p104 : Fn := ⟨1, 8, [.cell 2 (some 8)],
  .seq (.reg [
      ⟨(some 2), .alloc [.int .u8 0, .int .u8 0, .int .u8 0, .int .u8 0, .int .u8 0, .int .u8 0, .int .u8 0, .int .u8 0], none⟩] none)
  (.seq (.reg [
      ⟨(some 4), .build [.int .u8 0, .int .u8 0, .int .u8 0, .int .u8 0, .int .u8 0, .int .u8 0, .int .u8 0, .int .u8 0] [], none⟩,
      ⟨(some 3), .alloc [.int .u8 0, .int .u8 0, .int .u8 0, .int .u8 0, .int .u8 0, .int .u8 0, .int .u8 0, .int .u8 0], none⟩,
      ⟨none, .store 8 (.t 3) (.t 4), none⟩] none)
  (.seq (.reg [
      ⟨(some 5), .move (.t 0), none⟩,
      ⟨(some 6), .indexAddr (some 8) 1 (.t 3) (.t 5), none⟩,
      ⟨none, .store 1 (.t 6) (.c (.int .u8 1)), none⟩] none)
  (.seq (.reg [
      ⟨(some 7), .load false (some 8) (.t 3), none⟩,
      ⟨none, .store 8 (.t 2) (.t 7), none⟩] none)
  (.ret))))⟩
/-- loop.example.g01273.spec.l10Add. -/
def p105 : Fn := ⟨4, 31, [.cell 8 (some 8)],
  .seq (.reg [
      ⟨(some 5), .box (.t 1), none⟩,
      ⟨(some 6), .box (.t 2), none⟩,
      ⟨(some 8), .alloc [.int .u8 0, .int .u8 0, .int .u8 0, .int .u8 0, .int .u8 0, .int .u8 0, .int .u8 0, .int .u8 0], none⟩] none)
  (.seq (.seq (.reg [
        ⟨(some 9), .move (.c (.int .i64 0)), none⟩] none)
    (.block 0 (.loop true (.seq (.seq (.reg [
              ⟨(some 10), .move (.t 9), none⟩,
              ⟨(some 11), .bin 0 .lss (.t 10) (.c (.int .i64 8)), none⟩] none)
          (.cond (.t 11)
          (.skip)
          (.exit 0)))
        (.seq (.block 1 (.reg [
              ⟨(some 14), .move (.t 9), none⟩,
              ⟨(some 15), .move (.t 0), none⟩,
              ⟨(some 16), .move (.t 9), none⟩,
              ⟨(some 17), .indexAddr (some 8) 1 (.t 5) (.t 16), none⟩,
              ⟨(some 18), .load false none (.t 17), none⟩,
              ⟨(some 19), .toInt .i64 (.t 18), none⟩,
              ⟨(some 20), .move (.t 3), none⟩,
              ⟨(some 21), .move (.t 9), none⟩,
              ⟨(some 22), .indexAddr (some 8) 1 (.t 6) (.t 21), none⟩,
              ⟨(some 23), .load false none (.t 22), none⟩,
              ⟨(some 24), .toInt .i64 (.t 23), none⟩,
              ⟨(some 25), .bin 0 .mul (.t 20) (.t 24), none⟩,
              ⟨(some 26), .bin 0 .add (.t 19) (.t 25), none⟩,
              ⟨(some 27), .callf .plain 127 [(.t 15), (.t 26)], none⟩,
              ⟨(some 28), .toInt .u8 (.t 27), none⟩,
              ⟨(some 29), .indexAddr (some 8) 1 (.t 5) (.t 14), none⟩,
              ⟨none, .store 1 (.t 29) (.t 28), none⟩] (some [[], [], [], [2], [3], [4], [], [], [7], [8], [9], [6, 10], [5, 11], [1, 12], [13], [0, 0, 1, 2, 3, 4, 5, 6, 7, 8, 9, 10, 11, 12, 13, 14], [15, 14, 13, 0, 1, 2, 3, 4, 5, 6, 7, 8, 9, 10, 11, 12, 13, 14]])))
        (.reg [
          ⟨(some 12), .move (.t 9), none⟩,
          ⟨(some 13), .bin 0 .add (.t 12) (.c (.int .i64 1)), none⟩,
          ⟨(some 9), .move (.t 13), none⟩] none))))))
  (.seq (.reg [
      ⟨(some 30), .load false (some 8) (.t 5), none⟩,
      ⟨none, .store 8 (.t 8) (.t 30), none⟩] none)
  (.ret)))⟩
/-- loop.example.g01273.spec.l10Numbers. -/
def p106 : Fn := ⟨2, 25, [.tmp 4],
  .seq (.reg [
      ⟨(some 2), .box (.t 0), none⟩,
      ⟨(some 4), .move (.c (.nils)), none⟩] none)
  (.seq (.reg [
      ⟨(some 7), .buildSlice 1 0 [] [], none⟩,
      ⟨(some 5), .move (.t 7), none⟩] none)
  (.seq (.seq (.reg [
        ⟨(some 6), .move (.c (.int .i64 0)), none⟩] none)
    (.block 0 (.loop true (.seq (.seq (.reg [
              ⟨(some 8), .move (.t 6), none⟩,
              ⟨(some 9), .fieldAddr 1 (.t 2), none⟩,
              ⟨(some 10), .load false none (.t 9), none⟩,
              ⟨(some 11), .bin 0 .lss (.t 8) (.t 10), none⟩] none)
          (.cond (.t 11)
          (.skip)
          (.exit 0)))
        (.seq (.block 1 (.seq (.reg [
                ⟨(some 14), .move (.t 6), none⟩,
                ⟨(some 15), .fieldAddr 2 (.t 2), none⟩,
                ⟨(some 16), .indexAddr (some 8) 1 (.t 15) (.t 14), none⟩,
                ⟨(some 17), .load false none (.t 16), none⟩,
                ⟨(some 18), .move (.t 1), none⟩,
                ⟨(some 19), .bin 0 .eql (.t 17) (.t 18), none⟩] none)
            (.cond (.t 19)
            (.reg [
                ⟨(some 20), .move (.t 5), none⟩,
                ⟨(some 21), .move (.t 6), none⟩,
                ⟨(some 22), .buildSlice 1 1 [.int .i64 0] [(0, 1, (.t 21))], none⟩,
                ⟨(some 23), .append 1 8 (.t 20) (.t 22), none⟩,
                ⟨(some 5), .move (.t 23), none⟩] none)
            (.skip))))
        (.reg [
          ⟨(some 12), .move (.t 6), none⟩,
          ⟨(some 13), .bin 0 .add (.t 12) (.c (.int .i64 1)), none⟩,
          ⟨(some 6), .move (.t 13), none⟩] none))))))
  (.seq (.reg [
      ⟨(some 24), .move (.t 5), none⟩,
      ⟨(some 4), .move (.t 24), none⟩] none)
  (.ret))))⟩
/-- loop.example.g01273.spec.l10Vector. -/
def p107 : Fn := ⟨3, 31, [.tmp 6],
  .seq (.reg [
      ⟨(some 3), .box (.t 0), none⟩,
      ⟨(some 5), .box (.t 2), none⟩,
      ⟨(some 6), .move (.c (.nils)), none⟩] none)
  (.seq (.reg [
      ⟨(some 10), .load false (some 594) (.t 3), none⟩,
      ⟨(some 11), .move (.t 1), none⟩,
      ⟨(some 12), .callf .plain 106 [(.t 10), (.t 11)], none⟩,
      ⟨(some 13), .buildSlice 1 0 [] [], none⟩,
      ⟨(some 7), .move (.t 12), none⟩,
      ⟨(some 8), .move (.t 13), none⟩] none)
  (.seq (.seq (.reg [
        ⟨(some 9), .move (.c (.int .i64 0)), none⟩] none)
    (.block 0 (.loop true (.seq (.seq (.reg [
              ⟨(some 14), .move (.t 9), none⟩,
              ⟨(some 15), .move (.t 7), none⟩,
              ⟨(some 16), .len (.t 15), none⟩,
              ⟨(some 17), .bin 0 .lss (.t 14) (.t 16), none⟩] none)
          (.cond (.t 17)
          (.skip)
          (.exit 0)))
        (.seq (.block 1 (.reg [
              ⟨(some 20), .move (.t 8), none⟩,
              ⟨(some 21), .move (.t 7), none⟩,
              ⟨(some 22), .move (.t 9), none⟩,
              ⟨(some 23), .indexAddr none 1 (.t 21) (.t 22), none⟩,
              ⟨(some 24), .load false none (.t 23), none⟩,
              ⟨(some 25), .indexAddr (some 8) 1 (.t 5) (.t 24), none⟩,
              ⟨(some 26), .load false none (.t 25), none⟩,
              ⟨(some 27), .toInt .i64 (.t 26), none⟩,
              ⟨(some 28), .buildSlice 1 1 [.int .i64 0] [(0, 1, (.t 27))], none⟩,
              ⟨(some 29), .append 1 8 (.t 20) (.t 28), none⟩,
              ⟨(some 8), .move (.t 29), none⟩] none))
        (.reg [
          ⟨(some 18), .move (.t 9), none⟩,
          ⟨(some 19), .bin 0 .add (.t 18) (.c (.int .i64 1)), none⟩,
          ⟨(some 9), .move (.t 19), none⟩] none))))))
  (.seq (.reg [
      ⟨(some 30), .move (.t 8), none⟩,
      ⟨(some 6), .move (.t 30), none⟩] none)
  (.ret))))⟩
/-- loop.example.g01273.laws.FnExactNewDesk. -/
def p109 : Fn := ⟨0, 36, [.tmp 0],
  .seq (.reg [
      ⟨(some 0), .move (.c (.bool false)), none⟩] none)
  (.seq (.reg [
      ⟨(some 6), .callf .plain 1 [], none⟩,
      ⟨(some 1), .alloc [.int .i64 0, .nils, .nils, .nils, .int .i64 0, .nils, .nils], none⟩,
      ⟨none, .store 7 (.t 1) (.t 6), none⟩] none)
  (.seq (.reg [
      ⟨(some 7), .callf .plain 2 [], none⟩,
      ⟨(some 2), .alloc [.int .i64 0, .nils, .nils, .nils, .int .i64 0, .nils, .nils], none⟩,
      ⟨none, .store 7 (.t 2) (.t 7), none⟩] none)
  (.seq (.seq (.reg [
        ⟨(some 8), .load false (some 7) (.t 2), none⟩,
        ⟨(some 9), .load false (some 7) (.t 1), none⟩,
        ⟨(some 10), .callf .plain 3 [(.t 8), (.t 9)], none⟩,
        ⟨(some 11), .un .not (.t 10), none⟩] none)
    (.cond (.t 11)
    (.seq (.reg [
          ⟨(some 0), .move (.c (.bool false)), none⟩] none)
      (.ret))
    (.skip)))
  (.seq (.reg [
      ⟨(some 3), .move (.c (.int .i64 1)), none⟩] none)
  (.seq (.reg [
      ⟨(some 12), .load false (some 7) (.t 2), none⟩,
      ⟨(some 13), .move (.t 3), none⟩,
      ⟨(some 14), .callf .plain 4 [(.t 12), (.t 13)], none⟩,
      ⟨(some 3), .move (.t 14), none⟩] none)
  (.seq (.reg [
      ⟨(some 4), .move (.c (.int .i64 1)), none⟩] none)
  (.seq (.reg [
      ⟨(some 15), .load false (some 7) (.t 2), none⟩,
      ⟨(some 16), .move (.t 4), none⟩,
      ⟨(some 17), .callf .plain 5 [(.t 15), (.t 16)], none⟩,
      ⟨(some 4), .move (.t 17), none⟩] none)
  (.seq (.seq (.reg [
        ⟨(some 18), .move (.t 4), none⟩,
        ⟨(some 19), .bin 0 .lss (.t 18) (.c (.int .i64 0)), none⟩] none)
    (.cond (.t 19)
    (.seq (.reg [
          ⟨(some 0), .move (.c (.bool false)), none⟩] none)
      (.ret))
    (.skip)))
  (.seq (.seq (.reg [
        ⟨(some 20), .move (.t 4), none⟩,
        ⟨(some 21), .move (.t 3), none⟩,
        ⟨(some 22), .bin 0 .neq (.t 20) (.t 21), none⟩] none)
    (.cond (.t 22)
    (.seq (.reg [
          ⟨(some 0), .move (.c (.bool false)), none⟩] none)
      (.ret))
    (.skip)))
  (.seq (.reg [
      ⟨(some 23), .callf .plain 2 [], none⟩,
      ⟨(some 5), .alloc [.int .i64 0, .nils, .nils, .nils, .int .i64 0, .nils, .nils], none⟩,
      ⟨none, .store 7 (.t 5) (.t 23), none⟩] none)
  (.seq (.seq (.reg [
        ⟨(some 24), .load false (some 7) (.t 5), none⟩,
        ⟨(some 25), .load false (some 7) (.t 1), none⟩,
        ⟨(some 26), .callf .plain 3 [(.t 24), (.t 25)], none⟩,
        ⟨(some 27), .un .not (.t 26), none⟩] none)
    (.cond (.t 27)
    (.seq (.reg [
          ⟨(some 0), .move (.c (.bool false)), none⟩] none)
      (.ret))
    (.skip)))
  (.seq (.reg [
      ⟨(some 4), .move (.c (.int .i64 1)), none⟩] none)
  (.seq (.reg [
      ⟨(some 28), .load false (some 7) (.t 2), none⟩,
      ⟨(some 29), .move (.t 4), none⟩,
      ⟨(some 30), .callf .plain 5 [(.t 28), (.t 29)], none⟩,
      ⟨(some 4), .move (.t 30), none⟩] none)
  (.seq (.seq (.reg [
        ⟨(some 31), .move (.t 4), none⟩,
        ⟨(some 32), .bin 0 .lss (.t 31) (.c (.int .i64 0)), none⟩] none)
    (.cond (.t 32)
    (.seq (.reg [
          ⟨(some 0), .move (.c (.bool false)), none⟩] none)
      (.ret))
    (.skip)))
  (.seq (.seq (.reg [
        ⟨(some 33), .move (.t 4), none⟩,
        ⟨(some 34), .move (.t 3), none⟩,
        ⟨(some 35), .bin 0 .neq (.t 33) (.t 34), none⟩] none)
    (.cond (.t 35)
    (.seq (.reg [
          ⟨(some 0), .move (.c (.bool false)), none⟩] none)
      (.ret))
    (.skip)))
  (.seq (.reg [
      ⟨(some 0), .move (.c (.bool true)), none⟩] none)
  (.ret)))))))))))))))))⟩
/-- loop.example.g01273.spec.l01Mod. -/
def p127 : Fn := ⟨2, 12, [.tmp 4],
  .seq (.reg [
      ⟨(some 4), .move (.c (.int .i64 0)), none⟩] none)
  (.seq (.reg [
      ⟨(some 5), .move (.t 1), none⟩,
      ⟨(some 6), .move (.t 0), none⟩,
      ⟨(some 7), .bin 0 .rem (.t 5) (.t 6), none⟩,
      ⟨(some 8), .move (.t 0), none⟩,
      ⟨(some 9), .bin 0 .add (.t 7) (.t 8), none⟩,
      ⟨(some 10), .move (.t 0), none⟩,
      ⟨(some 11), .bin 0 .rem (.t 9) (.t 10), none⟩,
      ⟨(some 4), .move (.t 11), none⟩] none)
  (.ret))⟩
def progList : List (Option Fn) := [none, some p1, some p2, some p3, some p4, some p5, none, none, none, none, none, none, none, none, none, none, some p16, some p17, none, none, some p20, some p21, some p22, none, none, some p25, some p26, some p27, none, none, some p30, some p31, some p32, some p33, some p34, some p35, some p36, none, none, none, none, none, none, none, none, none, none, none, none, none, none, some p51, some p52, some p53, none, none, some p56, none, none, some p59, none, none, none, none, some p64, some p65, some p66, some p67, some p68, some p69, some p70, some p71, some p72, some p73, some p74, some p75, none, none, none, none, none, none, none, none, none, none, none, none, none, none, none, none, none, none, none, none, some p96, none, none, none, none, none, none, none, some p104, some p105, some p106, some p107, none, some p109, none, none, none, none, none, none, none, none, none, none, none, none, none, none, none, none, none, some p127]
def A : Prog := fun g => progList.getD g none
def tab : List (Nat × Nat) := [(9, 1), (10, 2), (11, 3), (12, 4), (13, 5), (24, 16), (25, 17), (28, 20), (29, 21), (30, 22), (33, 25), (34, 26), (35, 27), (38, 30), (39, 31), (40, 32), (41, 33), (42, 34), (43, 35), (44, 36), (59, 51), (60, 52), (61, 53), (64, 56), (67, 59), (72, 64), (73, 65), (74, 66), (75, 67), (76, 68), (77, 69), (78, 70), (79, 71), (80, 72), (81, 73), (82, 74), (83, 75), (104, 96), (112, 104), (113, 105), (114, 106), (115, 107), (3, 109), (129, 127)]
end Rv.Nd
