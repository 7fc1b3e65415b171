/-
  No cell of these rows narrows 'for every input' (looked for: loops, veiled, ifaces, maps, wideKeys, modest, calm, conditions, laid).
  DERIVED. THE GIVEN ROWS OF THIS SEAT. 7 by the template 'for every input the law returns true; each argument reads behind the call as it read before'; 0 by the template 'total and deterministic' (their statements: YtnioomfbbmjpaaaTotals.lean).
  GIVEN WITH THE SEED: the statements are not yours to turn. If you find one false, say at which input.
  Laid BY PROGRAM, IN A SANDBOX (cutbox-rows.mjs): the forced cells as the released guide's own fill.sh prints them over the translation ee1a4ba8ed558913… (all of the seat's roots in one cut). By AI agents, Wed Nov 11 2026. No macro, syntax, notation, axiom, sorry.
-/
import Derived.Test.YtnioomfbbmjpaaaChecked
import GoSem.Claim
import GoSem.ClaimJoined
import GoSem.ClaimMapViews
import Derived.JoinedTies
import Derived.KernelRfl
namespace Go.Proofs.Ytnioomfbbmjpaaa
/- THE CELL 'sum', in the pinned program and in every row, IS THE sha256 OF THE DUMP (.gsa) THAT YtnioomfbbmjpaaaProg.lean LOADS. Nothing in Lean hashes anything: it is a label: what it is worth is what the hold of that sum in a sandbox is worth. -/
noncomputable def Try.pinned : Pinned := { name := "ytnioomfbbmjpaaa", sum := "ee1a4ba8ed5589131f0f9f82265d37249cf7813cead9bc9c3b23a07ed26bd06e", checked := Try.checked }
namespace Rows
def none {H : Type} : Left H := { results := [], args := [] }

/-- 'laws.FnExactColumnOf': WHATEVER THE INPUT: true; the input reads as it did. -/
def fnExactColumnOfSpec : ChangeSpec := { name := "fnExactColumnOf", fn := fun _ => fun
  | [d1, d2] => { results := [.lit (.bool true)], args := [d1, d2] }
  | _ => none }
def fnExactColumnOfRow : OpenClaim := { program := "ytnioomfbbmjpaaa", sum := "ee1a4ba8ed5589131f0f9f82265d37249cf7813cead9bc9c3b23a07ed26bd06e", func := "loop.example/g01273/laws.FnExactColumnOf", spec := "fnExactColumnOf", unfollowed := true, recurses := true, apart := false }
def FnExactColumnOfSaid : Prop := fnExactColumnOfRow.holds Try.pinned (OpenSpec.ofChange fnExactColumnOfSpec)

/-- ITS FALSE NEIGHBOUR: 'it returns false'. Refute it at one input. -/
def fnExactColumnOfWrong : ChangeSpec := { name := "fnExactColumnOf", fn := fun _ => fun
  | [d1, d2] => { results := [.lit (.bool false)], args := [d1, d2] }
  | _ => none }
def FnExactColumnOfWrongFalsely : Prop := fnExactColumnOfRow.holds Try.pinned (OpenSpec.ofChange fnExactColumnOfWrong)

/-- 'laws.FnExactConeOf': WHATEVER THE INPUT: true; the input reads as it did. -/
def fnExactConeOfSpec : ChangeSpec := { name := "fnExactConeOf", fn := fun _ => fun
  | [d1, d2, d3] => { results := [.lit (.bool true)], args := [d1, d2, d3] }
  | _ => none }
def fnExactConeOfRow : OpenClaim := { program := "ytnioomfbbmjpaaa", sum := "ee1a4ba8ed5589131f0f9f82265d37249cf7813cead9bc9c3b23a07ed26bd06e", func := "loop.example/g01273/laws.FnExactConeOf", spec := "fnExactConeOf", unfollowed := true, recurses := true, apart := false }
def FnExactConeOfSaid : Prop := fnExactConeOfRow.holds Try.pinned (OpenSpec.ofChange fnExactConeOfSpec)

/-- ITS FALSE NEIGHBOUR: 'it returns false'. Refute it at one input. -/
def fnExactConeOfWrong : ChangeSpec := { name := "fnExactConeOf", fn := fun _ => fun
  | [d1, d2, d3] => { results := [.lit (.bool false)], args := [d1, d2, d3] }
  | _ => none }
def FnExactConeOfWrongFalsely : Prop := fnExactConeOfRow.holds Try.pinned (OpenSpec.ofChange fnExactConeOfWrong)

/-- 'laws.FnExactIsContraction': WHATEVER THE INPUT: true; the input reads as it did. -/
def fnExactIsContractionSpec : ChangeSpec := { name := "fnExactIsContraction", fn := fun _ => fun
  | [d1, d2] => { results := [.lit (.bool true)], args := [d1, d2] }
  | _ => none }
def fnExactIsContractionRow : OpenClaim := { program := "ytnioomfbbmjpaaa", sum := "ee1a4ba8ed5589131f0f9f82265d37249cf7813cead9bc9c3b23a07ed26bd06e", func := "loop.example/g01273/laws.FnExactIsContraction", spec := "fnExactIsContraction", unfollowed := true, recurses := true, apart := false }
def FnExactIsContractionSaid : Prop := fnExactIsContractionRow.holds Try.pinned (OpenSpec.ofChange fnExactIsContractionSpec)

/-- ITS FALSE NEIGHBOUR: 'it returns false'. Refute it at one input. -/
def fnExactIsContractionWrong : ChangeSpec := { name := "fnExactIsContraction", fn := fun _ => fun
  | [d1, d2] => { results := [.lit (.bool false)], args := [d1, d2] }
  | _ => none }
def FnExactIsContractionWrongFalsely : Prop := fnExactIsContractionRow.holds Try.pinned (OpenSpec.ofChange fnExactIsContractionWrong)

/-- 'laws.FnExactLevelNumbers': WHATEVER THE INPUT: true; the input reads as it did. -/
def fnExactLevelNumbersSpec : ChangeSpec := { name := "fnExactLevelNumbers", fn := fun _ => fun
  | [d1, d2] => { results := [.lit (.bool true)], args := [d1, d2] }
  | _ => none }
def fnExactLevelNumbersRow : OpenClaim := { program := "ytnioomfbbmjpaaa", sum := "ee1a4ba8ed5589131f0f9f82265d37249cf7813cead9bc9c3b23a07ed26bd06e", func := "loop.example/g01273/laws.FnExactLevelNumbers", spec := "fnExactLevelNumbers", unfollowed := true, recurses := true, apart := false }
def FnExactLevelNumbersSaid : Prop := fnExactLevelNumbersRow.holds Try.pinned (OpenSpec.ofChange fnExactLevelNumbersSpec)

/-- ITS FALSE NEIGHBOUR: 'it returns false'. Refute it at one input. -/
def fnExactLevelNumbersWrong : ChangeSpec := { name := "fnExactLevelNumbers", fn := fun _ => fun
  | [d1, d2] => { results := [.lit (.bool false)], args := [d1, d2] }
  | _ => none }
def FnExactLevelNumbersWrongFalsely : Prop := fnExactLevelNumbersRow.holds Try.pinned (OpenSpec.ofChange fnExactLevelNumbersWrong)

/-- 'laws.FnExactContractionOf': WHATEVER THE INPUT: true; the input reads as it did. -/
def fnExactContractionOfSpec : ChangeSpec := { name := "fnExactContractionOf", fn := fun _ => fun
  | [d] => { results := [.lit (.bool true)], args := [d] }
  | _ => none }
def fnExactContractionOfRow : OpenClaim := { program := "ytnioomfbbmjpaaa", sum := "ee1a4ba8ed5589131f0f9f82265d37249cf7813cead9bc9c3b23a07ed26bd06e", func := "loop.example/g01273/laws.FnExactContractionOf", spec := "fnExactContractionOf", unfollowed := true, recurses := true, apart := false }
def FnExactContractionOfSaid : Prop := fnExactContractionOfRow.holds Try.pinned (OpenSpec.ofChange fnExactContractionOfSpec)

/-- ITS FALSE NEIGHBOUR: 'it returns false'. Refute it at one input. -/
def fnExactContractionOfWrong : ChangeSpec := { name := "fnExactContractionOf", fn := fun _ => fun
  | [d] => { results := [.lit (.bool false)], args := [d] }
  | _ => none }
def FnExactContractionOfWrongFalsely : Prop := fnExactContractionOfRow.holds Try.pinned (OpenSpec.ofChange fnExactContractionOfWrong)

/-- 'laws.FnExactLastPage': WHATEVER THE INPUT: true; the input reads as it did. -/
def fnExactLastPageSpec : ChangeSpec := { name := "fnExactLastPage", fn := fun _ => fun
  | [d] => { results := [.lit (.bool true)], args := [d] }
  | _ => none }
def fnExactLastPageRow : OpenClaim := { program := "ytnioomfbbmjpaaa", sum := "ee1a4ba8ed5589131f0f9f82265d37249cf7813cead9bc9c3b23a07ed26bd06e", func := "loop.example/g01273/laws.FnExactLastPage", spec := "fnExactLastPage", unfollowed := true, recurses := true, apart := false }
def FnExactLastPageSaid : Prop := fnExactLastPageRow.holds Try.pinned (OpenSpec.ofChange fnExactLastPageSpec)

/-- ITS FALSE NEIGHBOUR: 'it returns false'. Refute it at one input. -/
def fnExactLastPageWrong : ChangeSpec := { name := "fnExactLastPage", fn := fun _ => fun
  | [d] => { results := [.lit (.bool false)], args := [d] }
  | _ => none }
def FnExactLastPageWrongFalsely : Prop := fnExactLastPageRow.holds Try.pinned (OpenSpec.ofChange fnExactLastPageWrong)

/-- 'laws.FnExactLongSequence': WHATEVER THE INPUT: true; the input reads as it did. -/
def fnExactLongSequenceSpec : ChangeSpec := { name := "fnExactLongSequence", fn := fun _ => fun
  | [d1, d2, d3] => { results := [.lit (.bool true)], args := [d1, d2, d3] }
  | _ => none }
def fnExactLongSequenceRow : OpenClaim := { program := "ytnioomfbbmjpaaa", sum := "ee1a4ba8ed5589131f0f9f82265d37249cf7813cead9bc9c3b23a07ed26bd06e", func := "loop.example/g01273/laws.FnExactLongSequence", spec := "fnExactLongSequence", unfollowed := true, recurses := true, apart := false }
def FnExactLongSequenceSaid : Prop := fnExactLongSequenceRow.holds Try.pinned (OpenSpec.ofChange fnExactLongSequenceSpec)

/-- ITS FALSE NEIGHBOUR: 'it returns false'. Refute it at one input. -/
def fnExactLongSequenceWrong : ChangeSpec := { name := "fnExactLongSequence", fn := fun _ => fun
  | [d1, d2, d3] => { results := [.lit (.bool false)], args := [d1, d2, d3] }
  | _ => none }
def FnExactLongSequenceWrongFalsely : Prop := fnExactLongSequenceRow.holds Try.pinned (OpenSpec.ofChange fnExactLongSequenceWrong)

/- THE SECOND FORM. 'bulk': how many values and letters a reading holds, each counted each time it is reached (what is shared counts as often as it is met; a slice's spare places count too). A statement '..UptoSaid' is the law's where the arguments, and the package variables that the reading takes, are together of bulk at most 1048576: NARROWER than '..Said'. Prove '..Said' where nothing that the law and all that it calls make is longer than what came in: it says more and counts as full. Else prove '..UptoSaid'. A law counts once. -/
mutual
def uptoBulk {H : Type} : DataW H → Nat
  | .lit (.string bytes) => bytes.length + 1
  | .lit _ => 1
  | .nil => 1
  | .ptr d => uptoBulk d + 1
  | .slice elems spare => uptoBulkAll elems + uptoBulkAll spare + 1
  | .agg parts => uptoBulkAll parts + 1
  | .iface _ d => uptoBulk d + 1
  | .map entries => uptoBulkEntries entries + 1
  | .held _ => 1
def uptoBulkAll {H : Type} : List (DataW H) → Nat
  | [] => 0
  | d :: r => uptoBulk d + uptoBulkAll r
def uptoBulkEntries {H : Type} : List (Lit × DataW H) → Nat
  | [] => 0
  | x :: r => uptoBulkEntry x + uptoBulkEntries r
def uptoBulkEntry {H : Type} : Lit × DataW H → Nat
  | (.string bytes, d) => bytes.length + uptoBulk d + 1
  | (_, d) => uptoBulk d + 1
 end
def uptoSmall : (H : Type) → List (DataW H) → Bool := fun _ ds => decide (uptoBulkAll ds ≤ 1048576)
def OpenSpec.upto (s : _root_.Go.ChangeSpec) : _root_.Go.OpenSpec := { _root_.Go.OpenSpec.ofChange s with cond := some uptoSmall }

/-- 'laws.FnExactColumnOf', WHERE WHAT IT READS IS OF BULK AT MOST 1048576: true; the input reads as it did. -/
def fnExactColumnOfUptoRow : OpenClaim := { program := "ytnioomfbbmjpaaa", sum := "ee1a4ba8ed5589131f0f9f82265d37249cf7813cead9bc9c3b23a07ed26bd06e", func := "loop.example/g01273/laws.FnExactColumnOf", spec := "fnExactColumnOf", unfollowed := true, recurses := true, apart := false, narrowed := true }
def FnExactColumnOfUptoSaid : Prop := fnExactColumnOfUptoRow.holds Try.pinned (OpenSpec.upto fnExactColumnOfSpec)

/-- 'laws.FnExactConeOf', WHERE WHAT IT READS IS OF BULK AT MOST 1048576: true; the input reads as it did. -/
def fnExactConeOfUptoRow : OpenClaim := { program := "ytnioomfbbmjpaaa", sum := "ee1a4ba8ed5589131f0f9f82265d37249cf7813cead9bc9c3b23a07ed26bd06e", func := "loop.example/g01273/laws.FnExactConeOf", spec := "fnExactConeOf", unfollowed := true, recurses := true, apart := false, narrowed := true }
def FnExactConeOfUptoSaid : Prop := fnExactConeOfUptoRow.holds Try.pinned (OpenSpec.upto fnExactConeOfSpec)

/-- 'laws.FnExactIsContraction', WHERE WHAT IT READS IS OF BULK AT MOST 1048576: true; the input reads as it did. -/
def fnExactIsContractionUptoRow : OpenClaim := { program := "ytnioomfbbmjpaaa", sum := "ee1a4ba8ed5589131f0f9f82265d37249cf7813cead9bc9c3b23a07ed26bd06e", func := "loop.example/g01273/laws.FnExactIsContraction", spec := "fnExactIsContraction", unfollowed := true, recurses := true, apart := false, narrowed := true }
def FnExactIsContractionUptoSaid : Prop := fnExactIsContractionUptoRow.holds Try.pinned (OpenSpec.upto fnExactIsContractionSpec)

/-- 'laws.FnExactLevelNumbers', WHERE WHAT IT READS IS OF BULK AT MOST 1048576: true; the input reads as it did. -/
def fnExactLevelNumbersUptoRow : OpenClaim := { program := "ytnioomfbbmjpaaa", sum := "ee1a4ba8ed5589131f0f9f82265d37249cf7813cead9bc9c3b23a07ed26bd06e", func := "loop.example/g01273/laws.FnExactLevelNumbers", spec := "fnExactLevelNumbers", unfollowed := true, recurses := true, apart := false, narrowed := true }
def FnExactLevelNumbersUptoSaid : Prop := fnExactLevelNumbersUptoRow.holds Try.pinned (OpenSpec.upto fnExactLevelNumbersSpec)

/-- 'laws.FnExactContractionOf', WHERE WHAT IT READS IS OF BULK AT MOST 1048576: true; the input reads as it did. -/
def fnExactContractionOfUptoRow : OpenClaim := { program := "ytnioomfbbmjpaaa", sum := "ee1a4ba8ed5589131f0f9f82265d37249cf7813cead9bc9c3b23a07ed26bd06e", func := "loop.example/g01273/laws.FnExactContractionOf", spec := "fnExactContractionOf", unfollowed := true, recurses := true, apart := false, narrowed := true }
def FnExactContractionOfUptoSaid : Prop := fnExactContractionOfUptoRow.holds Try.pinned (OpenSpec.upto fnExactContractionOfSpec)

/-- 'laws.FnExactLastPage', WHERE WHAT IT READS IS OF BULK AT MOST 1048576: true; the input reads as it did. -/
def fnExactLastPageUptoRow : OpenClaim := { program := "ytnioomfbbmjpaaa", sum := "ee1a4ba8ed5589131f0f9f82265d37249cf7813cead9bc9c3b23a07ed26bd06e", func := "loop.example/g01273/laws.FnExactLastPage", spec := "fnExactLastPage", unfollowed := true, recurses := true, apart := false, narrowed := true }
def FnExactLastPageUptoSaid : Prop := fnExactLastPageUptoRow.holds Try.pinned (OpenSpec.upto fnExactLastPageSpec)

/-- 'laws.FnExactLongSequence', WHERE WHAT IT READS IS OF BULK AT MOST 1048576: true; the input reads as it did. -/
def fnExactLongSequenceUptoRow : OpenClaim := { program := "ytnioomfbbmjpaaa", sum := "ee1a4ba8ed5589131f0f9f82265d37249cf7813cead9bc9c3b23a07ed26bd06e", func := "loop.example/g01273/laws.FnExactLongSequence", spec := "fnExactLongSequence", unfollowed := true, recurses := true, apart := false, narrowed := true }
def FnExactLongSequenceUptoSaid : Prop := fnExactLongSequenceUptoRow.holds Try.pinned (OpenSpec.upto fnExactLongSequenceSpec)

end Rows
end Go.Proofs.Ytnioomfbbmjpaaa
