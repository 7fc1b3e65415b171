/-
  No cell of these rows narrows 'for every input' (looked for: loops, veiled, ifaces, maps, wideKeys, modest, calm, conditions, laid).
  DERIVED. THE GIVEN ROWS OF THIS SEAT. 12 by the template 'for every input the law returns true; each argument reads behind the call as it read before'; 0 by the template 'total and deterministic' (their statements: YthdaojcekpelgaaTotals.lean).
  GIVEN WITH THE SEED: the statements are not yours to turn. If you find one false, say at which input.
  Laid BY PROGRAM, IN A SANDBOX (cutbox-rows.mjs): the forced cells as the released guide's own fill.sh prints them over the translation 90cb2eeff19f3a53… (all of the seat's roots in one cut). By AI agents, Wed Nov 11 2026. No macro, syntax, notation, axiom, sorry.
-/
import Derived.Test.YthdaojcekpelgaaChecked
import GoSem.Claim
import GoSem.ClaimJoined
import GoSem.ClaimMapViews
import Derived.JoinedTies
import Derived.KernelRfl
namespace Go.Proofs.Ythdaojcekpelgaa
/- THE CELL 'sum', in the pinned program and in every row, IS THE sha256 OF THE DUMP (.gsa) THAT YthdaojcekpelgaaProg.lean LOADS. Nothing in Lean hashes anything: it is a label: what it is worth is what the hold of that sum in a sandbox is worth. -/
noncomputable def Try.pinned : Pinned := { name := "ythdaojcekpelgaa", sum := "90cb2eeff19f3a53f4eb095ad7d3c1361d86596e721896ca7d5e90bd0f74b96b", checked := Try.checked }
namespace Rows
def none {H : Type} : Left H := { results := [], args := [] }

/-- 'laws.FnExactIsDesk': WHATEVER THE INPUT: true; the input reads as it did. -/
def fnExactIsDeskSpec : ChangeSpec := { name := "fnExactIsDesk", fn := fun _ => fun
  | [d] => { results := [.lit (.bool true)], args := [d] }
  | _ => none }
def fnExactIsDeskRow : OpenClaim := { program := "ythdaojcekpelgaa", sum := "90cb2eeff19f3a53f4eb095ad7d3c1361d86596e721896ca7d5e90bd0f74b96b", func := "loop.example/g01273/laws.FnExactIsDesk", spec := "fnExactIsDesk", unfollowed := true, recurses := true, apart := false }
def FnExactIsDeskSaid : Prop := fnExactIsDeskRow.holds Try.pinned (OpenSpec.ofChange fnExactIsDeskSpec)

/-- ITS FALSE NEIGHBOUR: 'it returns false'. Refute it at one input. -/
def fnExactIsDeskWrong : ChangeSpec := { name := "fnExactIsDesk", fn := fun _ => fun
  | [d] => { results := [.lit (.bool false)], args := [d] }
  | _ => none }
def FnExactIsDeskWrongFalsely : Prop := fnExactIsDeskRow.holds Try.pinned (OpenSpec.ofChange fnExactIsDeskWrong)

/-- 'laws.FnExactIsPerturbation': WHATEVER THE INPUT: true; the input reads as it did. -/
def fnExactIsPerturbationSpec : ChangeSpec := { name := "fnExactIsPerturbation", fn := fun _ => fun
  | [d1, d2] => { results := [.lit (.bool true)], args := [d1, d2] }
  | _ => none }
def fnExactIsPerturbationRow : OpenClaim := { program := "ythdaojcekpelgaa", sum := "90cb2eeff19f3a53f4eb095ad7d3c1361d86596e721896ca7d5e90bd0f74b96b", func := "loop.example/g01273/laws.FnExactIsPerturbation", spec := "fnExactIsPerturbation", unfollowed := true, recurses := true, apart := false }
def FnExactIsPerturbationSaid : Prop := fnExactIsPerturbationRow.holds Try.pinned (OpenSpec.ofChange fnExactIsPerturbationSpec)

/-- ITS FALSE NEIGHBOUR: 'it returns false'. Refute it at one input. -/
def fnExactIsPerturbationWrong : ChangeSpec := { name := "fnExactIsPerturbation", fn := fun _ => fun
  | [d1, d2] => { results := [.lit (.bool false)], args := [d1, d2] }
  | _ => none }
def FnExactIsPerturbationWrongFalsely : Prop := fnExactIsPerturbationRow.holds Try.pinned (OpenSpec.ofChange fnExactIsPerturbationWrong)

/-- 'laws.FnExactPerturbedComplex': WHATEVER THE INPUT: true; the input reads as it did. -/
def fnExactPerturbedComplexSpec : ChangeSpec := { name := "fnExactPerturbedComplex", fn := fun _ => fun
  | [d1, d2] => { results := [.lit (.bool true)], args := [d1, d2] }
  | _ => none }
def fnExactPerturbedComplexRow : OpenClaim := { program := "ythdaojcekpelgaa", sum := "90cb2eeff19f3a53f4eb095ad7d3c1361d86596e721896ca7d5e90bd0f74b96b", func := "loop.example/g01273/laws.FnExactPerturbedComplex", spec := "fnExactPerturbedComplex", unfollowed := true, recurses := true, apart := false }
def FnExactPerturbedComplexSaid : Prop := fnExactPerturbedComplexRow.holds Try.pinned (OpenSpec.ofChange fnExactPerturbedComplexSpec)

/-- ITS FALSE NEIGHBOUR: 'it returns false'. Refute it at one input. -/
def fnExactPerturbedComplexWrong : ChangeSpec := { name := "fnExactPerturbedComplex", fn := fun _ => fun
  | [d1, d2] => { results := [.lit (.bool false)], args := [d1, d2] }
  | _ => none }
def FnExactPerturbedComplexWrongFalsely : Prop := fnExactPerturbedComplexRow.holds Try.pinned (OpenSpec.ofChange fnExactPerturbedComplexWrong)

/-- 'laws.FnExactFlatFiltered': WHATEVER THE INPUT: true; the input reads as it did. -/
def fnExactFlatFilteredSpec : ChangeSpec := { name := "fnExactFlatFiltered", fn := fun _ => fun
  | [d1, d2] => { results := [.lit (.bool true)], args := [d1, d2] }
  | _ => none }
def fnExactFlatFilteredRow : OpenClaim := { program := "ythdaojcekpelgaa", sum := "90cb2eeff19f3a53f4eb095ad7d3c1361d86596e721896ca7d5e90bd0f74b96b", func := "loop.example/g01273/laws.FnExactFlatFiltered", spec := "fnExactFlatFiltered", unfollowed := true, recurses := true, apart := false }
def FnExactFlatFilteredSaid : Prop := fnExactFlatFilteredRow.holds Try.pinned (OpenSpec.ofChange fnExactFlatFilteredSpec)

/-- ITS FALSE NEIGHBOUR: 'it returns false'. Refute it at one input. -/
def fnExactFlatFilteredWrong : ChangeSpec := { name := "fnExactFlatFiltered", fn := fun _ => fun
  | [d1, d2] => { results := [.lit (.bool false)], args := [d1, d2] }
  | _ => none }
def FnExactFlatFilteredWrongFalsely : Prop := fnExactFlatFilteredRow.holds Try.pinned (OpenSpec.ofChange fnExactFlatFilteredWrong)

/-- 'laws.FnExactFreePlaces': WHATEVER THE INPUT: true; the input reads as it did. -/
def fnExactFreePlacesSpec : ChangeSpec := { name := "fnExactFreePlaces", fn := fun _ => fun
  | [d1, d2] => { results := [.lit (.bool true)], args := [d1, d2] }
  | _ => none }
def fnExactFreePlacesRow : OpenClaim := { program := "ythdaojcekpelgaa", sum := "90cb2eeff19f3a53f4eb095ad7d3c1361d86596e721896ca7d5e90bd0f74b96b", func := "loop.example/g01273/laws.FnExactFreePlaces", spec := "fnExactFreePlaces", unfollowed := true, recurses := true, apart := false }
def FnExactFreePlacesSaid : Prop := fnExactFreePlacesRow.holds Try.pinned (OpenSpec.ofChange fnExactFreePlacesSpec)

/-- ITS FALSE NEIGHBOUR: 'it returns false'. Refute it at one input. -/
def fnExactFreePlacesWrong : ChangeSpec := { name := "fnExactFreePlaces", fn := fun _ => fun
  | [d1, d2] => { results := [.lit (.bool false)], args := [d1, d2] }
  | _ => none }
def FnExactFreePlacesWrongFalsely : Prop := fnExactFreePlacesRow.holds Try.pinned (OpenSpec.ofChange fnExactFreePlacesWrong)

/-- 'laws.FnExactColumnOf': WHATEVER THE INPUT: true; the input reads as it did. -/
def fnExactColumnOfSpec : ChangeSpec := { name := "fnExactColumnOf", fn := fun _ => fun
  | [d1, d2] => { results := [.lit (.bool true)], args := [d1, d2] }
  | _ => none }
def fnExactColumnOfRow : OpenClaim := { program := "ythdaojcekpelgaa", sum := "90cb2eeff19f3a53f4eb095ad7d3c1361d86596e721896ca7d5e90bd0f74b96b", func := "loop.example/g01273/laws.FnExactColumnOf", spec := "fnExactColumnOf", unfollowed := true, recurses := true, apart := false }
def FnExactColumnOfSaid : Prop := fnExactColumnOfRow.holds Try.pinned (OpenSpec.ofChange fnExactColumnOfSpec)

/-- ITS FALSE NEIGHBOUR: 'it returns false'. Refute it at one input. -/
def fnExactColumnOfWrong : ChangeSpec := { name := "fnExactColumnOf", fn := fun _ => fun
  | [d1, d2] => { results := [.lit (.bool false)], args := [d1, d2] }
  | _ => none }
def FnExactColumnOfWrongFalsely : Prop := fnExactColumnOfRow.holds Try.pinned (OpenSpec.ofChange fnExactColumnOfWrong)

/-- 'laws.FnExactConeOf': WHATEVER THE INPUT: true; the input reads as it did. -/
def fnExactConeOfSpec : ChangeSpec := { name := "fnExactConeOf", fn := fun _ => fun
  | [d1, d2, d3] => { results := [.lit (.bool true)], args := [d1, d2, d3] }
  | _ => none }
def fnExactConeOfRow : OpenClaim := { program := "ythdaojcekpelgaa", sum := "90cb2eeff19f3a53f4eb095ad7d3c1361d86596e721896ca7d5e90bd0f74b96b", func := "loop.example/g01273/laws.FnExactConeOf", spec := "fnExactConeOf", unfollowed := true, recurses := true, apart := false }
def FnExactConeOfSaid : Prop := fnExactConeOfRow.holds Try.pinned (OpenSpec.ofChange fnExactConeOfSpec)

/-- ITS FALSE NEIGHBOUR: 'it returns false'. Refute it at one input. -/
def fnExactConeOfWrong : ChangeSpec := { name := "fnExactConeOf", fn := fun _ => fun
  | [d1, d2, d3] => { results := [.lit (.bool false)], args := [d1, d2, d3] }
  | _ => none }
def FnExactConeOfWrongFalsely : Prop := fnExactConeOfRow.holds Try.pinned (OpenSpec.ofChange fnExactConeOfWrong)

/-- 'laws.FnExactDifferentialRank': WHATEVER THE INPUT: true; the input reads as it did. -/
def fnExactDifferentialRankSpec : ChangeSpec := { name := "fnExactDifferentialRank", fn := fun _ => fun
  | [d1, d2, d3, d4] => { results := [.lit (.bool true)], args := [d1, d2, d3, d4] }
  | _ => none }
def fnExactDifferentialRankRow : OpenClaim := { program := "ythdaojcekpelgaa", sum := "90cb2eeff19f3a53f4eb095ad7d3c1361d86596e721896ca7d5e90bd0f74b96b", func := "loop.example/g01273/laws.FnExactDifferentialRank", spec := "fnExactDifferentialRank", unfollowed := true, recurses := true, apart := false }
def FnExactDifferentialRankSaid : Prop := fnExactDifferentialRankRow.holds Try.pinned (OpenSpec.ofChange fnExactDifferentialRankSpec)

/-- ITS FALSE NEIGHBOUR: 'it returns false'. Refute it at one input. -/
def fnExactDifferentialRankWrong : ChangeSpec := { name := "fnExactDifferentialRank", fn := fun _ => fun
  | [d1, d2, d3, d4] => { results := [.lit (.bool false)], args := [d1, d2, d3, d4] }
  | _ => none }
def FnExactDifferentialRankWrongFalsely : Prop := fnExactDifferentialRankRow.holds Try.pinned (OpenSpec.ofChange fnExactDifferentialRankWrong)

/-- 'laws.FnExactIsContraction': WHATEVER THE INPUT: true; the input reads as it did. -/
def fnExactIsContractionSpec : ChangeSpec := { name := "fnExactIsContraction", fn := fun _ => fun
  | [d1, d2] => { results := [.lit (.bool true)], args := [d1, d2] }
  | _ => none }
def fnExactIsContractionRow : OpenClaim := { program := "ythdaojcekpelgaa", sum := "90cb2eeff19f3a53f4eb095ad7d3c1361d86596e721896ca7d5e90bd0f74b96b", func := "loop.example/g01273/laws.FnExactIsContraction", spec := "fnExactIsContraction", unfollowed := true, recurses := true, apart := false }
def FnExactIsContractionSaid : Prop := fnExactIsContractionRow.holds Try.pinned (OpenSpec.ofChange fnExactIsContractionSpec)

/-- ITS FALSE NEIGHBOUR: 'it returns false'. Refute it at one input. -/
def fnExactIsContractionWrong : ChangeSpec := { name := "fnExactIsContraction", fn := fun _ => fun
  | [d1, d2] => { results := [.lit (.bool false)], args := [d1, d2] }
  | _ => none }
def FnExactIsContractionWrongFalsely : Prop := fnExactIsContractionRow.holds Try.pinned (OpenSpec.ofChange fnExactIsContractionWrong)

/-- 'laws.FnExactHomologyProduct': WHATEVER THE INPUT: true; the input reads as it did. -/
def fnExactHomologyProductSpec : ChangeSpec := { name := "fnExactHomologyProduct", fn := fun _ => fun
  | [d1, d2, d3, d4, d5] => { results := [.lit (.bool true)], args := [d1, d2, d3, d4, d5] }
  | _ => none }
def fnExactHomologyProductRow : OpenClaim := { program := "ythdaojcekpelgaa", sum := "90cb2eeff19f3a53f4eb095ad7d3c1361d86596e721896ca7d5e90bd0f74b96b", func := "loop.example/g01273/laws.FnExactHomologyProduct", spec := "fnExactHomologyProduct", unfollowed := true, recurses := true, apart := false }
def FnExactHomologyProductSaid : Prop := fnExactHomologyProductRow.holds Try.pinned (OpenSpec.ofChange fnExactHomologyProductSpec)

/-- ITS FALSE NEIGHBOUR: 'it returns false'. Refute it at one input. -/
def fnExactHomologyProductWrong : ChangeSpec := { name := "fnExactHomologyProduct", fn := fun _ => fun
  | [d1, d2, d3, d4, d5] => { results := [.lit (.bool false)], args := [d1, d2, d3, d4, d5] }
  | _ => none }
def FnExactHomologyProductWrongFalsely : Prop := fnExactHomologyProductRow.holds Try.pinned (OpenSpec.ofChange fnExactHomologyProductWrong)

/-- 'laws.FnExactLevelNumbers': WHATEVER THE INPUT: true; the input reads as it did. -/
def fnExactLevelNumbersSpec : ChangeSpec := { name := "fnExactLevelNumbers", fn := fun _ => fun
  | [d1, d2] => { results := [.lit (.bool true)], args := [d1, d2] }
  | _ => none }
def fnExactLevelNumbersRow : OpenClaim := { program := "ythdaojcekpelgaa", sum := "90cb2eeff19f3a53f4eb095ad7d3c1361d86596e721896ca7d5e90bd0f74b96b", func := "loop.example/g01273/laws.FnExactLevelNumbers", spec := "fnExactLevelNumbers", unfollowed := true, recurses := true, apart := false }
def FnExactLevelNumbersSaid : Prop := fnExactLevelNumbersRow.holds Try.pinned (OpenSpec.ofChange fnExactLevelNumbersSpec)

/-- ITS FALSE NEIGHBOUR: 'it returns false'. Refute it at one input. -/
def fnExactLevelNumbersWrong : ChangeSpec := { name := "fnExactLevelNumbers", fn := fun _ => fun
  | [d1, d2] => { results := [.lit (.bool false)], args := [d1, d2] }
  | _ => none }
def FnExactLevelNumbersWrongFalsely : Prop := fnExactLevelNumbersRow.holds Try.pinned (OpenSpec.ofChange fnExactLevelNumbersWrong)

/-- 'laws.FnExactPageTable': WHATEVER THE INPUT: true; the input reads as it did. -/
def fnExactPageTableSpec : ChangeSpec := { name := "fnExactPageTable", fn := fun _ => fun
  | [d1, d2] => { results := [.lit (.bool true)], args := [d1, d2] }
  | _ => none }
def fnExactPageTableRow : OpenClaim := { program := "ythdaojcekpelgaa", sum := "90cb2eeff19f3a53f4eb095ad7d3c1361d86596e721896ca7d5e90bd0f74b96b", func := "loop.example/g01273/laws.FnExactPageTable", spec := "fnExactPageTable", unfollowed := true, recurses := true, apart := false }
def FnExactPageTableSaid : Prop := fnExactPageTableRow.holds Try.pinned (OpenSpec.ofChange fnExactPageTableSpec)

/-- ITS FALSE NEIGHBOUR: 'it returns false'. Refute it at one input. -/
def fnExactPageTableWrong : ChangeSpec := { name := "fnExactPageTable", fn := fun _ => fun
  | [d1, d2] => { results := [.lit (.bool false)], args := [d1, d2] }
  | _ => none }
def FnExactPageTableWrongFalsely : Prop := fnExactPageTableRow.holds Try.pinned (OpenSpec.ofChange fnExactPageTableWrong)

/- THE SECOND FORM. 'bulk': how many values and letters a reading holds, each counted each time it is reached (what is shared counts as often as it is met; a slice's spare places count too). A statement '..UptoSaid' is the law's where the arguments, and the package variables that the reading takes, are together of bulk at most 1048576: NARROWER than '..Said'. Prove '..Said' where nothing that the law and all that it calls make is longer than what came in: it says more and counts as full. Else prove '..UptoSaid'. A law counts once. -/
mutual
def uptoBulk {H : Type} : DataW H → Nat
  | .lit (.string bytes) => bytes.length + 1
  | .lit _ => 1
  | .nil => 1
  | .ptr d => uptoBulk d + 1
  | .slice elems spare => uptoBulkAll elems + uptoBulkAll spare + 1
  | .agg parts => uptoBulkAll parts + 1
  | .iface _ d => uptoBulk d + 1
  | .map entries => uptoBulkEntries entries + 1
  | .held _ => 1
def uptoBulkAll {H : Type} : List (DataW H) → Nat
  | [] => 0
  | d :: r => uptoBulk d + uptoBulkAll r
def uptoBulkEntries {H : Type} : List (Lit × DataW H) → Nat
  | [] => 0
  | x :: r => uptoBulkEntry x + uptoBulkEntries r
def uptoBulkEntry {H : Type} : Lit × DataW H → Nat
  | (.string bytes, d) => bytes.length + uptoBulk d + 1
  | (_, d) => uptoBulk d + 1
 end
def uptoSmall : (H : Type) → List (DataW H) → Bool := fun _ ds => decide (uptoBulkAll ds ≤ 1048576)
def OpenSpec.upto (s : _root_.Go.ChangeSpec) : _root_.Go.OpenSpec := { _root_.Go.OpenSpec.ofChange s with cond := some uptoSmall }

/-- 'laws.FnExactIsDesk', WHERE WHAT IT READS IS OF BULK AT MOST 1048576: true; the input reads as it did. -/
def fnExactIsDeskUptoRow : OpenClaim := { program := "ythdaojcekpelgaa", sum := "90cb2eeff19f3a53f4eb095ad7d3c1361d86596e721896ca7d5e90bd0f74b96b", func := "loop.example/g01273/laws.FnExactIsDesk", spec := "fnExactIsDesk", unfollowed := true, recurses := true, apart := false, narrowed := true }
def FnExactIsDeskUptoSaid : Prop := fnExactIsDeskUptoRow.holds Try.pinned (OpenSpec.upto fnExactIsDeskSpec)

/-- 'laws.FnExactIsPerturbation', WHERE WHAT IT READS IS OF BULK AT MOST 1048576: true; the input reads as it did. -/
def fnExactIsPerturbationUptoRow : OpenClaim := { program := "ythdaojcekpelgaa", sum := "90cb2eeff19f3a53f4eb095ad7d3c1361d86596e721896ca7d5e90bd0f74b96b", func := "loop.example/g01273/laws.FnExactIsPerturbation", spec := "fnExactIsPerturbation", unfollowed := true, recurses := true, apart := false, narrowed := true }
def FnExactIsPerturbationUptoSaid : Prop := fnExactIsPerturbationUptoRow.holds Try.pinned (OpenSpec.upto fnExactIsPerturbationSpec)

/-- 'laws.FnExactPerturbedComplex', WHERE WHAT IT READS IS OF BULK AT MOST 1048576: true; the input reads as it did. -/
def fnExactPerturbedComplexUptoRow : OpenClaim := { program := "ythdaojcekpelgaa", sum := "90cb2eeff19f3a53f4eb095ad7d3c1361d86596e721896ca7d5e90bd0f74b96b", func := "loop.example/g01273/laws.FnExactPerturbedComplex", spec := "fnExactPerturbedComplex", unfollowed := true, recurses := true, apart := false, narrowed := true }
def FnExactPerturbedComplexUptoSaid : Prop := fnExactPerturbedComplexUptoRow.holds Try.pinned (OpenSpec.upto fnExactPerturbedComplexSpec)

/-- 'laws.FnExactFlatFiltered', WHERE WHAT IT READS IS OF BULK AT MOST 1048576: true; the input reads as it did. -/
def fnExactFlatFilteredUptoRow : OpenClaim := { program := "ythdaojcekpelgaa", sum := "90cb2eeff19f3a53f4eb095ad7d3c1361d86596e721896ca7d5e90bd0f74b96b", func := "loop.example/g01273/laws.FnExactFlatFiltered", spec := "fnExactFlatFiltered", unfollowed := true, recurses := true, apart := false, narrowed := true }
def FnExactFlatFilteredUptoSaid : Prop := fnExactFlatFilteredUptoRow.holds Try.pinned (OpenSpec.upto fnExactFlatFilteredSpec)

/-- 'laws.FnExactFreePlaces', WHERE WHAT IT READS IS OF BULK AT MOST 1048576: true; the input reads as it did. -/
def fnExactFreePlacesUptoRow : OpenClaim := { program := "ythdaojcekpelgaa", sum := "90cb2eeff19f3a53f4eb095ad7d3c1361d86596e721896ca7d5e90bd0f74b96b", func := "loop.example/g01273/laws.FnExactFreePlaces", spec := "fnExactFreePlaces", unfollowed := true, recurses := true, apart := false, narrowed := true }
def FnExactFreePlacesUptoSaid : Prop := fnExactFreePlacesUptoRow.holds Try.pinned (OpenSpec.upto fnExactFreePlacesSpec)

/-- 'laws.FnExactColumnOf', WHERE WHAT IT READS IS OF BULK AT MOST 1048576: true; the input reads as it did. -/
def fnExactColumnOfUptoRow : OpenClaim := { program := "ythdaojcekpelgaa", sum := "90cb2eeff19f3a53f4eb095ad7d3c1361d86596e721896ca7d5e90bd0f74b96b", func := "loop.example/g01273/laws.FnExactColumnOf", spec := "fnExactColumnOf", unfollowed := true, recurses := true, apart := false, narrowed := true }
def FnExactColumnOfUptoSaid : Prop := fnExactColumnOfUptoRow.holds Try.pinned (OpenSpec.upto fnExactColumnOfSpec)

/-- 'laws.FnExactConeOf', WHERE WHAT IT READS IS OF BULK AT MOST 1048576: true; the input reads as it did. -/
def fnExactConeOfUptoRow : OpenClaim := { program := "ythdaojcekpelgaa", sum := "90cb2eeff19f3a53f4eb095ad7d3c1361d86596e721896ca7d5e90bd0f74b96b", func := "loop.example/g01273/laws.FnExactConeOf", spec := "fnExactConeOf", unfollowed := true, recurses := true, apart := false, narrowed := true }
def FnExactConeOfUptoSaid : Prop := fnExactConeOfUptoRow.holds Try.pinned (OpenSpec.upto fnExactConeOfSpec)

/-- 'laws.FnExactDifferentialRank', WHERE WHAT IT READS IS OF BULK AT MOST 1048576: true; the input reads as it did. -/
def fnExactDifferentialRankUptoRow : OpenClaim := { program := "ythdaojcekpelgaa", sum := "90cb2eeff19f3a53f4eb095ad7d3c1361d86596e721896ca7d5e90bd0f74b96b", func := "loop.example/g01273/laws.FnExactDifferentialRank", spec := "fnExactDifferentialRank", unfollowed := true, recurses := true, apart := false, narrowed := true }
def FnExactDifferentialRankUptoSaid : Prop := fnExactDifferentialRankUptoRow.holds Try.pinned (OpenSpec.upto fnExactDifferentialRankSpec)

/-- 'laws.FnExactIsContraction', WHERE WHAT IT READS IS OF BULK AT MOST 1048576: true; the input reads as it did. -/
def fnExactIsContractionUptoRow : OpenClaim := { program := "ythdaojcekpelgaa", sum := "90cb2eeff19f3a53f4eb095ad7d3c1361d86596e721896ca7d5e90bd0f74b96b", func := "loop.example/g01273/laws.FnExactIsContraction", spec := "fnExactIsContraction", unfollowed := true, recurses := true, apart := false, narrowed := true }
def FnExactIsContractionUptoSaid : Prop := fnExactIsContractionUptoRow.holds Try.pinned (OpenSpec.upto fnExactIsContractionSpec)

/-- 'laws.FnExactHomologyProduct', WHERE WHAT IT READS IS OF BULK AT MOST 1048576: true; the input reads as it did. -/
def fnExactHomologyProductUptoRow : OpenClaim := { program := "ythdaojcekpelgaa", sum := "90cb2eeff19f3a53f4eb095ad7d3c1361d86596e721896ca7d5e90bd0f74b96b", func := "loop.example/g01273/laws.FnExactHomologyProduct", spec := "fnExactHomologyProduct", unfollowed := true, recurses := true, apart := false, narrowed := true }
def FnExactHomologyProductUptoSaid : Prop := fnExactHomologyProductUptoRow.holds Try.pinned (OpenSpec.upto fnExactHomologyProductSpec)

/-- 'laws.FnExactLevelNumbers', WHERE WHAT IT READS IS OF BULK AT MOST 1048576: true; the input reads as it did. -/
def fnExactLevelNumbersUptoRow : OpenClaim := { program := "ythdaojcekpelgaa", sum := "90cb2eeff19f3a53f4eb095ad7d3c1361d86596e721896ca7d5e90bd0f74b96b", func := "loop.example/g01273/laws.FnExactLevelNumbers", spec := "fnExactLevelNumbers", unfollowed := true, recurses := true, apart := false, narrowed := true }
def FnExactLevelNumbersUptoSaid : Prop := fnExactLevelNumbersUptoRow.holds Try.pinned (OpenSpec.upto fnExactLevelNumbersSpec)

/-- 'laws.FnExactPageTable', WHERE WHAT IT READS IS OF BULK AT MOST 1048576: true; the input reads as it did. -/
def fnExactPageTableUptoRow : OpenClaim := { program := "ythdaojcekpelgaa", sum := "90cb2eeff19f3a53f4eb095ad7d3c1361d86596e721896ca7d5e90bd0f74b96b", func := "loop.example/g01273/laws.FnExactPageTable", spec := "fnExactPageTable", unfollowed := true, recurses := true, apart := false, narrowed := true }
def FnExactPageTableUptoSaid : Prop := fnExactPageTableUptoRow.holds Try.pinned (OpenSpec.upto fnExactPageTableSpec)

end Rows
end Go.Proofs.Ythdaojcekpelgaa
