/-
  No cell of these rows narrows 'for every input' (looked for: loops, veiled, ifaces, maps, wideKeys, modest, calm, conditions, laid).
  DERIVED. THE GIVEN ROWS OF THIS SEAT. 4 by the template 'for every input the law returns true; each argument reads behind the call as it read before'; 0 by the template 'total and deterministic' (their statements: YtfmilkanaigjcaaTotals.lean).
  GIVEN WITH THE SEED: the statements are not yours to turn. If you find one false, say at which input.
  Laid BY PROGRAM, IN A SANDBOX (cutbox-rows.mjs): the forced cells as the released guide's own fill.sh prints them over the translation 0675112f98328c98… (all of the seat's roots in one cut). By AI agents, Wed Nov 11 2026. No macro, syntax, notation, axiom, sorry.
-/
import Derived.Test.YtfmilkanaigjcaaChecked
import GoSem.Claim
import GoSem.ClaimJoined
import GoSem.ClaimMapViews
import Derived.JoinedTies
import Derived.KernelRfl
namespace Go.Proofs.Ytfmilkanaigjcaa
/- THE CELL 'sum', in the pinned program and in every row, IS THE sha256 OF THE DUMP (.gsa) THAT YtfmilkanaigjcaaProg.lean LOADS. Nothing in Lean hashes anything: it is a label: what it is worth is what the hold of that sum in a sandbox is worth. -/
noncomputable def Try.pinned : Pinned := { name := "ytfmilkanaigjcaa", sum := "0675112f98328c9889d5744de759e0ed7746aa97fb1e128f9f2b07bd173d5250", checked := Try.checked }
namespace Rows
def none {H : Type} : Left H := { results := [], args := [] }

/-- 'laws.FnExactPageBasis': WHATEVER THE INPUT: true; the input reads as it did. -/
def fnExactPageBasisSpec : ChangeSpec := { name := "fnExactPageBasis", fn := fun _ => fun
  | [d1, d2, d3, d4] => { results := [.lit (.bool true)], args := [d1, d2, d3, d4] }
  | _ => none }
def fnExactPageBasisRow : OpenClaim := { program := "ytfmilkanaigjcaa", sum := "0675112f98328c9889d5744de759e0ed7746aa97fb1e128f9f2b07bd173d5250", func := "loop.example/g01273/laws.FnExactPageBasis", spec := "fnExactPageBasis", unfollowed := true, recurses := true, apart := false }
def FnExactPageBasisSaid : Prop := fnExactPageBasisRow.holds Try.pinned (OpenSpec.ofChange fnExactPageBasisSpec)

/-- ITS FALSE NEIGHBOUR: 'it returns false'. Refute it at one input. -/
def fnExactPageBasisWrong : ChangeSpec := { name := "fnExactPageBasis", fn := fun _ => fun
  | [d1, d2, d3, d4] => { results := [.lit (.bool false)], args := [d1, d2, d3, d4] }
  | _ => none }
def FnExactPageBasisWrongFalsely : Prop := fnExactPageBasisRow.holds Try.pinned (OpenSpec.ofChange fnExactPageBasisWrong)

/-- 'laws.FnExactPageDifferential': WHATEVER THE INPUT: true; the input reads as it did. -/
def fnExactPageDifferentialSpec : ChangeSpec := { name := "fnExactPageDifferential", fn := fun _ => fun
  | [d1, d2, d3, d4] => { results := [.lit (.bool true)], args := [d1, d2, d3, d4] }
  | _ => none }
def fnExactPageDifferentialRow : OpenClaim := { program := "ytfmilkanaigjcaa", sum := "0675112f98328c9889d5744de759e0ed7746aa97fb1e128f9f2b07bd173d5250", func := "loop.example/g01273/laws.FnExactPageDifferential", spec := "fnExactPageDifferential", unfollowed := true, recurses := true, apart := false }
def FnExactPageDifferentialSaid : Prop := fnExactPageDifferentialRow.holds Try.pinned (OpenSpec.ofChange fnExactPageDifferentialSpec)

/-- ITS FALSE NEIGHBOUR: 'it returns false'. Refute it at one input. -/
def fnExactPageDifferentialWrong : ChangeSpec := { name := "fnExactPageDifferential", fn := fun _ => fun
  | [d1, d2, d3, d4] => { results := [.lit (.bool false)], args := [d1, d2, d3, d4] }
  | _ => none }
def FnExactPageDifferentialWrongFalsely : Prop := fnExactPageDifferentialRow.holds Try.pinned (OpenSpec.ofChange fnExactPageDifferentialWrong)

/-- 'laws.FnExactLastPage': WHATEVER THE INPUT: true; the input reads as it did. -/
def fnExactLastPageSpec : ChangeSpec := { name := "fnExactLastPage", fn := fun _ => fun
  | [d] => { results := [.lit (.bool true)], args := [d] }
  | _ => none }
def fnExactLastPageRow : OpenClaim := { program := "ytfmilkanaigjcaa", sum := "0675112f98328c9889d5744de759e0ed7746aa97fb1e128f9f2b07bd173d5250", func := "loop.example/g01273/laws.FnExactLastPage", spec := "fnExactLastPage", unfollowed := true, recurses := true, apart := false }
def FnExactLastPageSaid : Prop := fnExactLastPageRow.holds Try.pinned (OpenSpec.ofChange fnExactLastPageSpec)

/-- ITS FALSE NEIGHBOUR: 'it returns false'. Refute it at one input. -/
def fnExactLastPageWrong : ChangeSpec := { name := "fnExactLastPage", fn := fun _ => fun
  | [d] => { results := [.lit (.bool false)], args := [d] }
  | _ => none }
def FnExactLastPageWrongFalsely : Prop := fnExactLastPageRow.holds Try.pinned (OpenSpec.ofChange fnExactLastPageWrong)

/-- 'laws.FnExactContractionOf': WHATEVER THE INPUT: true; the input reads as it did. -/
def fnExactContractionOfSpec : ChangeSpec := { name := "fnExactContractionOf", fn := fun _ => fun
  | [d] => { results := [.lit (.bool true)], args := [d] }
  | _ => none }
def fnExactContractionOfRow : OpenClaim := { program := "ytfmilkanaigjcaa", sum := "0675112f98328c9889d5744de759e0ed7746aa97fb1e128f9f2b07bd173d5250", func := "loop.example/g01273/laws.FnExactContractionOf", spec := "fnExactContractionOf", unfollowed := true, recurses := true, apart := false }
def FnExactContractionOfSaid : Prop := fnExactContractionOfRow.holds Try.pinned (OpenSpec.ofChange fnExactContractionOfSpec)

/-- ITS FALSE NEIGHBOUR: 'it returns false'. Refute it at one input. -/
def fnExactContractionOfWrong : ChangeSpec := { name := "fnExactContractionOf", fn := fun _ => fun
  | [d] => { results := [.lit (.bool false)], args := [d] }
  | _ => none }
def FnExactContractionOfWrongFalsely : Prop := fnExactContractionOfRow.holds Try.pinned (OpenSpec.ofChange fnExactContractionOfWrong)

/- THE SECOND FORM. 'bulk': how many values and letters a reading holds, each counted each time it is reached (what is shared counts as often as it is met; a slice's spare places count too). A statement '..UptoSaid' is the law's where the arguments, and the package variables that the reading takes, are together of bulk at most 1048576: NARROWER than '..Said'. Prove '..Said' where nothing that the law and all that it calls make is longer than what came in: it says more and counts as full. Else prove '..UptoSaid'. A law counts once. -/
mutual
def uptoBulk {H : Type} : DataW H → Nat
  | .lit (.string bytes) => bytes.length + 1
  | .lit _ => 1
  | .nil => 1
  | .ptr d => uptoBulk d + 1
  | .slice elems spare => uptoBulkAll elems + uptoBulkAll spare + 1
  | .agg parts => uptoBulkAll parts + 1
  | .iface _ d => uptoBulk d + 1
  | .map entries => uptoBulkEntries entries + 1
  | .held _ => 1
def uptoBulkAll {H : Type} : List (DataW H) → Nat
  | [] => 0
  | d :: r => uptoBulk d + uptoBulkAll r
def uptoBulkEntries {H : Type} : List (Lit × DataW H) → Nat
  | [] => 0
  | x :: r => uptoBulkEntry x + uptoBulkEntries r
def uptoBulkEntry {H : Type} : Lit × DataW H → Nat
  | (.string bytes, d) => bytes.length + uptoBulk d + 1
  | (_, d) => uptoBulk d + 1
 end
def uptoSmall : (H : Type) → List (DataW H) → Bool := fun _ ds => decide (uptoBulkAll ds ≤ 1048576)
def OpenSpec.upto (s : _root_.Go.ChangeSpec) : _root_.Go.OpenSpec := { _root_.Go.OpenSpec.ofChange s with cond := some uptoSmall }

/-- 'laws.FnExactPageBasis', WHERE WHAT IT READS IS OF BULK AT MOST 1048576: true; the input reads as it did. -/
def fnExactPageBasisUptoRow : OpenClaim := { program := "ytfmilkanaigjcaa", sum := "0675112f98328c9889d5744de759e0ed7746aa97fb1e128f9f2b07bd173d5250", func := "loop.example/g01273/laws.FnExactPageBasis", spec := "fnExactPageBasis", unfollowed := true, recurses := true, apart := false, narrowed := true }
def FnExactPageBasisUptoSaid : Prop := fnExactPageBasisUptoRow.holds Try.pinned (OpenSpec.upto fnExactPageBasisSpec)

/-- 'laws.FnExactPageDifferential', WHERE WHAT IT READS IS OF BULK AT MOST 1048576: true; the input reads as it did. -/
def fnExactPageDifferentialUptoRow : OpenClaim := { program := "ytfmilkanaigjcaa", sum := "0675112f98328c9889d5744de759e0ed7746aa97fb1e128f9f2b07bd173d5250", func := "loop.example/g01273/laws.FnExactPageDifferential", spec := "fnExactPageDifferential", unfollowed := true, recurses := true, apart := false, narrowed := true }
def FnExactPageDifferentialUptoSaid : Prop := fnExactPageDifferentialUptoRow.holds Try.pinned (OpenSpec.upto fnExactPageDifferentialSpec)

/-- 'laws.FnExactLastPage', WHERE WHAT IT READS IS OF BULK AT MOST 1048576: true; the input reads as it did. -/
def fnExactLastPageUptoRow : OpenClaim := { program := "ytfmilkanaigjcaa", sum := "0675112f98328c9889d5744de759e0ed7746aa97fb1e128f9f2b07bd173d5250", func := "loop.example/g01273/laws.FnExactLastPage", spec := "fnExactLastPage", unfollowed := true, recurses := true, apart := false, narrowed := true }
def FnExactLastPageUptoSaid : Prop := fnExactLastPageUptoRow.holds Try.pinned (OpenSpec.upto fnExactLastPageSpec)

/-- 'laws.FnExactContractionOf', WHERE WHAT IT READS IS OF BULK AT MOST 1048576: true; the input reads as it did. -/
def fnExactContractionOfUptoRow : OpenClaim := { program := "ytfmilkanaigjcaa", sum := "0675112f98328c9889d5744de759e0ed7746aa97fb1e128f9f2b07bd173d5250", func := "loop.example/g01273/laws.FnExactContractionOf", spec := "fnExactContractionOf", unfollowed := true, recurses := true, apart := false, narrowed := true }
def FnExactContractionOfUptoSaid : Prop := fnExactContractionOfUptoRow.holds Try.pinned (OpenSpec.upto fnExactContractionOfSpec)

end Rows
end Go.Proofs.Ytfmilkanaigjcaa
