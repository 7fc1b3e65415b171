/-
  No cell of these rows narrows 'for every input' (looked for: loops, veiled, ifaces, maps, wideKeys, modest, calm, conditions, laid).
  DERIVED. THE GIVEN ROWS OF THIS SEAT. 3 by the template 'for every input the law returns true; each argument reads behind the call as it read before'; 0 by the template 'total and deterministic' (their statements: YtadnnniccgdigaaGreatTotals.lean).
  GIVEN WITH THE SEED: the statements are not yours to turn. If you find one false, say at which input.
  Laid BY PROGRAM, IN A SANDBOX (cutbox-rows.mjs): the forced cells as the released guide's own fill.sh prints them over the translation 7ded0fa8ed20431b… (all of the seat's roots in one cut). By AI agents, Wed Nov 11 2026. No macro, syntax, notation, axiom, sorry.
-/
import Derived.Test.YtadnnniccgdigaaGreatChecked
import GoSem.Claim
import GoSem.ClaimJoined
import GoSem.ClaimMapViews
import Derived.JoinedTies
import Derived.KernelRfl
namespace Go.Proofs.YtadnnniccgdigaaGreat
/- THE CELL 'sum', in the pinned program and in every row, IS THE sha256 OF THE DUMP (.gsa) THAT YtadnnniccgdigaaGreatProg.lean LOADS. Nothing in Lean hashes anything: it is a label: what it is worth is what the hold of that sum in a sandbox is worth. -/
noncomputable def Tryz.pinned : Pinned := { name := "ytadnnniccgdigaagreat", sum := "7ded0fa8ed20431b3b814511150a9d5b9ddd44efc7bf88fc23a089126bb005e1", checked := Tryz.checked }
namespace Rows
def none {H : Type} : Left H := { results := [], args := [] }

/-- 'laws.FnPageBases': WHATEVER THE INPUT: true; the input reads as it did. -/
def fnPageBasesSpec : ChangeSpec := { name := "fnPageBases", fn := fun _ => fun
  | [d] => { results := [.lit (.bool true)], args := [d] }
  | _ => none }
def fnPageBasesRow : OpenClaim := { program := "ytadnnniccgdigaagreat", sum := "7ded0fa8ed20431b3b814511150a9d5b9ddd44efc7bf88fc23a089126bb005e1", func := "loop.example/g01273/laws.FnPageBases", spec := "fnPageBases", unfollowed := true, recurses := true, apart := false }
def FnPageBasesSaid : Prop := fnPageBasesRow.holds Tryz.pinned (OpenSpec.ofChange fnPageBasesSpec)

/-- ITS FALSE NEIGHBOUR: 'it returns false'. Refute it at one input. -/
def fnPageBasesWrong : ChangeSpec := { name := "fnPageBases", fn := fun _ => fun
  | [d] => { results := [.lit (.bool false)], args := [d] }
  | _ => none }
def FnPageBasesWrongFalsely : Prop := fnPageBasesRow.holds Tryz.pinned (OpenSpec.ofChange fnPageBasesWrong)

/-- 'laws.FnPages': WHATEVER THE INPUT: true; the input reads as it did. -/
def fnPagesSpec : ChangeSpec := { name := "fnPages", fn := fun _ => fun
  | [d] => { results := [.lit (.bool true)], args := [d] }
  | _ => none }
def fnPagesRow : OpenClaim := { program := "ytadnnniccgdigaagreat", sum := "7ded0fa8ed20431b3b814511150a9d5b9ddd44efc7bf88fc23a089126bb005e1", func := "loop.example/g01273/laws.FnPages", spec := "fnPages", unfollowed := true, recurses := true, apart := false }
def FnPagesSaid : Prop := fnPagesRow.holds Tryz.pinned (OpenSpec.ofChange fnPagesSpec)

/-- ITS FALSE NEIGHBOUR: 'it returns false'. Refute it at one input. -/
def fnPagesWrong : ChangeSpec := { name := "fnPages", fn := fun _ => fun
  | [d] => { results := [.lit (.bool false)], args := [d] }
  | _ => none }
def FnPagesWrongFalsely : Prop := fnPagesRow.holds Tryz.pinned (OpenSpec.ofChange fnPagesWrong)

/-- 'laws.FnFilteredParts': WHATEVER THE INPUT: true; the input reads as it did. -/
def fnFilteredPartsSpec : ChangeSpec := { name := "fnFilteredParts", fn := fun _ => fun
  | [d] => { results := [.lit (.bool true)], args := [d] }
  | _ => none }
def fnFilteredPartsRow : OpenClaim := { program := "ytadnnniccgdigaagreat", sum := "7ded0fa8ed20431b3b814511150a9d5b9ddd44efc7bf88fc23a089126bb005e1", func := "loop.example/g01273/laws.FnFilteredParts", spec := "fnFilteredParts", unfollowed := true, recurses := true, apart := false }
def FnFilteredPartsSaid : Prop := fnFilteredPartsRow.holds Tryz.pinned (OpenSpec.ofChange fnFilteredPartsSpec)

/-- ITS FALSE NEIGHBOUR: 'it returns false'. Refute it at one input. -/
def fnFilteredPartsWrong : ChangeSpec := { name := "fnFilteredParts", fn := fun _ => fun
  | [d] => { results := [.lit (.bool false)], args := [d] }
  | _ => none }
def FnFilteredPartsWrongFalsely : Prop := fnFilteredPartsRow.holds Tryz.pinned (OpenSpec.ofChange fnFilteredPartsWrong)

/- THE SECOND FORM. 'bulk': how many values and letters a reading holds, each counted each time it is reached (what is shared counts as often as it is met; a slice's spare places count too). A statement '..UptoSaid' is the law's where the arguments, and the package variables that the reading takes, are together of bulk at most 1048576: NARROWER than '..Said'. Prove '..Said' where nothing that the law and all that it calls make is longer than what came in: it says more and counts as full. Else prove '..UptoSaid'. A law counts once. -/
mutual
def uptoBulk {H : Type} : DataW H → Nat
  | .lit (.string bytes) => bytes.length + 1
  | .lit _ => 1
  | .nil => 1
  | .ptr d => uptoBulk d + 1
  | .slice elems spare => uptoBulkAll elems + uptoBulkAll spare + 1
  | .agg parts => uptoBulkAll parts + 1
  | .iface _ d => uptoBulk d + 1
  | .map entries => uptoBulkEntries entries + 1
  | .held _ => 1
def uptoBulkAll {H : Type} : List (DataW H) → Nat
  | [] => 0
  | d :: r => uptoBulk d + uptoBulkAll r
def uptoBulkEntries {H : Type} : List (Lit × DataW H) → Nat
  | [] => 0
  | x :: r => uptoBulkEntry x + uptoBulkEntries r
def uptoBulkEntry {H : Type} : Lit × DataW H → Nat
  | (.string bytes, d) => bytes.length + uptoBulk d + 1
  | (_, d) => uptoBulk d + 1
 end
def uptoSmall : (H : Type) → List (DataW H) → Bool := fun _ ds => decide (uptoBulkAll ds ≤ 1048576)
def OpenSpec.upto (s : _root_.Go.ChangeSpec) : _root_.Go.OpenSpec := { _root_.Go.OpenSpec.ofChange s with cond := some uptoSmall }

/-- 'laws.FnPageBases', WHERE WHAT IT READS IS OF BULK AT MOST 1048576: true; the input reads as it did. -/
def fnPageBasesUptoRow : OpenClaim := { program := "ytadnnniccgdigaagreat", sum := "7ded0fa8ed20431b3b814511150a9d5b9ddd44efc7bf88fc23a089126bb005e1", func := "loop.example/g01273/laws.FnPageBases", spec := "fnPageBases", unfollowed := true, recurses := true, apart := false, narrowed := true }
def FnPageBasesUptoSaid : Prop := fnPageBasesUptoRow.holds Tryz.pinned (OpenSpec.upto fnPageBasesSpec)

/-- 'laws.FnPages', WHERE WHAT IT READS IS OF BULK AT MOST 1048576: true; the input reads as it did. -/
def fnPagesUptoRow : OpenClaim := { program := "ytadnnniccgdigaagreat", sum := "7ded0fa8ed20431b3b814511150a9d5b9ddd44efc7bf88fc23a089126bb005e1", func := "loop.example/g01273/laws.FnPages", spec := "fnPages", unfollowed := true, recurses := true, apart := false, narrowed := true }
def FnPagesUptoSaid : Prop := fnPagesUptoRow.holds Tryz.pinned (OpenSpec.upto fnPagesSpec)

/-- 'laws.FnFilteredParts', WHERE WHAT IT READS IS OF BULK AT MOST 1048576: true; the input reads as it did. -/
def fnFilteredPartsUptoRow : OpenClaim := { program := "ytadnnniccgdigaagreat", sum := "7ded0fa8ed20431b3b814511150a9d5b9ddd44efc7bf88fc23a089126bb005e1", func := "loop.example/g01273/laws.FnFilteredParts", spec := "fnFilteredParts", unfollowed := true, recurses := true, apart := false, narrowed := true }
def FnFilteredPartsUptoSaid : Prop := fnFilteredPartsUptoRow.holds Tryz.pinned (OpenSpec.upto fnFilteredPartsSpec)

end Rows
end Go.Proofs.YtadnnniccgdigaaGreat
