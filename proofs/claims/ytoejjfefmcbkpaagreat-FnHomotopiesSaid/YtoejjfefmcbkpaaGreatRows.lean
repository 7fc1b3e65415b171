/-
  No cell of these rows narrows 'for every input' (looked for: loops, veiled, ifaces, maps, wideKeys, modest, calm, conditions, laid).
  DERIVED. THE GIVEN ROWS OF THIS SEAT. 3 by the template 'for every input the law returns true; each argument reads behind the call as it read before'; 0 by the template 'total and deterministic' (their statements: YtoejjfefmcbkpaaGreatTotals.lean).
  GIVEN WITH THE SEED: the statements are not yours to turn. If you find one false, say at which input.
  Laid BY PROGRAM, IN A SANDBOX (cutbox-rows.mjs): the forced cells as the released guide's own fill.sh prints them over the translation e0360f05b6e38b17… (all of the seat's roots in one cut). By AI agents, Wed Nov 11 2026. No macro, syntax, notation, axiom, sorry.
-/
import Derived.Test.YtoejjfefmcbkpaaGreatChecked
import GoSem.Claim
import GoSem.ClaimJoined
import GoSem.ClaimMapViews
import Derived.JoinedTies
import Derived.KernelRfl
namespace Go.Proofs.YtoejjfefmcbkpaaGreat
/- THE CELL 'sum', in the pinned program and in every row, IS THE sha256 OF THE DUMP (.gsa) THAT YtoejjfefmcbkpaaGreatProg.lean LOADS. Nothing in Lean hashes anything: it is a label: what it is worth is what the hold of that sum in a sandbox is worth. -/
noncomputable def Tryz.pinned : Pinned := { name := "ytoejjfefmcbkpaagreat", sum := "e0360f05b6e38b177e9180ad60e3e43a5cfe12b0e99960e94a7896cd2b4b37ab", checked := Tryz.checked }
namespace Rows
def none {H : Type} : Left H := { results := [], args := [] }

/-- 'laws.FnHomotopies': WHATEVER THE INPUT: true; the input reads as it did. -/
def fnHomotopiesSpec : ChangeSpec := { name := "fnHomotopies", fn := fun _ => fun
  | [d] => { results := [.lit (.bool true)], args := [d] }
  | _ => none }
def fnHomotopiesRow : OpenClaim := { program := "ytoejjfefmcbkpaagreat", sum := "e0360f05b6e38b177e9180ad60e3e43a5cfe12b0e99960e94a7896cd2b4b37ab", func := "loop.example/g01273/laws.FnHomotopies", spec := "fnHomotopies", unfollowed := true, recurses := true, apart := false }
def FnHomotopiesSaid : Prop := fnHomotopiesRow.holds Tryz.pinned (OpenSpec.ofChange fnHomotopiesSpec)

/-- ITS FALSE NEIGHBOUR: 'it returns false'. Refute it at one input. -/
def fnHomotopiesWrong : ChangeSpec := { name := "fnHomotopies", fn := fun _ => fun
  | [d] => { results := [.lit (.bool false)], args := [d] }
  | _ => none }
def FnHomotopiesWrongFalsely : Prop := fnHomotopiesRow.holds Tryz.pinned (OpenSpec.ofChange fnHomotopiesWrong)

/-- 'laws.FnChainMaps': WHATEVER THE INPUT: true; the input reads as it did. -/
def fnChainMapsSpec : ChangeSpec := { name := "fnChainMaps", fn := fun _ => fun
  | [d] => { results := [.lit (.bool true)], args := [d] }
  | _ => none }
def fnChainMapsRow : OpenClaim := { program := "ytoejjfefmcbkpaagreat", sum := "e0360f05b6e38b177e9180ad60e3e43a5cfe12b0e99960e94a7896cd2b4b37ab", func := "loop.example/g01273/laws.FnChainMaps", spec := "fnChainMaps", unfollowed := true, recurses := true, apart := false }
def FnChainMapsSaid : Prop := fnChainMapsRow.holds Tryz.pinned (OpenSpec.ofChange fnChainMapsSpec)

/-- ITS FALSE NEIGHBOUR: 'it returns false'. Refute it at one input. -/
def fnChainMapsWrong : ChangeSpec := { name := "fnChainMaps", fn := fun _ => fun
  | [d] => { results := [.lit (.bool false)], args := [d] }
  | _ => none }
def FnChainMapsWrongFalsely : Prop := fnChainMapsRow.holds Tryz.pinned (OpenSpec.ofChange fnChainMapsWrong)

/-- 'laws.FnCones': WHATEVER THE INPUT: true; the input reads as it did. -/
def fnConesSpec : ChangeSpec := { name := "fnCones", fn := fun _ => fun
  | [d] => { results := [.lit (.bool true)], args := [d] }
  | _ => none }
def fnConesRow : OpenClaim := { program := "ytoejjfefmcbkpaagreat", sum := "e0360f05b6e38b177e9180ad60e3e43a5cfe12b0e99960e94a7896cd2b4b37ab", func := "loop.example/g01273/laws.FnCones", spec := "fnCones", unfollowed := true, recurses := true, apart := false }
def FnConesSaid : Prop := fnConesRow.holds Tryz.pinned (OpenSpec.ofChange fnConesSpec)

/-- ITS FALSE NEIGHBOUR: 'it returns false'. Refute it at one input. -/
def fnConesWrong : ChangeSpec := { name := "fnCones", fn := fun _ => fun
  | [d] => { results := [.lit (.bool false)], args := [d] }
  | _ => none }
def FnConesWrongFalsely : Prop := fnConesRow.holds Tryz.pinned (OpenSpec.ofChange fnConesWrong)

/- THE SECOND FORM. 'bulk': how many values and letters a reading holds, each counted each time it is reached (what is shared counts as often as it is met; a slice's spare places count too). A statement '..UptoSaid' is the law's where the arguments, and the package variables that the reading takes, are together of bulk at most 1048576: NARROWER than '..Said'. Prove '..Said' where nothing that the law and all that it calls make is longer than what came in: it says more and counts as full. Else prove '..UptoSaid'. A law counts once. -/
mutual
def uptoBulk {H : Type} : DataW H → Nat
  | .lit (.string bytes) => bytes.length + 1
  | .lit _ => 1
  | .nil => 1
  | .ptr d => uptoBulk d + 1
  | .slice elems spare => uptoBulkAll elems + uptoBulkAll spare + 1
  | .agg parts => uptoBulkAll parts + 1
  | .iface _ d => uptoBulk d + 1
  | .map entries => uptoBulkEntries entries + 1
  | .held _ => 1
def uptoBulkAll {H : Type} : List (DataW H) → Nat
  | [] => 0
  | d :: r => uptoBulk d + uptoBulkAll r
def uptoBulkEntries {H : Type} : List (Lit × DataW H) → Nat
  | [] => 0
  | x :: r => uptoBulkEntry x + uptoBulkEntries r
def uptoBulkEntry {H : Type} : Lit × DataW H → Nat
  | (.string bytes, d) => bytes.length + uptoBulk d + 1
  | (_, d) => uptoBulk d + 1
 end
def uptoSmall : (H : Type) → List (DataW H) → Bool := fun _ ds => decide (uptoBulkAll ds ≤ 1048576)
def OpenSpec.upto (s : _root_.Go.ChangeSpec) : _root_.Go.OpenSpec := { _root_.Go.OpenSpec.ofChange s with cond := some uptoSmall }

/-- 'laws.FnHomotopies', WHERE WHAT IT READS IS OF BULK AT MOST 1048576: true; the input reads as it did. -/
def fnHomotopiesUptoRow : OpenClaim := { program := "ytoejjfefmcbkpaagreat", sum := "e0360f05b6e38b177e9180ad60e3e43a5cfe12b0e99960e94a7896cd2b4b37ab", func := "loop.example/g01273/laws.FnHomotopies", spec := "fnHomotopies", unfollowed := true, recurses := true, apart := false, narrowed := true }
def FnHomotopiesUptoSaid : Prop := fnHomotopiesUptoRow.holds Tryz.pinned (OpenSpec.upto fnHomotopiesSpec)

/-- 'laws.FnChainMaps', WHERE WHAT IT READS IS OF BULK AT MOST 1048576: true; the input reads as it did. -/
def fnChainMapsUptoRow : OpenClaim := { program := "ytoejjfefmcbkpaagreat", sum := "e0360f05b6e38b177e9180ad60e3e43a5cfe12b0e99960e94a7896cd2b4b37ab", func := "loop.example/g01273/laws.FnChainMaps", spec := "fnChainMaps", unfollowed := true, recurses := true, apart := false, narrowed := true }
def FnChainMapsUptoSaid : Prop := fnChainMapsUptoRow.holds Tryz.pinned (OpenSpec.upto fnChainMapsSpec)

/-- 'laws.FnCones', WHERE WHAT IT READS IS OF BULK AT MOST 1048576: true; the input reads as it did. -/
def fnConesUptoRow : OpenClaim := { program := "ytoejjfefmcbkpaagreat", sum := "e0360f05b6e38b177e9180ad60e3e43a5cfe12b0e99960e94a7896cd2b4b37ab", func := "loop.example/g01273/laws.FnCones", spec := "fnCones", unfollowed := true, recurses := true, apart := false, narrowed := true }
def FnConesUptoSaid : Prop := fnConesUptoRow.holds Tryz.pinned (OpenSpec.upto fnConesSpec)

end Rows
end Go.Proofs.YtoejjfefmcbkpaaGreat
