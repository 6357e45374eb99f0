/-
  No cell of these rows narrows 'for every input' (looked for: loops, veiled, ifaces, maps, wideKeys, modest, calm, conditions, laid).
  DERIVED. THE GIVEN ROWS OF THIS SEAT. 3 by the template 'for every input the law returns true; each argument reads behind the call as it read before'; 0 by the template 'total and deterministic' (their statements: YthgphegpkjngaaaTotals.lean).
  GIVEN WITH THE SEED: the statements are not yours to turn. If you find one false, say at which input.
  Laid BY PROGRAM, IN A SANDBOX (cutbox-rows.mjs): the forced cells as the released guide's own fill.sh prints them over the translation 9023a3290a7f129c… (all of the seat's roots in one cut). By AI agents, Wed Nov 11 2026. No macro, syntax, notation, axiom, sorry.
-/
import Derived.Test.YthgphegpkjngaaaChecked
import GoSem.Claim
import GoSem.ClaimJoined
import GoSem.ClaimMapViews
import Derived.JoinedTies
import Derived.KernelRfl
namespace Go.Proofs.Ythgphegpkjngaaa
/- THE CELL 'sum', in the pinned program and in every row, IS THE sha256 OF THE DUMP (.gsa) THAT YthgphegpkjngaaaProg.lean LOADS. Nothing in Lean hashes anything: it is a label: what it is worth is what the hold of that sum in a sandbox is worth. -/
noncomputable def Try.pinned : Pinned := { name := "ythgphegpkjngaaa", sum := "9023a3290a7f129cb0146240f08bec23abda60c3b40495331fea436bb2a20aef", checked := Try.checked }
namespace Rows
def none {H : Type} : Left H := { results := [], args := [] }

/-- 'laws.FnPartIs': WHATEVER THE INPUT: true; the input reads as it did. -/
def fnPartIsSpec : ChangeSpec := { name := "fnPartIs", fn := fun _ => fun
  | [d] => { results := [.lit (.bool true)], args := [d] }
  | _ => none }
def fnPartIsRow : OpenClaim := { program := "ythgphegpkjngaaa", sum := "9023a3290a7f129cb0146240f08bec23abda60c3b40495331fea436bb2a20aef", func := "loop.example/closingsticks/laws.FnPartIs", spec := "fnPartIs", unfollowed := true, recurses := true, apart := false }
def FnPartIsSaid : Prop := fnPartIsRow.holds Try.pinned (OpenSpec.ofChange fnPartIsSpec)

/-- ITS FALSE NEIGHBOUR: 'it returns false'. Refute it at one input. -/
def fnPartIsWrong : ChangeSpec := { name := "fnPartIs", fn := fun _ => fun
  | [d] => { results := [.lit (.bool false)], args := [d] }
  | _ => none }
def FnPartIsWrongFalsely : Prop := fnPartIsRow.holds Try.pinned (OpenSpec.ofChange fnPartIsWrong)

/-- 'laws.FnPartSort': WHATEVER THE INPUT: true; the input reads as it did. -/
def fnPartSortSpec : ChangeSpec := { name := "fnPartSort", fn := fun _ => fun
  | [d] => { results := [.lit (.bool true)], args := [d] }
  | _ => none }
def fnPartSortRow : OpenClaim := { program := "ythgphegpkjngaaa", sum := "9023a3290a7f129cb0146240f08bec23abda60c3b40495331fea436bb2a20aef", func := "loop.example/closingsticks/laws.FnPartSort", spec := "fnPartSort", unfollowed := true, recurses := true, apart := false }
def FnPartSortSaid : Prop := fnPartSortRow.holds Try.pinned (OpenSpec.ofChange fnPartSortSpec)

/-- ITS FALSE NEIGHBOUR: 'it returns false'. Refute it at one input. -/
def fnPartSortWrong : ChangeSpec := { name := "fnPartSort", fn := fun _ => fun
  | [d] => { results := [.lit (.bool false)], args := [d] }
  | _ => none }
def FnPartSortWrongFalsely : Prop := fnPartSortRow.holds Try.pinned (OpenSpec.ofChange fnPartSortWrong)

/-- 'laws.FnPartMost': WHATEVER THE INPUT: true; the input reads as it did. -/
def fnPartMostSpec : ChangeSpec := { name := "fnPartMost", fn := fun _ => fun
  | [d] => { results := [.lit (.bool true)], args := [d] }
  | _ => none }
def fnPartMostRow : OpenClaim := { program := "ythgphegpkjngaaa", sum := "9023a3290a7f129cb0146240f08bec23abda60c3b40495331fea436bb2a20aef", func := "loop.example/closingsticks/laws.FnPartMost", spec := "fnPartMost", unfollowed := true, recurses := true, apart := false }
def FnPartMostSaid : Prop := fnPartMostRow.holds Try.pinned (OpenSpec.ofChange fnPartMostSpec)

/-- ITS FALSE NEIGHBOUR: 'it returns false'. Refute it at one input. -/
def fnPartMostWrong : ChangeSpec := { name := "fnPartMost", fn := fun _ => fun
  | [d] => { results := [.lit (.bool false)], args := [d] }
  | _ => none }
def FnPartMostWrongFalsely : Prop := fnPartMostRow.holds Try.pinned (OpenSpec.ofChange fnPartMostWrong)

/- THE SECOND FORM. 'bulk': how many values and letters a reading holds, each counted each time it is reached (what is shared counts as often as it is met; a slice's spare places count too). A statement '..UptoSaid' is the law's where the arguments, and the package variables that the reading takes, are together of bulk at most 1048576: NARROWER than '..Said'. Prove '..Said' where nothing that the law and all that it calls make is longer than what came in: it says more and counts as full. Else prove '..UptoSaid'. A law counts once. -/
mutual
def uptoBulk {H : Type} : DataW H → Nat
  | .lit (.string bytes) => bytes.length + 1
  | .lit _ => 1
  | .nil => 1
  | .ptr d => uptoBulk d + 1
  | .slice elems spare => uptoBulkAll elems + uptoBulkAll spare + 1
  | .agg parts => uptoBulkAll parts + 1
  | .iface _ d => uptoBulk d + 1
  | .map entries => uptoBulkEntries entries + 1
  | .held _ => 1
def uptoBulkAll {H : Type} : List (DataW H) → Nat
  | [] => 0
  | d :: r => uptoBulk d + uptoBulkAll r
def uptoBulkEntries {H : Type} : List (Lit × DataW H) → Nat
  | [] => 0
  | x :: r => uptoBulkEntry x + uptoBulkEntries r
def uptoBulkEntry {H : Type} : Lit × DataW H → Nat
  | (.string bytes, d) => bytes.length + uptoBulk d + 1
  | (_, d) => uptoBulk d + 1
 end
def uptoSmall : (H : Type) → List (DataW H) → Bool := fun _ ds => decide (uptoBulkAll ds ≤ 1048576)
def OpenSpec.upto (s : _root_.Go.ChangeSpec) : _root_.Go.OpenSpec := { _root_.Go.OpenSpec.ofChange s with cond := some uptoSmall }

/-- 'laws.FnPartIs', WHERE WHAT IT READS IS OF BULK AT MOST 1048576: true; the input reads as it did. -/
def fnPartIsUptoRow : OpenClaim := { program := "ythgphegpkjngaaa", sum := "9023a3290a7f129cb0146240f08bec23abda60c3b40495331fea436bb2a20aef", func := "loop.example/closingsticks/laws.FnPartIs", spec := "fnPartIs", unfollowed := true, recurses := true, apart := false, narrowed := true }
def FnPartIsUptoSaid : Prop := fnPartIsUptoRow.holds Try.pinned (OpenSpec.upto fnPartIsSpec)

/-- 'laws.FnPartSort', WHERE WHAT IT READS IS OF BULK AT MOST 1048576: true; the input reads as it did. -/
def fnPartSortUptoRow : OpenClaim := { program := "ythgphegpkjngaaa", sum := "9023a3290a7f129cb0146240f08bec23abda60c3b40495331fea436bb2a20aef", func := "loop.example/closingsticks/laws.FnPartSort", spec := "fnPartSort", unfollowed := true, recurses := true, apart := false, narrowed := true }
def FnPartSortUptoSaid : Prop := fnPartSortUptoRow.holds Try.pinned (OpenSpec.upto fnPartSortSpec)

/-- 'laws.FnPartMost', WHERE WHAT IT READS IS OF BULK AT MOST 1048576: true; the input reads as it did. -/
def fnPartMostUptoRow : OpenClaim := { program := "ythgphegpkjngaaa", sum := "9023a3290a7f129cb0146240f08bec23abda60c3b40495331fea436bb2a20aef", func := "loop.example/closingsticks/laws.FnPartMost", spec := "fnPartMost", unfollowed := true, recurses := true, apart := false, narrowed := true }
def FnPartMostUptoSaid : Prop := fnPartMostUptoRow.holds Try.pinned (OpenSpec.upto fnPartMostSpec)

end Rows
end Go.Proofs.Ythgphegpkjngaaa
