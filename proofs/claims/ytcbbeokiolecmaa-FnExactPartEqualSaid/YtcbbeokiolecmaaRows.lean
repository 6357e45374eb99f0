/-
  No cell of these rows narrows 'for every input' (looked for: loops, veiled, ifaces, maps, wideKeys, modest, calm, conditions, laid).
  DERIVED. THE GIVEN ROWS OF THIS SEAT. 6 by the template 'for every input the law returns true; each argument reads behind the call as it read before'; 0 by the template 'total and deterministic' (their statements: YtcbbeokiolecmaaTotals.lean).
  GIVEN WITH THE SEED: the statements are not yours to turn. If you find one false, say at which input.
  Laid BY PROGRAM, IN A SANDBOX (cutbox-rows.mjs): the forced cells as the released guide's own fill.sh prints them over the translation 98137fe1d9a1e270… (all of the seat's roots in one cut). By AI agents, Wed Nov 11 2026. No macro, syntax, notation, axiom, sorry.
-/
import Derived.Test.YtcbbeokiolecmaaChecked
import GoSem.Claim
import GoSem.ClaimJoined
import GoSem.ClaimMapViews
import Derived.JoinedTies
import Derived.KernelRfl
namespace Go.Proofs.Ytcbbeokiolecmaa
/- THE CELL 'sum', in the pinned program and in every row, IS THE sha256 OF THE DUMP (.gsa) THAT YtcbbeokiolecmaaProg.lean LOADS. Nothing in Lean hashes anything: it is a label: what it is worth is what the hold of that sum in a sandbox is worth. -/
noncomputable def Try.pinned : Pinned := { name := "ytcbbeokiolecmaa", sum := "98137fe1d9a1e2700822304b228c9dc5dcddc1aadf17e26a30605bfc732c9f96", checked := Try.checked }
namespace Rows
def none {H : Type} : Left H := { results := [], args := [] }

/-- 'laws.FnExactPartIs': WHATEVER THE INPUT: true; the input reads as it did. -/
def fnExactPartIsSpec : ChangeSpec := { name := "fnExactPartIs", fn := fun _ => fun
  | [d1, d2] => { results := [.lit (.bool true)], args := [d1, d2] }
  | _ => none }
def fnExactPartIsRow : OpenClaim := { program := "ytcbbeokiolecmaa", sum := "98137fe1d9a1e2700822304b228c9dc5dcddc1aadf17e26a30605bfc732c9f96", func := "loop.example/closingsticks/laws.FnExactPartIs", spec := "fnExactPartIs", unfollowed := true, recurses := true, apart := false }
def FnExactPartIsSaid : Prop := fnExactPartIsRow.holds Try.pinned (OpenSpec.ofChange fnExactPartIsSpec)

/-- ITS FALSE NEIGHBOUR: 'it returns false'. Refute it at one input. -/
def fnExactPartIsWrong : ChangeSpec := { name := "fnExactPartIs", fn := fun _ => fun
  | [d1, d2] => { results := [.lit (.bool false)], args := [d1, d2] }
  | _ => none }
def FnExactPartIsWrongFalsely : Prop := fnExactPartIsRow.holds Try.pinned (OpenSpec.ofChange fnExactPartIsWrong)

/-- 'laws.FnExactPartMay': WHATEVER THE INPUT: true; the input reads as it did. -/
def fnExactPartMaySpec : ChangeSpec := { name := "fnExactPartMay", fn := fun _ => fun
  | [d] => { results := [.lit (.bool true)], args := [d] }
  | _ => none }
def fnExactPartMayRow : OpenClaim := { program := "ytcbbeokiolecmaa", sum := "98137fe1d9a1e2700822304b228c9dc5dcddc1aadf17e26a30605bfc732c9f96", func := "loop.example/closingsticks/laws.FnExactPartMay", spec := "fnExactPartMay", unfollowed := true, recurses := true, apart := false }
def FnExactPartMaySaid : Prop := fnExactPartMayRow.holds Try.pinned (OpenSpec.ofChange fnExactPartMaySpec)

/-- ITS FALSE NEIGHBOUR: 'it returns false'. Refute it at one input. -/
def fnExactPartMayWrong : ChangeSpec := { name := "fnExactPartMay", fn := fun _ => fun
  | [d] => { results := [.lit (.bool false)], args := [d] }
  | _ => none }
def FnExactPartMayWrongFalsely : Prop := fnExactPartMayRow.holds Try.pinned (OpenSpec.ofChange fnExactPartMayWrong)

/-- 'laws.FnExactPartMost': WHATEVER THE INPUT: true; the input reads as it did. -/
def fnExactPartMostSpec : ChangeSpec := { name := "fnExactPartMost", fn := fun _ => fun
  | [d] => { results := [.lit (.bool true)], args := [d] }
  | _ => none }
def fnExactPartMostRow : OpenClaim := { program := "ytcbbeokiolecmaa", sum := "98137fe1d9a1e2700822304b228c9dc5dcddc1aadf17e26a30605bfc732c9f96", func := "loop.example/closingsticks/laws.FnExactPartMost", spec := "fnExactPartMost", unfollowed := true, recurses := true, apart := false }
def FnExactPartMostSaid : Prop := fnExactPartMostRow.holds Try.pinned (OpenSpec.ofChange fnExactPartMostSpec)

/-- ITS FALSE NEIGHBOUR: 'it returns false'. Refute it at one input. -/
def fnExactPartMostWrong : ChangeSpec := { name := "fnExactPartMost", fn := fun _ => fun
  | [d] => { results := [.lit (.bool false)], args := [d] }
  | _ => none }
def FnExactPartMostWrongFalsely : Prop := fnExactPartMostRow.holds Try.pinned (OpenSpec.ofChange fnExactPartMostWrong)

/-- 'laws.FnPartTwo': WHATEVER THE INPUT: true; the input reads as it did. -/
def fnPartTwoSpec : ChangeSpec := { name := "fnPartTwo", fn := fun _ => fun
  | [d] => { results := [.lit (.bool true)], args := [d] }
  | _ => none }
def fnPartTwoRow : OpenClaim := { program := "ytcbbeokiolecmaa", sum := "98137fe1d9a1e2700822304b228c9dc5dcddc1aadf17e26a30605bfc732c9f96", func := "loop.example/closingsticks/laws.FnPartTwo", spec := "fnPartTwo", unfollowed := true, recurses := true, apart := false }
def FnPartTwoSaid : Prop := fnPartTwoRow.holds Try.pinned (OpenSpec.ofChange fnPartTwoSpec)

/-- ITS FALSE NEIGHBOUR: 'it returns false'. Refute it at one input. -/
def fnPartTwoWrong : ChangeSpec := { name := "fnPartTwo", fn := fun _ => fun
  | [d] => { results := [.lit (.bool false)], args := [d] }
  | _ => none }
def FnPartTwoWrongFalsely : Prop := fnPartTwoRow.holds Try.pinned (OpenSpec.ofChange fnPartTwoWrong)

/-- 'laws.FnExactPartRound': WHATEVER THE INPUT: true; the input reads as it did. -/
def fnExactPartRoundSpec : ChangeSpec := { name := "fnExactPartRound", fn := fun _ => fun
  | [d] => { results := [.lit (.bool true)], args := [d] }
  | _ => none }
def fnExactPartRoundRow : OpenClaim := { program := "ytcbbeokiolecmaa", sum := "98137fe1d9a1e2700822304b228c9dc5dcddc1aadf17e26a30605bfc732c9f96", func := "loop.example/closingsticks/laws.FnExactPartRound", spec := "fnExactPartRound", unfollowed := true, recurses := true, apart := false }
def FnExactPartRoundSaid : Prop := fnExactPartRoundRow.holds Try.pinned (OpenSpec.ofChange fnExactPartRoundSpec)

/-- ITS FALSE NEIGHBOUR: 'it returns false'. Refute it at one input. -/
def fnExactPartRoundWrong : ChangeSpec := { name := "fnExactPartRound", fn := fun _ => fun
  | [d] => { results := [.lit (.bool false)], args := [d] }
  | _ => none }
def FnExactPartRoundWrongFalsely : Prop := fnExactPartRoundRow.holds Try.pinned (OpenSpec.ofChange fnExactPartRoundWrong)

/-- 'laws.FnExactPartEqual': WHATEVER THE INPUT: true; the input reads as it did. -/
def fnExactPartEqualSpec : ChangeSpec := { name := "fnExactPartEqual", fn := fun _ => fun
  | [d] => { results := [.lit (.bool true)], args := [d] }
  | _ => none }
def fnExactPartEqualRow : OpenClaim := { program := "ytcbbeokiolecmaa", sum := "98137fe1d9a1e2700822304b228c9dc5dcddc1aadf17e26a30605bfc732c9f96", func := "loop.example/closingsticks/laws.FnExactPartEqual", spec := "fnExactPartEqual", unfollowed := true, recurses := true, apart := false }
def FnExactPartEqualSaid : Prop := fnExactPartEqualRow.holds Try.pinned (OpenSpec.ofChange fnExactPartEqualSpec)

/-- ITS FALSE NEIGHBOUR: 'it returns false'. Refute it at one input. -/
def fnExactPartEqualWrong : ChangeSpec := { name := "fnExactPartEqual", fn := fun _ => fun
  | [d] => { results := [.lit (.bool false)], args := [d] }
  | _ => none }
def FnExactPartEqualWrongFalsely : Prop := fnExactPartEqualRow.holds Try.pinned (OpenSpec.ofChange fnExactPartEqualWrong)

/- THE SECOND FORM. 'bulk': how many values and letters a reading holds, each counted each time it is reached (what is shared counts as often as it is met; a slice's spare places count too). A statement '..UptoSaid' is the law's where the arguments, and the package variables that the reading takes, are together of bulk at most 1048576: NARROWER than '..Said'. Prove '..Said' where nothing that the law and all that it calls make is longer than what came in: it says more and counts as full. Else prove '..UptoSaid'. A law counts once. -/
mutual
def uptoBulk {H : Type} : DataW H → Nat
  | .lit (.string bytes) => bytes.length + 1
  | .lit _ => 1
  | .nil => 1
  | .ptr d => uptoBulk d + 1
  | .slice elems spare => uptoBulkAll elems + uptoBulkAll spare + 1
  | .agg parts => uptoBulkAll parts + 1
  | .iface _ d => uptoBulk d + 1
  | .map entries => uptoBulkEntries entries + 1
  | .held _ => 1
def uptoBulkAll {H : Type} : List (DataW H) → Nat
  | [] => 0
  | d :: r => uptoBulk d + uptoBulkAll r
def uptoBulkEntries {H : Type} : List (Lit × DataW H) → Nat
  | [] => 0
  | x :: r => uptoBulkEntry x + uptoBulkEntries r
def uptoBulkEntry {H : Type} : Lit × DataW H → Nat
  | (.string bytes, d) => bytes.length + uptoBulk d + 1
  | (_, d) => uptoBulk d + 1
 end
def uptoSmall : (H : Type) → List (DataW H) → Bool := fun _ ds => decide (uptoBulkAll ds ≤ 1048576)
def OpenSpec.upto (s : _root_.Go.ChangeSpec) : _root_.Go.OpenSpec := { _root_.Go.OpenSpec.ofChange s with cond := some uptoSmall }

/-- 'laws.FnExactPartIs', WHERE WHAT IT READS IS OF BULK AT MOST 1048576: true; the input reads as it did. -/
def fnExactPartIsUptoRow : OpenClaim := { program := "ytcbbeokiolecmaa", sum := "98137fe1d9a1e2700822304b228c9dc5dcddc1aadf17e26a30605bfc732c9f96", func := "loop.example/closingsticks/laws.FnExactPartIs", spec := "fnExactPartIs", unfollowed := true, recurses := true, apart := false, narrowed := true }
def FnExactPartIsUptoSaid : Prop := fnExactPartIsUptoRow.holds Try.pinned (OpenSpec.upto fnExactPartIsSpec)

/-- 'laws.FnExactPartMay', WHERE WHAT IT READS IS OF BULK AT MOST 1048576: true; the input reads as it did. -/
def fnExactPartMayUptoRow : OpenClaim := { program := "ytcbbeokiolecmaa", sum := "98137fe1d9a1e2700822304b228c9dc5dcddc1aadf17e26a30605bfc732c9f96", func := "loop.example/closingsticks/laws.FnExactPartMay", spec := "fnExactPartMay", unfollowed := true, recurses := true, apart := false, narrowed := true }
def FnExactPartMayUptoSaid : Prop := fnExactPartMayUptoRow.holds Try.pinned (OpenSpec.upto fnExactPartMaySpec)

/-- 'laws.FnExactPartMost', WHERE WHAT IT READS IS OF BULK AT MOST 1048576: true; the input reads as it did. -/
def fnExactPartMostUptoRow : OpenClaim := { program := "ytcbbeokiolecmaa", sum := "98137fe1d9a1e2700822304b228c9dc5dcddc1aadf17e26a30605bfc732c9f96", func := "loop.example/closingsticks/laws.FnExactPartMost", spec := "fnExactPartMost", unfollowed := true, recurses := true, apart := false, narrowed := true }
def FnExactPartMostUptoSaid : Prop := fnExactPartMostUptoRow.holds Try.pinned (OpenSpec.upto fnExactPartMostSpec)

/-- 'laws.FnPartTwo', WHERE WHAT IT READS IS OF BULK AT MOST 1048576: true; the input reads as it did. -/
def fnPartTwoUptoRow : OpenClaim := { program := "ytcbbeokiolecmaa", sum := "98137fe1d9a1e2700822304b228c9dc5dcddc1aadf17e26a30605bfc732c9f96", func := "loop.example/closingsticks/laws.FnPartTwo", spec := "fnPartTwo", unfollowed := true, recurses := true, apart := false, narrowed := true }
def FnPartTwoUptoSaid : Prop := fnPartTwoUptoRow.holds Try.pinned (OpenSpec.upto fnPartTwoSpec)

/-- 'laws.FnExactPartRound', WHERE WHAT IT READS IS OF BULK AT MOST 1048576: true; the input reads as it did. -/
def fnExactPartRoundUptoRow : OpenClaim := { program := "ytcbbeokiolecmaa", sum := "98137fe1d9a1e2700822304b228c9dc5dcddc1aadf17e26a30605bfc732c9f96", func := "loop.example/closingsticks/laws.FnExactPartRound", spec := "fnExactPartRound", unfollowed := true, recurses := true, apart := false, narrowed := true }
def FnExactPartRoundUptoSaid : Prop := fnExactPartRoundUptoRow.holds Try.pinned (OpenSpec.upto fnExactPartRoundSpec)

/-- 'laws.FnExactPartEqual', WHERE WHAT IT READS IS OF BULK AT MOST 1048576: true; the input reads as it did. -/
def fnExactPartEqualUptoRow : OpenClaim := { program := "ytcbbeokiolecmaa", sum := "98137fe1d9a1e2700822304b228c9dc5dcddc1aadf17e26a30605bfc732c9f96", func := "loop.example/closingsticks/laws.FnExactPartEqual", spec := "fnExactPartEqual", unfollowed := true, recurses := true, apart := false, narrowed := true }
def FnExactPartEqualUptoSaid : Prop := fnExactPartEqualUptoRow.holds Try.pinned (OpenSpec.upto fnExactPartEqualSpec)

end Rows
end Go.Proofs.Ytcbbeokiolecmaa
