/-
  No cell of these rows narrows 'for every input' (looked for: loops, veiled, ifaces, maps, wideKeys, modest, calm, conditions, laid).
  DERIVED. THE GIVEN ROWS OF THIS SEAT. 6 by the template 'for every input the law returns true; each argument reads behind the call as it read before'; 0 by the template 'total and deterministic' (their statements: YtdjbnbkblhfjiaaTotals.lean).
  GIVEN WITH THE SEED: the statements are not yours to turn. If you find one false, say at which input.
  Laid BY PROGRAM, IN A SANDBOX (cutbox-rows.mjs): the forced cells as the released guide's own fill.sh prints them over the translation be3191334f9bb816… (all of the seat's roots in one cut). By AI agents, Wed Nov 11 2026. No macro, syntax, notation, axiom, sorry.
-/
import Derived.Test.YtdjbnbkblhfjiaaChecked
import GoSem.Claim
import GoSem.ClaimJoined
import GoSem.ClaimMapViews
import Derived.JoinedTies
import Derived.KernelRfl
namespace Go.Proofs.Ytdjbnbkblhfjiaa
/- THE CELL 'sum', in the pinned program and in every row, IS THE sha256 OF THE DUMP (.gsa) THAT YtdjbnbkblhfjiaaProg.lean LOADS. Nothing in Lean hashes anything: it is a label: what it is worth is what the hold of that sum in a sandbox is worth. -/
noncomputable def Try.pinned : Pinned := { name := "ytdjbnbkblhfjiaa", sum := "be3191334f9bb816dfc217054795a10d24718f5416ade3bfe0da469bfca8da6a", checked := Try.checked }
namespace Rows
def none {H : Type} : Left H := { results := [], args := [] }

/-- 'laws.FnExactTermCloses': WHATEVER THE INPUT: true; the input reads as it did. -/
def fnExactTermClosesSpec : ChangeSpec := { name := "fnExactTermCloses", fn := fun _ => fun
  | [d] => { results := [.lit (.bool true)], args := [d] }
  | _ => none }
def fnExactTermClosesRow : OpenClaim := { program := "ytdjbnbkblhfjiaa", sum := "be3191334f9bb816dfc217054795a10d24718f5416ade3bfe0da469bfca8da6a", func := "loop.example/closingsticks/laws.FnExactTermCloses", spec := "fnExactTermCloses", inPlace := ["internal/bytealg.IndexByteString"], recurses := true, apart := false }
def FnExactTermClosesSaid : Prop := fnExactTermClosesRow.holds Try.pinned (OpenSpec.ofChange fnExactTermClosesSpec)

/-- ITS FALSE NEIGHBOUR: 'it returns false'. Refute it at one input. -/
def fnExactTermClosesWrong : ChangeSpec := { name := "fnExactTermCloses", fn := fun _ => fun
  | [d] => { results := [.lit (.bool false)], args := [d] }
  | _ => none }
def FnExactTermClosesWrongFalsely : Prop := fnExactTermClosesRow.holds Try.pinned (OpenSpec.ofChange fnExactTermClosesWrong)

/-- 'laws.FnTermCloses': WHATEVER THE INPUT: true; the input reads as it did. -/
def fnTermClosesSpec : ChangeSpec := { name := "fnTermCloses", fn := fun _ => fun
  | [d] => { results := [.lit (.bool true)], args := [d] }
  | _ => none }
def fnTermClosesRow : OpenClaim := { program := "ytdjbnbkblhfjiaa", sum := "be3191334f9bb816dfc217054795a10d24718f5416ade3bfe0da469bfca8da6a", func := "loop.example/closingsticks/laws.FnTermCloses", spec := "fnTermCloses", inPlace := ["internal/bytealg.IndexByteString"], recurses := true, apart := false }
def FnTermClosesSaid : Prop := fnTermClosesRow.holds Try.pinned (OpenSpec.ofChange fnTermClosesSpec)

/-- ITS FALSE NEIGHBOUR: 'it returns false'. Refute it at one input. -/
def fnTermClosesWrong : ChangeSpec := { name := "fnTermCloses", fn := fun _ => fun
  | [d] => { results := [.lit (.bool false)], args := [d] }
  | _ => none }
def FnTermClosesWrongFalsely : Prop := fnTermClosesRow.holds Try.pinned (OpenSpec.ofChange fnTermClosesWrong)

/-- 'laws.FnExactTermWalk': WHATEVER THE INPUT: true; the input reads as it did. -/
def fnExactTermWalkSpec : ChangeSpec := { name := "fnExactTermWalk", fn := fun _ => fun
  | [d] => { results := [.lit (.bool true)], args := [d] }
  | _ => none }
def fnExactTermWalkRow : OpenClaim := { program := "ytdjbnbkblhfjiaa", sum := "be3191334f9bb816dfc217054795a10d24718f5416ade3bfe0da469bfca8da6a", func := "loop.example/closingsticks/laws.FnExactTermWalk", spec := "fnExactTermWalk", inPlace := ["internal/bytealg.IndexByteString", "internal/abi.NoEscape", "internal/bytealg.MakeNoZero"], recurses := true, apart := false }
def FnExactTermWalkSaid : Prop := fnExactTermWalkRow.holds Try.pinned (OpenSpec.ofChange fnExactTermWalkSpec)

/-- ITS FALSE NEIGHBOUR: 'it returns false'. Refute it at one input. -/
def fnExactTermWalkWrong : ChangeSpec := { name := "fnExactTermWalk", fn := fun _ => fun
  | [d] => { results := [.lit (.bool false)], args := [d] }
  | _ => none }
def FnExactTermWalkWrongFalsely : Prop := fnExactTermWalkRow.holds Try.pinned (OpenSpec.ofChange fnExactTermWalkWrong)

/-- 'laws.FnExactTermSame': WHATEVER THE INPUT: true; the input reads as it did. -/
def fnExactTermSameSpec : ChangeSpec := { name := "fnExactTermSame", fn := fun _ => fun
  | [d1, d2] => { results := [.lit (.bool true)], args := [d1, d2] }
  | _ => none }
def fnExactTermSameRow : OpenClaim := { program := "ytdjbnbkblhfjiaa", sum := "be3191334f9bb816dfc217054795a10d24718f5416ade3bfe0da469bfca8da6a", func := "loop.example/closingsticks/laws.FnExactTermSame", spec := "fnExactTermSame", inPlace := ["internal/bytealg.IndexByteString", "internal/abi.NoEscape", "internal/bytealg.MakeNoZero"], recurses := true, apart := false }
def FnExactTermSameSaid : Prop := fnExactTermSameRow.holds Try.pinned (OpenSpec.ofChange fnExactTermSameSpec)

/-- ITS FALSE NEIGHBOUR: 'it returns false'. Refute it at one input. -/
def fnExactTermSameWrong : ChangeSpec := { name := "fnExactTermSame", fn := fun _ => fun
  | [d1, d2] => { results := [.lit (.bool false)], args := [d1, d2] }
  | _ => none }
def FnExactTermSameWrongFalsely : Prop := fnExactTermSameRow.holds Try.pinned (OpenSpec.ofChange fnExactTermSameWrong)

/-- 'laws.FnLength': WHATEVER THE INPUT: true; the input reads as it did. -/
def fnLengthSpec : ChangeSpec := { name := "fnLength", fn := fun _ => fun
  | [d] => { results := [.lit (.bool true)], args := [d] }
  | _ => none }
def fnLengthRow : OpenClaim := { program := "ytdjbnbkblhfjiaa", sum := "be3191334f9bb816dfc217054795a10d24718f5416ade3bfe0da469bfca8da6a", func := "loop.example/closingsticks/laws.FnLength", spec := "fnLength", inPlace := ["internal/bytealg.IndexByteString", "internal/abi.NoEscape", "internal/bytealg.MakeNoZero"], recurses := true, apart := false }
def FnLengthSaid : Prop := fnLengthRow.holds Try.pinned (OpenSpec.ofChange fnLengthSpec)

/-- ITS FALSE NEIGHBOUR: 'it returns false'. Refute it at one input. -/
def fnLengthWrong : ChangeSpec := { name := "fnLength", fn := fun _ => fun
  | [d] => { results := [.lit (.bool false)], args := [d] }
  | _ => none }
def FnLengthWrongFalsely : Prop := fnLengthRow.holds Try.pinned (OpenSpec.ofChange fnLengthWrong)

/-- 'laws.FnExactTermTurns': WHATEVER THE INPUT: true; the input reads as it did. -/
def fnExactTermTurnsSpec : ChangeSpec := { name := "fnExactTermTurns", fn := fun _ => fun
  | [d] => { results := [.lit (.bool true)], args := [d] }
  | _ => none }
def fnExactTermTurnsRow : OpenClaim := { program := "ytdjbnbkblhfjiaa", sum := "be3191334f9bb816dfc217054795a10d24718f5416ade3bfe0da469bfca8da6a", func := "loop.example/closingsticks/laws.FnExactTermTurns", spec := "fnExactTermTurns", inPlace := ["internal/bytealg.IndexByteString", "internal/abi.NoEscape", "internal/bytealg.MakeNoZero"], recurses := true, apart := false }
def FnExactTermTurnsSaid : Prop := fnExactTermTurnsRow.holds Try.pinned (OpenSpec.ofChange fnExactTermTurnsSpec)

/-- ITS FALSE NEIGHBOUR: 'it returns false'. Refute it at one input. -/
def fnExactTermTurnsWrong : ChangeSpec := { name := "fnExactTermTurns", fn := fun _ => fun
  | [d] => { results := [.lit (.bool false)], args := [d] }
  | _ => none }
def FnExactTermTurnsWrongFalsely : Prop := fnExactTermTurnsRow.holds Try.pinned (OpenSpec.ofChange fnExactTermTurnsWrong)

/- THE SECOND FORM. 'bulk': how many values and letters a reading holds, each counted each time it is reached (what is shared counts as often as it is met; a slice's spare places count too). A statement '..UptoSaid' is the law's where the arguments, and the package variables that the reading takes, are together of bulk at most 1048576: NARROWER than '..Said'. Prove '..Said' where nothing that the law and all that it calls make is longer than what came in: it says more and counts as full. Else prove '..UptoSaid'. A law counts once. -/
mutual
def uptoBulk {H : Type} : DataW H → Nat
  | .lit (.string bytes) => bytes.length + 1
  | .lit _ => 1
  | .nil => 1
  | .ptr d => uptoBulk d + 1
  | .slice elems spare => uptoBulkAll elems + uptoBulkAll spare + 1
  | .agg parts => uptoBulkAll parts + 1
  | .iface _ d => uptoBulk d + 1
  | .map entries => uptoBulkEntries entries + 1
  | .held _ => 1
def uptoBulkAll {H : Type} : List (DataW H) → Nat
  | [] => 0
  | d :: r => uptoBulk d + uptoBulkAll r
def uptoBulkEntries {H : Type} : List (Lit × DataW H) → Nat
  | [] => 0
  | x :: r => uptoBulkEntry x + uptoBulkEntries r
def uptoBulkEntry {H : Type} : Lit × DataW H → Nat
  | (.string bytes, d) => bytes.length + uptoBulk d + 1
  | (_, d) => uptoBulk d + 1
 end
def uptoSmall : (H : Type) → List (DataW H) → Bool := fun _ ds => decide (uptoBulkAll ds ≤ 1048576)
def OpenSpec.upto (s : _root_.Go.ChangeSpec) : _root_.Go.OpenSpec := { _root_.Go.OpenSpec.ofChange s with cond := some uptoSmall }

/-- 'laws.FnExactTermCloses', WHERE WHAT IT READS IS OF BULK AT MOST 1048576: true; the input reads as it did. -/
def fnExactTermClosesUptoRow : OpenClaim := { program := "ytdjbnbkblhfjiaa", sum := "be3191334f9bb816dfc217054795a10d24718f5416ade3bfe0da469bfca8da6a", func := "loop.example/closingsticks/laws.FnExactTermCloses", spec := "fnExactTermCloses", inPlace := ["internal/bytealg.IndexByteString"], recurses := true, apart := false, narrowed := true }
def FnExactTermClosesUptoSaid : Prop := fnExactTermClosesUptoRow.holds Try.pinned (OpenSpec.upto fnExactTermClosesSpec)

/-- 'laws.FnTermCloses', WHERE WHAT IT READS IS OF BULK AT MOST 1048576: true; the input reads as it did. -/
def fnTermClosesUptoRow : OpenClaim := { program := "ytdjbnbkblhfjiaa", sum := "be3191334f9bb816dfc217054795a10d24718f5416ade3bfe0da469bfca8da6a", func := "loop.example/closingsticks/laws.FnTermCloses", spec := "fnTermCloses", inPlace := ["internal/bytealg.IndexByteString"], recurses := true, apart := false, narrowed := true }
def FnTermClosesUptoSaid : Prop := fnTermClosesUptoRow.holds Try.pinned (OpenSpec.upto fnTermClosesSpec)

/-- 'laws.FnExactTermWalk', WHERE WHAT IT READS IS OF BULK AT MOST 1048576: true; the input reads as it did. -/
def fnExactTermWalkUptoRow : OpenClaim := { program := "ytdjbnbkblhfjiaa", sum := "be3191334f9bb816dfc217054795a10d24718f5416ade3bfe0da469bfca8da6a", func := "loop.example/closingsticks/laws.FnExactTermWalk", spec := "fnExactTermWalk", inPlace := ["internal/bytealg.IndexByteString", "internal/abi.NoEscape", "internal/bytealg.MakeNoZero"], recurses := true, apart := false, narrowed := true }
def FnExactTermWalkUptoSaid : Prop := fnExactTermWalkUptoRow.holds Try.pinned (OpenSpec.upto fnExactTermWalkSpec)

/-- 'laws.FnExactTermSame', WHERE WHAT IT READS IS OF BULK AT MOST 1048576: true; the input reads as it did. -/
def fnExactTermSameUptoRow : OpenClaim := { program := "ytdjbnbkblhfjiaa", sum := "be3191334f9bb816dfc217054795a10d24718f5416ade3bfe0da469bfca8da6a", func := "loop.example/closingsticks/laws.FnExactTermSame", spec := "fnExactTermSame", inPlace := ["internal/bytealg.IndexByteString", "internal/abi.NoEscape", "internal/bytealg.MakeNoZero"], recurses := true, apart := false, narrowed := true }
def FnExactTermSameUptoSaid : Prop := fnExactTermSameUptoRow.holds Try.pinned (OpenSpec.upto fnExactTermSameSpec)

/-- 'laws.FnLength', WHERE WHAT IT READS IS OF BULK AT MOST 1048576: true; the input reads as it did. -/
def fnLengthUptoRow : OpenClaim := { program := "ytdjbnbkblhfjiaa", sum := "be3191334f9bb816dfc217054795a10d24718f5416ade3bfe0da469bfca8da6a", func := "loop.example/closingsticks/laws.FnLength", spec := "fnLength", inPlace := ["internal/bytealg.IndexByteString", "internal/abi.NoEscape", "internal/bytealg.MakeNoZero"], recurses := true, apart := false, narrowed := true }
def FnLengthUptoSaid : Prop := fnLengthUptoRow.holds Try.pinned (OpenSpec.upto fnLengthSpec)

/-- 'laws.FnExactTermTurns', WHERE WHAT IT READS IS OF BULK AT MOST 1048576: true; the input reads as it did. -/
def fnExactTermTurnsUptoRow : OpenClaim := { program := "ytdjbnbkblhfjiaa", sum := "be3191334f9bb816dfc217054795a10d24718f5416ade3bfe0da469bfca8da6a", func := "loop.example/closingsticks/laws.FnExactTermTurns", spec := "fnExactTermTurns", inPlace := ["internal/bytealg.IndexByteString", "internal/abi.NoEscape", "internal/bytealg.MakeNoZero"], recurses := true, apart := false, narrowed := true }
def FnExactTermTurnsUptoSaid : Prop := fnExactTermTurnsUptoRow.holds Try.pinned (OpenSpec.upto fnExactTermTurnsSpec)

end Rows
end Go.Proofs.Ytdjbnbkblhfjiaa
