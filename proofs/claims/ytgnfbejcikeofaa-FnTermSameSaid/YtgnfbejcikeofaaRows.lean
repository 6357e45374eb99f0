/-
  No cell of these rows narrows 'for every input' (looked for: loops, veiled, ifaces, maps, wideKeys, modest, calm, conditions, laid).
  DERIVED. THE GIVEN ROWS OF THIS SEAT. 6 by the template 'for every input the law returns true; each argument reads behind the call as it read before'; 0 by the template 'total and deterministic' (their statements: YtgnfbejcikeofaaTotals.lean).
  GIVEN WITH THE SEED: the statements are not yours to turn. If you find one false, say at which input.
  Laid BY PROGRAM, IN A SANDBOX (cutbox-rows.mjs): the forced cells as the released guide's own fill.sh prints them over the translation ad355b24d918d985… (all of the seat's roots in one cut). By AI agents, Wed Nov 11 2026. No macro, syntax, notation, axiom, sorry.
-/
import Derived.Test.YtgnfbejcikeofaaChecked
import GoSem.Claim
import GoSem.ClaimJoined
import GoSem.ClaimMapViews
import Derived.JoinedTies
import Derived.KernelRfl
namespace Go.Proofs.Ytgnfbejcikeofaa
/- THE CELL 'sum', in the pinned program and in every row, IS THE sha256 OF THE DUMP (.gsa) THAT YtgnfbejcikeofaaProg.lean LOADS. Nothing in Lean hashes anything: it is a label: what it is worth is what the hold of that sum in a sandbox is worth. -/
noncomputable def Try.pinned : Pinned := { name := "ytgnfbejcikeofaa", sum := "ad355b24d918d98574bc67617e02fd063b6a383ec1fad29dd5a65cae6adfedb6", checked := Try.checked }
namespace Rows
def none {H : Type} : Left H := { results := [], args := [] }

/-- 'laws.FnWalk': WHATEVER THE INPUT: true; the input reads as it did. -/
def fnWalkSpec : ChangeSpec := { name := "fnWalk", fn := fun _ => fun
  | [d] => { results := [.lit (.bool true)], args := [d] }
  | _ => none }
def fnWalkRow : OpenClaim := { program := "ytgnfbejcikeofaa", sum := "ad355b24d918d98574bc67617e02fd063b6a383ec1fad29dd5a65cae6adfedb6", func := "loop.example/closingsticks/laws.FnWalk", spec := "fnWalk", inPlace := ["internal/bytealg.IndexByteString", "internal/abi.NoEscape", "internal/bytealg.MakeNoZero"], recurses := true, apart := false }
def FnWalkSaid : Prop := fnWalkRow.holds Try.pinned (OpenSpec.ofChange fnWalkSpec)

/-- ITS FALSE NEIGHBOUR: 'it returns false'. Refute it at one input. -/
def fnWalkWrong : ChangeSpec := { name := "fnWalk", fn := fun _ => fun
  | [d] => { results := [.lit (.bool false)], args := [d] }
  | _ => none }
def FnWalkWrongFalsely : Prop := fnWalkRow.holds Try.pinned (OpenSpec.ofChange fnWalkWrong)

/-- 'laws.FnTermArea': WHATEVER THE INPUT: true; the input reads as it did. -/
def fnTermAreaSpec : ChangeSpec := { name := "fnTermArea", fn := fun _ => fun
  | [d] => { results := [.lit (.bool true)], args := [d] }
  | _ => none }
def fnTermAreaRow : OpenClaim := { program := "ytgnfbejcikeofaa", sum := "ad355b24d918d98574bc67617e02fd063b6a383ec1fad29dd5a65cae6adfedb6", func := "loop.example/closingsticks/laws.FnTermArea", spec := "fnTermArea", inPlace := ["internal/bytealg.IndexByteString", "internal/abi.NoEscape", "internal/bytealg.MakeNoZero"], recurses := true, apart := false }
def FnTermAreaSaid : Prop := fnTermAreaRow.holds Try.pinned (OpenSpec.ofChange fnTermAreaSpec)

/-- ITS FALSE NEIGHBOUR: 'it returns false'. Refute it at one input. -/
def fnTermAreaWrong : ChangeSpec := { name := "fnTermArea", fn := fun _ => fun
  | [d] => { results := [.lit (.bool false)], args := [d] }
  | _ => none }
def FnTermAreaWrongFalsely : Prop := fnTermAreaRow.holds Try.pinned (OpenSpec.ofChange fnTermAreaWrong)

/-- 'laws.FnTermEnd': WHATEVER THE INPUT: true; the input reads as it did. -/
def fnTermEndSpec : ChangeSpec := { name := "fnTermEnd", fn := fun _ => fun
  | [d] => { results := [.lit (.bool true)], args := [d] }
  | _ => none }
def fnTermEndRow : OpenClaim := { program := "ytgnfbejcikeofaa", sum := "ad355b24d918d98574bc67617e02fd063b6a383ec1fad29dd5a65cae6adfedb6", func := "loop.example/closingsticks/laws.FnTermEnd", spec := "fnTermEnd", inPlace := ["internal/bytealg.IndexByteString", "internal/abi.NoEscape", "internal/bytealg.MakeNoZero"], recurses := true, apart := false }
def FnTermEndSaid : Prop := fnTermEndRow.holds Try.pinned (OpenSpec.ofChange fnTermEndSpec)

/-- ITS FALSE NEIGHBOUR: 'it returns false'. Refute it at one input. -/
def fnTermEndWrong : ChangeSpec := { name := "fnTermEnd", fn := fun _ => fun
  | [d] => { results := [.lit (.bool false)], args := [d] }
  | _ => none }
def FnTermEndWrongFalsely : Prop := fnTermEndRow.holds Try.pinned (OpenSpec.ofChange fnTermEndWrong)

/-- 'laws.FnTermTidy': WHATEVER THE INPUT: true; the input reads as it did. -/
def fnTermTidySpec : ChangeSpec := { name := "fnTermTidy", fn := fun _ => fun
  | [d] => { results := [.lit (.bool true)], args := [d] }
  | _ => none }
def fnTermTidyRow : OpenClaim := { program := "ytgnfbejcikeofaa", sum := "ad355b24d918d98574bc67617e02fd063b6a383ec1fad29dd5a65cae6adfedb6", func := "loop.example/closingsticks/laws.FnTermTidy", spec := "fnTermTidy", inPlace := ["internal/bytealg.IndexByteString", "internal/abi.NoEscape", "internal/bytealg.MakeNoZero"], recurses := true, apart := false }
def FnTermTidySaid : Prop := fnTermTidyRow.holds Try.pinned (OpenSpec.ofChange fnTermTidySpec)

/-- ITS FALSE NEIGHBOUR: 'it returns false'. Refute it at one input. -/
def fnTermTidyWrong : ChangeSpec := { name := "fnTermTidy", fn := fun _ => fun
  | [d] => { results := [.lit (.bool false)], args := [d] }
  | _ => none }
def FnTermTidyWrongFalsely : Prop := fnTermTidyRow.holds Try.pinned (OpenSpec.ofChange fnTermTidyWrong)

/-- 'laws.FnTermTurns': WHATEVER THE INPUT: true; the input reads as it did. -/
def fnTermTurnsSpec : ChangeSpec := { name := "fnTermTurns", fn := fun _ => fun
  | [d] => { results := [.lit (.bool true)], args := [d] }
  | _ => none }
def fnTermTurnsRow : OpenClaim := { program := "ytgnfbejcikeofaa", sum := "ad355b24d918d98574bc67617e02fd063b6a383ec1fad29dd5a65cae6adfedb6", func := "loop.example/closingsticks/laws.FnTermTurns", spec := "fnTermTurns", inPlace := ["internal/bytealg.IndexByteString", "internal/abi.NoEscape", "internal/bytealg.MakeNoZero"], recurses := true, apart := false }
def FnTermTurnsSaid : Prop := fnTermTurnsRow.holds Try.pinned (OpenSpec.ofChange fnTermTurnsSpec)

/-- ITS FALSE NEIGHBOUR: 'it returns false'. Refute it at one input. -/
def fnTermTurnsWrong : ChangeSpec := { name := "fnTermTurns", fn := fun _ => fun
  | [d] => { results := [.lit (.bool false)], args := [d] }
  | _ => none }
def FnTermTurnsWrongFalsely : Prop := fnTermTurnsRow.holds Try.pinned (OpenSpec.ofChange fnTermTurnsWrong)

/-- 'laws.FnTermSame': WHATEVER THE INPUT: true; the input reads as it did. -/
def fnTermSameSpec : ChangeSpec := { name := "fnTermSame", fn := fun _ => fun
  | [d] => { results := [.lit (.bool true)], args := [d] }
  | _ => none }
def fnTermSameRow : OpenClaim := { program := "ytgnfbejcikeofaa", sum := "ad355b24d918d98574bc67617e02fd063b6a383ec1fad29dd5a65cae6adfedb6", func := "loop.example/closingsticks/laws.FnTermSame", spec := "fnTermSame", inPlace := ["internal/bytealg.IndexByteString", "internal/abi.NoEscape", "internal/bytealg.MakeNoZero"], recurses := true, apart := false }
def FnTermSameSaid : Prop := fnTermSameRow.holds Try.pinned (OpenSpec.ofChange fnTermSameSpec)

/-- ITS FALSE NEIGHBOUR: 'it returns false'. Refute it at one input. -/
def fnTermSameWrong : ChangeSpec := { name := "fnTermSame", fn := fun _ => fun
  | [d] => { results := [.lit (.bool false)], args := [d] }
  | _ => none }
def FnTermSameWrongFalsely : Prop := fnTermSameRow.holds Try.pinned (OpenSpec.ofChange fnTermSameWrong)

/- THE SECOND FORM. 'bulk': how many values and letters a reading holds, each counted each time it is reached (what is shared counts as often as it is met; a slice's spare places count too). A statement '..UptoSaid' is the law's where the arguments, and the package variables that the reading takes, are together of bulk at most 1048576: NARROWER than '..Said'. Prove '..Said' where nothing that the law and all that it calls make is longer than what came in: it says more and counts as full. Else prove '..UptoSaid'. A law counts once. -/
mutual
def uptoBulk {H : Type} : DataW H → Nat
  | .lit (.string bytes) => bytes.length + 1
  | .lit _ => 1
  | .nil => 1
  | .ptr d => uptoBulk d + 1
  | .slice elems spare => uptoBulkAll elems + uptoBulkAll spare + 1
  | .agg parts => uptoBulkAll parts + 1
  | .iface _ d => uptoBulk d + 1
  | .map entries => uptoBulkEntries entries + 1
  | .held _ => 1
def uptoBulkAll {H : Type} : List (DataW H) → Nat
  | [] => 0
  | d :: r => uptoBulk d + uptoBulkAll r
def uptoBulkEntries {H : Type} : List (Lit × DataW H) → Nat
  | [] => 0
  | x :: r => uptoBulkEntry x + uptoBulkEntries r
def uptoBulkEntry {H : Type} : Lit × DataW H → Nat
  | (.string bytes, d) => bytes.length + uptoBulk d + 1
  | (_, d) => uptoBulk d + 1
 end
def uptoSmall : (H : Type) → List (DataW H) → Bool := fun _ ds => decide (uptoBulkAll ds ≤ 1048576)
def OpenSpec.upto (s : _root_.Go.ChangeSpec) : _root_.Go.OpenSpec := { _root_.Go.OpenSpec.ofChange s with cond := some uptoSmall }

/-- 'laws.FnWalk', WHERE WHAT IT READS IS OF BULK AT MOST 1048576: true; the input reads as it did. -/
def fnWalkUptoRow : OpenClaim := { program := "ytgnfbejcikeofaa", sum := "ad355b24d918d98574bc67617e02fd063b6a383ec1fad29dd5a65cae6adfedb6", func := "loop.example/closingsticks/laws.FnWalk", spec := "fnWalk", inPlace := ["internal/bytealg.IndexByteString", "internal/abi.NoEscape", "internal/bytealg.MakeNoZero"], recurses := true, apart := false, narrowed := true }
def FnWalkUptoSaid : Prop := fnWalkUptoRow.holds Try.pinned (OpenSpec.upto fnWalkSpec)

/-- 'laws.FnTermArea', WHERE WHAT IT READS IS OF BULK AT MOST 1048576: true; the input reads as it did. -/
def fnTermAreaUptoRow : OpenClaim := { program := "ytgnfbejcikeofaa", sum := "ad355b24d918d98574bc67617e02fd063b6a383ec1fad29dd5a65cae6adfedb6", func := "loop.example/closingsticks/laws.FnTermArea", spec := "fnTermArea", inPlace := ["internal/bytealg.IndexByteString", "internal/abi.NoEscape", "internal/bytealg.MakeNoZero"], recurses := true, apart := false, narrowed := true }
def FnTermAreaUptoSaid : Prop := fnTermAreaUptoRow.holds Try.pinned (OpenSpec.upto fnTermAreaSpec)

/-- 'laws.FnTermEnd', WHERE WHAT IT READS IS OF BULK AT MOST 1048576: true; the input reads as it did. -/
def fnTermEndUptoRow : OpenClaim := { program := "ytgnfbejcikeofaa", sum := "ad355b24d918d98574bc67617e02fd063b6a383ec1fad29dd5a65cae6adfedb6", func := "loop.example/closingsticks/laws.FnTermEnd", spec := "fnTermEnd", inPlace := ["internal/bytealg.IndexByteString", "internal/abi.NoEscape", "internal/bytealg.MakeNoZero"], recurses := true, apart := false, narrowed := true }
def FnTermEndUptoSaid : Prop := fnTermEndUptoRow.holds Try.pinned (OpenSpec.upto fnTermEndSpec)

/-- 'laws.FnTermTidy', WHERE WHAT IT READS IS OF BULK AT MOST 1048576: true; the input reads as it did. -/
def fnTermTidyUptoRow : OpenClaim := { program := "ytgnfbejcikeofaa", sum := "ad355b24d918d98574bc67617e02fd063b6a383ec1fad29dd5a65cae6adfedb6", func := "loop.example/closingsticks/laws.FnTermTidy", spec := "fnTermTidy", inPlace := ["internal/bytealg.IndexByteString", "internal/abi.NoEscape", "internal/bytealg.MakeNoZero"], recurses := true, apart := false, narrowed := true }
def FnTermTidyUptoSaid : Prop := fnTermTidyUptoRow.holds Try.pinned (OpenSpec.upto fnTermTidySpec)

/-- 'laws.FnTermTurns', WHERE WHAT IT READS IS OF BULK AT MOST 1048576: true; the input reads as it did. -/
def fnTermTurnsUptoRow : OpenClaim := { program := "ytgnfbejcikeofaa", sum := "ad355b24d918d98574bc67617e02fd063b6a383ec1fad29dd5a65cae6adfedb6", func := "loop.example/closingsticks/laws.FnTermTurns", spec := "fnTermTurns", inPlace := ["internal/bytealg.IndexByteString", "internal/abi.NoEscape", "internal/bytealg.MakeNoZero"], recurses := true, apart := false, narrowed := true }
def FnTermTurnsUptoSaid : Prop := fnTermTurnsUptoRow.holds Try.pinned (OpenSpec.upto fnTermTurnsSpec)

/-- 'laws.FnTermSame', WHERE WHAT IT READS IS OF BULK AT MOST 1048576: true; the input reads as it did. -/
def fnTermSameUptoRow : OpenClaim := { program := "ytgnfbejcikeofaa", sum := "ad355b24d918d98574bc67617e02fd063b6a383ec1fad29dd5a65cae6adfedb6", func := "loop.example/closingsticks/laws.FnTermSame", spec := "fnTermSame", inPlace := ["internal/bytealg.IndexByteString", "internal/abi.NoEscape", "internal/bytealg.MakeNoZero"], recurses := true, apart := false, narrowed := true }
def FnTermSameUptoSaid : Prop := fnTermSameUptoRow.holds Try.pinned (OpenSpec.upto fnTermSameSpec)

end Rows
end Go.Proofs.Ytgnfbejcikeofaa
