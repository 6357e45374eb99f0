/- Written by a program of this claim out of the translation: plain Lean functions and their contracts; what is proved: each Go function of this text comes to what its Lean function says. -/
import Derived.Test.YthcjahkgljoplaaProg
import Derived.Below
import Derived.Deep.Draws
import Derived.Deep.AppendLies
import Derived.Maps.AppendAt
import Derived.OwnWalk
import Derived.Laws.BytesArg
import Derived.Laws.MakeOwn
import Derived.Laws.OwnMore
import Derived.Deep.OwnRows
import Derived.Tactics
import Derived.Lib.ConvBytes
import Derived.Laws.Slices
import Derived.WalkKit
import Derived.KernelRfl
import Derived.RowKit3
import Derived.Deep.LoopGhost
import Derived.Deep.QuietTactic
import Derived.BigQuiet
import Derived.WideLaws
import Derived.Deep.DeepCutAuto
import Derived.Deep.CutBlock
import Derived.Deep.RegionHeld3
import Derived.Laws.Rows
import Derived.Lib.AppendStr
import Derived.ArgAppend
import Derived.Laws.IdiomCopy
import Derived.OrdersHeld
import Derived.Laws.BitsLemmas
import Derived.RowKit
import Derived.Laws.Externs
import Derived.Lib.Bytealg
import Derived.Lib.Hide
import Derived.Test.YthcjahkgljoplaaWWords
import Derived.Test.YthcjahkgljoplaaWLast
import Derived.Test.YthcjahkgljoplaaWTab
import Derived.Test.YthcjahkgljoplaaWFour
import Derived.Test.YthcjahkgljoplaaWQPut
import Derived.Test.YthcjahkgljoplaaWApart
import Derived.Test.YthcjahkgljoplaaWArr
import Derived.Test.YthcjahkgljoplaaWZeros
import Derived.Test.YthcjahkgljoplaaWFoot
import Derived.Test.YthcjahkgljoplaaWKept
import Derived.Test.YthcjahkgljoplaaWShare
import Derived.Test.YthcjahkgljoplaaWN
import Derived.Test.YthcjahkgljoplaaWFootNe
import Derived.Test.YthcjahkgljoplaaWAt
import Derived.Test.YthcjahkgljoplaaWEqStruct
import Derived.Test.YthcjahkgljoplaaWRepsOne
import Derived.Test.YthcjahkgljoplaaWInv
import Derived.Test.YthcjahkgljoplaaWInvWords
import Derived.Test.YthcjahkgljoplaaWGuard
import Derived.Test.YthcjahkgljoplaaWNEv
import Derived.Test.YthcjahkgljoplaaWMore
namespace Go.Proofs.Ythcjahkgljoplaa.PFnExactProofSpanIs
open Go.RowKit Go.Proofs.YthcjahkgljoplaaW.PrintWords Go.Proofs.YthcjahkgljoplaaW.PrintLast Go.Proofs.YthcjahkgljoplaaW.PrintMore
attribute [local go_sem] max2_int min2_int max_two min_two max_three min_three max_four min_four   -- for this text's walks alone
set_option linter.unusedVariables false
set_option linter.unusedSimpArgs false



def errW : Option Int → Value
  | none => .nilIface
  | some c => .iface 0 (.int .i64 c)
theorem errW_none : errW none = .nilIface := rfl
theorem errW_some (c : Int) : errW (some c) = .iface 0 (.int .i64 c) := rfl

theorem info3 : (Try.prog.info? 3).map (fun i => (i.zero, i.size, i.bytes)) = some (some (.int .i64 0), 1, 8) := by kernel_rfl
-- the values' own types

end Go.Proofs.Ythcjahkgljoplaa.PFnExactProofSpanIs
