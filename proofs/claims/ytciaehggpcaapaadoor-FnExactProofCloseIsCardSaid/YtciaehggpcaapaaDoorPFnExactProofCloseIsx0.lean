/- Written by a program of this claim out of the translation: plain Lean functions and their contracts; what is proved: each Go function of this text comes to what its Lean function says. -/
import Derived.Test.YtciaehggpcaapaaDoorProg
import Derived.Below
import Derived.Deep.Draws
import Derived.Deep.AppendLies
import Derived.Maps.AppendAt
import Derived.OwnWalk
import Derived.Laws.BytesArg
import Derived.Laws.MakeOwn
import Derived.Laws.OwnMore
import Derived.Deep.OwnRows
import Derived.Tactics
import Derived.Lib.ConvBytes
import Derived.Laws.Slices
import Derived.WalkKit
import Derived.KernelRfl
import Derived.RowKit3
import Derived.Deep.LoopGhost
import Derived.Deep.QuietTactic
import Derived.BigQuiet
import Derived.WideLaws
import Derived.Deep.DeepCutAuto
import Derived.Deep.CutBlock
import Derived.Deep.RegionHeld3
import Derived.Laws.Rows
import Derived.Lib.AppendStr
import Derived.ArgAppend
import Derived.Laws.IdiomCopy
import Derived.OrdersHeld
import Derived.Laws.BitsLemmas
import Derived.RowKit
import Derived.Laws.Externs
import Derived.Lib.Bytealg
import Derived.Lib.Hide
import Derived.Test.YtciaehggpcaapaaDoorShelf
import Derived.Test.YtciaehggpcaapaaDoorWWords
import Derived.Test.YtciaehggpcaapaaDoorWLast
import Derived.Test.YtciaehggpcaapaaDoorWTab
import Derived.Test.YtciaehggpcaapaaDoorWFour
import Derived.Test.YtciaehggpcaapaaDoorWQPut
import Derived.Test.YtciaehggpcaapaaDoorWApart
import Derived.Test.YtciaehggpcaapaaDoorWArr
import Derived.Test.YtciaehggpcaapaaDoorWZeros
import Derived.Test.YtciaehggpcaapaaDoorWFoot
import Derived.Test.YtciaehggpcaapaaDoorWKept
import Derived.Test.YtciaehggpcaapaaDoorWShare
import Derived.Test.YtciaehggpcaapaaDoorWN
import Derived.Test.YtciaehggpcaapaaDoorWFootNe
import Derived.Test.YtciaehggpcaapaaDoorWAt
import Derived.Test.YtciaehggpcaapaaDoorWEqStruct
import Derived.Test.YtciaehggpcaapaaDoorWRepsOne
import Derived.Test.YtciaehggpcaapaaDoorWInv
import Derived.Test.YtciaehggpcaapaaDoorWInvWords
import Derived.Test.YtciaehggpcaapaaDoorWGuard
import Derived.Test.YtciaehggpcaapaaDoorWNEv
import Derived.Test.YtciaehggpcaapaaDoorWMore
namespace Go.Proofs.YtciaehggpcaapaaDoor.PFnExactProofCloseIs
open Go.RowKit Go.Proofs.YtciaehggpcaapaaDoorW.PrintWords Go.Proofs.YtciaehggpcaapaaDoorW.PrintLast Go.Proofs.YtciaehggpcaapaaDoorW.PrintMore
attribute [local go_sem] max2_int min2_int max_two min_two max_three min_three max_four min_four   -- for this text's walks alone
set_option linter.unusedVariables false
set_option linter.unusedSimpArgs false



def errW : Option Int → Value
  | none => .nilIface
  | some c => .iface 0 (.int .i64 c)
theorem errW_none : errW none = .nilIface := rfl
theorem errW_some (c : Int) : errW (some c) = .iface 0 (.int .i64 c) := rfl

theorem info3 : (Tryd.prog.info? 3).map (fun i => (i.zero, i.size, i.bytes)) = some (some (.int .i64 0), 1, 8) := by kernel_rfl
theorem info5 : (Tryd.prog.info? 5).map (fun i => (i.zero, i.size, i.bytes)) = some (some (.int .u8 0), 1, 1) := by kernel_rfl
-- the values' own types

end Go.Proofs.YtciaehggpcaapaaDoor.PFnExactProofCloseIs
