-- Written by a program of this session (wip/gen/lprint.py over the kit's print.py) out of the translation. Lean checks it.
import Derived.Test.YtlbgphddhjnlcaaGreatDoorProg
import Derived.Below
import Derived.Deep.Draws
import Derived.Deep.AppendLies
import Derived.Maps.AppendAt
import Derived.OwnWalk
import Derived.Laws.BytesArg
import Derived.Laws.MakeOwn
import Derived.Laws.OwnMore
import Derived.Deep.OwnRows
import Derived.Tactics
import Derived.Lib.ConvBytes
import Derived.Laws.Slices
import Derived.WalkKit
import Derived.KernelRfl
import Derived.RowKit3
import Derived.Deep.LoopGhost
import Derived.Deep.QuietTactic
import Derived.BigQuiet
import Derived.WideLaws
import Derived.Deep.DeepCutAuto
import Derived.Deep.CutBlock
import Derived.Deep.RegionHeld3
import Derived.Laws.Rows
import Derived.Lib.AppendStr
import Derived.ArgAppend
import Derived.Laws.IdiomCopy
import Derived.OrdersHeld
import Derived.Laws.BitsLemmas
import Derived.RowKit
import Derived.Test.YtlbgphddhjnlcaaGreatDoorV
import Derived.Test.YtlbgphddhjnlcaaGreatDoorE
import Derived.Test.YtlbgphddhjnlcaaGreatDoorP
import Derived.Test.YtlbgphddhjnlcaaGreatDoorWWords
import Derived.Test.YtlbgphddhjnlcaaGreatDoorWLast
import Derived.Test.YtlbgphddhjnlcaaGreatDoorWTab
import Derived.Test.YtlbgphddhjnlcaaGreatDoorWFour
import Derived.Test.YtlbgphddhjnlcaaGreatDoorWQPut
import Derived.Test.YtlbgphddhjnlcaaGreatDoorWApart
import Derived.Test.YtlbgphddhjnlcaaGreatDoorWArr
import Derived.Test.YtlbgphddhjnlcaaGreatDoorWZeros
import Derived.Test.YtlbgphddhjnlcaaGreatDoorWFoot
import Derived.Test.YtlbgphddhjnlcaaGreatDoorWKept
import Derived.Test.YtlbgphddhjnlcaaGreatDoorWShare
import Derived.Test.YtlbgphddhjnlcaaGreatDoorWN
import Derived.Test.YtlbgphddhjnlcaaGreatDoorWFootNe
import Derived.Test.YtlbgphddhjnlcaaGreatDoorWAt
import Derived.Test.YtlbgphddhjnlcaaGreatDoorWEqStruct
import Derived.Test.YtlbgphddhjnlcaaGreatDoorWRepsOne
import Derived.Test.YtlbgphddhjnlcaaGreatDoorWInv
import Derived.Test.YtlbgphddhjnlcaaGreatDoorWInvWords
import Derived.Test.YtlbgphddhjnlcaaGreatDoorWGuard
import Derived.Test.YtlbgphddhjnlcaaGreatDoorWNEv
import Derived.Test.YtlbgphddhjnlcaaGreatDoorWMore
namespace Go.Proofs.YtlbgphddhjnlcaaGreatDoor.Q
open Go.Proofs.YtlbgphddhjnlcaaGreatDoor.E Go.Proofs.YtlbgphddhjnlcaaGreatDoorV
open Go.Proofs.YtlbgphddhjnlcaaGreatDoor.P
open Go.RowKit Go.Proofs.YtlbgphddhjnlcaaGreatDoorW.PrintWords Go.Proofs.YtlbgphddhjnlcaaGreatDoorW.PrintLast Go.Proofs.YtlbgphddhjnlcaaGreatDoorW.PrintMore
attribute [local go_sem] max2_int min2_int max_two min_two max_three min_three max_four min_four   -- for this text's walks alone
set_option linter.unusedVariables false
set_option linter.unusedSimpArgs false

def errW : Option Int → Value
  | none => .nilIface
  | some c => .iface 0 (.int .i64 c)
theorem errW_none : errW none = .nilIface := rfl
theorem errW_some (c : Int) : errW (some c) = .iface 0 (.int .i64 c) := rfl

end Go.Proofs.YtlbgphddhjnlcaaGreatDoor.Q
