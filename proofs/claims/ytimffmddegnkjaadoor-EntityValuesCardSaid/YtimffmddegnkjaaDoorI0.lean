-- Written by a program of this session (wip/gen/lprint.py over the kit's print.py) out of the translation. Lean checks it.
import Derived.Test.YtimffmddegnkjaaDoorProg
import Derived.Below
import Derived.Deep.Draws
import Derived.Deep.AppendLies
import Derived.Maps.AppendAt
import Derived.OwnWalk
import Derived.Laws.BytesArg
import Derived.Laws.MakeOwn
import Derived.Laws.OwnMore
import Derived.Deep.OwnRows
import Derived.Tactics
import Derived.Lib.ConvBytes
import Derived.Laws.Slices
import Derived.WalkKit
import Derived.KernelRfl
import Derived.RowKit3
import Derived.Deep.LoopGhost
import Derived.Deep.QuietTactic
import Derived.BigQuiet
import Derived.WideLaws
import Derived.Deep.DeepCutAuto
import Derived.Deep.CutBlock
import Derived.Deep.RegionHeld3
import Derived.Laws.Rows
import Derived.Lib.AppendStr
import Derived.ArgAppend
import Derived.Laws.IdiomCopy
import Derived.OrdersHeld
import Derived.Laws.BitsLemmas
import Derived.RowKit
import Derived.Test.YtimffmddegnkjaaDoorV
import Derived.Test.YtimffmddegnkjaaDoorE
import Derived.Test.YtimffmddegnkjaaDoorWWords
import Derived.Test.YtimffmddegnkjaaDoorWLast
import Derived.Test.YtimffmddegnkjaaDoorWTab
import Derived.Test.YtimffmddegnkjaaDoorWFour
import Derived.Test.YtimffmddegnkjaaDoorWQPut
import Derived.Test.YtimffmddegnkjaaDoorWApart
import Derived.Test.YtimffmddegnkjaaDoorWArr
import Derived.Test.YtimffmddegnkjaaDoorWZeros
import Derived.Test.YtimffmddegnkjaaDoorWFoot
import Derived.Test.YtimffmddegnkjaaDoorWKept
import Derived.Test.YtimffmddegnkjaaDoorWShare
import Derived.Test.YtimffmddegnkjaaDoorWN
import Derived.Test.YtimffmddegnkjaaDoorWFootNe
import Derived.Test.YtimffmddegnkjaaDoorWAt
import Derived.Test.YtimffmddegnkjaaDoorWEqStruct
import Derived.Test.YtimffmddegnkjaaDoorWRepsOne
import Derived.Test.YtimffmddegnkjaaDoorWInv
import Derived.Test.YtimffmddegnkjaaDoorWInvWords
import Derived.Test.YtimffmddegnkjaaDoorWGuard
import Derived.Test.YtimffmddegnkjaaDoorWNEv
import Derived.Test.YtimffmddegnkjaaDoorWMore
namespace Go.Proofs.YtimffmddegnkjaaDoor.I
open Go.Proofs.YtimffmddegnkjaaDoor.E Go.Proofs.YtimffmddegnkjaaDoorV
open Go.RowKit Go.Proofs.YtimffmddegnkjaaDoorW.PrintWords Go.Proofs.YtimffmddegnkjaaDoorW.PrintLast Go.Proofs.YtimffmddegnkjaaDoorW.PrintMore
attribute [local go_sem] max2_int min2_int max_two min_two max_three min_three max_four min_four   -- for this text's walks alone
set_option linter.unusedVariables false
set_option linter.unusedSimpArgs false



def errW : Option Int → Value
  | none => .nilIface
  | some c => .iface 84 (.int .i64 c)
theorem errW_none : errW none = .nilIface := rfl
theorem errW_some (c : Int) : errW (some c) = .iface 84 (.int .i64 c) := rfl

-- the values' own types

end Go.Proofs.YtimffmddegnkjaaDoor.I
