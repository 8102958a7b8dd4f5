-- Written by a program of this session (wip/gen/lprint.py over the kit's print.py) out of the translation. Lean checks it.
import Derived.Test.YtgkcdnkkdhmjfaaDoorProg
import Derived.Below
import Derived.Deep.Draws
import Derived.Deep.AppendLies
import Derived.Maps.AppendAt
import Derived.OwnWalk
import Derived.Laws.BytesArg
import Derived.Laws.MakeOwn
import Derived.Laws.OwnMore
import Derived.Deep.OwnRows
import Derived.Tactics
import Derived.Lib.ConvBytes
import Derived.Laws.Slices
import Derived.WalkKit
import Derived.KernelRfl
import Derived.RowKit3
import Derived.Deep.LoopGhost
import Derived.Deep.QuietTactic
import Derived.BigQuiet
import Derived.WideLaws
import Derived.Deep.DeepCutAuto
import Derived.Deep.CutBlock
import Derived.Deep.RegionHeld3
import Derived.Laws.Rows
import Derived.Lib.AppendStr
import Derived.ArgAppend
import Derived.Laws.IdiomCopy
import Derived.OrdersHeld
import Derived.Laws.BitsLemmas
import Derived.RowKit
import Derived.Test.YtgkcdnkkdhmjfaaDoorV
import Derived.Test.YtgkcdnkkdhmjfaaDoorE
import Derived.Test.YtgkcdnkkdhmjfaaDoorWWords
import Derived.Test.YtgkcdnkkdhmjfaaDoorWLast
import Derived.Test.YtgkcdnkkdhmjfaaDoorWTab
import Derived.Test.YtgkcdnkkdhmjfaaDoorWFour
import Derived.Test.YtgkcdnkkdhmjfaaDoorWQPut
import Derived.Test.YtgkcdnkkdhmjfaaDoorWApart
import Derived.Test.YtgkcdnkkdhmjfaaDoorWArr
import Derived.Test.YtgkcdnkkdhmjfaaDoorWZeros
import Derived.Test.YtgkcdnkkdhmjfaaDoorWFoot
import Derived.Test.YtgkcdnkkdhmjfaaDoorWKept
import Derived.Test.YtgkcdnkkdhmjfaaDoorWShare
import Derived.Test.YtgkcdnkkdhmjfaaDoorWN
import Derived.Test.YtgkcdnkkdhmjfaaDoorWFootNe
import Derived.Test.YtgkcdnkkdhmjfaaDoorWAt
import Derived.Test.YtgkcdnkkdhmjfaaDoorWEqStruct
import Derived.Test.YtgkcdnkkdhmjfaaDoorWRepsOne
import Derived.Test.YtgkcdnkkdhmjfaaDoorWInv
import Derived.Test.YtgkcdnkkdhmjfaaDoorWInvWords
import Derived.Test.YtgkcdnkkdhmjfaaDoorWGuard
import Derived.Test.YtgkcdnkkdhmjfaaDoorWNEv
import Derived.Test.YtgkcdnkkdhmjfaaDoorWMore
namespace Go.Proofs.YtgkcdnkkdhmjfaaDoor.I
open Go.Proofs.YtgkcdnkkdhmjfaaDoor.E Go.Proofs.YtgkcdnkkdhmjfaaDoorV
open Go.RowKit Go.Proofs.YtgkcdnkkdhmjfaaDoorW.PrintWords Go.Proofs.YtgkcdnkkdhmjfaaDoorW.PrintLast Go.Proofs.YtgkcdnkkdhmjfaaDoorW.PrintMore
attribute [local go_sem] max2_int min2_int max_two min_two max_three min_three max_four min_four   -- for this text's walks alone
set_option linter.unusedVariables false
set_option linter.unusedSimpArgs false



def errW : Option Int → Value
  | none => .nilIface
  | some c => .iface 98 (.int .i64 c)
theorem errW_none : errW none = .nilIface := rfl
theorem errW_some (c : Int) : errW (some c) = .iface 98 (.int .i64 c) := rfl

-- the values' own types

end Go.Proofs.YtgkcdnkkdhmjfaaDoor.I
