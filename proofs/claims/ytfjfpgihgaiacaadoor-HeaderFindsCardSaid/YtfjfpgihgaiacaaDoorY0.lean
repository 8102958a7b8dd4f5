-- Written by a program of this session (wip/gen/lprint.py over the kit's print.py) out of the translation. Lean checks it.
import Derived.Test.YtfjfpgihgaiacaaDoorProg
import Derived.Below
import Derived.Deep.Draws
import Derived.Deep.AppendLies
import Derived.Maps.AppendAt
import Derived.OwnWalk
import Derived.Laws.BytesArg
import Derived.Laws.MakeOwn
import Derived.Laws.OwnMore
import Derived.Deep.OwnRows
import Derived.Tactics
import Derived.Lib.ConvBytes
import Derived.Laws.Slices
import Derived.WalkKit
import Derived.KernelRfl
import Derived.RowKit3
import Derived.Deep.LoopGhost
import Derived.Deep.QuietTactic
import Derived.BigQuiet
import Derived.WideLaws
import Derived.Deep.DeepCutAuto
import Derived.Deep.CutBlock
import Derived.Deep.RegionHeld3
import Derived.Laws.Rows
import Derived.Lib.AppendStr
import Derived.ArgAppend
import Derived.Laws.IdiomCopy
import Derived.OrdersHeld
import Derived.Laws.BitsLemmas
import Derived.RowKit
import Derived.Test.YtfjfpgihgaiacaaDoorV
import Derived.Test.YtfjfpgihgaiacaaDoorE
import Derived.Test.YtfjfpgihgaiacaaDoorP
import Derived.Test.YtfjfpgihgaiacaaDoorHU
import Derived.Test.YtfjfpgihgaiacaaDoorWWords
import Derived.Test.YtfjfpgihgaiacaaDoorWLast
import Derived.Test.YtfjfpgihgaiacaaDoorWTab
import Derived.Test.YtfjfpgihgaiacaaDoorWFour
import Derived.Test.YtfjfpgihgaiacaaDoorWQPut
import Derived.Test.YtfjfpgihgaiacaaDoorWApart
import Derived.Test.YtfjfpgihgaiacaaDoorWArr
import Derived.Test.YtfjfpgihgaiacaaDoorWZeros
import Derived.Test.YtfjfpgihgaiacaaDoorWFoot
import Derived.Test.YtfjfpgihgaiacaaDoorWKept
import Derived.Test.YtfjfpgihgaiacaaDoorWShare
import Derived.Test.YtfjfpgihgaiacaaDoorWN
import Derived.Test.YtfjfpgihgaiacaaDoorWFootNe
import Derived.Test.YtfjfpgihgaiacaaDoorWAt
import Derived.Test.YtfjfpgihgaiacaaDoorWEqStruct
import Derived.Test.YtfjfpgihgaiacaaDoorWRepsOne
import Derived.Test.YtfjfpgihgaiacaaDoorWInv
import Derived.Test.YtfjfpgihgaiacaaDoorWInvWords
import Derived.Test.YtfjfpgihgaiacaaDoorWGuard
import Derived.Test.YtfjfpgihgaiacaaDoorWNEv
import Derived.Test.YtfjfpgihgaiacaaDoorWMore
namespace Go.Proofs.YtfjfpgihgaiacaaDoor.Y
open Go.Proofs.YtfjfpgihgaiacaaDoor.E Go.Proofs.YtfjfpgihgaiacaaDoorV
open Go.Proofs.YtfjfpgihgaiacaaDoor.P
open Go.RowKit Go.Proofs.YtfjfpgihgaiacaaDoorW.PrintWords Go.Proofs.YtfjfpgihgaiacaaDoorW.PrintLast Go.Proofs.YtfjfpgihgaiacaaDoorW.PrintMore
attribute [local go_sem] max2_int min2_int max_two min_two max_three min_three max_four min_four   -- for this text's walks alone
set_option linter.unusedVariables false
set_option linter.unusedSimpArgs false



def errW : Option Int → Value
  | none => .nilIface
  | some c => .iface 0 (.int .i64 c)
theorem errW_none : errW none = .nilIface := rfl
theorem errW_some (c : Int) : errW (some c) = .iface 0 (.int .i64 c) := rfl

theorem info9 : (Tryd.prog.info? 9).map (fun i => (i.zero, i.size, i.bytes)) = some (some (.string ⟨#[]⟩), 1, 16) := by kernel_rfl
theorem info39 : (Tryd.prog.info? 39).map (fun i => (i.zero, i.size, i.bytes)) = some (some (.agg #[(.string ⟨#[]⟩), (.string ⟨#[]⟩)]), 2, 32) := by kernel_rfl
end Go.Proofs.YtfjfpgihgaiacaaDoor.Y
