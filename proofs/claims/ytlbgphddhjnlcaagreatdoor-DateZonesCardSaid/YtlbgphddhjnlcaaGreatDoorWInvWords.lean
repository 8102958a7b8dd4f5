-- Lemmas on which this claim leans, chosen by a program of this session (wip/gen/prune.py) out of texts that were laid for this seat. Lean checks them.
import Derived.Test.YtlbgphddhjnlcaaGreatDoorWInv
import Derived.Test.YtlbgphddhjnlcaaGreatDoorWFootNe
namespace Go.Proofs.YtlbgphddhjnlcaaGreatDoorW.PrintWords
open Go.RowKit
end Go.Proofs.YtlbgphddhjnlcaaGreatDoorW.PrintWords
namespace Go.Proofs.YtlbgphddhjnlcaaGreatDoorW.PrintLast
section
variable {ops : Array Oper} {a : Act} {o og : Oper} {g : Nat} {t : Tmp} {u : Bool}
end
end Go.Proofs.YtlbgphddhjnlcaaGreatDoorW.PrintLast
