-- Lemmas on which this claim leans, chosen by a program of this session (wip/gen/prune.py) out of texts that were laid for this seat. Lean checks them.
import Derived.Test.YtfiefecjcmcejaaDoorWInv
import Derived.Test.YtfiefecjcmcejaaDoorWFootNe
namespace Go.Proofs.YtfiefecjcmcejaaDoorW.PrintWords
open Go.RowKit
end Go.Proofs.YtfiefecjcmcejaaDoorW.PrintWords
namespace Go.Proofs.YtfiefecjcmcejaaDoorW.PrintLast
section
variable {ops : Array Oper} {a : Act} {o og : Oper} {g : Nat} {t : Tmp} {u : Bool}
end
end Go.Proofs.YtfiefecjcmcejaaDoorW.PrintLast
