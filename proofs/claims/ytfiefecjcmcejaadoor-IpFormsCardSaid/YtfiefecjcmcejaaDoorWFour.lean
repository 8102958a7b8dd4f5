-- Lemmas on which this claim leans, chosen by a program of this session (wip/gen/prune.py) out of texts that were laid for this seat. Lean checks them.
import Derived.Test.YtfiefecjcmcejaaDoorWTab
/-! ### 56. Four, five, six operations that may come up next, in any order -/
namespace Go.Proofs.YtfiefecjcmcejaaDoorW.PrintLast
section
variable {P : Program} {ops : Array Oper} {Q : Exit → Act → World → Prop} {md : Region.Mode} {S : World → Prop} {ds : List Nat} {T : Bool × List (List Nat × List Nat)}
end
end Go.Proofs.YtfiefecjcmcejaaDoorW.PrintLast
