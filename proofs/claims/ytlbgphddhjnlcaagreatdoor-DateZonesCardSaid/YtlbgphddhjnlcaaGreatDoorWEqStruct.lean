-- Lemmas on which this claim leans, chosen by a program of this session (wip/gen/prune.py) out of texts that were laid for this seat. Lean checks them.
import Derived.Test.YtlbgphddhjnlcaaGreatDoorWWords
import Derived.Laws.StructEq
/-! ### 53. '==' of structs as_ one Bool -/
namespace Go.Proofs.YtlbgphddhjnlcaaGreatDoorW.PrintWords
open Go.RowKit
section
variable {P : Program} {d : Nat} {xs ys : Array Value} {f : Field} {fs : List Field} {a b : Value} {r s : Bool} {w : World}
end
end Go.Proofs.YtlbgphddhjnlcaaGreatDoorW.PrintWords
