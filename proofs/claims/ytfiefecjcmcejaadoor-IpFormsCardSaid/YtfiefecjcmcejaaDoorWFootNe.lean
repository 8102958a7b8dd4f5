-- Lemmas on which this claim leans, chosen by a program of this session (wip/gen/prune.py) out of texts that were laid for this seat. Lean checks them.
import Derived.Test.YtfiefecjcmcejaaDoorWN
/-! ### 52. A row that stays read whatever happens to a block (a set of blocks) doesn't lie there -/
namespace Go.Proofs.YtfiefecjcmcejaaDoorW.PrintWords
open Go.RowKit
namespace Kd
section
variable {α : Type} {d : Kd α} {W : World} {g n : Nat} {S ok : Nat → Prop} {A : Option Addr} {ad : Addr} {xs : List α}
end
end Kd
end Go.Proofs.YtfiefecjcmcejaaDoorW.PrintWords
