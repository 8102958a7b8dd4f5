/- Plain lemmas: trimming by any set of bytes; no program in sight. -/
import Derived.Test.YtdopafhppaalfaaGreatDoorB
set_option linter.unusedSimpArgs false
namespace Go.Proofs.YtdopafhppaalfaaGreatDoorB
open Go Go.RowKit Go.Lib Go.Proofs.YtdopafhppaalfaaGreatDoorW.PrintWords

theorem wrap_nat {x : Int} (n : Nat) (h : x = (n : Int)) (hn : n ≤ 9223372036854775807) : wrap64 x = (n : Int) := by subst h; exact wrap_id (by omega) (by omega)
end Go.Proofs.YtdopafhppaalfaaGreatDoorB
