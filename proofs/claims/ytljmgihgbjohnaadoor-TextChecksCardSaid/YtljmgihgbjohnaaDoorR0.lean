/- Written by a program of this session (wip/gen/mkrow.py). Lean checks it. -/
import Derived.Test.YtljmgihgbjohnaaDoorRows
import Derived.Test.YtljmgihgbjohnaaDoorE
import Derived.Lib.LaidIn
import Derived.Lib.LaidU8T
import Derived.ChangeSame
import Derived.ChangeVars
import Derived.JoinedOf
import Derived.RowKit
import Derived.Handed
namespace Go.Proofs.YtljmgihgbjohnaaDoor.R
open Go.ChangeShapes Go.WideShapes Go.RowKit Go.Proofs.YtljmgihgbjohnaaDoor.E Go.Lib
theorem own : ownKnob Go.Proofs.Tryd.prog.godebug = none := by kernel_rfl
def listed : List (String × DataW Unit) := [("unicode/utf8.acceptRanges", Rows.laid_unicode_utf8_acceptRanges), ("unicode/utf8.first", Rows.laid_unicode_utf8_first)]
noncomputable def laidWorld (os : Os) : World :=
  let w0 := World.holding Go.Proofs.Tryd.prog os ⟨#[], #[], []⟩
  let put (h : Array Obj) (g : Nat) (cs : Array Value) : Array Obj := h.modify g fun
    | .cells _ t frozen => .cells cs t frozen
    | o => o
  let h1 := put w0.heap 1 ((List.range 16).flatMap fun i => [Value.int .u8 (Lib.accLo i), Value.int .u8 (Lib.accHi i)]).toArray
  let h2 := put h1 0 (Lib.firstTab.map fun z => Value.int .u8 z).toArray
  { w0 with heap := h2 }
theorem laid_met (os : Os) (args : Array Value) : laidMet Go.Proofs.Tryd.prog listed ((laidWorld os).forCall (fun _ _ => 0) ⟨#[], args, []⟩).memory :=
  (LaidIn.of_run (l := listed) [1, 0] 8 (by kernel_rfl) (by kernel_rfl) (by kernel_rfl) (by kernel_rfl)).met
theorem first_eq : Rows.laid_unicode_utf8_first = Lib.firstData := by kernel_rfl
theorem accept_eq : Rows.laid_unicode_utf8_acceptRanges = Lib.acceptData := by kernel_rfl
theorem lw_of_laid {W : World} (hL : laidMet Go.Proofs.Tryd.prog listed W) : LW W :=
  utf8Tabs_of_readsT (U8Types.of196 Go.Proofs.Tryd.lays196) ⟨by kernel_rfl, by kernel_rfl, by kernel_rfl, by kernel_rfl, by kernel_rfl, by kernel_rfl, by kernel_rfl⟩ (first_eq ▸ Lib.laidMet.reads hL (.tail _ (.head _))) (accept_eq ▸ Lib.laidMet.reads hL (.head _))
theorem laidH_iff {W : World} : laidMetH Go.Proofs.Tryd.prog listed W ↔ laidMet Go.Proofs.Tryd.prog listed W := by
  have e : (listed.filter fun x => x.2.handleName?.isSome) = [] := by kernel_rfl
  unfold laidMetH
  rw [e]
end Go.Proofs.YtljmgihgbjohnaaDoor.R
