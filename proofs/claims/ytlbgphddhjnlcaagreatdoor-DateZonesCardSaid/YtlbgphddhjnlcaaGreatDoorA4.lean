/- The laws DateDays and DateCivils. -/
import Derived.Test.YtlbgphddhjnlcaaGreatDoorA3
set_option linter.unusedSimpArgs false
set_option linter.unusedVariables false
namespace Go.Proofs.YtlbgphddhjnlcaaGreatDoor.Q
open Go Go.RowKit Go.Lib Go.Proofs.YtlbgphddhjnlcaaGreatDoorW.PrintWords Go.Proofs.YtlbgphddhjnlcaaGreatDoor.E Go.Proofs.YtlbgphddhjnlcaaGreatDoor.P

theorem aw60 : lanternlaw14_awake.f 60 = some true := by decide +kernel
theorem awake_f (k : Nat) (hk : 60 ≤ k) : lanternlaw14_awake.f k = some true := by
  obtain ⟨j, rfl⟩ : ∃ j, k = 60 + j := ⟨k - 60, by omega⟩
  clear hk
  induction j with
  | zero => exact aw60
  | succ j ih => exact lanternlaw14_awake.mono (60 + j) _ ih
end Go.Proofs.YtlbgphddhjnlcaaGreatDoor.Q
