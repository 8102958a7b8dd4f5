/- The laws DateDays and DateCivils. -/
import Derived.Test.YtlbgphddhjnlcaaGreatDoorA3
set_option linter.unusedSimpArgs false
set_option linter.unusedVariables false
namespace Go.Proofs.YtlbgphddhjnlcaaGreatDoor.Q
open Go Go.RowKit Go.Lib Go.Proofs.YtlbgphddhjnlcaaGreatDoorW.PrintWords Go.Proofs.YtlbgphddhjnlcaaGreatDoor.E Go.Proofs.YtlbgphddhjnlcaaGreatDoor.P

theorem aw60 : lanternlaw14_awake.f 60 = some true := by decide +kernel
theorem awake_f (k : Nat) (hk : 60 ≤ k) : lanternlaw14_awake.f k = some true := by
  obtain ⟨j, rfl⟩ : ∃ j, k = 60 + j := ⟨k - 60, by omega⟩
  clear hk
  induction j with
  | zero => exact aw60
  | succ j ih => exact lanternlaw14_awake.mono (60 + j) _ ih
theorem DateDays (y m d : Int) (_ : (Lit.int .i64 y).wf = true) (_ : (Lit.int .i64 m).wf = true) (_ : (Lit.int .i64 d).wf = true) : ∃ k, lanternlaw14_DateDays.f k y m d = some true := by
  refine ⟨20000, ?_⟩
  generalize hk : 20000 = k
  unfold lanternlaw14_DateDays.f
  by_cases hv : 1 ≤ y ∧ y ≤ 9999 ∧ 1 ≤ m ∧ m ≤ 12 ∧ 1 ≤ d ∧ d ≤ (longN y.toNat m.toNat : Int)
  · obtain ⟨Y, M, D, rfl, rfl, rfl, hV⟩ := valid_of hv
    have hb := daysZ_le Y M D hV
    rw [days_f k Y M D hV (by omega), Option.bind_some, date_f Y M D hV, Option.bind_some, if_pos rfl]
    dsimp only
    rw [civil_f k Y M D hV (by omega), Option.bind_some, if_pos rfl, rdays_f k Y M D hV (by omega), Option.bind_some, if_pos rfl]
    dsimp only
    rw [if_pos rfl, if_pos rfl, if_pos rfl]
    have hbne : (((D : Nat) : Int) != (D : Int)) = false := by simp
    rw [hbne]
    obtain ⟨j, rfl⟩ : ∃ j, k = j + 1 := ⟨k - 1, by omega⟩
    rw [lanternlaw14_DateDays.j0, if_neg (by simp), wi ((daysZ Y M D : Int) - 719468 + 1) (by omega) (by omega)]
    by_cases c : daysZ Y M D = 3652364
    · rw [civil_no j _ (by omega) (by omega), Option.bind_some]
      dsimp only
      rw [if_neg (by decide)]
      have h2 : Valid 9999 12 31 := by unfold Valid; decide
      obtain ⟨rfl, rfl, rfl⟩ := date_inj Y M D 9999 12 31 hV h2 (by rw [c]; decide)
      rw [if_pos (show ((9999 : Nat) : Int) = 9999 from rfl), if_pos (show ((12 : Nat) : Int) = 12 from rfl), if_pos (show ((31 : Nat) : Int) = 31 from rfl), awake_f j (by omega)]
      rfl
    · obtain ⟨a, b, e, hV2, he⟩ := date_of ((daysZ Y M D : Int) - 719468 + 1) (by omega) (by omega)
      rw [he, civil_f j a b e hV2 (by omega), Option.bind_some]
      dsimp only
      rw [if_pos rfl, days_f j a b e hV2 (by omega), Option.bind_some]
      dsimp only
      rw [if_pos rfl, if_pos rfl, awake_f j (by omega)]
      rfl
  · obtain ⟨e1, e2⟩ := not_date k y m d (by omega) hv
    rw [e1, e2, Option.bind_some, Option.bind_some, if_neg (by simp)]
    dsimp only
    rw [if_pos rfl, if_pos rfl, awake_f k (by omega)]
    rfl
theorem DateCivils (n : Int) (_ : (Lit.int .i64 n).wf = true) : ∃ k, lanternlaw14_DateCivils.f k n = some true := by
  refine ⟨20000, ?_⟩
  generalize hk : 20000 = k
  unfold lanternlaw14_DateCivils.f
  by_cases c : n < -719162 ∨ 2932896 < n
  · rw [civil_no k n c (by omega), rcivil_no k n c (by omega), Option.bind_some, Option.bind_some]
    dsimp only
    rw [if_pos rfl, if_pos rfl, if_pos rfl, if_pos rfl, if_pos rfl, awake_f k (by omega)]
    rfl
  · obtain ⟨a, b, e, hV, rfl⟩ := date_of n (by omega) (by omega)
    rw [civil_f k a b e hV (by omega), rcivil_f k a b e hV (by omega), Option.bind_some, Option.bind_some]
    dsimp only
    rw [if_neg (by have := hV.1; omega), if_pos rfl, if_pos rfl, if_pos rfl, if_pos rfl, awake_f k (by omega)]
    rfl
end Go.Proofs.YtlbgphddhjnlcaaGreatDoor.Q
