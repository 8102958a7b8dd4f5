/- Dates as days: the reference's Days and Civil, and the program's Civil, are the one formula and its inverse. -/
import Derived.Test.YtlbgphddhjnlcaaGreatDoorA2
set_option linter.unusedSimpArgs false
set_option linter.unusedVariables false
namespace Go.Proofs.YtlbgphddhjnlcaaGreatDoor.Q
open Go Go.RowKit Go.Lib Go.Proofs.YtlbgphddhjnlcaaGreatDoorW.PrintWords Go.Proofs.YtlbgphddhjnlcaaGreatDoor.E Go.Proofs.YtlbgphddhjnlcaaGreatDoor.P

def ahN (y : Nat) : Nat := 365 * (y - 1) + (y - 1) / 4 - (y - 1) / 100 + (y - 1) / 400
def lpN (y : Nat) : Nat := if leapN y then 1 else 0
def cumM (y : Nat) : Nat → Nat
  | 0 => 0
  | 1 => 0
  | m + 2 => cumM y (m + 1) + longN y (m + 1)
theorem lpN_le (y : Nat) : lpN y ≤ 1 := by unfold lpN; split <;> omega
theorem cum_succ (y m : Nat) (h : 1 ≤ m) : cumM y (m + 1) = cumM y m + longN y m := by
  cases m with
  | zero => omega
  | succ m => rfl
theorem A_closed (y : Nat) : y / 400 * 146097 + cumN (y % 400) = 365 * y + y / 4 - y / 100 + y / 400 := by
  unfold cumN; omega
theorem ah_step (y : Nat) (h : 1 ≤ y) : ahN (y + 1) = ahN y + 365 + lpN y := by
  obtain ⟨z, rfl⟩ : ∃ z, y = z + 1 := ⟨y - 1, by omega⟩
  unfold ahN lpN leapN
  rw [Nat.add_sub_cancel, Nat.add_sub_cancel]
  by_cases c4 : (z + 1) % 4 = 0
  · by_cases c100 : (z + 1) % 100 = 0
    · by_cases c400 : (z + 1) % 400 = 0
      · rw [c4, c100, c400]; simp; omega
      · have : ((z + 1) % 400 == 0) = false := beq_eq_false_iff_ne.mpr c400
        rw [c4, c100, this]; simp; omega
    · have : ((z + 1) % 100 != 0) = true := by simpa using c100
      rw [c4, this]; simp; omega
  · have : ((z + 1) % 4 == 0) = false := beq_eq_false_iff_ne.mpr c4
    rw [this]; simp; omega
theorem long2 (y : Nat) : longN y 2 = 28 + lpN y := by
  unfold longN lpN
  rw [if_pos rfl]
  cases leapN y <;> rfl
def tabM : Nat → Nat
  | 1 => 0 | 2 => 31 | 3 => 59 | 4 => 90 | 5 => 120 | 6 => 151 | 7 => 181 | 8 => 212 | 9 => 243 | 10 => 273 | 11 => 304 | 12 => 334 | _ => 365
theorem cum_tab (y m : Nat) (h1 : 1 ≤ m) (h2 : m ≤ 13) : cumM y m = tabM m + (if m ≤ 2 then 0 else lpN y) := by
  have e1 : cumM y 1 = 0 := rfl
  have e2 : cumM y 2 = 31 := rfl
  have e3 : cumM y 3 = 59 + lpN y := by rw [cum_succ y 2 (by omega), e2, long2]; omega
  have e4 : cumM y 4 = 90 + lpN y := by rw [cum_succ y 3 (by omega), e3, show longN y 3 = 31 from rfl]; omega
  have e5 : cumM y 5 = 120 + lpN y := by rw [cum_succ y 4 (by omega), e4, show longN y 4 = 30 from rfl]; omega
  have e6 : cumM y 6 = 151 + lpN y := by rw [cum_succ y 5 (by omega), e5, show longN y 5 = 31 from rfl]; omega
  have e7 : cumM y 7 = 181 + lpN y := by rw [cum_succ y 6 (by omega), e6, show longN y 6 = 30 from rfl]; omega
  have e8 : cumM y 8 = 212 + lpN y := by rw [cum_succ y 7 (by omega), e7, show longN y 7 = 31 from rfl]; omega
  have e9 : cumM y 9 = 243 + lpN y := by rw [cum_succ y 8 (by omega), e8, show longN y 8 = 31 from rfl]; omega
  have e10 : cumM y 10 = 273 + lpN y := by rw [cum_succ y 9 (by omega), e9, show longN y 9 = 30 from rfl]; omega
  have e11 : cumM y 11 = 304 + lpN y := by rw [cum_succ y 10 (by omega), e10, show longN y 10 = 31 from rfl]; omega
  have e12 : cumM y 12 = 334 + lpN y := by rw [cum_succ y 11 (by omega), e11, show longN y 11 = 30 from rfl]; omega
  have e13 : cumM y 13 = 365 + lpN y := by rw [cum_succ y 12 (by omega), e12, show longN y 12 = 31 from rfl]; omega
  have hm : m = 1 ∨ m = 2 ∨ m = 3 ∨ m = 4 ∨ m = 5 ∨ m = 6 ∨ m = 7 ∨ m = 8 ∨ m = 9 ∨ m = 10 ∨ m = 11 ∨ m = 12 ∨ m = 13 := by omega
  rcases hm with rfl | rfl | rfl | rfl | rfl | rfl | rfl | rfl | rfl | rfl | rfl | rfl | rfl
  · rw [e1]; rfl
  · rw [e2]; rfl
  · rw [e3]; rfl
  · rw [e4]; rfl
  · rw [e5]; rfl
  · rw [e6]; rfl
  · rw [e7]; rfl
  · rw [e8]; rfl
  · rw [e9]; rfl
  · rw [e10]; rfl
  · rw [e11]; rfl
  · rw [e12]; rfl
  · rw [e13]; rfl
theorem off_tab : ∀ m : Fin 13, 1 ≤ m.val → (153 * ((m.val + 9) % 12) + 2) / 5 + (if m.val ≤ 2 then 0 else 365) = tabM m.val + 306 := by decide
theorem daysZ_ref (y m d : Nat) (h : Valid y m d) : daysZ y m d = ahN y + cumM y m + d + 305 := by
  obtain ⟨h1, h2, h3, h4, h5, h6⟩ := h
  have hc := cum_tab y m h3 (by omega)
  have ho := off_tab ⟨m, by omega⟩ h3
  have hs := ah_step y h1
  have hb : (y - 1) / 400 * 146097 + cumN ((y - 1) % 400) = ahN y := A_closed (y - 1)
  have hb2 : y / 400 * 146097 + cumN (y % 400) = ahN (y + 1) := A_closed y
  dsimp only at ho
  rw [hc]
  unfold daysZ offN yy
  clear hc h2 h6
  generalize ahN (y + 1) = a1 at *
  generalize ahN y = a0 at *
  generalize lpN y = lp at *
  generalize tabM m = t at *
  generalize (153 * ((m + 9) % 12) + 2) / 5 = q at *
  by_cases c : m ≤ 2
  · rw [if_pos c] at ho ⊢
    rw [if_pos c, hb]
    omega
  · rw [if_neg c] at ho ⊢
    rw [if_neg c, hb2]
    omega
theorem long_bd (y m : Nat) : 28 ≤ longN y m ∧ longN y m ≤ 31 := by
  unfold longN
  repeat' split
  all_goals omega
theorem cum_le (y m d : Nat) (h : Valid y m d) : cumM y m + d ≤ 365 + lpN y := by
  obtain ⟨h1, h2, h3, h4, h5, h6⟩ := h
  have hc := cum_tab y (m + 1) (by omega) (by omega)
  rw [cum_succ y m h3] at hc
  have ht : tabM (m + 1) ≤ 365 := by
    have hm : m = 1 ∨ m = 2 ∨ m = 3 ∨ m = 4 ∨ m = 5 ∨ m = 6 ∨ m = 7 ∨ m = 8 ∨ m = 9 ∨ m = 10 ∨ m = 11 ∨ m = 12 := by omega
    rcases hm with rfl | rfl | rfl | rfl | rfl | rfl | rfl | rfl | rfl | rfl | rfl | rfl <;> decide
  split at hc <;> omega
theorem ah_mono (y : Nat) (h : 1 ≤ y) (j : Nat) : ahN y ≤ ahN (y + j) := by
  induction j with
  | zero => exact Nat.le_refl _
  | succ j ih =>
    have := ah_step (y + j) (by omega)
    show ahN y ≤ ahN (y + j + 1)
    omega
theorem ah_top : ahN 9999 = 3651694 := by decide
theorem ah_le (y : Nat) (h1 : 1 ≤ y) (h : y ≤ 9999) : ahN y ≤ 3651694 := by
  have := ah_mono y h1 (9999 - y)
  rw [show y + (9999 - y) = 9999 by omega, ah_top] at this
  exact this
theorem exists_date (L : Nat) (h : L ≤ 3652058) : ∃ y m d, Valid y m d ∧ L + 1 = ahN y + cumM y m + d := by
  induction L with
  | zero => exact ⟨1, 1, 1, by unfold Valid; decide, rfl⟩
  | succ L ih =>
    obtain ⟨y, m, d, hv, e⟩ := ih (by omega)
    have hv' := hv
    obtain ⟨h1, h2, h3, h4, h5, h6⟩ := hv'
    by_cases c1 : d < longN y m
    · exact ⟨y, m, d + 1, ⟨h1, h2, h3, h4, by omega, c1⟩, by omega⟩
    · have hd : d = longN y m := by omega
      by_cases c2 : m < 12
      · exact ⟨y, m + 1, 1, ⟨h1, h2, by omega, by omega, by omega, by have := (long_bd y (m + 1)).1; omega⟩, by rw [cum_succ y m h3]; omega⟩
      · obtain rfl : m = 12 := by omega
        have hl : longN y 12 = 31 := rfl
        have hc := cum_tab y 12 (by omega) (by omega)
        rw [if_neg (by omega), show tabM 12 = 334 from rfl] at hc
        by_cases c3 : y < 9999
        · have hs := ah_step y h1
          exact ⟨y + 1, 1, 1, ⟨by omega, by omega, by omega, by omega, by omega, by have := (long_bd (y + 1) 1).1; omega⟩, by rw [show cumM (y + 1) 1 = 0 from rfl]; omega⟩
        · obtain rfl : y = 9999 := by omega
          have hp : lpN 9999 = 0 := by decide
          have := ah_top
          omega

/-! ### the reference -/
theorem ahead_l0 (j : Nat) : ∀ k y kk : Nat, 1 ≤ kk → kk + j = y → y ≤ 9999 → j < k → lanternref14_ahead.l0 k (y : Int) (ahN kk : Int) (kk : Int) = some (ahN y : Int) := by
  induction j with
  | zero =>
    intro k y kk h1 h2 h3 h4
    obtain ⟨k, rfl⟩ : ∃ i, k = i + 1 := ⟨k - 1, by omega⟩
    obtain rfl : kk = y := by omega
    rw [lanternref14_ahead.l0, if_neg (by omega)]
  | succ j ih =>
    intro k y kk h1 h2 h3 h4
    obtain ⟨k, rfl⟩ : ∃ i, k = i + 1 := ⟨k - 1, by omega⟩
    have hs := ah_step kk h1
    have hl := ah_le (kk + 1) (by omega) (by omega)
    have ih' := ih k y (kk + 1) (by omega) (by omega) h3 (by omega)
    have e0 : wrap64 ((kk : Int) + 1) = ((kk + 1 : Nat) : Int) := wn (kk + 1) rfl (by omega)
    have e1 : wrap64 ((ahN kk : Int) + 365) = ((ahN kk + 365 : Nat) : Int) := wn (ahN kk + 365) rfl (by omega)
    rw [lanternref14_ahead.l0, if_pos (by omega), rleap_f, Option.bind_some, e0, e1]
    unfold lpN at hs
    cases hb : leapN kk with
    | true =>
      rw [hb, if_pos rfl] at hs
      have e2 : wrap64 (((ahN kk + 365 : Nat) : Int) + 1) = ((ahN (kk + 1) : Nat) : Int) := by rw [hs]; exact wn (ahN kk + 365 + 1) rfl (by omega)
      rw [if_pos rfl, e2]
      exact ih'
    | false =>
      rw [hb, if_neg (by simp)] at hs
      rw [if_neg (by simp), show ahN kk + 365 = ahN (kk + 1) by omega]
      exact ih'
theorem ahead_f (k y : Nat) (h1 : 1 ≤ y) (h2 : y ≤ 9999) (hk : 9999 < k) : lanternref14_ahead.f k (y : Int) = some (ahN y : Int) := by
  unfold lanternref14_ahead.f
  exact ahead_l0 (y - 1) k y 1 (by omega) (by omega) h2 (by omega)
theorem rdays_l0 (j : Nat) : ∀ (k y m kk D : Nat) (a : Int), 1 ≤ kk → kk + j = m → m ≤ 12 → D ≤ 31 → -10000000 ≤ a → a ≤ 10000000 → j < k →
    lanternref14_Days.l0 k (y : Int) (m : Int) (D : Int) (a + (cumM y kk : Int)) (kk : Int) = some (a + (cumM y m : Int) + (D : Int) - 1) := by
  induction j with
  | zero =>
    intro k y m kk D a h1 h2 h3 h4 h5 h6 h7
    obtain ⟨k, rfl⟩ : ∃ i, k = i + 1 := ⟨k - 1, by omega⟩
    obtain rfl : kk = m := by omega
    have hc := cum_tab y kk h1 (by omega)
    have hcb : cumM y kk ≤ 366 := by
      have hp := lpN_le y
      have ht : tabM kk ≤ 365 := by
        have hm : kk = 1 ∨ kk = 2 ∨ kk = 3 ∨ kk = 4 ∨ kk = 5 ∨ kk = 6 ∨ kk = 7 ∨ kk = 8 ∨ kk = 9 ∨ kk = 10 ∨ kk = 11 ∨ kk = 12 := by omega
        rcases hm with rfl | rfl | rfl | rfl | rfl | rfl | rfl | rfl | rfl | rfl | rfl | rfl <;> decide
      split at hc <;> omega
    have g1 : ¬ (kk : Int) < (kk : Int) := by omega
    have g2 : -9223372036854775808 ≤ a + (cumM y kk : Int) + (D : Int) := by omega
    have g3 : a + (cumM y kk : Int) + (D : Int) ≤ 9223372036854775807 := by omega
    have g4 : -9223372036854775808 ≤ a + (cumM y kk : Int) + (D : Int) - 1 := by omega
    have g5 : a + (cumM y kk : Int) + (D : Int) - 1 ≤ 9223372036854775807 := by omega
    rw [lanternref14_Days.l0, if_neg g1, wi _ g2 g3, wi _ g4 g5]
  | succ j ih =>
    intro k y m kk D a h1 h2 h3 h4 h5 h6 h7
    obtain ⟨k, rfl⟩ : ∃ i, k = i + 1 := ⟨k - 1, by omega⟩
    have ih' := ih k y m (kk + 1) D a (by omega) (by omega) h3 h4 h5 h6 (by omega)
    have hc := cum_tab y kk h1 (by omega)
    have hcb : cumM y kk ≤ 366 := by
      have hp := lpN_le y
      have ht : tabM kk ≤ 365 := by
        have hm : kk = 1 ∨ kk = 2 ∨ kk = 3 ∨ kk = 4 ∨ kk = 5 ∨ kk = 6 ∨ kk = 7 ∨ kk = 8 ∨ kk = 9 ∨ kk = 10 ∨ kk = 11 ∨ kk = 12 := by omega
        rcases hm with rfl | rfl | rfl | rfl | rfl | rfl | rfl | rfl | rfl | rfl | rfl | rfl <;> decide
      split at hc <;> omega
    have hlb := long_bd y kk
    have g1 : (kk : Int) < (m : Int) := by omega
    have g2 : kk + 1 ≤ 9223372036854775807 := by omega
    have g3 : a + (cumM y kk : Int) + (longN y kk : Int) = a + ((cumM y (kk + 1) : Nat) : Int) := by rw [cum_succ y kk h1]; omega
    have g4 : -9223372036854775808 ≤ a + (cumM y kk : Int) + (longN y kk : Int) := by omega
    have g5 : a + (cumM y kk : Int) + (longN y kk : Int) ≤ 9223372036854775807 := by omega
    rw [lanternref14_Days.l0, if_pos g1, rlong_f, Option.bind_some, wi _ g4 g5, g3, wn (x := (kk : Int) + 1) (kk + 1) rfl g2]
    exact ih'
theorem rdays_f (k y m d : Nat) (h : Valid y m d) (hk : 10000 < k) : lanternref14_Days.f k (y : Int) (m : Int) (d : Int) = some ((daysZ y m d : Int) - 719468) := by
  have hz := daysZ_ref y m d h
  have hd : d ≤ 31 := by have := (long_bd y m).2; have := h.2.2.2.2.2; omega
  obtain ⟨h1, h2, h3, h4, h5, h6⟩ := h
  have hl := ah_le y h1 h2
  unfold lanternref14_Days.f
  rw [ahead_f k y h1 h2 (by omega), Option.bind_some, wi ((ahN y : Int) - 719162) (by omega) (by omega)]
  have := rdays_l0 (m - 1) k y m 1 d ((ahN y : Int) - 719162) (by omega) (by omega) h4 hd (by omega) (by omega) (by omega)
  rw [show cumM y 1 = 0 from rfl, Int.natCast_zero, Int.add_zero] at this
  rw [show (1 : Int) = ((1 : Nat) : Int) from rfl] at *
  rw [this]
  congr 1
  omega
theorem civil_l1 (j : Nat) : ∀ (k y M D mm : Nat), 1 ≤ mm → mm + j = M → M ≤ 12 → 1 ≤ D → D ≤ longN y M → j < k →
    lanternref14_Civil.l1 k (((cumM y M + D - 1 - cumM y mm : Nat) : Int)) (y : Int) (mm : Int) = some ((y : Int), (M : Int), (D : Int)) := by
  induction j with
  | zero =>
    intro k y M D mm h1 h2 h3 h4 h5 h6
    obtain ⟨k, rfl⟩ : ∃ i, k = i + 1 := ⟨k - 1, by omega⟩
    obtain rfl : mm = M := by omega
    have hlb := long_bd y mm
    have e : cumM y mm + D - 1 - cumM y mm = D - 1 := by omega
    have g1 : ((D - 1 : Nat) : Int) + 1 = (D : Int) := by omega
    have g2 : D ≤ 9223372036854775807 := by omega
    have g3 : ¬ ((D - 1 : Nat) : Int) ≥ (longN y mm : Int) := by omega
    by_cases c : mm < 12
    · have g4 : (mm : Int) < 12 := by omega
      rw [e, lanternref14_Civil.l1, wn D g1 g2, if_pos g4, rlong_f, Option.bind_some, if_neg g3]
    · have g4 : ¬ (mm : Int) < 12 := by omega
      rw [e, lanternref14_Civil.l1, wn D g1 g2, if_neg g4]
  | succ j ih =>
    intro k y M D mm h1 h2 h3 h4 h5 h6
    obtain ⟨k, rfl⟩ : ∃ i, k = i + 1 := ⟨k - 1, by omega⟩
    have ih' := ih k y M D (mm + 1) (by omega) (by omega) h3 h4 h5 (by omega)
    have hlb := long_bd y mm
    have hs := cum_succ y mm h1
    have hge : cumM y (mm + 1) ≤ cumM y M := by
      clear ih ih'
      obtain ⟨i, rfl⟩ : ∃ i, M = mm + 1 + i := ⟨M - (mm + 1), by omega⟩
      clear h2 h3 h5
      induction i with
      | zero => exact Nat.le_refl _
      | succ i ihi =>
        have := cum_succ y (mm + 1 + i) (by omega)
        show _ ≤ cumM y (mm + 1 + i + 1)
        omega
    have hbig : cumM y M + D - 1 ≤ 10000 := by
      have hc := cum_tab y M (by omega) (by omega)
      have hp := lpN_le y
      have ht : tabM M ≤ 365 := by
        have hm : M = 1 ∨ M = 2 ∨ M = 3 ∨ M = 4 ∨ M = 5 ∨ M = 6 ∨ M = 7 ∨ M = 8 ∨ M = 9 ∨ M = 10 ∨ M = 11 ∨ M = 12 := by omega
        rcases hm with rfl | rfl | rfl | rfl | rfl | rfl | rfl | rfl | rfl | rfl | rfl | rfl <;> decide
      have := (long_bd y M).2
      split at hc <;> omega
    have g1 : (mm : Int) < 12 := by omega
    have g2 : mm + 1 ≤ 9223372036854775807 := by omega
    have g3 : ((cumM y M + D - 1 - cumM y mm : Nat) : Int) - (longN y mm : Int) = ((cumM y M + D - 1 - cumM y (mm + 1) : Nat) : Int) := by omega
    have g4 : cumM y M + D - 1 - cumM y (mm + 1) ≤ 9223372036854775807 := by omega
    have g5 : ((cumM y M + D - 1 - cumM y mm : Nat) : Int) ≥ (longN y mm : Int) := by omega
    rw [lanternref14_Civil.l1, if_pos g1, rlong_f, Option.bind_some, if_pos g5, Option.bind_some, wn _ g3 g4, wn (x := (mm : Int) + 1) (mm + 1) rfl g2]
    exact ih'
theorem civil_l0 (j : Nat) : ∀ (k Y M D y : Nat), Valid Y M D → 1 ≤ y → y + j = Y → j + 20 < k →
    lanternref14_Civil.l0 k (((ahN Y + cumM Y M + D - 1 - ahN y : Nat) : Int)) (y : Int) = some ((Y : Int), (M : Int), (D : Int)) := by
  induction j with
  | zero =>
    intro k Y M D y hv h1 h2 h3
    obtain ⟨k, rfl⟩ : ∃ i, k = i + 2 := ⟨k - 2, by omega⟩
    obtain rfl : y = Y := by omega
    have hcl := cum_le y M D hv
    obtain ⟨v1, v2, v3, v4, v5, v6⟩ := hv
    have hl := civil_l1 (M - 1) k y M D 1 (by omega) (by omega) v4 v5 v6 (by omega)
    rw [show cumM y 1 = 0 from rfl, Nat.sub_zero] at hl
    have hj : lanternref14_Civil.j2 (k + 1) (((cumM y M + D - 1 : Nat) : Int)) (y : Int) = some ((y : Int), (M : Int), (D : Int)) := by
      rw [lanternref14_Civil.j2]
      exact hl
    rw [show ahN y + cumM y M + D - 1 - ahN y = cumM y M + D - 1 by omega, lanternref14_Civil.l0]
    by_cases c : y < 9999
    · rw [if_pos (by omega), rleap_f, Option.bind_some]
      unfold lpN at hcl
      cases hb : leapN y with
      | true =>
        rw [hb, if_pos rfl] at hcl
        rw [if_pos rfl, if_pos (by omega)]
        exact hj
      | false =>
        rw [hb, if_neg (by simp)] at hcl
        rw [if_neg (by simp), if_pos (by omega)]
        exact hj
    · rw [if_neg (by omega)]
      exact hj
  | succ j ih =>
    intro k Y M D y hv h1 h2 h3
    obtain ⟨k, rfl⟩ : ∃ i, k = i + 1 := ⟨k - 1, by omega⟩
    have hcl := cum_le Y M D hv
    have ih' := ih k Y M D (y + 1) hv (by omega) (by omega) (by omega)
    obtain ⟨v1, v2, v3, v4, v5, v6⟩ := hv
    have hs := ah_step y h1
    have hm := ah_mono (y + 1) (by omega) j
    rw [show y + 1 + j = Y by omega] at hm
    have hle := ah_le Y v1 v2
    have hp := lpN_le Y
    have g0 : (y : Int) < 9999 := by omega
    have g1 : y + 1 ≤ 9223372036854775807 := by omega
    have g4 : ahN Y + cumM Y M + D - 1 - ahN (y + 1) ≤ 9223372036854775807 := by omega
    unfold lpN at hs
    cases hb : leapN y with
    | true =>
      rw [hb, if_pos rfl] at hs
      have g2 : ((ahN Y + cumM Y M + D - 1 - ahN y : Nat) : Int) - 366 = ((ahN Y + cumM Y M + D - 1 - ahN (y + 1) : Nat) : Int) := by omega
      have g3 : ¬ ((ahN Y + cumM Y M + D - 1 - ahN y : Nat) : Int) < 366 := by omega
      rw [lanternref14_Civil.l0, if_pos g0, rleap_f, Option.bind_some, hb, if_pos rfl, if_neg g3, wn _ g2 g4, wn (x := (y : Int) + 1) (y + 1) rfl g1]
      exact ih'
    | false =>
      rw [hb, if_neg (by simp)] at hs
      have g2 : ((ahN Y + cumM Y M + D - 1 - ahN y : Nat) : Int) - 365 = ((ahN Y + cumM Y M + D - 1 - ahN (y + 1) : Nat) : Int) := by omega
      have g3 : ¬ ((ahN Y + cumM Y M + D - 1 - ahN y : Nat) : Int) < 365 := by omega
      rw [lanternref14_Civil.l0, if_pos g0, rleap_f, Option.bind_some, hb, if_neg (by simp), if_neg g3, wn _ g2 g4, wn (x := (y : Int) + 1) (y + 1) rfl g1]
      exact ih'
theorem rcivil_f (k Y M D : Nat) (hv : Valid Y M D) (hk : 10030 < k) : lanternref14_Civil.f k ((daysZ Y M D : Int) - 719468) = some ((Y : Int), (M : Int), (D : Int)) := by
  obtain ⟨k, rfl⟩ : ∃ i, k = i + 1 := ⟨k - 1, by omega⟩
  have hz := daysZ_ref Y M D hv
  have hb := daysZ_le Y M D hv
  have hl := civil_l0 (Y - 1) k Y M D 1 hv (by omega) (by have := hv.1; omega) (by have := hv.2.1; omega)
  have hd1 := hv.2.2.2.2.1
  have e1 : ((ahN Y + cumM Y M + D - 1 - ahN 1 : Nat) : Int) = (daysZ Y M D : Int) - 306 := by rw [show ahN 1 = 0 from rfl]; omega
  rw [e1] at hl
  unfold lanternref14_Civil.f
  rw [if_neg (by omega), decide_eq_false (by omega), lanternref14_Civil.j0, if_neg (by simp), wi ((daysZ Y M D : Int) - 719468 + 719162) (by omega) (by omega), show (daysZ Y M D : Int) - 719468 + 719162 = (daysZ Y M D : Int) - 306 by omega]
  exact hl
theorem rcivil_no (k : Nat) (n : Int) (h : n < -719162 ∨ 2932896 < n) (hk : 0 < k) : lanternref14_Civil.f k n = some (0, 0, 0) := by
  obtain ⟨k, rfl⟩ : ∃ i, k = i + 1 := ⟨k - 1, by omega⟩
  unfold lanternref14_Civil.f
  by_cases c : n < -719162
  · rw [if_pos c, lanternref14_Civil.j0, if_pos rfl]
  · rw [if_neg c, decide_eq_true (by omega), lanternref14_Civil.j0, if_pos rfl]

/-! ### the program's Civil -/
theorem tdw (a b c : Nat) (h : a / b = c) (hc : c ≤ 9223372036854775807) : wrap64 (Int.tdiv (a : Int) (b : Int)) = (c : Int) := by
  subst h; exact wz _ hc
theorem ce4 (K r : Nat) (hK : K < 146097) (hn : nOf K = r) : wrap64 (Int.tdiv (wrap64 ((wrap64 ((wrap64 ((K : Int) - (wrap64 (Int.tdiv (K : Int) 1460)))) + (wrap64 (Int.tdiv (K : Int) 36524)))) - (wrap64 (Int.tdiv (K : Int) 146096)))) 365) = (r : Int) := by
  have hk1 : K / 1460 ≤ K := Nat.div_le_self _ _
  have b1 : K / 1460 ≤ 9223372036854775807 := by omega
  have b2 : K / 36524 ≤ 9223372036854775807 := by omega
  have b3 : K / 146096 ≤ 9223372036854775807 := by omega
  have s1 : (K : Int) - ((K / 1460 : Nat) : Int) = ((K - K / 1460 : Nat) : Int) := by omega
  have s2 : ((K - K / 1460 : Nat) : Int) + ((K / 36524 : Nat) : Int) = ((K - K / 1460 + K / 36524 : Nat) : Int) := by omega
  have s3 : ((K - K / 1460 + K / 36524 : Nat) : Int) - ((K / 146096 : Nat) : Int) = ((K - K / 1460 + K / 36524 - K / 146096 : Nat) : Int) := by omega
  have c1 : K - K / 1460 ≤ 9223372036854775807 := by omega
  have c2 : K - K / 1460 + K / 36524 ≤ 9223372036854775807 := by omega
  have c3 : K - K / 1460 + K / 36524 - K / 146096 ≤ 9223372036854775807 := by omega
  have c4 : (K - K / 1460 + K / 36524 - K / 146096) / 365 ≤ 9223372036854775807 := by omega
  have t1 := tdw K 1460 _ rfl b1
  have t2 := tdw K 36524 _ rfl b2
  have t3 := tdw K 146096 _ rfl b3
  have t4 := tdw (K - K / 1460 + K / 36524 - K / 146096) 365 _ rfl c4
  have e1 := wn _ s1 c1
  have e2 := wn _ s2 c2
  have e3 := wn _ s3 c3
  subst hn
  rw [show (1460 : Int) = ((1460 : Nat) : Int) from rfl, show (36524 : Int) = ((36524 : Nat) : Int) from rfl, show (146096 : Int) = ((146096 : Nat) : Int) from rfl, show (365 : Int) = ((365 : Nat) : Int) from rfl, t1, t2, t3, e1, e2, e3, t4]
  rfl
theorem ce5 (K r o : Nat) (hr : r < 400) (ho : o ≤ 365) (h : K = cumN r + o) : wrap64 ((K : Int) - (wrap64 ((wrap64 ((wrap64 (365 * (r : Int))) + (wrap64 (Int.tdiv (r : Int) 4)))) - (wrap64 (Int.tdiv (r : Int) 100))))) = (o : Int) := by
  have hcu : cumN r = 365 * r + r / 4 - r / 100 := rfl
  have b1 : r / 4 ≤ 9223372036854775807 := by omega
  have b2 : r / 100 ≤ 9223372036854775807 := by omega
  have s1 : 365 * (r : Int) = ((365 * r : Nat) : Int) := by omega
  have s2 : ((365 * r : Nat) : Int) + ((r / 4 : Nat) : Int) = ((365 * r + r / 4 : Nat) : Int) := by omega
  have s3 : ((365 * r + r / 4 : Nat) : Int) - ((r / 100 : Nat) : Int) = ((365 * r + r / 4 - r / 100 : Nat) : Int) := by omega
  have s4 : (K : Int) - ((365 * r + r / 4 - r / 100 : Nat) : Int) = (o : Int) := by omega
  have c1 : 365 * r ≤ 9223372036854775807 := by omega
  have c2 : 365 * r + r / 4 ≤ 9223372036854775807 := by omega
  have c3 : 365 * r + r / 4 - r / 100 ≤ 9223372036854775807 := by omega
  have c4 : o ≤ 9223372036854775807 := by omega
  have t1 := tdw r 4 _ rfl b1
  have t2 := tdw r 100 _ rfl b2
  have e1 := wn _ s1 c1
  have e2 := wn _ s2 c2
  have e3 := wn _ s3 c3
  have e4 := wn _ s4 c4
  rw [show (4 : Int) = ((4 : Nat) : Int) from rfl, show (100 : Int) = ((100 : Nat) : Int) from rfl, t1, t2, e1, e2, e3, e4]
theorem ce6 (o p : Nat) (ho : o ≤ 365) (hp : (5 * o + 2) / 153 = p) : wrap64 (Int.tdiv (wrap64 ((wrap64 (5 * (o : Int))) + 2)) 153) = (p : Int) := by
  have s1 : 5 * (o : Int) = ((5 * o : Nat) : Int) := by omega
  have s2 : ((5 * o : Nat) : Int) + 2 = ((5 * o + 2 : Nat) : Int) := by omega
  have c1 : 5 * o ≤ 9223372036854775807 := by omega
  have c2 : 5 * o + 2 ≤ 9223372036854775807 := by omega
  have c3 : p ≤ 9223372036854775807 := by omega
  have t := tdw (5 * o + 2) 153 p hp c3
  have e1 := wn _ s1 c1
  have e2 := wn _ s2 c2
  rw [show (153 : Int) = ((153 : Nat) : Int) from rfl, e1, e2, t]
theorem ce7 (p m : Nat) (hp : p ≤ 20) (hm : (p + 2) % 12 + 1 = m) : wrap64 ((Int.tmod (wrap64 ((p : Int) + 2)) 12) + 1) = (m : Int) := by
  have s1 : (p : Int) + 2 = ((p + 2 : Nat) : Int) := by omega
  have s2 : (((p + 2) % 12 : Nat) : Int) + 1 = (m : Int) := by omega
  have c1 : p + 2 ≤ 9223372036854775807 := by omega
  have c2 : m ≤ 9223372036854775807 := by omega
  have e1 := wn _ s1 c1
  have e2 := wn _ s2 c2
  rw [show (12 : Int) = ((12 : Nat) : Int) from rfl, e1, tm, e2]
theorem ce8 (o p d : Nat) (ho : o ≤ 365) (hp : p ≤ 20) (hp1 : (153 * p + 2) / 5 ≤ o) (hd : o - (153 * p + 2) / 5 + 1 = d) : wrap64 ((wrap64 ((o : Int) - (wrap64 (Int.tdiv (wrap64 ((wrap64 (153 * (p : Int))) + 2)) 5)))) + 1) = (d : Int) := by
  have s1 : 153 * (p : Int) = ((153 * p : Nat) : Int) := by omega
  have s2 : ((153 * p : Nat) : Int) + 2 = ((153 * p + 2 : Nat) : Int) := by omega
  have s3 : (o : Int) - (((153 * p + 2) / 5 : Nat) : Int) = ((o - (153 * p + 2) / 5 : Nat) : Int) := by omega
  have s4 : ((o - (153 * p + 2) / 5 : Nat) : Int) + 1 = (d : Int) := by omega
  have c1 : 153 * p ≤ 9223372036854775807 := by omega
  have c2 : 153 * p + 2 ≤ 9223372036854775807 := by omega
  have c3 : o - (153 * p + 2) / 5 ≤ 9223372036854775807 := by omega
  have c4 : d ≤ 9223372036854775807 := by omega
  have c5 : (153 * p + 2) / 5 ≤ 9223372036854775807 := by omega
  have t := tdw (153 * p + 2) 5 _ rfl c5
  have e1 := wn _ s1 c1
  have e2 := wn _ s2 c2
  have e3 := wn _ s3 c3
  have e4 := wn _ s4 c4
  rw [show (5 : Int) = ((5 : Nat) : Int) from rfl, e1, e2, t, e3, e4]
theorem ce9 (e r : Nat) (he : e ≤ 24) (hr : r < 400) : wrap64 ((wrap64 ((e : Int) * 400)) + (r : Int)) = ((e * 400 + r : Nat) : Int) := by
  have c1 : e * 400 ≤ 9223372036854775807 := by omega
  have c0 : e * 400 ≤ 9600 := by omega
  have c2 : e * 400 + r ≤ 9223372036854775807 := Nat.le_trans (Nat.add_le_add c0 (Nat.le_of_lt hr)) (by decide)
  have s1 : (e : Int) * 400 = ((e * 400 : Nat) : Int) := by rfl
  have s2 : ((e * 400 : Nat) : Int) + (r : Int) = ((e * 400 + r : Nat) : Int) := by rfl
  have e1 := wn _ s1 c1
  have e2 := wn _ s2 c2
  rw [e1, e2]
theorem civil_j0 (k y m d : Nat) (h : Valid y m d) : date_Civil.j0 (k + 1) ((daysZ y m d : Int) - 719468) false = some ((y : Int), (m : Int), (d : Int), 0) := by
  obtain ⟨e, r, o, hyy, hr, ho, ho2, hdz, hK, hn, hm, hp1, hd, hz1, hz2⟩ := days_parts y m d h
  obtain ⟨h1, h2, h3, h4, h5, h6⟩ := h
  generalize daysZ y m d = Z at *
  obtain ⟨K, hKe⟩ : ∃ K, K = cumN r + o := ⟨_, rfl⟩
  rw [← hKe] at hdz hK hn
  obtain ⟨p, hp⟩ : ∃ p, (5 * o + 2) / 153 = p := ⟨_, rfl⟩
  rw [hp] at hm hp1 hd
  have hpl : p ≤ 20 := by omega
  have he : e ≤ 24 := by omega
  have hy2 : yy y m = e * 400 + r := by omega
  have z1 : (Z : Int) - 719468 + 719468 = (Z : Int) := by omega
  have z2 : Z ≤ 9223372036854775807 := by omega
  have z3 : Z % 146097 = K := by omega
  have z4 : Z / 146097 = e := by omega
  have z5 : e ≤ 9223372036854775807 := by omega
  have y1 : m ≤ 2 → ((e * 400 + r : Nat) : Int) + 1 = (y : Int) := by intro c; unfold yy at hy2; rw [if_pos c] at hy2; omega
  have y2 : ¬ m ≤ 2 → ((e * 400 + r : Nat) : Int) = (y : Int) := by intro c; unfold yy at hy2; rw [if_neg c] at hy2; omega
  have y3 : y ≤ 9223372036854775807 := by omega
  have m1 : m ≤ 2 → (m : Int) ≤ 2 := by omega
  have m2 : ¬ m ≤ 2 → ¬ (m : Int) ≤ 2 := by omega
  have e1 := wn _ z1 z2
  have e2 : Int.tmod (Z : Int) 146097 = (K : Int) := by rw [show (146097 : Int) = ((146097 : Nat) : Int) from rfl, tm, z3]
  have e3 : wrap64 (Int.tdiv (Z : Int) 146097) = (e : Int) := by rw [show (146097 : Int) = ((146097 : Nat) : Int) from rfl]; exact tdw Z 146097 e z4 z5
  have e4 := ce4 K r hK hn
  have e5 := ce5 K r o hr ho2 hKe
  have e6 := ce6 o p ho2 hp
  have e7 := ce7 p m hpl hm
  have e8 := ce8 o p d ho2 hpl hp1 hd
  have e9 := ce9 e r he hr
  rw [date_Civil.j0, if_neg (by simp), e1, e2, e3, e4, e5, e6, e7, e8, e9]
  by_cases c : m ≤ 2
  · rw [if_pos (m1 c), wn y (y1 c) y3]
  · rw [if_neg (m2 c), y2 c]
theorem days_first (k : Nat) (hk : 5 < k) : date_Days.f k 1 1 1 = some (-719162, 0) := by
  have := days_f k 1 1 1 (by unfold Valid; decide) hk
  rw [show daysZ 1 1 1 = 306 by decide] at this
  exact this
theorem days_last (k : Nat) (hk : 5 < k) : date_Days.f k 9999 12 31 = some (2932896, 0) := by
  have := days_f k 9999 12 31 (by unfold Valid; decide) hk
  rw [show daysZ 9999 12 31 = 3652364 by decide] at this
  exact this
theorem civil_f (k y m d : Nat) (h : Valid y m d) (hk : 5 < k) : date_Civil.f k ((daysZ y m d : Int) - 719468) = some ((y : Int), (m : Int), (d : Int), 0) := by
  have hb := daysZ_le y m d h
  unfold date_Civil.f
  rw [days_first k hk, days_last k hk, Option.bind_some, Option.bind_some, if_neg (by dsimp only; omega), decide_eq_false (by dsimp only; omega)]
  obtain ⟨k, rfl⟩ : ∃ i, k = i + 1 := ⟨k - 1, by omega⟩
  exact civil_j0 k y m d h
theorem civil_no (k : Nat) (n : Int) (h : n < -719162 ∨ 2932896 < n) (hk : 5 < k) : date_Civil.f k n = some (0, 0, 0, 1) := by
  unfold date_Civil.f
  rw [days_first k hk, days_last k hk, Option.bind_some, Option.bind_some]
  obtain ⟨k, rfl⟩ : ∃ i, k = i + 1 := ⟨k - 1, by omega⟩
  by_cases c : n < -719162
  · rw [if_pos c, date_Civil.j0, if_pos rfl]
  · rw [if_neg c, decide_eq_true (by dsimp only; omega), date_Civil.j0, if_pos rfl]
/-- Days that stand for a date. -/
theorem date_of (n : Int) (h1 : -719162 ≤ n) (h2 : n ≤ 2932896) : ∃ y m d : Nat, Valid y m d ∧ n = (daysZ y m d : Int) - 719468 := by
  obtain ⟨L, hL⟩ : ∃ L : Nat, n + 719162 = L := ⟨(n + 719162).toNat, by omega⟩
  obtain ⟨y, m, d, hv, he⟩ := exists_date L (by omega)
  have := daysZ_ref y m d hv
  exact ⟨y, m, d, hv, by omega⟩
theorem date_inj (y m d a b c : Nat) (h : Valid y m d) (h' : Valid a b c) (e : daysZ y m d = daysZ a b c) : y = a ∧ m = b ∧ d = c := by
  have e1 := civil_f 10 y m d h (by omega)
  rw [e, civil_f 10 a b c h' (by omega)] at e1
  simp only [Option.some.injEq, Prod.mk.injEq, Int.natCast_inj] at e1
  obtain ⟨rfl, rfl, rfl, _⟩ := e1
  exact ⟨rfl, rfl, rfl⟩
end Go.Proofs.YtlbgphddhjnlcaaGreatDoor.Q
