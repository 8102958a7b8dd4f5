/- Dates as days: the reference's Days and Civil, and the program's Civil, are the one formula and its inverse. -/
import Derived.Test.YtlbgphddhjnlcaaGreatDoorA2
set_option linter.unusedSimpArgs false
set_option linter.unusedVariables false
namespace Go.Proofs.YtlbgphddhjnlcaaGreatDoor.Q
open Go Go.RowKit Go.Lib Go.Proofs.YtlbgphddhjnlcaaGreatDoorW.PrintWords Go.Proofs.YtlbgphddhjnlcaaGreatDoor.E Go.Proofs.YtlbgphddhjnlcaaGreatDoor.P

def ahN (y : Nat) : Nat := 365 * (y - 1) + (y - 1) / 4 - (y - 1) / 100 + (y - 1) / 400
def lpN (y : Nat) : Nat := if leapN y then 1 else 0
def cumM (y : Nat) : Nat → Nat
  | 0 => 0
  | 1 => 0
  | m + 2 => cumM y (m + 1) + longN y (m + 1)
theorem lpN_le (y : Nat) : lpN y ≤ 1 := by unfold lpN; split <;> omega
theorem cum_succ (y m : Nat) (h : 1 ≤ m) : cumM y (m + 1) = cumM y m + longN y m := by
  cases m with
  | zero => omega
  | succ m => rfl
theorem A_closed (y : Nat) : y / 400 * 146097 + cumN (y % 400) = 365 * y + y / 4 - y / 100 + y / 400 := by
  unfold cumN; omega
theorem ah_step (y : Nat) (h : 1 ≤ y) : ahN (y + 1) = ahN y + 365 + lpN y := by
  obtain ⟨z, rfl⟩ : ∃ z, y = z + 1 := ⟨y - 1, by omega⟩
  unfold ahN lpN leapN
  rw [Nat.add_sub_cancel, Nat.add_sub_cancel]
  by_cases c4 : (z + 1) % 4 = 0
  · by_cases c100 : (z + 1) % 100 = 0
    · by_cases c400 : (z + 1) % 400 = 0
      · rw [c4, c100, c400]; simp; omega
      · have : ((z + 1) % 400 == 0) = false := beq_eq_false_iff_ne.mpr c400
        rw [c4, c100, this]; simp; omega
    · have : ((z + 1) % 100 != 0) = true := by simpa using c100
      rw [c4, this]; simp; omega
  · have : ((z + 1) % 4 == 0) = false := beq_eq_false_iff_ne.mpr c4
    rw [this]; simp; omega
theorem long2 (y : Nat) : longN y 2 = 28 + lpN y := by
  unfold longN lpN
  rw [if_pos rfl]
  cases leapN y <;> rfl
def tabM : Nat → Nat
  | 1 => 0 | 2 => 31 | 3 => 59 | 4 => 90 | 5 => 120 | 6 => 151 | 7 => 181 | 8 => 212 | 9 => 243 | 10 => 273 | 11 => 304 | 12 => 334 | _ => 365
theorem cum_tab (y m : Nat) (h1 : 1 ≤ m) (h2 : m ≤ 13) : cumM y m = tabM m + (if m ≤ 2 then 0 else lpN y) := by
  have e1 : cumM y 1 = 0 := rfl
  have e2 : cumM y 2 = 31 := rfl
  have e3 : cumM y 3 = 59 + lpN y := by rw [cum_succ y 2 (by omega), e2, long2]; omega
  have e4 : cumM y 4 = 90 + lpN y := by rw [cum_succ y 3 (by omega), e3, show longN y 3 = 31 from rfl]; omega
  have e5 : cumM y 5 = 120 + lpN y := by rw [cum_succ y 4 (by omega), e4, show longN y 4 = 30 from rfl]; omega
  have e6 : cumM y 6 = 151 + lpN y := by rw [cum_succ y 5 (by omega), e5, show longN y 5 = 31 from rfl]; omega
  have e7 : cumM y 7 = 181 + lpN y := by rw [cum_succ y 6 (by omega), e6, show longN y 6 = 30 from rfl]; omega
  have e8 : cumM y 8 = 212 + lpN y := by rw [cum_succ y 7 (by omega), e7, show longN y 7 = 31 from rfl]; omega
  have e9 : cumM y 9 = 243 + lpN y := by rw [cum_succ y 8 (by omega), e8, show longN y 8 = 31 from rfl]; omega
  have e10 : cumM y 10 = 273 + lpN y := by rw [cum_succ y 9 (by omega), e9, show longN y 9 = 30 from rfl]; omega
  have e11 : cumM y 11 = 304 + lpN y := by rw [cum_succ y 10 (by omega), e10, show longN y 10 = 31 from rfl]; omega
  have e12 : cumM y 12 = 334 + lpN y := by rw [cum_succ y 11 (by omega), e11, show longN y 11 = 30 from rfl]; omega
  have e13 : cumM y 13 = 365 + lpN y := by rw [cum_succ y 12 (by omega), e12, show longN y 12 = 31 from rfl]; omega
  have hm : m = 1 ∨ m = 2 ∨ m = 3 ∨ m = 4 ∨ m = 5 ∨ m = 6 ∨ m = 7 ∨ m = 8 ∨ m = 9 ∨ m = 10 ∨ m = 11 ∨ m = 12 ∨ m = 13 := by omega
  rcases hm with rfl | rfl | rfl | rfl | rfl | rfl | rfl | rfl | rfl | rfl | rfl | rfl | rfl
  · rw [e1]; rfl
  · rw [e2]; rfl
  · rw [e3]; rfl
  · rw [e4]; rfl
  · rw [e5]; rfl
  · rw [e6]; rfl
  · rw [e7]; rfl
  · rw [e8]; rfl
  · rw [e9]; rfl
  · rw [e10]; rfl
  · rw [e11]; rfl
  · rw [e12]; rfl
  · rw [e13]; rfl
theorem off_tab : ∀ m : Fin 13, 1 ≤ m.val → (153 * ((m.val + 9) % 12) + 2) / 5 + (if m.val ≤ 2 then 0 else 365) = tabM m.val + 306 := by decide
theorem daysZ_ref (y m d : Nat) (h : Valid y m d) : daysZ y m d = ahN y + cumM y m + d + 305 := by
  obtain ⟨h1, h2, h3, h4, h5, h6⟩ := h
  have hc := cum_tab y m h3 (by omega)
  have ho := off_tab ⟨m, by omega⟩ h3
  have hs := ah_step y h1
  have hb : (y - 1) / 400 * 146097 + cumN ((y - 1) % 400) = ahN y := A_closed (y - 1)
  have hb2 : y / 400 * 146097 + cumN (y % 400) = ahN (y + 1) := A_closed y
  dsimp only at ho
  rw [hc]
  unfold daysZ offN yy
  clear hc h2 h6
  generalize ahN (y + 1) = a1 at *
  generalize ahN y = a0 at *
  generalize lpN y = lp at *
  generalize tabM m = t at *
  generalize (153 * ((m + 9) % 12) + 2) / 5 = q at *
  by_cases c : m ≤ 2
  · rw [if_pos c] at ho ⊢
    rw [if_pos c, hb]
    omega
  · rw [if_neg c] at ho ⊢
    rw [if_neg c, hb2]
    omega
theorem long_bd (y m : Nat) : 28 ≤ longN y m ∧ longN y m ≤ 31 := by
  unfold longN
  repeat' split
  all_goals omega
theorem cum_le (y m d : Nat) (h : Valid y m d) : cumM y m + d ≤ 365 + lpN y := by
  obtain ⟨h1, h2, h3, h4, h5, h6⟩ := h
  have hc := cum_tab y (m + 1) (by omega) (by omega)
  rw [cum_succ y m h3] at hc
  have ht : tabM (m + 1) ≤ 365 := by
    have hm : m = 1 ∨ m = 2 ∨ m = 3 ∨ m = 4 ∨ m = 5 ∨ m = 6 ∨ m = 7 ∨ m = 8 ∨ m = 9 ∨ m = 10 ∨ m = 11 ∨ m = 12 := by omega
    rcases hm with rfl | rfl | rfl | rfl | rfl | rfl | rfl | rfl | rfl | rfl | rfl | rfl <;> decide
  split at hc <;> omega
theorem ah_mono (y : Nat) (h : 1 ≤ y) (j : Nat) : ahN y ≤ ahN (y + j) := by
  induction j with
  | zero => exact Nat.le_refl _
  | succ j ih =>
    have := ah_step (y + j) (by omega)
    show ahN y ≤ ahN (y + j + 1)
    omega
theorem ah_top : ahN 9999 = 3651694 := by decide
theorem ah_le (y : Nat) (h1 : 1 ≤ y) (h : y ≤ 9999) : ahN y ≤ 3651694 := by
  have := ah_mono y h1 (9999 - y)
  rw [show y + (9999 - y) = 9999 by omega, ah_top] at this
  exact this
theorem exists_date (L : Nat) (h : L ≤ 3652058) : ∃ y m d, Valid y m d ∧ L + 1 = ahN y + cumM y m + d := by
  induction L with
  | zero => exact ⟨1, 1, 1, by unfold Valid; decide, rfl⟩
  | succ L ih =>
    obtain ⟨y, m, d, hv, e⟩ := ih (by omega)
    have hv' := hv
    obtain ⟨h1, h2, h3, h4, h5, h6⟩ := hv'
    by_cases c1 : d < longN y m
    · exact ⟨y, m, d + 1, ⟨h1, h2, h3, h4, by omega, c1⟩, by omega⟩
    · have hd : d = longN y m := by omega
      by_cases c2 : m < 12
      · exact ⟨y, m + 1, 1, ⟨h1, h2, by omega, by omega, by omega, by have := (long_bd y (m + 1)).1; omega⟩, by rw [cum_succ y m h3]; omega⟩
      · obtain rfl : m = 12 := by omega
        have hl : longN y 12 = 31 := rfl
        have hc := cum_tab y 12 (by omega) (by omega)
        rw [if_neg (by omega), show tabM 12 = 334 from rfl] at hc
        by_cases c3 : y < 9999
        · have hs := ah_step y h1
          exact ⟨y + 1, 1, 1, ⟨by omega, by omega, by omega, by omega, by omega, by have := (long_bd (y + 1) 1).1; omega⟩, by rw [show cumM (y + 1) 1 = 0 from rfl]; omega⟩
        · obtain rfl : y = 9999 := by omega
          have hp : lpN 9999 = 0 := by decide
          have := ah_top
          omega

/-! ### the reference -/
theorem civil_l1 (j : Nat) : ∀ (k y M D mm : Nat), 1 ≤ mm → mm + j = M → M ≤ 12 → 1 ≤ D → D ≤ longN y M → j < k →
    lanternref14_Civil.l1 k (((cumM y M + D - 1 - cumM y mm : Nat) : Int)) (y : Int) (mm : Int) = some ((y : Int), (M : Int), (D : Int)) := by
  induction j with
  | zero =>
    intro k y M D mm h1 h2 h3 h4 h5 h6
    obtain ⟨k, rfl⟩ : ∃ i, k = i + 1 := ⟨k - 1, by omega⟩
    obtain rfl : mm = M := by omega
    have hlb := long_bd y mm
    have e : cumM y mm + D - 1 - cumM y mm = D - 1 := by omega
    have g1 : ((D - 1 : Nat) : Int) + 1 = (D : Int) := by omega
    have g2 : D ≤ 9223372036854775807 := by omega
    have g3 : ¬ ((D - 1 : Nat) : Int) ≥ (longN y mm : Int) := by omega
    by_cases c : mm < 12
    · have g4 : (mm : Int) < 12 := by omega
      rw [e, lanternref14_Civil.l1, wn D g1 g2, if_pos g4, rlong_f, Option.bind_some, if_neg g3]
    · have g4 : ¬ (mm : Int) < 12 := by omega
      rw [e, lanternref14_Civil.l1, wn D g1 g2, if_neg g4]
  | succ j ih =>
    intro k y M D mm h1 h2 h3 h4 h5 h6
    obtain ⟨k, rfl⟩ : ∃ i, k = i + 1 := ⟨k - 1, by omega⟩
    have ih' := ih k y M D (mm + 1) (by omega) (by omega) h3 h4 h5 (by omega)
    have hlb := long_bd y mm
    have hs := cum_succ y mm h1
    have hge : cumM y (mm + 1) ≤ cumM y M := by
      clear ih ih'
      obtain ⟨i, rfl⟩ : ∃ i, M = mm + 1 + i := ⟨M - (mm + 1), by omega⟩
      clear h2 h3 h5
      induction i with
      | zero => exact Nat.le_refl _
      | succ i ihi =>
        have := cum_succ y (mm + 1 + i) (by omega)
        show _ ≤ cumM y (mm + 1 + i + 1)
        omega
    have hbig : cumM y M + D - 1 ≤ 10000 := by
      have hc := cum_tab y M (by omega) (by omega)
      have hp := lpN_le y
      have ht : tabM M ≤ 365 := by
        have hm : M = 1 ∨ M = 2 ∨ M = 3 ∨ M = 4 ∨ M = 5 ∨ M = 6 ∨ M = 7 ∨ M = 8 ∨ M = 9 ∨ M = 10 ∨ M = 11 ∨ M = 12 := by omega
        rcases hm with rfl | rfl | rfl | rfl | rfl | rfl | rfl | rfl | rfl | rfl | rfl | rfl <;> decide
      have := (long_bd y M).2
      split at hc <;> omega
    have g1 : (mm : Int) < 12 := by omega
    have g2 : mm + 1 ≤ 9223372036854775807 := by omega
    have g3 : ((cumM y M + D - 1 - cumM y mm : Nat) : Int) - (longN y mm : Int) = ((cumM y M + D - 1 - cumM y (mm + 1) : Nat) : Int) := by omega
    have g4 : cumM y M + D - 1 - cumM y (mm + 1) ≤ 9223372036854775807 := by omega
    have g5 : ((cumM y M + D - 1 - cumM y mm : Nat) : Int) ≥ (longN y mm : Int) := by omega
    rw [lanternref14_Civil.l1, if_pos g1, rlong_f, Option.bind_some, if_pos g5, Option.bind_some, wn _ g3 g4, wn (x := (mm : Int) + 1) (mm + 1) rfl g2]
    exact ih'
theorem civil_l0 (j : Nat) : ∀ (k Y M D y : Nat), Valid Y M D → 1 ≤ y → y + j = Y → j + 20 < k →
    lanternref14_Civil.l0 k (((ahN Y + cumM Y M + D - 1 - ahN y : Nat) : Int)) (y : Int) = some ((Y : Int), (M : Int), (D : Int)) := by
  induction j with
  | zero =>
    intro k Y M D y hv h1 h2 h3
    obtain ⟨k, rfl⟩ : ∃ i, k = i + 2 := ⟨k - 2, by omega⟩
    obtain rfl : y = Y := by omega
    have hcl := cum_le y M D hv
    obtain ⟨v1, v2, v3, v4, v5, v6⟩ := hv
    have hl := civil_l1 (M - 1) k y M D 1 (by omega) (by omega) v4 v5 v6 (by omega)
    rw [show cumM y 1 = 0 from rfl, Nat.sub_zero] at hl
    have hj : lanternref14_Civil.j2 (k + 1) (((cumM y M + D - 1 : Nat) : Int)) (y : Int) = some ((y : Int), (M : Int), (D : Int)) := by
      rw [lanternref14_Civil.j2]
      exact hl
    rw [show ahN y + cumM y M + D - 1 - ahN y = cumM y M + D - 1 by omega, lanternref14_Civil.l0]
    by_cases c : y < 9999
    · rw [if_pos (by omega), rleap_f, Option.bind_some]
      unfold lpN at hcl
      cases hb : leapN y with
      | true =>
        rw [hb, if_pos rfl] at hcl
        rw [if_pos rfl, if_pos (by omega)]
        exact hj
      | false =>
        rw [hb, if_neg (by simp)] at hcl
        rw [if_neg (by simp), if_pos (by omega)]
        exact hj
    · rw [if_neg (by omega)]
      exact hj
  | succ j ih =>
    intro k Y M D y hv h1 h2 h3
    obtain ⟨k, rfl⟩ : ∃ i, k = i + 1 := ⟨k - 1, by omega⟩
    have hcl := cum_le Y M D hv
    have ih' := ih k Y M D (y + 1) hv (by omega) (by omega) (by omega)
    obtain ⟨v1, v2, v3, v4, v5, v6⟩ := hv
    have hs := ah_step y h1
    have hm := ah_mono (y + 1) (by omega) j
    rw [show y + 1 + j = Y by omega] at hm
    have hle := ah_le Y v1 v2
    have hp := lpN_le Y
    have g0 : (y : Int) < 9999 := by omega
    have g1 : y + 1 ≤ 9223372036854775807 := by omega
    have g4 : ahN Y + cumM Y M + D - 1 - ahN (y + 1) ≤ 9223372036854775807 := by omega
    unfold lpN at hs
    cases hb : leapN y with
    | true =>
      rw [hb, if_pos rfl] at hs
      have g2 : ((ahN Y + cumM Y M + D - 1 - ahN y : Nat) : Int) - 366 = ((ahN Y + cumM Y M + D - 1 - ahN (y + 1) : Nat) : Int) := by omega
      have g3 : ¬ ((ahN Y + cumM Y M + D - 1 - ahN y : Nat) : Int) < 366 := by omega
      rw [lanternref14_Civil.l0, if_pos g0, rleap_f, Option.bind_some, hb, if_pos rfl, if_neg g3, wn _ g2 g4, wn (x := (y : Int) + 1) (y + 1) rfl g1]
      exact ih'
    | false =>
      rw [hb, if_neg (by simp)] at hs
      have g2 : ((ahN Y + cumM Y M + D - 1 - ahN y : Nat) : Int) - 365 = ((ahN Y + cumM Y M + D - 1 - ahN (y + 1) : Nat) : Int) := by omega
      have g3 : ¬ ((ahN Y + cumM Y M + D - 1 - ahN y : Nat) : Int) < 365 := by omega
      rw [lanternref14_Civil.l0, if_pos g0, rleap_f, Option.bind_some, hb, if_neg (by simp), if_neg g3, wn _ g2 g4, wn (x := (y : Int) + 1) (y + 1) rfl g1]
      exact ih'
theorem rcivil_f (k Y M D : Nat) (hv : Valid Y M D) (hk : 10030 < k) : lanternref14_Civil.f k ((daysZ Y M D : Int) - 719468) = some ((Y : Int), (M : Int), (D : Int)) := by
  obtain ⟨k, rfl⟩ : ∃ i, k = i + 1 := ⟨k - 1, by omega⟩
  have hz := daysZ_ref Y M D hv
  have hb := daysZ_le Y M D hv
  have hl := civil_l0 (Y - 1) k Y M D 1 hv (by omega) (by have := hv.1; omega) (by have := hv.2.1; omega)
  have hd1 := hv.2.2.2.2.1
  have e1 : ((ahN Y + cumM Y M + D - 1 - ahN 1 : Nat) : Int) = (daysZ Y M D : Int) - 306 := by rw [show ahN 1 = 0 from rfl]; omega
  rw [e1] at hl
  unfold lanternref14_Civil.f
  rw [if_neg (by omega), decide_eq_false (by omega), lanternref14_Civil.j0, if_neg (by simp), wi ((daysZ Y M D : Int) - 719468 + 719162) (by omega) (by omega), show (daysZ Y M D : Int) - 719468 + 719162 = (daysZ Y M D : Int) - 306 by omega]
  exact hl
theorem rcivil_no (k : Nat) (n : Int) (h : n < -719162 ∨ 2932896 < n) (hk : 0 < k) : lanternref14_Civil.f k n = some (0, 0, 0) := by
  obtain ⟨k, rfl⟩ : ∃ i, k = i + 1 := ⟨k - 1, by omega⟩
  unfold lanternref14_Civil.f
  by_cases c : n < -719162
  · rw [if_pos c, lanternref14_Civil.j0, if_pos rfl]
  · rw [if_neg c, decide_eq_true (by omega), lanternref14_Civil.j0, if_pos rfl]

/-! ### the program's Civil -/
theorem tdw (a b c : Nat) (h : a / b = c) (hc : c ≤ 9223372036854775807) : wrap64 (Int.tdiv (a : Int) (b : Int)) = (c : Int) := by
  subst h; exact wz _ hc
/-- Days that stand for a date. -/
theorem date_of (n : Int) (h1 : -719162 ≤ n) (h2 : n ≤ 2932896) : ∃ y m d : Nat, Valid y m d ∧ n = (daysZ y m d : Int) - 719468 := by
  obtain ⟨L, hL⟩ : ∃ L : Nat, n + 719162 = L := ⟨(n + 719162).toNat, by omega⟩
  obtain ⟨y, m, d, hv, he⟩ := exists_date L (by omega)
  have := daysZ_ref y m d hv
  exact ⟨y, m, d, hv, by omega⟩
end Go.Proofs.YtlbgphddhjnlcaaGreatDoor.Q
