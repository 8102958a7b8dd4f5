/- Dates as days, plainly: one formula for the program's and the reference's. -/
import Derived.Test.YtlbgphddhjnlcaaGreatDoorP
import Derived.KernelRfl
set_option linter.unusedSimpArgs false
set_option linter.unusedVariables false
namespace Go.Proofs.YtlbgphddhjnlcaaGreatDoor.Q
open Go Go.RowKit Go.Lib Go.Proofs.YtlbgphddhjnlcaaGreatDoorW.PrintWords Go.Proofs.YtlbgphddhjnlcaaGreatDoor.E Go.Proofs.YtlbgphddhjnlcaaGreatDoor.P

def leapN (y : Nat) : Bool := y % 4 == 0 && (y % 100 != 0 || y % 400 == 0)
def longN (y m : Nat) : Nat := if m = 2 then (if leapN y then 29 else 28) else if m = 4 ∨ m = 6 ∨ m = 9 ∨ m = 11 then 30 else 31
def cumN (n : Nat) : Nat := 365 * n + n / 4 - n / 100
def nOf (k : Nat) : Nat := (k - k / 1460 + k / 36524 - k / 146096) / 365
def offN (m d : Nat) : Nat := (153 * ((m + 9) % 12) + 2) / 5 + d - 1
def yy (y m : Nat) : Nat := if m ≤ 2 then y - 1 else y
def daysZ (y m d : Nat) : Nat := yy y m / 400 * 146097 + cumN (yy y m % 400) + offN m d
def Valid (y m d : Nat) : Prop := 1 ≤ y ∧ y ≤ 9999 ∧ 1 ≤ m ∧ m ≤ 12 ∧ 1 ≤ d ∧ d ≤ longN y m
def allB (f : Nat → Bool) : Nat → Bool
  | 0 => true
  | n + 1 => f n && allB f n
theorem allB_at (f : Nat → Bool) : ∀ n, allB f n = true → ∀ i, i < n → f i = true
  | 0, _, i, hi => by omega
  | n + 1, h, i, hi => by
    rw [allB, Bool.and_eq_true] at h
    rcases Nat.lt_or_ge i n with h1 | h1
    · exact allB_at f n h.2 i h1
    · obtain rfl : i = n := by omega
      exact h.1
theorem F1k : allB (fun n => allB (fun o => Nat.beq (nOf (cumN n + o)) n) (if leapN (n + 1) then 366 else 365)) 400 = true := by decide +kernel
theorem nOf_cum (n o : Nat) (hn : n < 400) (ho : o < (if leapN (n + 1) then 366 else 365)) : nOf (cumN n + o) = n :=
  Nat.eq_of_beq_eq_true (allB_at _ _ (allB_at _ 400 F1k n hn) o ho)
theorem MD : ∀ m : Fin 13, ∀ d : Fin 32, 1 ≤ m.val → 1 ≤ d.val → d.val ≤ longN 4 m.val →
    offN m.val d.val ≤ 365 ∧ ((5 * offN m.val d.val + 2) / 153 + 2) % 12 + 1 = m.val ∧ (153 * ((5 * offN m.val d.val + 2) / 153) + 2) / 5 ≤ offN m.val d.val ∧ offN m.val d.val - (153 * ((5 * offN m.val d.val + 2) / 153) + 2) / 5 + 1 = d.val ∧ (offN m.val d.val = 365 ↔ m.val = 2 ∧ d.val = 29) ∧ (m.val ≤ 2 → 306 ≤ offN m.val d.val) ∧ (3 ≤ m.val → offN m.val d.val ≤ 305) := by decide +kernel
theorem long4 (y m d : Nat) (h : Valid y m d) : m < 13 ∧ d < 32 ∧ d ≤ longN 4 m ∧ (m = 2 ∧ d = 29 → leapN y = true) := by
  obtain ⟨h1, h2, h3, h4, h5, h6⟩ := h
  have e4 : leapN 4 = true := by decide
  have b1 : longN y m ≤ longN 4 m ∧ longN 4 m ≤ 31 := by
    unfold longN
    rw [e4]
    by_cases c : m = 2
    · rw [if_pos c, if_pos c]
      cases leapN y <;> decide
    · rw [if_neg c, if_neg c]
      refine ⟨Nat.le_refl _, ?_⟩
      split <;> omega
  refine ⟨by omega, by omega, by omega, fun hd => ?_⟩
  obtain ⟨rfl, rfl⟩ := hd
  cases hl : leapN y with
  | true => rfl
  | false =>
    unfold longN at h6
    rw [if_pos rfl, hl] at h6
    simp at h6
theorem leap_mod (e r : Nat) : leapN (400 * e + r) = leapN r := by
  unfold leapN
  have h4 : (400 * e + r) % 4 = r % 4 := by omega
  have h100 : (400 * e + r) % 100 = r % 100 := by omega
  have h400 : (400 * e + r) % 400 = r % 400 := by omega
  rw [h4, h100, h400]
/-- What a valid date's days are made of. -/
theorem days_parts (y m d : Nat) (h : Valid y m d) : ∃ e r o, yy y m = 400 * e + r ∧ r < 400 ∧ o = offN m d ∧ o ≤ 365 ∧ daysZ y m d = e * 146097 + (cumN r + o) ∧ cumN r + o < 146097 ∧ nOf (cumN r + o) = r ∧ ((5 * o + 2) / 153 + 2) % 12 + 1 = m ∧ (153 * ((5 * o + 2) / 153) + 2) / 5 ≤ o ∧ o - (153 * ((5 * o + 2) / 153) + 2) / 5 + 1 = d ∧ 306 ≤ daysZ y m d ∧ daysZ y m d ≤ 3652364 := by
  obtain ⟨g1, g2, g3, g4⟩ := long4 y m d h
  obtain ⟨h1, h2, h3, h4, h5, h6⟩ := h
  obtain ⟨m1, m2, m3, m4, m5, m6, m7⟩ := MD ⟨m, g1⟩ ⟨d, g2⟩ h3 h5 g3
  dsimp only at m1 m2 m3 m4 m5 m6 m7
  have hY : yy y m ≤ 9999 ∧ (3 ≤ m → 1 ≤ yy y m) ∧ (m ≤ 2 → yy y m ≤ 9998) ∧ (m ≤ 2 → y = yy y m + 1) := by unfold yy; split <;> omega
  obtain ⟨hY1, hY2, hY3, hY4⟩ := hY
  have hlt : offN m d < (if leapN (yy y m % 400 + 1) then 366 else 365) := by
    by_cases c : offN m d = 365
    · have := m5.1 c
      have hl := g4 this
      have hy : y = 400 * (yy y m / 400) + (yy y m % 400 + 1) := by have := hY4 (by omega); omega
      rw [hy, leap_mod] at hl
      rw [hl, if_pos rfl]
      omega
    · split <;> omega
  have hn := nOf_cum (yy y m % 400) (offN m d) (Nat.mod_lt _ (by decide)) hlt
  have hdz : daysZ y m d = yy y m / 400 * 146097 + (cumN (yy y m % 400) + offN m d) := by unfold daysZ; omega
  have hcm : cumN (yy y m % 400) ≤ 145731 ∧ 365 * (yy y m % 400) ≤ cumN (yy y m % 400) := by unfold cumN; omega
  have hc8 : yy y m % 400 ≤ 398 → cumN (yy y m % 400) ≤ 145366 := by unfold cumN; omega
  exact ⟨yy y m / 400, yy y m % 400, offN m d, by omega, Nat.mod_lt _ (by decide), rfl, m1, hdz, by omega, hn, m2, m3, m4, by omega, by omega⟩

/-! ### the calls -/
theorem wz (n : Nat) (h : n ≤ 9223372036854775807) : wrap64 (n : Int) = (n : Int) := by unfold wrap64; omega
theorem wi (x : Int) (h0 : -9223372036854775808 ≤ x) (h1 : x ≤ 9223372036854775807) : wrap64 x = x := by unfold wrap64; omega
theorem wn {x : Int} (n : Nat) (h : x = (n : Int)) (hn : n ≤ 9223372036854775807) : wrap64 x = (n : Int) := by subst h; exact wz n hn
theorem tm (a b : Nat) : Int.tmod (a : Int) (b : Int) = ((a % b : Nat) : Int) := rfl
theorem td (a b : Nat) : Int.tdiv (a : Int) (b : Int) = ((a / b : Nat) : Int) := rfl
theorem beqz (n : Nat) : (((n : Nat) : Int) == 0) = (n == 0) := by rw [Bool.eq_iff_iff]; simp
theorem bnez (n : Nat) : (((n : Nat) : Int) != 0) = (n != 0) := by simp only [bne, beqz]
theorem leap_f (y : Nat) : date_leap.f (y : Int) = some (leapN y) := by
  have t4 : Int.tmod (y : Int) 4 = ((y % 4 : Nat) : Int) := tm y 4
  have t100 : Int.tmod (y : Int) 100 = ((y % 100 : Nat) : Int) := tm y 100
  have t400 : Int.tmod (y : Int) 400 = ((y % 400 : Nat) : Int) := tm y 400
  unfold date_leap.f leapN
  rw [t4, t100, t400]
  by_cases c1 : y % 4 = 0
  · rw [if_pos (by omega)]
    by_cases c2 : y % 100 = 0
    · rw [if_pos (by omega), beqz, c1, c2]
      cases h : (y % 400 == 0) <;> rfl
    · rw [if_neg (by omega)]
      simp [c1, c2]
  · rw [if_neg (by omega)]
    simp [c1]
theorem rleap_f (y : Nat) : lanternref14_leap.f (y : Int) = some (leapN y) := by
  have t4 : Int.tmod (y : Int) 4 = ((y % 4 : Nat) : Int) := tm y 4
  have t100 : Int.tmod (y : Int) 100 = ((y % 100 : Nat) : Int) := tm y 100
  have t400 : Int.tmod (y : Int) 400 = ((y % 400 : Nat) : Int) := tm y 400
  unfold lanternref14_leap.f leapN
  rw [t4, t100, t400]
  by_cases c3 : y % 400 = 0
  · rw [if_pos (by omega)]
    have c1 : y % 4 = 0 := by omega
    simp [c1, c3]
  · rw [if_neg (by omega)]
    by_cases c1 : y % 4 = 0
    · rw [if_pos (by omega), bnez, c1]
      have h4 : (y % 400 == 0) = false := beq_eq_false_iff_ne.mpr c3
      rw [h4]
      cases h : (y % 100 != 0) <;> rfl
    · rw [if_neg (by omega)]
      simp [c1]
theorem long_f (k y m : Nat) (hm : 1 ≤ m ∧ m ≤ 12) (hk : 0 < k) : date_long.f k (y : Int) (m : Int) = some (longN y m : Int) := by
  obtain ⟨k, rfl⟩ : ∃ j, k = j + 1 := ⟨k - 1, by omega⟩
  unfold date_long.f longN
  have hj : ∀ b : Bool, b = decide (m = 4 ∨ m = 6 ∨ m = 9 ∨ m = 11) → date_long.j0 (k + 1) (y : Int) (m : Int) b = some ((if m = 2 then (if leapN y then 29 else 28) else if m = 4 ∨ m = 6 ∨ m = 9 ∨ m = 11 then 30 else 31 : Nat) : Int) := by
    rintro b rfl
    rw [date_long.j0]
    by_cases c : m = 4 ∨ m = 6 ∨ m = 9 ∨ m = 11
    · rw [decide_eq_true c, if_pos rfl, if_neg (by omega), if_pos c]
      rfl
    · rw [decide_eq_false c, if_neg (by simp), if_neg c]
      by_cases c2 : m = 2
      · rw [if_pos (by omega), if_pos c2, leap_f, Option.bind_some]
        cases leapN y <;> rfl
      · rw [if_neg (by omega), if_neg c2]
        rfl
  by_cases c4 : m = 4
  · rw [if_pos (by omega)]; exact hj _ (by rw [decide_eq_true (Or.inl c4)]; simp; omega)
  · rw [if_neg (by omega)]
    by_cases c6 : m = 6
    · rw [if_pos (by omega)]; exact hj _ (by rw [decide_eq_true (Or.inr (Or.inl c6))]; simp; omega)
    · rw [if_neg (by omega)]
      by_cases c9 : m = 9
      · rw [if_pos (by omega)]; exact hj _ (by rw [decide_eq_true (Or.inr (Or.inr (Or.inl c9)))]; simp; omega)
      · rw [if_neg (by omega)]
        refine hj _ ?_
        by_cases c11 : m = 11
        · rw [decide_eq_true (Or.inr (Or.inr (Or.inr c11)))]; simp; omega
        · rw [decide_eq_false (by omega)]; simp; omega
theorem rlong_f (y m : Nat) : lanternref14_long.f (y : Int) (m : Int) = some (longN y m : Int) := by
  unfold lanternref14_long.f longN
  by_cases c2 : m = 2
  · rw [if_pos (by omega), if_pos c2, rleap_f, Option.bind_some]
    cases leapN y <;> rfl
  · rw [if_neg (by omega), if_neg c2]
    by_cases c : m = 4 ∨ m = 6 ∨ m = 9 ∨ m = 11
    · rw [if_pos c]
      (repeat' split) <;> first | rfl | omega
    · rw [if_neg c]
      (repeat' split) <;> first | rfl | omega
end Go.Proofs.YtlbgphddhjnlcaaGreatDoor.Q
