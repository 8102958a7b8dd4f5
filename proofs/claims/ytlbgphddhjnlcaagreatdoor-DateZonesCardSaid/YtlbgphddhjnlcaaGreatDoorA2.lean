/- Dates as days: the program's Days and Civil, and the reference's, are that formula. -/
import Derived.Test.YtlbgphddhjnlcaaGreatDoorA1
set_option linter.unusedSimpArgs false
set_option linter.unusedVariables false
namespace Go.Proofs.YtlbgphddhjnlcaaGreatDoor.Q
open Go Go.RowKit Go.Lib Go.Proofs.YtlbgphddhjnlcaaGreatDoorW.PrintWords Go.Proofs.YtlbgphddhjnlcaaGreatDoor.E Go.Proofs.YtlbgphddhjnlcaaGreatDoor.P

set_option maxHeartbeats 4000000 in
theorem days_expr (Y M D : Nat) (hY : Y ≤ 9999) (hM : 1 ≤ M ∧ M ≤ 12) (hD : 1 ≤ D ∧ D ≤ 31) :
    wrap64 ((wrap64 ((wrap64 ((wrap64 ((wrap64 ((wrap64 (Int.tdiv (Y : Int) 400)) * 146097)) + (wrap64 ((Int.tmod (Y : Int) 400) * 365)))) + (wrap64 (Int.tdiv (Int.tmod (Y : Int) 400) 4)))) - (wrap64 (Int.tdiv (Int.tmod (Y : Int) 400) 100)))) + (wrap64 ((wrap64 ((wrap64 (Int.tdiv (wrap64 ((wrap64 (153 * (Int.tmod (wrap64 ((M : Int) + 9)) 12))) + 2)) 5)) + (D : Int))) - 1))) = ((Y / 400 * 146097 + cumN (Y % 400) + offN M D : Nat) : Int) := by
  have e1 : Int.tdiv (Y : Int) 400 = ((Y / 400 : Nat) : Int) := td Y 400
  have e2 : Int.tmod (Y : Int) 400 = ((Y % 400 : Nat) : Int) := tm Y 400
  have e3 : Int.tdiv ((Y % 400 : Nat) : Int) 4 = ((Y % 400 / 4 : Nat) : Int) := td _ 4
  have e4 : Int.tdiv ((Y % 400 : Nat) : Int) 100 = ((Y % 400 / 100 : Nat) : Int) := td _ 100
  have e5 : Int.tmod ((M + 9 : Nat) : Int) 12 = (((M + 9) % 12 : Nat) : Int) := tm _ 12
  have e6 : Int.tdiv ((153 * ((M + 9) % 12) + 2 : Nat) : Int) 5 = (((153 * ((M + 9) % 12) + 2) / 5 : Nat) : Int) := td _ 5
  have hr : Y % 400 < 400 := Nat.mod_lt _ (by decide)
  have hm : (M + 9) % 12 < 12 := Nat.mod_lt _ (by decide)
  have hq : Y / 400 ≤ 24 := by omega
  have hu : offN M D = (153 * ((M + 9) % 12) + 2) / 5 + D - 1 := rfl
  have hc : cumN (Y % 400) = 365 * (Y % 400) + Y % 400 / 4 - Y % 400 / 100 := rfl
  have n7 : (M : Int) + 9 = ((M + 9 : Nat) : Int) := rfl
  have m7 : M + 9 ≤ 9223372036854775807 := by omega
  rw [e1, e2, e3, e4, n7, wz _ m7, e5, hu, hc]
  clear e1 e2 e3 e4 e5 hu hc n7 m7
  generalize Y / 400 = q at *
  generalize Y % 400 = r at *
  generalize (M + 9) % 12 = s at *
  have ha : r / 4 ≤ 100 ∧ r / 100 ≤ r / 4 := by omega
  have ht : (153 * s + 2) / 5 ≤ 400 := by omega
  have n8 : 153 * (s : Int) = ((153 * s : Nat) : Int) := by omega
  have n9 : ((153 * s : Nat) : Int) + 2 = ((153 * s + 2 : Nat) : Int) := rfl
  have m8 : 153 * s ≤ 9223372036854775807 := by omega
  have m9 : 153 * s + 2 ≤ 9223372036854775807 := by omega
  have z1 : q ≤ 9223372036854775807 := by omega
  rw [wz _ z1, n8, wz _ m8, n9, wz _ m9, e6]
  clear n8 n9 m8 m9 e6 z1
  generalize (153 * s + 2) / 5 = t at *
  obtain ⟨Q, hQ⟩ : ∃ Q, Q = q * 146097 := ⟨_, rfl⟩
  obtain ⟨R, hR⟩ : ∃ R, R = 365 * r := ⟨_, rfl⟩
  have n2 : (q : Int) * 146097 = (Q : Int) := by omega
  have n3 : (r : Int) * 365 = (R : Int) := by omega
  have x2 : Q ≤ 10000000 := by omega
  have x3 : R ≤ 10000000 ∧ r ≤ R := by omega
  rw [n2, n3, ← hQ, ← hR]
  clear n2 n3
  have ha' : r / 4 ≤ r := Nat.div_le_self _ _
  clear hQ hR
  obtain ⟨a, hA⟩ : ∃ a, a = r / 4 := ⟨_, rfl⟩
  obtain ⟨b, hB⟩ : ∃ b, b = r / 100 := ⟨_, rfl⟩
  rw [← hA, ← hB]
  have ha2 : a ≤ 100 ∧ b ≤ a ∧ a ≤ R := by omega
  clear hA hB
  have n4 : (Q : Int) + (R : Int) = ((Q + R : Nat) : Int) := rfl
  have n5 : ((Q + R : Nat) : Int) + (a : Int) = ((Q + R + a : Nat) : Int) := rfl
  have n6 : ((Q + R + a : Nat) : Int) - (b : Int) = ((Q + R + a - b : Nat) : Int) := by omega
  have n10 : (t : Int) + (D : Int) = ((t + D : Nat) : Int) := rfl
  have n11 : ((t + D : Nat) : Int) - 1 = ((t + D - 1 : Nat) : Int) := by omega
  have n12 : ((Q + R + a - b : Nat) : Int) + ((t + D - 1 : Nat) : Int) = ((Q + (R + a - b) + (t + D - 1) : Nat) : Int) := by omega
  have z2 : Q ≤ 9223372036854775807 := by omega
  have z3 : R ≤ 9223372036854775807 := by omega
  have z4 : Q + R ≤ 9223372036854775807 := by omega
  have z5 : a ≤ 9223372036854775807 := by omega
  have z6 : Q + R + a ≤ 9223372036854775807 := by omega
  have z7 : b ≤ 9223372036854775807 := by omega
  have z8 : Q + R + a - b ≤ 9223372036854775807 := by omega
  have z9 : t ≤ 9223372036854775807 := by omega
  have z10 : t + D ≤ 9223372036854775807 := by omega
  have z11 : t + D - 1 ≤ 9223372036854775807 := by omega
  have z12 : Q + (R + a - b) + (t + D - 1) ≤ 9223372036854775807 := by omega
  rw [wz _ z2, wz _ z3, n4, wz _ z4, wz _ z5, n5, wz _ z6, wz _ z7, n6, wz _ z8, wz _ z9, n10, wz _ z10, n11, wz _ z11, n12, wz _ z12]
theorem daysZ_le (y m d : Nat) (h : Valid y m d) : 306 ≤ daysZ y m d ∧ daysZ y m d ≤ 3652364 := by
  obtain ⟨e, r, o, _, _, _, _, _, _, _, _, _, _, h1, h2⟩ := days_parts y m d h
  exact ⟨h1, h2⟩
theorem days_f (k y m d : Nat) (h : Valid y m d) (hk : 5 < k) : date_Days.f k (y : Int) (m : Int) (d : Int) = some ((daysZ y m d : Int) - 719468, 0) := by
  obtain ⟨k, rfl⟩ : ∃ j, k = j + 1 := ⟨k - 1, by omega⟩
  have hb := daysZ_le y m d h
  obtain ⟨g1, g2, _, _⟩ := long4 y m d h
  obtain ⟨h1, h2, h3, h4, h5, h6⟩ := h
  unfold date_Days.f
  rw [if_neg (by omega), if_neg (by omega), if_neg (by omega), if_neg (by omega), if_neg (by omega), long_f (k + 1) y m ⟨h3, h4⟩ (by omega), Option.bind_some, decide_eq_false (by omega), date_Days.j0, if_neg (by simp)]
  have hz : ∀ Y : Nat, Y = yy y m → Y / 400 * 146097 + cumN (Y % 400) + offN m d = daysZ y m d := by rintro Y rfl; rfl
  have q1 : -9223372036854775808 ≤ (daysZ y m d : Int) - 719468 := by omega
  have q2 : (daysZ y m d : Int) - 719468 ≤ 9223372036854775807 := by omega
  have hd : d ≤ 31 := by omega
  by_cases c : m ≤ 2
  · have n1 : (y : Int) - 1 = ((y - 1 : Nat) : Int) := by omega
    have m1 : y - 1 ≤ 9223372036854775807 := by omega
    have m2 : y - 1 ≤ 9999 := by omega
    have c' : (m : Int) ≤ 2 := by omega
    rw [if_pos c', wn _ n1 m1, days_expr (y - 1) m d m2 ⟨h3, h4⟩ ⟨h5, hd⟩, hz _ (by unfold yy; rw [if_pos c]), wi _ q1 q2]
  · have c' : ¬ (m : Int) ≤ 2 := by omega
    rw [if_neg c', days_expr y m d h2 ⟨h3, h4⟩ ⟨h5, hd⟩, hz _ (by unfold yy; rw [if_neg c]), wi _ q1 q2]
end Go.Proofs.YtlbgphddhjnlcaaGreatDoor.Q
