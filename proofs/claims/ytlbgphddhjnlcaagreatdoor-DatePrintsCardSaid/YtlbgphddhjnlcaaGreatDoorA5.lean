/- Times as texts: digits, clocks, and the reading of a time. -/
import Derived.Test.YtlbgphddhjnlcaaGreatDoorA4
import Derived.Test.YtlbgphddhjnlcaaGreatDoorSP
import Derived.Test.YtlbgphddhjnlcaaGreatDoorTS
set_option linter.unusedSimpArgs false
set_option linter.unusedVariables false
namespace Go.Proofs.YtlbgphddhjnlcaaGreatDoor.Q
open Go Go.RowKit Go.Lib Go.Proofs.YtlbgphddhjnlcaaGreatDoorW.PrintWords Go.Proofs.YtlbgphddhjnlcaaGreatDoorB Go.Proofs.YtlbgphddhjnlcaaGreatDoor.E Go.Proofs.YtlbgphddhjnlcaaGreatDoor.P

def dg (n : Nat) : UInt8 := UInt8.ofNat (48 + n)
def d2 (n : Nat) : List UInt8 := [dg (n / 10), dg (n % 10)]
def d4 (n : Nat) : List UInt8 := d2 (n / 100) ++ d2 (n % 100)
theorem pad2' : ∀ n : Fin 100, date_pad.f (n.val : Int) 2 = some (B (d2 n.val)) := by decide +kernel
theorem num2' : ∀ n : Fin 100, date_number.f (B (d2 n.val)) 2 = some (n.val : Int) := by decide +kernel
theorem d2_digits : ∀ n : Fin 100, ∀ b ∈ d2 n.val, 48 ≤ b ∧ b ≤ 57 := by decide +kernel
theorem d2_low' : ∀ n : Fin 100, (d2 n.val).map lowB = d2 n.val := by decide +kernel
theorem dg_val' : ∀ n : Fin 10, Lib.digitVal (dg n.val) = some n.val := by decide +kernel
theorem dg_cut' : ∀ n : Fin 10, ([48, 49, 50, 51, 52, 53, 54, 55, 56, 57] : List UInt8).contains (dg n.val) = true ∧ (dg n.val == 45) = false ∧ (dg n.val == 43) = false := by decide +kernel
theorem ten' : ∀ n : Fin 10, (⟨#[48, 49, 50, 51, 52, 53, 54, 55, 56, 57]⟩ : ByteArray).extract n.val (n.val + 1) = B [dg n.val] := by decide +kernel
theorem dg_val (n : Nat) (h : n < 10) : Lib.digitVal (dg n) = some n := dg_val' ⟨n, h⟩
theorem dg_cut (n : Nat) (h : n < 10) : ([48, 49, 50, 51, 52, 53, 54, 55, 56, 57] : List UInt8).contains (dg n) = true ∧ (dg n == 45) = false ∧ (dg n == 43) = false := dg_cut' ⟨n, h⟩
theorem ten (n : Nat) (h : n < 10) : (⟨#[48, 49, 50, 51, 52, 53, 54, 55, 56, 57]⟩ : ByteArray).extract n (n + 1) = B [dg n] := ten' ⟨n, h⟩
theorem pad2 (n : Nat) (h : n < 100) : date_pad.f (n : Int) 2 = some (B (d2 n)) := pad2' ⟨n, h⟩
theorem num2 (n : Nat) (h : n < 100) : date_number.f (B (d2 n)) 2 = some (n : Int) := num2' ⟨n, h⟩
theorem d2_low (n : Nat) (h : n < 100) : (d2 n).map lowB = d2 n := d2_low' ⟨n, h⟩
theorem d2_ne (n : Nat) (h : n < 100) (c : UInt8) (hc : c < 48 ∨ 57 < c) : ∀ b ∈ d2 n, b ≠ c := by
  intro b hb e
  obtain ⟨h1, h2⟩ := d2_digits ⟨n, h⟩ b hb
  subst e
  rcases hc with hc | hc
  · exact absurd h1 (UInt8.not_le.2 hc)
  · exact absurd h2 (UInt8.not_le.2 hc)
theorem dig_step (k n j : Nat) (l : List UInt8) (hn : n < 100000) (hj : j < 100) (hl : l.length ≤ 100) (h : lanternref14_digits.f k ((n / 10 : Nat) : Int) (j : Int) = some (B l)) :
    lanternref14_digits.f (k + 1) (n : Int) ((j + 1 : Nat) : Int) = some (B (l ++ [dg (n % 10)])) := by
  have a1 : ¬ ((j + 1 : Nat) : Int) = 0 := by omega
  have a2 : n / 10 ≤ 9223372036854775807 := by omega
  have a3 : ((j + 1 : Nat) : Int) - 1 = (j : Int) := by omega
  have a4 : j ≤ 9223372036854775807 := by omega
  have a5 : n % 10 < 10 := Nat.mod_lt _ (by decide)
  have a6 : n % 10 + 1 ≤ 9223372036854775807 := by omega
  have a7 : (0 : Int) ≤ ((n % 10 : Nat) : Int) := by omega
  have a8 : ((n % 10 : Nat) : Int) ≤ ((n % 10 + 1 : Nat) : Int) := by omega
  have a9 : ((n % 10 + 1 : Nat) : Int) ≤ 10 := by omega
  have a10 : l.length + 1 ≤ 9223372036854775807 := by omega
  have e1 := tdw n 10 _ rfl a2
  have e2 := wn _ a3 a4
  have e3 : wrap64 (((n % 10 : Nat) : Int) + 1) = ((n % 10 + 1 : Nat) : Int) := wn _ rfl a6
  rw [lanternref14_digits.f, if_neg a1, show (10 : Int) = ((10 : Nat) : Int) from rfl, e1, e2, h, Option.bind_some, tm, e3, if_pos a7, if_pos a8, show ((10 : Nat) : Int) = 10 from rfl, if_pos a9, Int.toNat_natCast, Int.toNat_natCast, ten _ a5, size_B, size_B, if_pos (by simpa using a10), append_B]
theorem dig0 (k : Nat) (n : Int) : lanternref14_digits.f (k + 1) n ((0 : Nat) : Int) = some (B []) := by
  rw [lanternref14_digits.f, if_pos (show ((0 : Nat) : Int) = 0 from rfl)]
  rfl
theorem dig2 (n k : Nat) (h : n < 100) (hk : 5 ≤ k) : lanternref14_digits.f k (n : Int) 2 = some (B (d2 n)) := by
  obtain ⟨j, rfl⟩ : ∃ j, k = j + 3 := ⟨k - 3, by omega⟩
  have h1 := dig_step (j + 1) (n / 10) 0 [] (by omega) (by omega) (by simp) (dig0 j _)
  have h2 := dig_step (j + 2) n 1 _ (by omega) (by omega) (by simp) h1
  refine h2.trans (congrArg (fun l => some (B l)) ?_)
  unfold d2
  rw [show n / 10 % 10 = n / 10 by omega]
  rfl
theorem dig4 (n k : Nat) (h : n < 10000) (hk : 5 ≤ k) : lanternref14_digits.f k (n : Int) 4 = some (B (d4 n)) := by
  obtain ⟨j, rfl⟩ : ∃ j, k = j + 5 := ⟨k - 5, by omega⟩
  have h1 := dig_step (j + 1) (n / 10 / 10 / 10) 0 [] (by omega) (by omega) (by simp) (dig0 j _)
  have h2 := dig_step (j + 2) (n / 10 / 10) 1 _ (by omega) (by omega) (by simp) h1
  have h3 := dig_step (j + 3) (n / 10) 2 _ (by omega) (by omega) (by simp) h2
  have h4 := dig_step (j + 4) n 3 _ (by omega) (by omega) (by simp) h3
  refine h4.trans (congrArg (fun l => some (B l)) ?_)
  unfold d4 d2
  rw [show n / 10 / 10 / 10 % 10 = n / 100 / 10 by omega, show n / 10 / 10 % 10 = n / 100 % 10 by omega, show n / 10 % 10 = n % 100 / 10 by omega, show n % 100 % 10 = n % 10 by omega]
  rfl
theorem num4 (n : Nat) (h : n < 10000) : date_number.f (B (d4 n)) 4 = some (n : Int) := by
  have a1 : n / 100 / 10 < 10 := by omega
  have a2 : n / 100 % 10 < 10 := by omega
  have a3 : n % 100 / 10 < 10 := by omega
  have a4 : n % 100 % 10 < 10 := by omega
  have hd : d4 n = [dg (n / 100 / 10), dg (n / 100 % 10), dg (n % 100 / 10), dg (n % 100 % 10)] := rfl
  have hs : (B (d4 n)).size = 4 := by rw [size_B]; rfl
  have hv : Lib.atoi (d4 n) = some (n : Int) := by
    rw [hd, Lib.atoi, (dg_cut _ a1).2.1, (dg_cut _ a1).2.2, if_neg (by simp), if_neg (by simp), Lib.decNat, List.isEmpty_cons, if_neg (by simp)]
    simp only [Lib.decFrom, dg_val _ a1, dg_val _ a2, dg_val _ a3, dg_val _ a4, Option.map_some]
    congr 2
    omega
  have ht : Lib.trimS (d4 n) [48, 49, 50, 51, 52, 53, 54, 55, 56, 57] = [] := by
    rw [trimS_nil_iff, hd]
    intro c hc
    rcases List.mem_cons.1 hc with rfl | hc
    · exact (dg_cut _ a1).1
    rcases List.mem_cons.1 hc with rfl | hc
    · exact (dg_cut _ a2).1
    rcases List.mem_cons.1 hc with rfl | hc
    · exact (dg_cut _ a3).1
    rcases List.mem_cons.1 hc with rfl | hc
    · exact (dg_cut _ a4).1
    cases hc
  unfold date_number.f strconv_Atoi.f strings_Trim.f
  rw [hs, if_pos (by decide), show (B (d4 n)).data.toList = d4 n from L_B _, hv, Option.bind_some, Option.bind_some, if_pos (by decide), if_pos (show (none : Option Int).isNone = true from rfl), if_pos ⟨by decide, by decide, by decide⟩, Option.bind_some, show ((⟨#[48, 49, 50, 51, 52, 53, 54, 55, 56, 57]⟩ : ByteArray)).data.toList = [48, 49, 50, 51, 52, 53, 54, 55, 56, 57] from rfl, ht, if_pos (by rw [toList_L])]
theorem dd1 (u : Nat) (h : u < 10) : Lib.decDigits u = [dg u] := by rw [Lib.decDigits, dif_pos h]; rfl
theorem dd2 (u : Nat) (h : ¬ u < 10) : Lib.decDigits u = Lib.decDigits (u / 10) ++ [dg (u % 10)] := by
  conv => lhs; rw [Lib.decDigits, dif_neg h]
  rfl
theorem pad_of (u j : Nat) (l : List UInt8) (hu : u < 10000) (hl : Lib.decDigits u = l) (hj : l.length = j) (h4 : j ≤ 4) : date_pad.f (u : Int) 4 = some (B (Lib.repeatL [48] (4 - j) ++ l)) := by
  have a1 : -9223372036854775808 ≤ (u : Int) ∧ (u : Int) ≤ 9223372036854775807 := by omega
  have a2 : (4 : Int) - (j : Int) = ((4 - j : Nat) : Int) := by omega
  have a3 : 4 - j ≤ 9223372036854775807 := by omega
  have a4 : mx 0 ((4 - j : Nat) : Int) = ((4 - j : Nat) : Int) := by unfold mx; split <;> omega
  have a5 : 0 ≤ ((4 - j : Nat) : Int) ∧ ((4 - j : Nat) : Int) ≤ 1000000 ∧ (⟨#[48]⟩ : ByteArray).size ≤ 100 := ⟨by omega, by omega, by decide⟩
  have e1 := wn _ a2 a3
  have hi : Lib.itoa (u : Int) = l := by unfold Lib.itoa; rw [if_neg (by omega), Int.toNat_natCast, hl]
  have hr : (Lib.repeatL [48] (4 - j)).length ≤ 4 := by
    obtain ⟨i, hi⟩ : ∃ i, 4 - j = i := ⟨_, rfl⟩
    rw [hi]
    have : i = 0 ∨ i = 1 ∨ i = 2 ∨ i = 3 ∨ i = 4 := by omega
    rcases this with rfl | rfl | rfl | rfl | rfl <;> decide
  unfold date_pad.f strconv_Itoa.f strings_Repeat.f
  rw [if_pos a1, Option.bind_some, hi, show (⟨l.toArray⟩ : ByteArray) = B l from rfl, size_B, hj, e1, a4, if_pos a5, Option.bind_some, Int.toNat_natCast, show (⟨#[48]⟩ : ByteArray).data.toList = [48] from rfl, show (⟨(Lib.repeatL [48] (4 - j)).toArray⟩ : ByteArray) = B (Lib.repeatL [48] (4 - j)) from rfl, size_B, if_pos (by omega), append_B]
theorem pad4 (n : Nat) (h : n < 10000) : date_pad.f (n : Int) 4 = some (B (d4 n)) := by
  by_cases c1 : n < 10
  · rw [pad_of n 1 _ h (dd1 n c1) rfl (by omega)]
    unfold d4 d2
    rw [show n / 100 / 10 = 0 by omega, show n / 100 % 10 = 0 by omega, show n % 100 / 10 = 0 by omega, show n % 100 % 10 = n by omega]
    rfl
  · by_cases c2 : n < 100
    · rw [pad_of n 2 _ h ((dd2 n c1).trans (by rw [dd1 (n / 10) (by omega)])) rfl (by omega)]
      unfold d4 d2
      rw [show n / 100 / 10 = 0 by omega, show n / 100 % 10 = 0 by omega, show n % 100 / 10 = n / 10 by omega, show n % 100 % 10 = n % 10 by omega]
      rfl
    · by_cases c3 : n < 1000
      · rw [pad_of n 3 _ h ((dd2 n c1).trans (by rw [dd2 (n / 10) (by omega), dd1 (n / 10 / 10) (by omega)])) rfl (by omega)]
        unfold d4 d2
        rw [show n / 100 / 10 = 0 by omega, show n / 100 % 10 = n / 10 / 10 by omega, show n % 100 / 10 = n / 10 % 10 by omega, show n % 100 % 10 = n % 10 by omega]
        rfl
      · rw [pad_of n 4 _ h ((dd2 n c1).trans (by rw [dd2 (n / 10) (by omega), dd2 (n / 10 / 10) (by omega), dd1 (n / 10 / 10 / 10) (by omega)])) rfl (by omega)]
        unfold d4 d2
        rw [show n / 100 / 10 = n / 10 / 10 / 10 by omega, show n / 100 % 10 = n / 10 / 10 % 10 by omega, show n % 100 / 10 = n / 10 % 10 by omega, show n % 100 % 10 = n % 10 by omega]
        rfl
end Go.Proofs.YtlbgphddhjnlcaaGreatDoor.Q
