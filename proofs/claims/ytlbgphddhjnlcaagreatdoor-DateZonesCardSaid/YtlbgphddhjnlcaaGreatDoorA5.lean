/- Times as texts: digits, clocks, and the reading of a time. -/
import Derived.Test.YtlbgphddhjnlcaaGreatDoorA4
import Derived.Test.YtlbgphddhjnlcaaGreatDoorSP
import Derived.Test.YtlbgphddhjnlcaaGreatDoorTS
set_option linter.unusedSimpArgs false
set_option linter.unusedVariables false
namespace Go.Proofs.YtlbgphddhjnlcaaGreatDoor.Q
open Go Go.RowKit Go.Lib Go.Proofs.YtlbgphddhjnlcaaGreatDoorW.PrintWords Go.Proofs.YtlbgphddhjnlcaaGreatDoorB Go.Proofs.YtlbgphddhjnlcaaGreatDoor.E Go.Proofs.YtlbgphddhjnlcaaGreatDoor.P

def dg (n : Nat) : UInt8 := UInt8.ofNat (48 + n)
def d2 (n : Nat) : List UInt8 := [dg (n / 10), dg (n % 10)]
def d4 (n : Nat) : List UInt8 := d2 (n / 100) ++ d2 (n % 100)
theorem num2' : ∀ n : Fin 100, date_number.f (B (d2 n.val)) 2 = some (n.val : Int) := by decide +kernel
theorem d2_digits : ∀ n : Fin 100, ∀ b ∈ d2 n.val, 48 ≤ b ∧ b ≤ 57 := by decide +kernel
theorem d2_low' : ∀ n : Fin 100, (d2 n.val).map lowB = d2 n.val := by decide +kernel
theorem dg_val' : ∀ n : Fin 10, Lib.digitVal (dg n.val) = some n.val := by decide +kernel
theorem dg_cut' : ∀ n : Fin 10, ([48, 49, 50, 51, 52, 53, 54, 55, 56, 57] : List UInt8).contains (dg n.val) = true ∧ (dg n.val == 45) = false ∧ (dg n.val == 43) = false := by decide +kernel
theorem dg_val (n : Nat) (h : n < 10) : Lib.digitVal (dg n) = some n := dg_val' ⟨n, h⟩
theorem dg_cut (n : Nat) (h : n < 10) : ([48, 49, 50, 51, 52, 53, 54, 55, 56, 57] : List UInt8).contains (dg n) = true ∧ (dg n == 45) = false ∧ (dg n == 43) = false := dg_cut' ⟨n, h⟩
theorem num2 (n : Nat) (h : n < 100) : date_number.f (B (d2 n)) 2 = some (n : Int) := num2' ⟨n, h⟩
theorem d2_low (n : Nat) (h : n < 100) : (d2 n).map lowB = d2 n := d2_low' ⟨n, h⟩
theorem d2_ne (n : Nat) (h : n < 100) (c : UInt8) (hc : c < 48 ∨ 57 < c) : ∀ b ∈ d2 n, b ≠ c := by
  intro b hb e
  obtain ⟨h1, h2⟩ := d2_digits ⟨n, h⟩ b hb
  subst e
  rcases hc with hc | hc
  · exact absurd h1 (UInt8.not_le.2 hc)
  · exact absurd h2 (UInt8.not_le.2 hc)
theorem num4 (n : Nat) (h : n < 10000) : date_number.f (B (d4 n)) 4 = some (n : Int) := by
  have a1 : n / 100 / 10 < 10 := by omega
  have a2 : n / 100 % 10 < 10 := by omega
  have a3 : n % 100 / 10 < 10 := by omega
  have a4 : n % 100 % 10 < 10 := by omega
  have hd : d4 n = [dg (n / 100 / 10), dg (n / 100 % 10), dg (n % 100 / 10), dg (n % 100 % 10)] := rfl
  have hs : (B (d4 n)).size = 4 := by rw [size_B]; rfl
  have hv : Lib.atoi (d4 n) = some (n : Int) := by
    rw [hd, Lib.atoi, (dg_cut _ a1).2.1, (dg_cut _ a1).2.2, if_neg (by simp), if_neg (by simp), Lib.decNat, List.isEmpty_cons, if_neg (by simp)]
    simp only [Lib.decFrom, dg_val _ a1, dg_val _ a2, dg_val _ a3, dg_val _ a4, Option.map_some]
    congr 2
    omega
  have ht : Lib.trimS (d4 n) [48, 49, 50, 51, 52, 53, 54, 55, 56, 57] = [] := by
    rw [trimS_nil_iff, hd]
    intro c hc
    rcases List.mem_cons.1 hc with rfl | hc
    · exact (dg_cut _ a1).1
    rcases List.mem_cons.1 hc with rfl | hc
    · exact (dg_cut _ a2).1
    rcases List.mem_cons.1 hc with rfl | hc
    · exact (dg_cut _ a3).1
    rcases List.mem_cons.1 hc with rfl | hc
    · exact (dg_cut _ a4).1
    cases hc
  unfold date_number.f strconv_Atoi.f strings_Trim.f
  rw [hs, if_pos (by decide), show (B (d4 n)).data.toList = d4 n from L_B _, hv, Option.bind_some, Option.bind_some, if_pos (by decide), if_pos (show (none : Option Int).isNone = true from rfl), if_pos ⟨by decide, by decide, by decide⟩, Option.bind_some, show ((⟨#[48, 49, 50, 51, 52, 53, 54, 55, 56, 57]⟩ : ByteArray)).data.toList = [48, 49, 50, 51, 52, 53, 54, 55, 56, 57] from rfl, ht, if_pos (by rw [toList_L])]
end Go.Proofs.YtlbgphddhjnlcaaGreatDoor.Q
