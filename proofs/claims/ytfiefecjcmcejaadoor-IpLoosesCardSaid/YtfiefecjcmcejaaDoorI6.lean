/- ip.six and ip.Parse as plain functions; the law IpLooses. -/
import Derived.Test.YtfiefecjcmcejaaDoorI5
import Derived.Test.YtfiefecjcmcejaaDoorP11
set_option linter.unusedSimpArgs false
set_option linter.unusedVariables false
set_option maxRecDepth 10000
namespace Go.Proofs.YtfiefecjcmcejaaDoor.Q
open Go Go.RowKit Go.Lib Go.Proofs.YtfiefecjcmcejaaDoorW.PrintWords Go.Proofs.YtfiefecjcmcejaaDoorW.PrintMore Go.Proofs.YtfiefecjcmcejaaDoorB Go.Proofs.YtfiefecjcmcejaaDoor.E Go.Proofs.YtfiefecjcmcejaaDoorV Go.Proofs.YtfiefecjcmcejaaDoor.P

abbrev Tup16 := Int × Int × Int × Int × Int × Int × Int × Int × Int × Int × Int × Int × Int × Int × Int × Int × Bool
def z16 : Tup16 := (0, 0, 0, 0, 0, 0, 0, 0, 0, 0, 0, 0, 0, 0, 0, 0, false)
def sixT (a b : List Int) : Tup16 := (cpy ((16 - b.length : Nat) : Int) 16 0 b (cpy 0 16 0 a 0), cpy ((16 - b.length : Nat) : Int) 16 1 b (cpy 0 16 1 a 0), cpy ((16 - b.length : Nat) : Int) 16 2 b (cpy 0 16 2 a 0), cpy ((16 - b.length : Nat) : Int) 16 3 b (cpy 0 16 3 a 0), cpy ((16 - b.length : Nat) : Int) 16 4 b (cpy 0 16 4 a 0), cpy ((16 - b.length : Nat) : Int) 16 5 b (cpy 0 16 5 a 0), cpy ((16 - b.length : Nat) : Int) 16 6 b (cpy 0 16 6 a 0), cpy ((16 - b.length : Nat) : Int) 16 7 b (cpy 0 16 7 a 0), cpy ((16 - b.length : Nat) : Int) 16 8 b (cpy 0 16 8 a 0), cpy ((16 - b.length : Nat) : Int) 16 9 b (cpy 0 16 9 a 0), cpy ((16 - b.length : Nat) : Int) 16 10 b (cpy 0 16 10 a 0), cpy ((16 - b.length : Nat) : Int) 16 11 b (cpy 0 16 11 a 0), cpy ((16 - b.length : Nat) : Int) 16 12 b (cpy 0 16 12 a 0), cpy ((16 - b.length : Nat) : Int) 16 13 b (cpy 0 16 13 a 0), cpy ((16 - b.length : Nat) : Int) 16 14 b (cpy 0 16 14 a 0), cpy ((16 - b.length : Nat) : Int) 16 15 b (cpy 0 16 15 a 0), true)
/-- Sixteen bytes: those ahead of the gap, and those behind it. -/
def sixV (l : List UInt8) : Option (List Int × List Int) := match groupsV (!(Lib.cut l [58, 58]).2.2) (Lib.cut l [58, 58]).1, groupsV true (Lib.cut l [58, 58]).2.1 with
  | some a, some b => if (Lib.cut l [58, 58]).2.2 = true then (if a.length + b.length ≤ 16 then some (a, b) else none) else (if a.length = 16 then some (a, b) else none)
  | _, _ => none
def sixR : Option (List Int × List Int) → Tup16
  | some (a, b) => sixT a b
  | none => z16
theorem cut_len (l s : List UInt8) : (Lib.cut l s).1.length ≤ l.length ∧ (Lib.cut l s).2.1.length ≤ l.length ∧ ((Lib.cut l s).2.2 = false → (Lib.cut l s).2.1 = []) := by
  unfold Lib.cut
  split
  · refine ⟨?_, ?_, fun h => by cases h⟩
    · simp [List.length_take]; omega
    · simp [List.length_drop]
  · exact ⟨Nat.le_refl _, by simp, fun _ => rfl⟩
theorem wadd (a b : Nat) (ha : a ≤ 100000000) (hb : b ≤ 100000000) : wrap64 ((a : Int) + (b : Int)) = ((a + b : Nat) : Int) := wrap_nat (a + b) (by omega) (by omega)
theorem wsub16 (b : Nat) (hb : b ≤ 16) : wrap64 (16 - (b : Int)) = ((16 - b : Nat) : Int) := wrap_nat (16 - b) (by omega) (by omega)
theorem groupsP_len (tail : Bool) : ∀ (t : List (List UInt8)) (acc r : List Int), groupsP tail t acc = some r → r.length ≤ acc.length + 4 * t.length
  | [], acc, r, h => by rw [groupsP] at h; obtain rfl := Option.some.inj h; simp
  | q :: t, acc, r, h => by
    rw [groupsP] at h
    split at h
    · obtain rfl := Option.some.inj h; simp; omega
    · split at h
      · split at h
        · have := groupsP_len tail t _ r h; simp at this ⊢; omega
        · cases h
      · cases h
theorem groupsV_len (tail : Bool) (l : List UInt8) (r : List Int) (h : groupsV tail l = some r) : r.length ≤ 4 * l.length + 4 := by
  unfold groupsV at h
  split at h
  · obtain rfl := Option.some.inj h; simp
  · have := groupsP_len tail _ _ r h
    have := splitS_len 58 l
    simp at *; omega
theorem six_f (l : List UInt8) (hl : l.length ≤ 900000) (k : Nat) (hk : 5000000 ≤ k) : ip_six.f k (B l) = some (sixR (sixV l)) := by
  obtain ⟨h1, h2, h3⟩ := cut_len l [58, 58]
  have hc : strings_Cut.f (B l) (⟨#[58, 58]⟩ : ByteArray) = some (B (Lib.cut l [58, 58]).1, B (Lib.cut l [58, 58]).2.1, (Lib.cut l [58, 58]).2.2) := by
    unfold strings_Cut.f cutOf
    rw [if_pos (by rw [size_B]; omega), show (B l).data.toList = l from L_B l]
    rfl
  unfold sixV
  generalize (Lib.cut l [58, 58]).1 = h at *
  generalize (Lib.cut l [58, 58]).2.1 = t at *
  generalize (Lib.cut l [58, 58]).2.2 = f at *
  have hg1 := groups_f h (!f) (by omega) k hk
  have hg2 := groups_f t true (by omega) k hk
  have hl1 := groupsV_len (!f) h
  have hl2 := groupsV_len true t
  rw [ip_six.f, hc, Option.bind_some, hg1, Option.bind_some, hg2, Option.bind_some]
  cases ha : groupsV (!f) h with
  | none =>
    show (if (false : Bool) = true then _ else some z16) = _
    rw [if_neg (by simp)]
    rfl
  | some a =>
    cases hb : groupsV true t with
    | none =>
      show (if (true : Bool) = true then (if (false : Bool) = true then _ else some z16) else _) = _
      rw [if_pos rfl, if_neg (by simp)]
      rfl
    | some b =>
      have la := hl1 a ha
      have lb := hl2 b hb
      rw [show groupsR (some a) = (a, true) from rfl, show groupsR (some b) = (b, true) from rfl]
      dsimp only
      rw [if_pos rfl, if_pos rfl]
      cases f with
      | true =>
        rw [if_pos rfl, if_pos rfl, wadd a.length b.length (by omega) (by omega)]
        by_cases g : a.length + b.length ≤ 16
        · rw [if_neg (by omega), if_pos g, wsub16 b.length (by omega), if_pos (by omega), if_pos (by omega)]
          rfl
        · rw [if_pos (by omega), if_neg g]
          rfl
      | false =>
        obtain rfl := h3 rfl
        have hb0 : b = [] := by
          have : groupsV true [] = some [] := rfl
          rw [this] at hb
          exact (Option.some.inj hb).symm
        subst hb0
        have hft : ¬ (false = true) := by decide
        rw [if_neg hft, if_neg hft]
        by_cases g : a.length = 16
        · rw [if_pos (by omega), if_pos g, show (([] : List Int).length : Int) = ((0 : Nat) : Int) from rfl, wsub16 0 (by decide), if_pos (by decide), if_pos (by decide)]
          rfl
        · rw [if_neg (by omega), if_neg g]
          rfl
/-- Sixteen bytes as an address of IPv6. -/
def V6T (s : Tup16) : Tup := (true, s.1, s.2.1, s.2.2.1, s.2.2.2.1, s.2.2.2.2.1, s.2.2.2.2.2.1, s.2.2.2.2.2.2.1, s.2.2.2.2.2.2.2.1, s.2.2.2.2.2.2.2.2.1, s.2.2.2.2.2.2.2.2.2.1, s.2.2.2.2.2.2.2.2.2.2.1, s.2.2.2.2.2.2.2.2.2.2.2.1, s.2.2.2.2.2.2.2.2.2.2.2.2.1, s.2.2.2.2.2.2.2.2.2.2.2.2.2.1, s.2.2.2.2.2.2.2.2.2.2.2.2.2.2.1, s.2.2.2.2.2.2.2.2.2.2.2.2.2.2.2.1)
def parseV (l : List UInt8) : Option Tup := if 64 < l.length then none else match fourV l with
  | some (a, b, c, d) => some (V4T a b c d)
  | none => match sixV l with
    | some (a, b) => if Lib.contains l [58] = true then some (V6T (sixT a b)) else none
    | none => none
def parseR : Option Tup → Bool × Int × Int × Int × Int × Int × Int × Int × Int × Int × Int × Int × Int × Int × Int × Int × Int × Int
  | some a => T18 a 0
  | none => errL
theorem Parse_f (l : List UInt8) (hl : l.length ≤ 900000) (k : Nat) (hk : 5000000 ≤ k) : ip_Parse.f k (B l) = some (parseR (parseV l)) := by
  rw [ip_Parse.f, size_B]
  unfold parseV
  by_cases h : 64 < l.length
  · rw [if_pos (by omega), if_pos h]; rfl
  · rw [if_neg (by omega), if_neg h]
    obtain ⟨r, hr, hf⟩ := four_f l (by omega) k (by omega)
    rw [hr, Option.bind_some]
    cases hv : fourV l with
    | some x =>
      obtain ⟨a, b, c, d⟩ := x
      rw [hv] at hf
      obtain rfl : r = ((a : Int), (b : Int), (c : Int), (d : Int), true) := hf
      rw [if_pos rfl]
      rfl
    | none =>
      rw [hv] at hf
      have hf' : r.2.2.2.2 = false := hf
      rw [hf', if_neg (by simp), six_f l hl k hk, Option.bind_some]
      cases sixV l with
      | none =>
        show (if (false : Bool) = true then _ else some errL) = _
        rw [if_neg (by simp)]
        rfl
      | some x =>
        obtain ⟨a, b⟩ := x
        have hc : strings_Contains.f (B l) (⟨#[58]⟩ : ByteArray) = some (Lib.contains l [58]) := by
          unfold strings_Contains.f
          rw [if_pos (by rw [size_B]; omega), show (B l).data.toList = l from L_B l]
        show (if (true : Bool) = true then _ else some errL) = _
        rw [if_pos rfl, hc, Option.bind_some]
        dsimp only
        by_cases g : Lib.contains l [58] = true
        · rw [if_pos g, if_pos g]; rfl
        · rw [if_neg g, if_neg g]; rfl
end Go.Proofs.YtfiefecjcmcejaaDoor.Q
