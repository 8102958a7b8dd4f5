/- The law CidrHas, plainly: the told functions of cidr and of its reference, by bits. -/
import Derived.Test.YtdopafhppaalfaaDoorM8
import Derived.Test.YtdopafhppaalfaaDoorG5
import Derived.Test.YtdopafhppaalfaaDoorP0
import Derived.Test.YtdopafhppaalfaaDoorP1
import Derived.Test.YtdopafhppaalfaaDoorP2
import Derived.Test.YtdopafhppaalfaaDoorP3
import Derived.Test.YtdopafhppaalfaaDoorP4
import Derived.Test.YtdopafhppaalfaaDoorP5
import Derived.Test.YtdopafhppaalfaaDoorP6
import Derived.Test.YtdopafhppaalfaaDoorP7
import Derived.Test.YtdopafhppaalfaaDoorP8
import Derived.Test.YtdopafhppaalfaaDoorP9
import Derived.Test.YtdopafhppaalfaaDoorP10
set_option linter.unusedSimpArgs false
set_option linter.unusedVariables false
set_option maxRecDepth 10000
namespace Go.Proofs.YtdopafhppaalfaaDoor.Q
open Go Go.RowKit Go.Lib Go.Proofs.YtdopafhppaalfaaDoorW.PrintWords Go.Proofs.YtdopafhppaalfaaDoorW.PrintMore Go.Proofs.YtdopafhppaalfaaDoorB Go.Proofs.YtdopafhppaalfaaDoor.E Go.Proofs.YtdopafhppaalfaaDoorV Go.Proofs.YtdopafhppaalfaaDoor.P Go.Proofs.YtdopafhppaalfaaDoor.G

theorem iteF_b (x c : Int) (r : Bool) : (if x = c then some r else some false) = some ((x == c) && r) := by
 by_cases h : x = c
 ·subst h; simp
 ·rw [if_neg h, beq_eq_false_iff_ne.mpr h]; rfl
theorem wm0 : wrap64 (0 + 1) = 1 := by rw [wrap_id (by decide) (by decide)]; rfl
theorem my0 (k : Nat) (b1 b2 b3 b4 b5 b6 b7 b8 b9 b10 b11 b12 b13 b14 b15 b16 : Int) : lanternref05_May.l0 (k + 2) 0 false b1 b2 b3 b4 b5 b6 b7 b8 b9 b10 b11 b12 b13 b14 b15 b16 = if b1 = 0 then lanternref05_May.l0 k 1 false b1 b2 b3 b4 b5 b6 b7 b8 b9 b10 b11 b12 b13 b14 b15 b16 else some false := by
 rw [lanternref05_May.l0, if_pos (by decide), Bool.not_false, lanternref05_May.j1, if_pos rfl, if_pos (by decide), if_pos (by decide), wm0]
 rfl
theorem wm1 : wrap64 (1 + 1) = 2 := by rw [wrap_id (by decide) (by decide)]; rfl
theorem my1 (k : Nat) (b1 b2 b3 b4 b5 b6 b7 b8 b9 b10 b11 b12 b13 b14 b15 b16 : Int) : lanternref05_May.l0 (k + 2) 1 false b1 b2 b3 b4 b5 b6 b7 b8 b9 b10 b11 b12 b13 b14 b15 b16 = if b2 = 0 then lanternref05_May.l0 k 2 false b1 b2 b3 b4 b5 b6 b7 b8 b9 b10 b11 b12 b13 b14 b15 b16 else some false := by
 rw [lanternref05_May.l0, if_pos (by decide), Bool.not_false, lanternref05_May.j1, if_pos rfl, if_pos (by decide), if_pos (by decide), wm1]
 rfl
theorem wm2 : wrap64 (2 + 1) = 3 := by rw [wrap_id (by decide) (by decide)]; rfl
theorem my2 (k : Nat) (b1 b2 b3 b4 b5 b6 b7 b8 b9 b10 b11 b12 b13 b14 b15 b16 : Int) : lanternref05_May.l0 (k + 2) 2 false b1 b2 b3 b4 b5 b6 b7 b8 b9 b10 b11 b12 b13 b14 b15 b16 = if b3 = 0 then lanternref05_May.l0 k 3 false b1 b2 b3 b4 b5 b6 b7 b8 b9 b10 b11 b12 b13 b14 b15 b16 else some false := by
 rw [lanternref05_May.l0, if_pos (by decide), Bool.not_false, lanternref05_May.j1, if_pos rfl, if_pos (by decide), if_pos (by decide), wm2]
 rfl
theorem wm3 : wrap64 (3 + 1) = 4 := by rw [wrap_id (by decide) (by decide)]; rfl
theorem my3 (k : Nat) (b1 b2 b3 b4 b5 b6 b7 b8 b9 b10 b11 b12 b13 b14 b15 b16 : Int) : lanternref05_May.l0 (k + 2) 3 false b1 b2 b3 b4 b5 b6 b7 b8 b9 b10 b11 b12 b13 b14 b15 b16 = if b4 = 0 then lanternref05_May.l0 k 4 false b1 b2 b3 b4 b5 b6 b7 b8 b9 b10 b11 b12 b13 b14 b15 b16 else some false := by
 rw [lanternref05_May.l0, if_pos (by decide), Bool.not_false, lanternref05_May.j1, if_pos rfl, if_pos (by decide), if_pos (by decide), wm3]
 rfl
theorem wm4 : wrap64 (4 + 1) = 5 := by rw [wrap_id (by decide) (by decide)]; rfl
theorem my4 (k : Nat) (b1 b2 b3 b4 b5 b6 b7 b8 b9 b10 b11 b12 b13 b14 b15 b16 : Int) : lanternref05_May.l0 (k + 2) 4 false b1 b2 b3 b4 b5 b6 b7 b8 b9 b10 b11 b12 b13 b14 b15 b16 = if b5 = 0 then lanternref05_May.l0 k 5 false b1 b2 b3 b4 b5 b6 b7 b8 b9 b10 b11 b12 b13 b14 b15 b16 else some false := by
 rw [lanternref05_May.l0, if_pos (by decide), Bool.not_false, lanternref05_May.j1, if_pos rfl, if_pos (by decide), if_pos (by decide), wm4]
 rfl
theorem wm5 : wrap64 (5 + 1) = 6 := by rw [wrap_id (by decide) (by decide)]; rfl
theorem my5 (k : Nat) (b1 b2 b3 b4 b5 b6 b7 b8 b9 b10 b11 b12 b13 b14 b15 b16 : Int) : lanternref05_May.l0 (k + 2) 5 false b1 b2 b3 b4 b5 b6 b7 b8 b9 b10 b11 b12 b13 b14 b15 b16 = if b6 = 0 then lanternref05_May.l0 k 6 false b1 b2 b3 b4 b5 b6 b7 b8 b9 b10 b11 b12 b13 b14 b15 b16 else some false := by
 rw [lanternref05_May.l0, if_pos (by decide), Bool.not_false, lanternref05_May.j1, if_pos rfl, if_pos (by decide), if_pos (by decide), wm5]
 rfl
theorem wm6 : wrap64 (6 + 1) = 7 := by rw [wrap_id (by decide) (by decide)]; rfl
theorem my6 (k : Nat) (b1 b2 b3 b4 b5 b6 b7 b8 b9 b10 b11 b12 b13 b14 b15 b16 : Int) : lanternref05_May.l0 (k + 2) 6 false b1 b2 b3 b4 b5 b6 b7 b8 b9 b10 b11 b12 b13 b14 b15 b16 = if b7 = 0 then lanternref05_May.l0 k 7 false b1 b2 b3 b4 b5 b6 b7 b8 b9 b10 b11 b12 b13 b14 b15 b16 else some false := by
 rw [lanternref05_May.l0, if_pos (by decide), Bool.not_false, lanternref05_May.j1, if_pos rfl, if_pos (by decide), if_pos (by decide), wm6]
 rfl
theorem wm7 : wrap64 (7 + 1) = 8 := by rw [wrap_id (by decide) (by decide)]; rfl
theorem my7 (k : Nat) (b1 b2 b3 b4 b5 b6 b7 b8 b9 b10 b11 b12 b13 b14 b15 b16 : Int) : lanternref05_May.l0 (k + 2) 7 false b1 b2 b3 b4 b5 b6 b7 b8 b9 b10 b11 b12 b13 b14 b15 b16 = if b8 = 0 then lanternref05_May.l0 k 8 false b1 b2 b3 b4 b5 b6 b7 b8 b9 b10 b11 b12 b13 b14 b15 b16 else some false := by
 rw [lanternref05_May.l0, if_pos (by decide), Bool.not_false, lanternref05_May.j1, if_pos rfl, if_pos (by decide), if_pos (by decide), wm7]
 rfl
theorem wm8 : wrap64 (8 + 1) = 9 := by rw [wrap_id (by decide) (by decide)]; rfl
theorem my8 (k : Nat) (b1 b2 b3 b4 b5 b6 b7 b8 b9 b10 b11 b12 b13 b14 b15 b16 : Int) : lanternref05_May.l0 (k + 2) 8 false b1 b2 b3 b4 b5 b6 b7 b8 b9 b10 b11 b12 b13 b14 b15 b16 = if b9 = 0 then lanternref05_May.l0 k 9 false b1 b2 b3 b4 b5 b6 b7 b8 b9 b10 b11 b12 b13 b14 b15 b16 else some false := by
 rw [lanternref05_May.l0, if_pos (by decide), Bool.not_false, lanternref05_May.j1, if_pos rfl, if_pos (by decide), if_pos (by decide), wm8]
 rfl
theorem wm9 : wrap64 (9 + 1) = 10 := by rw [wrap_id (by decide) (by decide)]; rfl
theorem my9 (k : Nat) (b1 b2 b3 b4 b5 b6 b7 b8 b9 b10 b11 b12 b13 b14 b15 b16 : Int) : lanternref05_May.l0 (k + 2) 9 false b1 b2 b3 b4 b5 b6 b7 b8 b9 b10 b11 b12 b13 b14 b15 b16 = if b10 = 0 then lanternref05_May.l0 k 10 false b1 b2 b3 b4 b5 b6 b7 b8 b9 b10 b11 b12 b13 b14 b15 b16 else some false := by
 rw [lanternref05_May.l0, if_pos (by decide), Bool.not_false, lanternref05_May.j1, if_pos rfl, if_pos (by decide), if_pos (by decide), wm9]
 rfl
theorem wm10 : wrap64 (10 + 1) = 11 := by rw [wrap_id (by decide) (by decide)]; rfl
theorem my10 (k : Nat) (b1 b2 b3 b4 b5 b6 b7 b8 b9 b10 b11 b12 b13 b14 b15 b16 : Int) : lanternref05_May.l0 (k + 2) 10 false b1 b2 b3 b4 b5 b6 b7 b8 b9 b10 b11 b12 b13 b14 b15 b16 = if b11 = 0 then lanternref05_May.l0 k 11 false b1 b2 b3 b4 b5 b6 b7 b8 b9 b10 b11 b12 b13 b14 b15 b16 else some false := by
 rw [lanternref05_May.l0, if_pos (by decide), Bool.not_false, lanternref05_May.j1, if_pos rfl, if_pos (by decide), if_pos (by decide), wm10]
 rfl
theorem wm11 : wrap64 (11 + 1) = 12 := by rw [wrap_id (by decide) (by decide)]; rfl
theorem my11 (k : Nat) (b1 b2 b3 b4 b5 b6 b7 b8 b9 b10 b11 b12 b13 b14 b15 b16 : Int) : lanternref05_May.l0 (k + 2) 11 false b1 b2 b3 b4 b5 b6 b7 b8 b9 b10 b11 b12 b13 b14 b15 b16 = if b12 = 0 then lanternref05_May.l0 k 12 false b1 b2 b3 b4 b5 b6 b7 b8 b9 b10 b11 b12 b13 b14 b15 b16 else some false := by
 rw [lanternref05_May.l0, if_pos (by decide), Bool.not_false, lanternref05_May.j1, if_pos rfl, if_pos (by decide), if_pos (by decide), wm11]
 rfl
def zB (b1 b2 b3 b4 b5 b6 b7 b8 b9 b10 b11 b12 : Int) : Bool := ((b1 == 0) && ((b2 == 0) && ((b3 == 0) && ((b4 == 0) && ((b5 == 0) && ((b6 == 0) && ((b7 == 0) && ((b8 == 0) && ((b9 == 0) && ((b10 == 0) && ((b11 == 0) && (b12 == 0))))))))))))
theorem May_f (k : Nat) (hk : 40 ≤ k) (b : Bool) (b1 b2 b3 b4 b5 b6 b7 b8 b9 b10 b11 b12 b13 b14 b15 b16 : Int) : lanternref05_May.f k b b1 b2 b3 b4 b5 b6 b7 b8 b9 b10 b11 b12 b13 b14 b15 b16 = some (b || zB b1 b2 b3 b4 b5 b6 b7 b8 b9 b10 b11 b12) := by
 obtain ⟨k, rfl⟩ : ∃ j, k = j + 26 := ⟨k - 26, by omega⟩
 rw [lanternref05_May.f]
 cases b
 ·have e : lanternref05_May.l0 (k + 2) 12 false b1 b2 b3 b4 b5 b6 b7 b8 b9 b10 b11 b12 b13 b14 b15 b16 = some true := by rw [lanternref05_May.l0, if_neg (by decide), lanternref05_May.j1, if_neg (by decide)]
  rw [my0, my1, my2, my3, my4, my5, my6, my7, my8, my9, my10, my11, e]
  simp only [iteF_b, zB, Bool.and_true, Bool.false_or]
 ·rw [show k + 26 = (k + 24) + 2 from rfl, lanternref05_May.l0, if_pos (by decide), Bool.not_true, lanternref05_May.j1, if_neg (by decide), Bool.true_or]
theorem Check_f (b : Bool) (b1 b2 b3 b4 b5 b6 b7 b8 b9 b10 b11 b12 b13 b14 b15 b16 : Int) : ip_Check.f b b1 b2 b3 b4 b5 b6 b7 b8 b9 b10 b11 b12 b13 b14 b15 b16 = some (if (b || zB b1 b2 b3 b4 b5 b6 b7 b8 b9 b10 b11 b12) = true then 0 else 1) := by
 rw [ip_Check.f]
 cases b
 ·rw [if_neg (by decide), ip_V4.f, Option.bind_some, Bool.false_or]
  by_cases h : zB b1 b2 b3 b4 b5 b6 b7 b8 b9 b10 b11 b12 = true
  ·rw [if_pos h]
   simp [zB] at h
   rw [if_neg (by simp [h])]
  ·rw [if_neg h]
   rw [if_pos]
   simp [zB] at h ⊢
   refine Classical.byContradiction fun hn => ?_
   simp only [not_or, Classical.not_not] at hn
   obtain ⟨z0, z1, z2, z3, z4, z5, z6, z7, z8, z9, z10, z11⟩ := hn
   exact h z0 z1 z2 z3 z4 z5 z6 z7 z8 z9 z10 z11
 ·rw [if_pos rfl, Bool.true_or, if_pos rfl]

theorem bit_core (l : List Int) (hl : byteL l) (j : Nat) (hj : j < 128) :
  (if 0 ≤ (wrap64 (Int.tdiv (j : Int) 8)) then (if (wrap64 (Int.tdiv (j : Int) 8)) < 16 then (if 0 ≤ (IntKind.u64.wrap (wrap64 (7 - (Int.tmod (j : Int) 8)))) then (some (Int.tmod (shr .i64 (wrap64 (rd l (wrap64 (Int.tdiv (j : Int) 8)))) (IntKind.u64.wrap (wrap64 (7 - (Int.tmod (j : Int) 8))))) 2)) else (none)) else (none)) else (none)) = some (bitN l j) := by
 have e1 : Int.tdiv (j : Int) 8 = ((j / 8 : Nat) : Int) := rfl
 have e2 : Int.tmod (j : Int) 8 = ((j % 8 : Nat) : Int) := rfl
 have e3 : wrap64 ((j / 8 : Nat) : Int) = ((j / 8 : Nat) : Int) := wrap_id (by omega) (by omega)
 have e4 : (7 : Int) - ((j % 8 : Nat) : Int) = ((7 - j % 8 : Nat) : Int) := by omega
 have e5 : wrap64 ((7 - j % 8 : Nat) : Int) = ((7 - j % 8 : Nat) : Int) := wrap_id (by omega) (by omega)
 have e6 : IntKind.u64.wrap ((7 - j % 8 : Nat) : Int) = ((7 - j % 8 : Nat) : Int) := by rw [IntKind.wrap_u64]; omega
 rw [e1, e2, e3, e4, e5, e6, if_pos (by omega), if_pos (by omega), if_pos (by omega)]
 have g := getD_byte l hl (j / 8) (by omega)
 have e7 : rd l ((j / 8 : Nat) : Int) = l.getD (j / 8) 0 := rfl
 rw [e7, wrap_id (x := l.getD (j / 8) 0) (by omega) (by omega), shr]
 rw [show min ((7 - j % 8 : Nat) : Int).toNat IntKind.i64.bits = 7 - j % 8 from Nat.min_eq_left (by show ((7 - j % 8 : Nat) : Int).toNat ≤ 64; omega)]
 rw [Int.tmod_eq_emod_of_nonneg (Int.ediv_nonneg g.1 (Int.pow_nonneg (by decide)))]
 rfl
theorem bit_f (v : Bool) (x1 x2 x3 x4 x5 x6 x7 x8 x9 x10 x11 x12 x13 x14 x15 x16 : Int) (hx : byteL [x1, x2, x3, x4, x5, x6, x7, x8, x9, x10, x11, x12, x13, x14, x15, x16]) (i : Int) (h0 : 0 ≤ i) (h1 : i + (frN v : Int) < 128) : lanternref06_bit.f v x1 x2 x3 x4 x5 x6 x7 x8 x9 x10 x11 x12 x13 x14 x15 x16 i = some (bitN [x1, x2, x3, x4, x5, x6, x7, x8, x9, x10, x11, x12, x13, x14, x15, x16] (frN v + i.toNat)) := by
 obtain ⟨n, rfl⟩ := Int.eq_ofNat_of_zero_le h0
 rw [lanternref06_bit.f]
 cases v
 ·have e : wrap64 ((n : Int) + 96) = ((96 + n : Nat) : Int) := by
   have h2 : (n : Int) + 96 < 128 := h1
   rw [wrap_id (by omega) (by omega)]; omega
  rw [if_neg (by decide), e]
  exact bit_core _ hx (96 + n) (by have h2 : (n : Int) + 96 < 128 := h1; omega)
 ·rw [if_pos rfl, show frN true + ((n : Nat) : Int).toNat = n by show 0 + n = n; omega]
  exact bit_core _ hx n (by have h2 : (n : Int) + 0 < 128 := h1; omega)
theorem bits_f (v : Bool) (x1 x2 x3 x4 x5 x6 x7 x8 x9 x10 x11 x12 x13 x14 x15 x16 : Int) : lanternref06_bits.f v x1 x2 x3 x4 x5 x6 x7 x8 x9 x10 x11 x12 x13 x14 x15 x16 = some (btI v) := by cases v <;> rfl
theorem bt_le (v : Bool) : btI v = 128 - (frN v : Int) ∧ frN v ≤ 96 := by cases v <;> decide
theorem refMay_l (v : Bool) (x1 x2 x3 x4 x5 x6 x7 x8 x9 x10 x11 x12 x13 x14 x15 x16 n : Int) (hx : byteL [x1, x2, x3, x4, x5, x6, x7, x8, x9, x10, x11, x12, x13, x14, x15, x16]) : ∀ (c k : Nat) (i : Int), c < k → 0 ≤ i → i + (c : Int) = btI v → lanternref06_May.l0 k i v x1 x2 x3 x4 x5 x6 x7 x8 x9 x10 x11 x12 x13 x14 x15 x16 n = some (allZ [x1, x2, x3, x4, x5, x6, x7, x8, x9, x10, x11, x12, x13, x14, x15, x16] (frN v + i.toNat) c)
 | _, 0, _, h, _, _ => absurd h (Nat.not_lt_zero _)
 | 0, k + 1, i, _, h0, h1 => by
  rw [lanternref06_May.l0, bits_f, Option.bind_some, if_neg (by omega)]; rfl
 | c + 1, k + 1, i, hk, h0, h1 => by
  have hb := bt_le v
  rw [lanternref06_May.l0, bits_f, Option.bind_some, if_pos (by omega), bit_f v x1 x2 x3 x4 x5 x6 x7 x8 x9 x10 x11 x12 x13 x14 x15 x16 hx i h0 (by omega), Option.bind_some, allZ]
  by_cases h : bitN [x1, x2, x3, x4, x5, x6, x7, x8, x9, x10, x11, x12, x13, x14, x15, x16] (frN v + i.toNat) = 0
  ·rw [if_pos h, if_pos h, wrap_id (by omega) (by omega), refMay_l v x1 x2 x3 x4 x5 x6 x7 x8 x9 x10 x11 x12 x13 x14 x15 x16 n hx c k (i + 1) (by omega) (by omega) (by omega), show frN v + (i + 1).toNat = frN v + i.toNat + 1 by omega]
  ·rw [if_neg h, if_neg h]
def zL : List Int → Bool
 | [x1, x2, x3, x4, x5, x6, x7, x8, x9, x10, x11, x12, x13, x14, x15, x16] => zB x1 x2 x3 x4 x5 x6 x7 x8 x9 x10 x11 x12
 | _ => false
theorem zL_mk (x1 x2 x3 x4 x5 x6 x7 x8 x9 x10 x11 x12 x13 x14 x15 x16 : Int) : zL [x1, x2, x3, x4, x5, x6, x7, x8, x9, x10, x11, x12, x13, x14, x15, x16] = zB x1 x2 x3 x4 x5 x6 x7 x8 x9 x10 x11 x12 := rfl
def mayB (v : Bool) (l : List Int) : Bool := v || zL l
def netB (v : Bool) (l : List Int) (n : Int) : Bool := mayB v l && (decide (0 ≤ n) && (decide (n ≤ btI v) && allZ l (frN v + n.toNat) (btI v - n).toNat))
def hasB (v : Bool) (l : List Int) (n : Int) (u : Bool) (m : List Int) : Bool := netB v l n && (mayB u m && (v == u && allE l m (frN v) n.toNat))
theorem refMay_f (k : Nat) (hk : 200 ≤ k) (v : Bool) (x1 x2 x3 x4 x5 x6 x7 x8 x9 x10 x11 x12 x13 x14 x15 x16 n : Int) (hx : byteL [x1, x2, x3, x4, x5, x6, x7, x8, x9, x10, x11, x12, x13, x14, x15, x16]) : lanternref06_May.f k v x1 x2 x3 x4 x5 x6 x7 x8 x9 x10 x11 x12 x13 x14 x15 x16 n = some (netB v [x1, x2, x3, x4, x5, x6, x7, x8, x9, x10, x11, x12, x13, x14, x15, x16] n) := by
 obtain ⟨k, rfl⟩ : ∃ j, k = j + 1 := ⟨k - 1, by omega⟩
 have hb := bt_le v
 rw [lanternref06_May.f, May_f _ (by omega), Option.bind_some, netB, mayB, zL_mk]
 by_cases h : (v || zB x1 x2 x3 x4 x5 x6 x7 x8 x9 x10 x11 x12) = true
 ·rw [if_pos h, h, Bool.true_and]
  by_cases h2 : n < 0
  ·rw [if_pos h2, lanternref06_May.j0, if_pos rfl, decide_eq_false (by omega), Bool.false_and]
  ·rw [if_neg h2, bits_f, Option.bind_some, decide_eq_true (p := 0 ≤ n) (by omega), Bool.true_and, lanternref06_May.j0]
   by_cases h3 : n > btI v
   ·rw [decide_eq_true h3, if_pos rfl, decide_eq_false (by omega), Bool.false_and]
   ·rw [decide_eq_false h3, if_neg (by decide), decide_eq_true (by omega), Bool.true_and, refMay_l v x1 x2 x3 x4 x5 x6 x7 x8 x9 x10 x11 x12 x13 x14 x15 x16 n hx (btI v - n).toNat k n (by omega) (by omega) (by omega)]
 ·rw [if_neg h, lanternref06_May.j0, if_pos rfl, Bool.eq_false_iff.2 h, Bool.false_and]
theorem refHas_l (v : Bool) (a1 a2 a3 a4 a5 a6 a7 a8 a9 a10 a11 a12 a13 a14 a15 a16 n : Int) (x1 x2 x3 x4 x5 x6 x7 x8 x9 x10 x11 x12 x13 x14 x15 x16 : Int) (ha : byteL [a1, a2, a3, a4, a5, a6, a7, a8, a9, a10, a11, a12, a13, a14, a15, a16]) (hx : byteL [x1, x2, x3, x4, x5, x6, x7, x8, x9, x10, x11, x12, x13, x14, x15, x16]) (hn : n ≤ btI v) : ∀ (c k : Nat) (i : Int), c < k → 0 ≤ i → i + (c : Int) = n → lanternref06_Has.l0 k i v a1 a2 a3 a4 a5 a6 a7 a8 a9 a10 a11 a12 a13 a14 a15 a16 n v x1 x2 x3 x4 x5 x6 x7 x8 x9 x10 x11 x12 x13 x14 x15 x16 = some (allE [a1, a2, a3, a4, a5, a6, a7, a8, a9, a10, a11, a12, a13, a14, a15, a16] [x1, x2, x3, x4, x5, x6, x7, x8, x9, x10, x11, x12, x13, x14, x15, x16] (frN v + i.toNat) c)
 | _, 0, _, h, _, _ => absurd h (Nat.not_lt_zero _)
 | 0, k + 1, i, _, h0, h1 => by
  rw [lanternref06_Has.l0, if_neg (by omega)]; rfl
 | c + 1, k + 1, i, hk, h0, h1 => by
  have hb := bt_le v
  rw [lanternref06_Has.l0, if_pos (by omega), bit_f v a1 a2 a3 a4 a5 a6 a7 a8 a9 a10 a11 a12 a13 a14 a15 a16 ha i h0 (by omega), Option.bind_some, bit_f v x1 x2 x3 x4 x5 x6 x7 x8 x9 x10 x11 x12 x13 x14 x15 x16 hx i h0 (by omega), Option.bind_some, allE]
  by_cases h : bitN [a1, a2, a3, a4, a5, a6, a7, a8, a9, a10, a11, a12, a13, a14, a15, a16] (frN v + i.toNat) = bitN [x1, x2, x3, x4, x5, x6, x7, x8, x9, x10, x11, x12, x13, x14, x15, x16] (frN v + i.toNat)
  ·rw [if_pos h, if_pos h, wrap_id (by omega) (by omega), refHas_l v a1 a2 a3 a4 a5 a6 a7 a8 a9 a10 a11 a12 a13 a14 a15 a16 n x1 x2 x3 x4 x5 x6 x7 x8 x9 x10 x11 x12 x13 x14 x15 x16 ha hx hn c k (i + 1) (by omega) (by omega) (by omega), show frN v + (i + 1).toNat = frN v + i.toNat + 1 by omega]
  ·rw [if_neg h, if_neg h]
theorem refHas_f (k : Nat) (hk : 200 ≤ k) (v : Bool) (a1 a2 a3 a4 a5 a6 a7 a8 a9 a10 a11 a12 a13 a14 a15 a16 n : Int) (u : Bool) (x1 x2 x3 x4 x5 x6 x7 x8 x9 x10 x11 x12 x13 x14 x15 x16 : Int) (ha : byteL [a1, a2, a3, a4, a5, a6, a7, a8, a9, a10, a11, a12, a13, a14, a15, a16]) (hx : byteL [x1, x2, x3, x4, x5, x6, x7, x8, x9, x10, x11, x12, x13, x14, x15, x16]) (h0 : 0 ≤ n) (hn : n ≤ btI v) : lanternref06_Has.f k v a1 a2 a3 a4 a5 a6 a7 a8 a9 a10 a11 a12 a13 a14 a15 a16 n u x1 x2 x3 x4 x5 x6 x7 x8 x9 x10 x11 x12 x13 x14 x15 x16 = some (v == u && allE [a1, a2, a3, a4, a5, a6, a7, a8, a9, a10, a11, a12, a13, a14, a15, a16] [x1, x2, x3, x4, x5, x6, x7, x8, x9, x10, x11, x12, x13, x14, x15, x16] (frN v) n.toNat) := by
 have hb := bt_le v
 rw [lanternref06_Has.f]
 by_cases h : v = u
 ·subst h
  rw [if_neg (by simp), refHas_l v a1 a2 a3 a4 a5 a6 a7 a8 a9 a10 a11 a12 a13 a14 a15 a16 n x1 x2 x3 x4 x5 x6 x7 x8 x9 x10 x11 x12 x13 x14 x15 x16 ha hx hn n.toNat k 0 (by omega) (by omega) (by omega), beq_self_eq_true, Bool.true_and]
  rfl
 ·rw [if_pos (by simpa using h), beq_eq_false_iff_ne.2 h, Bool.false_and]
theorem netB_range {v : Bool} {l : List Int} {n : Int} (h : netB v l n = true) : mayB v l = true ∧ 0 ≤ n ∧ n ≤ btI v ∧ allZ l (frN v + n.toNat) (btI v - n).toNat = true := by
 simpa only [netB, Bool.and_eq_true, decide_eq_true_eq] using h
theorem cutL_mk (c : Int) (x1 x2 x3 x4 x5 x6 x7 x8 x9 x10 x11 x12 x13 x14 x15 x16 : Int) : cutL c 0 [x1, x2, x3, x4, x5, x6, x7, x8, x9, x10, x11, x12, x13, x14, x15, x16] = [cutB c 0 x1, cutB c 1 x2, cutB c 2 x3, cutB c 3 x4, cutB c 4 x5, cutB c 5 x6, cutB c 6 x7, cutB c 7 x8, cutB c 8 x9, cutB c 9 x10, cutB c 10 x11, cutB c 11 x12, cutB c 12 x13, cutB c 13 x14, cutB c 14 x15, cutB c 15 x16] := rfl
theorem all_test (c1 c2 c3 c4 c5 c6 c7 c8 c9 c10 c11 c12 c13 c14 c15 c16 a1 a2 a3 a4 a5 a6 a7 a8 a9 a10 a11 a12 a13 a14 a15 a16 : Int) : (c1 == a1 && (c2 == a2 && (c3 == a3 && (c4 == a4 && (c5 == a5 && (c6 == a6 && (c7 == a7 && (c8 == a8 && (c9 == a9 && (c10 == a10 && (c11 == a11 && (c12 == a12 && (c13 == a13 && (c14 == a14 && (c15 == a15 && (c16 == a16)))))))))))))))) = decide ([c1, c2, c3, c4, c5, c6, c7, c8, c9, c10, c11, c12, c13, c14, c15, c16] = [a1, a2, a3, a4, a5, a6, a7, a8, a9, a10, a11, a12, a13, a14, a15, a16]) := by
 rw [Bool.eq_iff_iff]
 simp only [Bool.and_eq_true, beq_iff_eq, decide_eq_true_eq, List.cons.injEq, and_true]
theorem not_test (c1 c2 c3 c4 c5 c6 c7 c8 c9 c10 c11 c12 c13 c14 c15 c16 a1 a2 a3 a4 a5 a6 a7 a8 a9 a10 a11 a12 a13 a14 a15 a16 : Int) : (!(c1 == a1) || (!(c2 == a2) || (!(c3 == a3) || (!(c4 == a4) || (!(c5 == a5) || (!(c6 == a6) || (!(c7 == a7) || (!(c8 == a8) || (!(c9 == a9) || (!(c10 == a10) || (!(c11 == a11) || (!(c12 == a12) || (!(c13 == a13) || (!(c14 == a14) || (!(c15 == a15) || (!(c16 == a16))))))))))))))))) = !(decide ([c1, c2, c3, c4, c5, c6, c7, c8, c9, c10, c11, c12, c13, c14, c15, c16] = [a1, a2, a3, a4, a5, a6, a7, a8, a9, a10, a11, a12, a13, a14, a15, a16])) := by
 rw [← all_test]
 simp only [Bool.not_and]
theorem zL_get (l : List Int) (h : zL l = true) : ∀ i, i < 12 → l.getD i 0 = 0 := by
 match l, h with
 | [x1, x2, x3, x4, x5, x6, x7, x8, x9, x10, x11, x12, x13, x14, x15, x16], h =>
  simp only [zL, zB, Bool.and_eq_true, beq_iff_eq] at h
  obtain ⟨e1, e2, e3, e4, e5, e6, e7, e8, e9, e10, e11, e12⟩ := h
  subst e1 e2 e3 e4 e5 e6 e7 e8 e9 e10 e11 e12
  intro i hi
  match i, hi with
  | 0, _ => rfl
  | 1, _ => rfl
  | 2, _ => rfl
  | 3, _ => rfl
  | 4, _ => rfl
  | 5, _ => rfl
  | 6, _ => rfl
  | 7, _ => rfl
  | 8, _ => rfl
  | 9, _ => rfl
  | 10, _ => rfl
  | 11, _ => rfl
  | j + 12, h => exact absurd h (by omega)
theorem may_bits {v : Bool} {l : List Int} (h : mayB v l = true) (j : Nat) (hj : j < frN v) : bitN l j = 0 := by
 cases v
 ·have hj : j < 96 := hj
  unfold bitN
  rw [zL_get l (by simpa [mayB] using h) (j / 8) (by omega), Int.zero_ediv]
  rfl
 ·exact absurd hj (Nat.not_lt_zero _)
theorem cut_net (v : Bool) (l m : List Int) (n : Int) (hl : byteL l) (hm : byteL m) (h : netB v l n = true) (h2 : mayB v m = true) : decide (cutL (frI v + n) 0 m = l) = allE l m (frN v) n.toNat := by
 obtain ⟨g1, g2, g3, g4⟩ := netB_range h
 have hb := bt_le v
 rw [Bool.eq_iff_iff, decide_eq_true_eq, cut_eq _ _ _ hm hl, allE_iff, frN_I]
 rw [allZ_iff] at g4
 constructor
 ·intro H t h3 h4
  have e := H t (by omega)
  rw [if_pos (by omega)] at e
  exact e.symm
 ·intro H j hj
  by_cases h3 : j < frN v
  ·rw [may_bits h2 j h3, may_bits g1 j h3, ite_self]
  ·by_cases h4 : (j : Int) < (frN v : Int) + n
   ·rw [if_pos h4]; exact (H j (by omega) (by omega)).symm
   ·rw [if_neg h4]; exact (g4 j (by omega) (by omega)).symm
theorem cut_own (v : Bool) (l : List Int) (n : Int) (hl : byteL l) (h2 : mayB v l = true) (h0 : 0 ≤ n) (h1 : n ≤ btI v) : decide (cutL (frI v + n) 0 l = l) = allZ l (frN v + n.toNat) (btI v - n).toNat := by
 have hb := bt_le v
 rw [Bool.eq_iff_iff, decide_eq_true_eq, cut_eq _ _ _ hl hl, allZ_iff, frN_I]
 constructor
 ·intro H t h3 h4
  have e := H t (by omega)
  rw [if_neg (by omega)] at e
  exact e.symm
 ·intro H j hj
  by_cases h4 : (j : Int) < (frN v : Int) + n
  ·rw [if_pos h4]
  ·rw [if_neg h4]; exact (H j (by omega) (by omega)).symm
theorem size_f (v : Bool) (x1 x2 x3 x4 x5 x6 x7 x8 x9 x10 x11 x12 x13 x14 x15 x16 : Int) : cidr_size.f v x1 x2 x3 x4 x5 x6 x7 x8 x9 x10 x11 x12 x13 x14 x15 x16 = some (btI v, frI v) := by cases v <;> rfl
theorem netCheck_f (v : Bool) (x1 x2 x3 x4 x5 x6 x7 x8 x9 x10 x11 x12 x13 x14 x15 x16 n : Int) (hx : byteL [x1, x2, x3, x4, x5, x6, x7, x8, x9, x10, x11, x12, x13, x14, x15, x16]) : cidr_Check.f v x1 x2 x3 x4 x5 x6 x7 x8 x9 x10 x11 x12 x13 x14 x15 x16 n = some (if netB v [x1, x2, x3, x4, x5, x6, x7, x8, x9, x10, x11, x12, x13, x14, x15, x16] n = true then 0 else 1) := by
 have hb := bt_le v
 rw [cidr_Check.f, size_f, Option.bind_some, Check_f, Option.bind_some, netB, mayB, zL_mk]
 by_cases h : (v || zB x1 x2 x3 x4 x5 x6 x7 x8 x9 x10 x11 x12) = true
 ·rw [if_pos h, if_pos rfl, h, Bool.true_and]
  by_cases h2 : n < 0
  ·rw [if_pos h2, decide_eq_false (by omega), Bool.false_and, if_neg (by decide)]
  ·rw [if_neg h2, decide_eq_true (p := 0 ≤ n) (by omega), Bool.true_and]
   by_cases h3 : n > btI v
   ·rw [if_pos h3, decide_eq_false (by omega), Bool.false_and, if_neg (by decide)]
   ·rw [if_neg h3, decide_eq_true (by omega), Bool.true_and, ← cut_own v [x1, x2, x3, x4, x5, x6, x7, x8, x9, x10, x11, x12, x13, x14, x15, x16] n hx (by rw [mayB, zL_mk]; exact h) (by omega) (by omega), cidr_first.f, if_pos (by omega), Option.bind_some]
    dsimp only
    rw [beq_self_eq_true, Bool.not_true, Bool.false_or, not_test, ← cutL_mk]
    by_cases h4 : cutL (frI v + n) 0 [x1, x2, x3, x4, x5, x6, x7, x8, x9, x10, x11, x12, x13, x14, x15, x16] = [x1, x2, x3, x4, x5, x6, x7, x8, x9, x10, x11, x12, x13, x14, x15, x16]
    ·rw [decide_eq_true h4]; rfl
    ·rw [decide_eq_false h4]; rfl
 ·rw [if_neg h, if_neg (by decide), Bool.eq_false_iff.2 h, Bool.false_and, if_neg (by decide)]
theorem has_f (v : Bool) (a1 a2 a3 a4 a5 a6 a7 a8 a9 a10 a11 a12 a13 a14 a15 a16 n : Int) (u : Bool) (x1 x2 x3 x4 x5 x6 x7 x8 x9 x10 x11 x12 x13 x14 x15 x16 : Int) (ha : byteL [a1, a2, a3, a4, a5, a6, a7, a8, a9, a10, a11, a12, a13, a14, a15, a16]) (hx : byteL [x1, x2, x3, x4, x5, x6, x7, x8, x9, x10, x11, x12, x13, x14, x15, x16]) : cidr_Has.f v a1 a2 a3 a4 a5 a6 a7 a8 a9 a10 a11 a12 a13 a14 a15 a16 n u x1 x2 x3 x4 x5 x6 x7 x8 x9 x10 x11 x12 x13 x14 x15 x16 = some (hasB v [a1, a2, a3, a4, a5, a6, a7, a8, a9, a10, a11, a12, a13, a14, a15, a16] n u [x1, x2, x3, x4, x5, x6, x7, x8, x9, x10, x11, x12, x13, x14, x15, x16]) := by
 rw [cidr_Has.f, netCheck_f v a1 a2 a3 a4 a5 a6 a7 a8 a9 a10 a11 a12 a13 a14 a15 a16 n ha, Option.bind_some, hasB]
 by_cases h : netB v [a1, a2, a3, a4, a5, a6, a7, a8, a9, a10, a11, a12, a13, a14, a15, a16] n = true
 ·obtain ⟨g1, g2, g3, g4⟩ := netB_range h
  have hb := bt_le v
  rw [if_pos h, if_pos rfl, Check_f, Option.bind_some, h, Bool.true_and, mayB, zL_mk]
  by_cases h2 : (u || zB x1 x2 x3 x4 x5 x6 x7 x8 x9 x10 x11 x12) = true
  ·rw [if_pos h2, if_pos rfl, h2, Bool.true_and]
   by_cases h3 : v = u
   ·subst h3
    rw [if_pos (beq_self_eq_true v), beq_self_eq_true, Bool.true_and, cidr_first.f, if_pos (by omega), Option.bind_some]
    dsimp only
    rw [beq_self_eq_true, Bool.true_and, all_test, ← cutL_mk, cut_net v [a1, a2, a3, a4, a5, a6, a7, a8, a9, a10, a11, a12, a13, a14, a15, a16] [x1, x2, x3, x4, x5, x6, x7, x8, x9, x10, x11, x12, x13, x14, x15, x16] n ha hx h (by rw [mayB, zL_mk]; exact h2)]
   ·rw [if_neg (by simpa using h3), beq_eq_false_iff_ne.2 h3, Bool.false_and]
  ·rw [if_neg h2, if_neg (by decide), Bool.eq_false_iff.2 h2, Bool.false_and]
 ·rw [if_neg h, if_neg (by decide), Bool.eq_false_iff.2 h, Bool.false_and]
theorem meet_f (v : Bool) (a1 a2 a3 a4 a5 a6 a7 a8 a9 a10 a11 a12 a13 a14 a15 a16 n : Int) (u : Bool) (x1 x2 x3 x4 x5 x6 x7 x8 x9 x10 x11 x12 x13 x14 x15 x16 : Int) (m : Int) (ha : byteL [a1, a2, a3, a4, a5, a6, a7, a8, a9, a10, a11, a12, a13, a14, a15, a16]) (hx : byteL [x1, x2, x3, x4, x5, x6, x7, x8, x9, x10, x11, x12, x13, x14, x15, x16]) : cidr_Meet.f v a1 a2 a3 a4 a5 a6 a7 a8 a9 a10 a11 a12 a13 a14 a15 a16 n u x1 x2 x3 x4 x5 x6 x7 x8 x9 x10 x11 x12 x13 x14 x15 x16 m = some (netB v [a1, a2, a3, a4, a5, a6, a7, a8, a9, a10, a11, a12, a13, a14, a15, a16] n && (netB u [x1, x2, x3, x4, x5, x6, x7, x8, x9, x10, x11, x12, x13, x14, x15, x16] m && ((decide (n ≤ m) && hasB v [a1, a2, a3, a4, a5, a6, a7, a8, a9, a10, a11, a12, a13, a14, a15, a16] n u [x1, x2, x3, x4, x5, x6, x7, x8, x9, x10, x11, x12, x13, x14, x15, x16]) || (decide (m ≤ n) && hasB u [x1, x2, x3, x4, x5, x6, x7, x8, x9, x10, x11, x12, x13, x14, x15, x16] m v [a1, a2, a3, a4, a5, a6, a7, a8, a9, a10, a11, a12, a13, a14, a15, a16])))) := by
 rw [cidr_Meet.f, netCheck_f v a1 a2 a3 a4 a5 a6 a7 a8 a9 a10 a11 a12 a13 a14 a15 a16 n ha, Option.bind_some]
 by_cases h : netB v [a1, a2, a3, a4, a5, a6, a7, a8, a9, a10, a11, a12, a13, a14, a15, a16] n = true
 ·rw [if_pos h, if_pos rfl, netCheck_f u x1 x2 x3 x4 x5 x6 x7 x8 x9 x10 x11 x12 x13 x14 x15 x16 m hx, Option.bind_some, h, Bool.true_and]
  by_cases h2 : netB u [x1, x2, x3, x4, x5, x6, x7, x8, x9, x10, x11, x12, x13, x14, x15, x16] m = true
  ·rw [if_pos h2, if_pos rfl, h2, Bool.true_and, has_f v a1 a2 a3 a4 a5 a6 a7 a8 a9 a10 a11 a12 a13 a14 a15 a16 n u x1 x2 x3 x4 x5 x6 x7 x8 x9 x10 x11 x12 x13 x14 x15 x16 ha hx, Option.bind_some, has_f u x1 x2 x3 x4 x5 x6 x7 x8 x9 x10 x11 x12 x13 x14 x15 x16 m v a1 a2 a3 a4 a5 a6 a7 a8 a9 a10 a11 a12 a13 a14 a15 a16 hx ha, Option.bind_some]
   by_cases h3 : n ≤ m
   ·rw [if_pos h3, decide_eq_true h3, Bool.true_and]
    by_cases h4 : hasB v [a1, a2, a3, a4, a5, a6, a7, a8, a9, a10, a11, a12, a13, a14, a15, a16] n u [x1, x2, x3, x4, x5, x6, x7, x8, x9, x10, x11, x12, x13, x14, x15, x16] = true
    ·rw [if_pos h4, h4, Bool.true_or]
    ·rw [if_neg h4, Bool.eq_false_iff.2 h4, Bool.false_or]
     by_cases h5 : m ≤ n
     ·rw [if_pos h5, decide_eq_true h5, Bool.true_and]
     ·rw [if_neg h5, decide_eq_false h5, Bool.false_and]
   ·rw [if_neg h3, decide_eq_false h3, Bool.false_and, Bool.false_or]
    by_cases h5 : m ≤ n
    ·rw [if_pos h5, decide_eq_true h5, Bool.true_and]
    ·rw [if_neg h5, decide_eq_false h5, Bool.false_and]
  ·rw [if_neg h2, if_neg (by decide), Bool.eq_false_iff.2 h2, Bool.false_and]
 ·rw [if_neg h, if_neg (by decide), Bool.eq_false_iff.2 h, Bool.false_and]
end Go.Proofs.YtdopafhppaalfaaDoor.Q
