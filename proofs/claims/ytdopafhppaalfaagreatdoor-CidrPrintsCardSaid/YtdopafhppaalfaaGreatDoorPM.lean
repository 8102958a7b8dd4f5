/- What the law needs of elder texts. (Put together by wip/gen/pick.py.) -/
import Derived.Test.YtdopafhppaalfaaGreatDoorPK
import Derived.Test.YtdopafhppaalfaaGreatDoorG3
import Derived.Test.YtdopafhppaalfaaGreatDoorM2
set_option linter.unusedSimpArgs false
set_option linter.unusedVariables false
set_option maxRecDepth 10000
namespace Go.Proofs.YtdopafhppaalfaaGreatDoor.Q
open Go Go.RowKit Go.Lib Go.Proofs.YtdopafhppaalfaaGreatDoorW.PrintWords Go.Proofs.YtdopafhppaalfaaGreatDoorW.PrintMore Go.Proofs.YtdopafhppaalfaaGreatDoorB Go.Proofs.YtdopafhppaalfaaGreatDoor.E Go.Proofs.YtdopafhppaalfaaGreatDoorV Go.Proofs.YtdopafhppaalfaaGreatDoor.P Go.Proofs.YtdopafhppaalfaaGreatDoor.G

/-- A bit of a row of bytes, counted from the front. -/
def bitN (l : List Int) (j : Nat) : Int := l.getD (j / 8) 0 / 2 ^ (7 - j % 8) % 2
def byteL (l : List Int) : Prop := l.length = 16 ∧ ∀ b ∈ l, 0 ≤ b ∧ b < 256
def allZ (l : List Int) : Nat → Nat → Bool
 | _, 0 => true
 | j, c + 1 => if bitN l j = 0 then allZ l (j + 1) c else false
theorem allZ_iff (l : List Int) : ∀ (c j : Nat), allZ l j c = true ↔ ∀ t, j ≤ t → t < j + c → bitN l t = 0
 | 0, j => by simp only [allZ, true_iff]; intro t h1 h2; omega
 | c + 1, j => by
  rw [allZ]
  by_cases h : bitN l j = 0
  ·rw [if_pos h, allZ_iff l c (j + 1)]
   constructor
   ·intro H t h1 h2
    by_cases e : t = j
    ·rw [e]; exact h
    ·exact H t (by omega) (by omega)
   ·intro H t h1 h2; exact H t (by omega) (by omega)
  ·rw [if_neg h]
   constructor
   ·intro H; cases H
   ·intro H; exact absurd (H j (Nat.le_refl j) (by omega)) h
theorem cutb_all : ∀ (b : Fin 256) (k : Fin 9), ((0 ≤ Go.bits .and .u8 ((b.val : Nat) : Int) (maskI ((k.val : Nat) : Int)) ∧ Go.bits .and .u8 ((b.val : Nat) : Int) (maskI ((k.val : Nat) : Int)) < 256) ∧ ∀ t : Fin 8, Go.bits .and .u8 ((b.val : Nat) : Int) (maskI ((k.val : Nat) : Int)) / 2 ^ (7 - t.val) % 2 = if t.val < k.val then ((b.val : Nat) : Int) / 2 ^ (7 - t.val) % 2 else 0) := by decide +kernel
theorem cut_bit (b k : Int) (hb : 0 ≤ b ∧ b < 256) (hk : 0 ≤ k ∧ k ≤ 8) (t : Nat) (ht : t < 8) : Go.bits .and .u8 b (maskI k) / 2 ^ (7 - t) % 2 = if (t : Int) < k then b / 2 ^ (7 - t) % 2 else 0 := by
 obtain ⟨n, rfl⟩ := Int.eq_ofNat_of_zero_le hb.1
 obtain ⟨m, rfl⟩ := Int.eq_ofNat_of_zero_le hk.1
 have h := (cutb_all ⟨n, by omega⟩ ⟨m, by omega⟩).2 ⟨t, ht⟩
 simp only [Int.ofNat_lt] at h ⊢
 exact h
theorem cut_range (b k : Int) (hb : 0 ≤ b ∧ b < 256) (hk : 0 ≤ k ∧ k ≤ 8) : 0 ≤ Go.bits .and .u8 b (maskI k) ∧ Go.bits .and .u8 b (maskI k) < 256 := by
 obtain ⟨n, rfl⟩ := Int.eq_ofNat_of_zero_le hb.1
 obtain ⟨m, rfl⟩ := Int.eq_ofNat_of_zero_le hk.1
 exact (cutb_all ⟨n, by omega⟩ ⟨m, by omega⟩).1
theorem byte_sum : ∀ b : Fin 256, ((b.val : Nat) : Int) = ((b.val : Nat) : Int) / 2 ^ 7 % 2 * 128 + ((b.val : Nat) : Int) / 2 ^ 6 % 2 * 64 + ((b.val : Nat) : Int) / 2 ^ 5 % 2 * 32 + ((b.val : Nat) : Int) / 2 ^ 4 % 2 * 16 + ((b.val : Nat) : Int) / 2 ^ 3 % 2 * 8 + ((b.val : Nat) : Int) / 2 ^ 2 % 2 * 4 + ((b.val : Nat) : Int) / 2 ^ 1 % 2 * 2 + ((b.val : Nat) : Int) / 2 ^ 0 % 2 := by decide +kernel
theorem byte_ext (b c : Int) (hb : 0 ≤ b ∧ b < 256) (hc : 0 ≤ c ∧ c < 256) (h : ∀ t, t < 8 → b / 2 ^ (7 - t) % 2 = c / 2 ^ (7 - t) % 2) : b = c := by
 obtain ⟨n, rfl⟩ := Int.eq_ofNat_of_zero_le hb.1
 obtain ⟨m, rfl⟩ := Int.eq_ofNat_of_zero_le hc.1
 have e1 := byte_sum ⟨n, by omega⟩
 have e2 := byte_sum ⟨m, by omega⟩
 rw [show ((n : Nat) : Int) = _ from e1, show ((m : Nat) : Int) = _ from e2]
 dsimp only
 rw [show ((n : Int)) / 2 ^ 7 % 2 = _ from h 0 (by decide), show ((n : Int)) / 2 ^ 6 % 2 = _ from h 1 (by decide), show ((n : Int)) / 2 ^ 5 % 2 = _ from h 2 (by decide), show ((n : Int)) / 2 ^ 4 % 2 = _ from h 3 (by decide), show ((n : Int)) / 2 ^ 3 % 2 = _ from h 4 (by decide), show ((n : Int)) / 2 ^ 2 % 2 = _ from h 5 (by decide), show ((n : Int)) / 2 ^ 1 % 2 = _ from h 6 (by decide), show ((n : Int)) / 2 ^ 0 % 2 = _ from h 7 (by decide)]
theorem getD_get (l : List Int) (i : Nat) (h : i < l.length) : l.getD i 0 = l[i] := by rw [List.getD_eq_getElem?_getD, List.getElem?_eq_getElem h, Option.getD_some]
theorem list_ext (l m : List Int) (hl : byteL l) (hm : byteL m) (h : ∀ j, j < 128 → bitN l j = bitN m j) : l = m := by
 refine List.ext_getElem (by rw [hl.1, hm.1]) fun i h1 h2 => ?_
 refine byte_ext _ _ (hl.2 _ (List.getElem_mem h1)) (hm.2 _ (List.getElem_mem h2)) fun t ht => ?_
 have h3 := h (8 * i + t) (by rw [hl.1] at h1; omega)
 unfold bitN at h3
 rw [show (8 * i + t) / 8 = i by omega, show (8 * i + t) % 8 = t by omega, getD_get l i h1, getD_get m i h2] at h3
 exact h3
theorem cutL_get (c : Int) : ∀ (l : List Int) (i t : Nat), t < l.length → (cutL c i l).getD t 0 = cutB c (i + t) (l.getD t 0)
 | [], _, _, h => absurd h (Nat.not_lt_zero _)
 | b :: l, i, 0, _ => rfl
 | b :: l, i, t + 1, h => by
  rw [cutL, List.getD_cons_succ, List.getD_cons_succ, cutL_get c l (i + 1) t (by simpa using h), show i + 1 + t = i + (t + 1) by omega]
theorem getD_byte (l : List Int) (hl : byteL l) (i : Nat) (h : i < 16) : 0 ≤ l.getD i 0 ∧ l.getD i 0 < 256 := by
 rw [getD_get l i (by rw [hl.1]; exact h)]
 exact hl.2 _ (List.getElem_mem _)
theorem cutL_bit (c : Int) (l : List Int) (hl : byteL l) (j : Nat) (hj : j < 128) : bitN (cutL c 0 l) j = if (j : Int) < c then bitN l j else 0 := by
 unfold bitN
 rw [cutL_get c l 0 (j / 8) (by rw [hl.1]; omega), cutB, Nat.zero_add, keepI, cut_bit _ _ (getD_byte l hl _ (by omega)) (keep_range _) (j % 8) (by omega)]
 have e : ((j % 8 : Nat) : Int) < mnI (mxI (c - 8 * ((j / 8 : Nat) : Int))) ↔ (j : Int) < c := by
  unfold mnI mxI
  split <;> split <;> omega
 by_cases h : (j : Int) < c
 ·rw [if_pos h, if_pos (e.2 h)]
 ·rw [if_neg h, if_neg (fun h2 => h (e.1 h2))]
theorem cutL_byte (c : Int) : ∀ (l : List Int) (i : Nat), (∀ b ∈ l, 0 ≤ b ∧ b < 256) → ∀ b ∈ cutL c i l, 0 ≤ b ∧ b < 256
 | [], _, _, b, hb => by cases hb
 | y :: l, i, h, b, hb => by
  rw [cutL] at hb
  rcases List.mem_cons.1 hb with rfl | hb
  ·exact cut_range _ _ (h y (List.mem_cons_self ..)) (keep_range _)
  ·exact cutL_byte c l (i + 1) (fun z hz => h z (List.mem_cons_of_mem _ hz)) b hb
theorem cut_eq (c : Int) (l m : List Int) (hl : byteL l) (hm : byteL m) : cutL c 0 l = m ↔ ∀ j : Nat, j < 128 → (if (j : Int) < c then bitN l j else 0) = bitN m j := by
 constructor
 ·intro h j hj
  rw [← h, cutL_bit c l hl j hj]
 ·intro h
  exact list_ext _ _ ⟨by rw [cutL_len, hl.1], cutL_byte c l 0 hl.2⟩ hm fun j hj => by rw [cutL_bit c l hl j hj]; exact h j hj
def frN (v : Bool) : Nat := if v = true then 0 else 96
theorem frN_I (v : Bool) : frI v = (frN v : Int) := by cases v <;> rfl
theorem iteF_b (x c : Int) (r : Bool) : (if x = c then some r else some false) = some ((x == c) && r) := by
 by_cases h : x = c
 ·subst h; simp
 ·rw [if_neg h, beq_eq_false_iff_ne.mpr h]; rfl
theorem wm0 : wrap64 (0 + 1) = 1 := by rw [wrap_id (by decide) (by decide)]; rfl
theorem my0 (k : Nat) (b1 b2 b3 b4 b5 b6 b7 b8 b9 b10 b11 b12 b13 b14 b15 b16 : Int) : lanternref05_May.l0 (k + 2) 0 false b1 b2 b3 b4 b5 b6 b7 b8 b9 b10 b11 b12 b13 b14 b15 b16 = if b1 = 0 then lanternref05_May.l0 k 1 false b1 b2 b3 b4 b5 b6 b7 b8 b9 b10 b11 b12 b13 b14 b15 b16 else some false := by
 rw [lanternref05_May.l0, if_pos (by decide), Bool.not_false, lanternref05_May.j1, if_pos rfl, if_pos (by decide), if_pos (by decide), wm0]
 rfl
theorem wm1 : wrap64 (1 + 1) = 2 := by rw [wrap_id (by decide) (by decide)]; rfl
theorem my1 (k : Nat) (b1 b2 b3 b4 b5 b6 b7 b8 b9 b10 b11 b12 b13 b14 b15 b16 : Int) : lanternref05_May.l0 (k + 2) 1 false b1 b2 b3 b4 b5 b6 b7 b8 b9 b10 b11 b12 b13 b14 b15 b16 = if b2 = 0 then lanternref05_May.l0 k 2 false b1 b2 b3 b4 b5 b6 b7 b8 b9 b10 b11 b12 b13 b14 b15 b16 else some false := by
 rw [lanternref05_May.l0, if_pos (by decide), Bool.not_false, lanternref05_May.j1, if_pos rfl, if_pos (by decide), if_pos (by decide), wm1]
 rfl
theorem wm2 : wrap64 (2 + 1) = 3 := by rw [wrap_id (by decide) (by decide)]; rfl
theorem my2 (k : Nat) (b1 b2 b3 b4 b5 b6 b7 b8 b9 b10 b11 b12 b13 b14 b15 b16 : Int) : lanternref05_May.l0 (k + 2) 2 false b1 b2 b3 b4 b5 b6 b7 b8 b9 b10 b11 b12 b13 b14 b15 b16 = if b3 = 0 then lanternref05_May.l0 k 3 false b1 b2 b3 b4 b5 b6 b7 b8 b9 b10 b11 b12 b13 b14 b15 b16 else some false := by
 rw [lanternref05_May.l0, if_pos (by decide), Bool.not_false, lanternref05_May.j1, if_pos rfl, if_pos (by decide), if_pos (by decide), wm2]
 rfl
theorem wm3 : wrap64 (3 + 1) = 4 := by rw [wrap_id (by decide) (by decide)]; rfl
theorem my3 (k : Nat) (b1 b2 b3 b4 b5 b6 b7 b8 b9 b10 b11 b12 b13 b14 b15 b16 : Int) : lanternref05_May.l0 (k + 2) 3 false b1 b2 b3 b4 b5 b6 b7 b8 b9 b10 b11 b12 b13 b14 b15 b16 = if b4 = 0 then lanternref05_May.l0 k 4 false b1 b2 b3 b4 b5 b6 b7 b8 b9 b10 b11 b12 b13 b14 b15 b16 else some false := by
 rw [lanternref05_May.l0, if_pos (by decide), Bool.not_false, lanternref05_May.j1, if_pos rfl, if_pos (by decide), if_pos (by decide), wm3]
 rfl
theorem wm4 : wrap64 (4 + 1) = 5 := by rw [wrap_id (by decide) (by decide)]; rfl
theorem my4 (k : Nat) (b1 b2 b3 b4 b5 b6 b7 b8 b9 b10 b11 b12 b13 b14 b15 b16 : Int) : lanternref05_May.l0 (k + 2) 4 false b1 b2 b3 b4 b5 b6 b7 b8 b9 b10 b11 b12 b13 b14 b15 b16 = if b5 = 0 then lanternref05_May.l0 k 5 false b1 b2 b3 b4 b5 b6 b7 b8 b9 b10 b11 b12 b13 b14 b15 b16 else some false := by
 rw [lanternref05_May.l0, if_pos (by decide), Bool.not_false, lanternref05_May.j1, if_pos rfl, if_pos (by decide), if_pos (by decide), wm4]
 rfl
theorem wm5 : wrap64 (5 + 1) = 6 := by rw [wrap_id (by decide) (by decide)]; rfl
theorem my5 (k : Nat) (b1 b2 b3 b4 b5 b6 b7 b8 b9 b10 b11 b12 b13 b14 b15 b16 : Int) : lanternref05_May.l0 (k + 2) 5 false b1 b2 b3 b4 b5 b6 b7 b8 b9 b10 b11 b12 b13 b14 b15 b16 = if b6 = 0 then lanternref05_May.l0 k 6 false b1 b2 b3 b4 b5 b6 b7 b8 b9 b10 b11 b12 b13 b14 b15 b16 else some false := by
 rw [lanternref05_May.l0, if_pos (by decide), Bool.not_false, lanternref05_May.j1, if_pos rfl, if_pos (by decide), if_pos (by decide), wm5]
 rfl
theorem wm6 : wrap64 (6 + 1) = 7 := by rw [wrap_id (by decide) (by decide)]; rfl
theorem my6 (k : Nat) (b1 b2 b3 b4 b5 b6 b7 b8 b9 b10 b11 b12 b13 b14 b15 b16 : Int) : lanternref05_May.l0 (k + 2) 6 false b1 b2 b3 b4 b5 b6 b7 b8 b9 b10 b11 b12 b13 b14 b15 b16 = if b7 = 0 then lanternref05_May.l0 k 7 false b1 b2 b3 b4 b5 b6 b7 b8 b9 b10 b11 b12 b13 b14 b15 b16 else some false := by
 rw [lanternref05_May.l0, if_pos (by decide), Bool.not_false, lanternref05_May.j1, if_pos rfl, if_pos (by decide), if_pos (by decide), wm6]
 rfl
theorem wm7 : wrap64 (7 + 1) = 8 := by rw [wrap_id (by decide) (by decide)]; rfl
theorem my7 (k : Nat) (b1 b2 b3 b4 b5 b6 b7 b8 b9 b10 b11 b12 b13 b14 b15 b16 : Int) : lanternref05_May.l0 (k + 2) 7 false b1 b2 b3 b4 b5 b6 b7 b8 b9 b10 b11 b12 b13 b14 b15 b16 = if b8 = 0 then lanternref05_May.l0 k 8 false b1 b2 b3 b4 b5 b6 b7 b8 b9 b10 b11 b12 b13 b14 b15 b16 else some false := by
 rw [lanternref05_May.l0, if_pos (by decide), Bool.not_false, lanternref05_May.j1, if_pos rfl, if_pos (by decide), if_pos (by decide), wm7]
 rfl
theorem wm8 : wrap64 (8 + 1) = 9 := by rw [wrap_id (by decide) (by decide)]; rfl
theorem my8 (k : Nat) (b1 b2 b3 b4 b5 b6 b7 b8 b9 b10 b11 b12 b13 b14 b15 b16 : Int) : lanternref05_May.l0 (k + 2) 8 false b1 b2 b3 b4 b5 b6 b7 b8 b9 b10 b11 b12 b13 b14 b15 b16 = if b9 = 0 then lanternref05_May.l0 k 9 false b1 b2 b3 b4 b5 b6 b7 b8 b9 b10 b11 b12 b13 b14 b15 b16 else some false := by
 rw [lanternref05_May.l0, if_pos (by decide), Bool.not_false, lanternref05_May.j1, if_pos rfl, if_pos (by decide), if_pos (by decide), wm8]
 rfl
theorem wm9 : wrap64 (9 + 1) = 10 := by rw [wrap_id (by decide) (by decide)]; rfl
theorem my9 (k : Nat) (b1 b2 b3 b4 b5 b6 b7 b8 b9 b10 b11 b12 b13 b14 b15 b16 : Int) : lanternref05_May.l0 (k + 2) 9 false b1 b2 b3 b4 b5 b6 b7 b8 b9 b10 b11 b12 b13 b14 b15 b16 = if b10 = 0 then lanternref05_May.l0 k 10 false b1 b2 b3 b4 b5 b6 b7 b8 b9 b10 b11 b12 b13 b14 b15 b16 else some false := by
 rw [lanternref05_May.l0, if_pos (by decide), Bool.not_false, lanternref05_May.j1, if_pos rfl, if_pos (by decide), if_pos (by decide), wm9]
 rfl
theorem wm10 : wrap64 (10 + 1) = 11 := by rw [wrap_id (by decide) (by decide)]; rfl
theorem my10 (k : Nat) (b1 b2 b3 b4 b5 b6 b7 b8 b9 b10 b11 b12 b13 b14 b15 b16 : Int) : lanternref05_May.l0 (k + 2) 10 false b1 b2 b3 b4 b5 b6 b7 b8 b9 b10 b11 b12 b13 b14 b15 b16 = if b11 = 0 then lanternref05_May.l0 k 11 false b1 b2 b3 b4 b5 b6 b7 b8 b9 b10 b11 b12 b13 b14 b15 b16 else some false := by
 rw [lanternref05_May.l0, if_pos (by decide), Bool.not_false, lanternref05_May.j1, if_pos rfl, if_pos (by decide), if_pos (by decide), wm10]
 rfl
theorem wm11 : wrap64 (11 + 1) = 12 := by rw [wrap_id (by decide) (by decide)]; rfl
theorem my11 (k : Nat) (b1 b2 b3 b4 b5 b6 b7 b8 b9 b10 b11 b12 b13 b14 b15 b16 : Int) : lanternref05_May.l0 (k + 2) 11 false b1 b2 b3 b4 b5 b6 b7 b8 b9 b10 b11 b12 b13 b14 b15 b16 = if b12 = 0 then lanternref05_May.l0 k 12 false b1 b2 b3 b4 b5 b6 b7 b8 b9 b10 b11 b12 b13 b14 b15 b16 else some false := by
 rw [lanternref05_May.l0, if_pos (by decide), Bool.not_false, lanternref05_May.j1, if_pos rfl, if_pos (by decide), if_pos (by decide), wm11]
 rfl
def zB (b1 b2 b3 b4 b5 b6 b7 b8 b9 b10 b11 b12 : Int) : Bool := ((b1 == 0) && ((b2 == 0) && ((b3 == 0) && ((b4 == 0) && ((b5 == 0) && ((b6 == 0) && ((b7 == 0) && ((b8 == 0) && ((b9 == 0) && ((b10 == 0) && ((b11 == 0) && (b12 == 0))))))))))))
theorem May_f (k : Nat) (hk : 40 ≤ k) (b : Bool) (b1 b2 b3 b4 b5 b6 b7 b8 b9 b10 b11 b12 b13 b14 b15 b16 : Int) : lanternref05_May.f k b b1 b2 b3 b4 b5 b6 b7 b8 b9 b10 b11 b12 b13 b14 b15 b16 = some (b || zB b1 b2 b3 b4 b5 b6 b7 b8 b9 b10 b11 b12) := by
 obtain ⟨k, rfl⟩ : ∃ j, k = j + 26 := ⟨k - 26, by omega⟩
 rw [lanternref05_May.f]
 cases b
 ·have e : lanternref05_May.l0 (k + 2) 12 false b1 b2 b3 b4 b5 b6 b7 b8 b9 b10 b11 b12 b13 b14 b15 b16 = some true := by rw [lanternref05_May.l0, if_neg (by decide), lanternref05_May.j1, if_neg (by decide)]
  rw [my0, my1, my2, my3, my4, my5, my6, my7, my8, my9, my10, my11, e]
  simp only [iteF_b, zB, Bool.and_true, Bool.false_or]
 ·rw [show k + 26 = (k + 24) + 2 from rfl, lanternref05_May.l0, if_pos (by decide), Bool.not_true, lanternref05_May.j1, if_neg (by decide), Bool.true_or]
theorem Check_f (b : Bool) (b1 b2 b3 b4 b5 b6 b7 b8 b9 b10 b11 b12 b13 b14 b15 b16 : Int) : ip_Check.f b b1 b2 b3 b4 b5 b6 b7 b8 b9 b10 b11 b12 b13 b14 b15 b16 = some (if (b || zB b1 b2 b3 b4 b5 b6 b7 b8 b9 b10 b11 b12) = true then 0 else 1) := by
 rw [ip_Check.f]
 cases b
 ·rw [if_neg (by decide), ip_V4.f, Option.bind_some, Bool.false_or]
  by_cases h : zB b1 b2 b3 b4 b5 b6 b7 b8 b9 b10 b11 b12 = true
  ·rw [if_pos h]
   simp [zB] at h
   rw [if_neg (by simp [h])]
  ·rw [if_neg h]
   rw [if_pos]
   simp [zB] at h ⊢
   refine Classical.byContradiction fun hn => ?_
   simp only [not_or, Classical.not_not] at hn
   obtain ⟨z0, z1, z2, z3, z4, z5, z6, z7, z8, z9, z10, z11⟩ := hn
   exact h z0 z1 z2 z3 z4 z5 z6 z7 z8 z9 z10 z11
 ·rw [if_pos rfl, Bool.true_or, if_pos rfl]

theorem bit_core (l : List Int) (hl : byteL l) (j : Nat) (hj : j < 128) :
  (if 0 ≤ (wrap64 (Int.tdiv (j : Int) 8)) then (if (wrap64 (Int.tdiv (j : Int) 8)) < 16 then (if 0 ≤ (IntKind.u64.wrap (wrap64 (7 - (Int.tmod (j : Int) 8)))) then (some (Int.tmod (shr .i64 (wrap64 (rd l (wrap64 (Int.tdiv (j : Int) 8)))) (IntKind.u64.wrap (wrap64 (7 - (Int.tmod (j : Int) 8))))) 2)) else (none)) else (none)) else (none)) = some (bitN l j) := by
 have e1 : Int.tdiv (j : Int) 8 = ((j / 8 : Nat) : Int) := rfl
 have e2 : Int.tmod (j : Int) 8 = ((j % 8 : Nat) : Int) := rfl
 have e3 : wrap64 ((j / 8 : Nat) : Int) = ((j / 8 : Nat) : Int) := wrap_id (by omega) (by omega)
 have e4 : (7 : Int) - ((j % 8 : Nat) : Int) = ((7 - j % 8 : Nat) : Int) := by omega
 have e5 : wrap64 ((7 - j % 8 : Nat) : Int) = ((7 - j % 8 : Nat) : Int) := wrap_id (by omega) (by omega)
 have e6 : IntKind.u64.wrap ((7 - j % 8 : Nat) : Int) = ((7 - j % 8 : Nat) : Int) := by rw [IntKind.wrap_u64]; omega
 rw [e1, e2, e3, e4, e5, e6, if_pos (by omega), if_pos (by omega), if_pos (by omega)]
 have g := getD_byte l hl (j / 8) (by omega)
 have e7 : rd l ((j / 8 : Nat) : Int) = l.getD (j / 8) 0 := rfl
 rw [e7, wrap_id (x := l.getD (j / 8) 0) (by omega) (by omega), shr]
 rw [show min ((7 - j % 8 : Nat) : Int).toNat IntKind.i64.bits = 7 - j % 8 from Nat.min_eq_left (by show ((7 - j % 8 : Nat) : Int).toNat ≤ 64; omega)]
 rw [Int.tmod_eq_emod_of_nonneg (Int.ediv_nonneg g.1 (Int.pow_nonneg (by decide)))]
 rfl
theorem bit_f (v : Bool) (x1 x2 x3 x4 x5 x6 x7 x8 x9 x10 x11 x12 x13 x14 x15 x16 : Int) (hx : byteL [x1, x2, x3, x4, x5, x6, x7, x8, x9, x10, x11, x12, x13, x14, x15, x16]) (i : Int) (h0 : 0 ≤ i) (h1 : i + (frN v : Int) < 128) : lanternref06_bit.f v x1 x2 x3 x4 x5 x6 x7 x8 x9 x10 x11 x12 x13 x14 x15 x16 i = some (bitN [x1, x2, x3, x4, x5, x6, x7, x8, x9, x10, x11, x12, x13, x14, x15, x16] (frN v + i.toNat)) := by
 obtain ⟨n, rfl⟩ := Int.eq_ofNat_of_zero_le h0
 rw [lanternref06_bit.f]
 cases v
 ·have e : wrap64 ((n : Int) + 96) = ((96 + n : Nat) : Int) := by
   have h2 : (n : Int) + 96 < 128 := h1
   rw [wrap_id (by omega) (by omega)]; omega
  rw [if_neg (by decide), e]
  exact bit_core _ hx (96 + n) (by have h2 : (n : Int) + 96 < 128 := h1; omega)
 ·rw [if_pos rfl, show frN true + ((n : Nat) : Int).toNat = n by show 0 + n = n; omega]
  exact bit_core _ hx n (by have h2 : (n : Int) + 0 < 128 := h1; omega)
theorem bits_f (v : Bool) (x1 x2 x3 x4 x5 x6 x7 x8 x9 x10 x11 x12 x13 x14 x15 x16 : Int) : lanternref06_bits.f v x1 x2 x3 x4 x5 x6 x7 x8 x9 x10 x11 x12 x13 x14 x15 x16 = some (btI v) := by cases v <;> rfl
theorem bt_le (v : Bool) : btI v = 128 - (frN v : Int) ∧ frN v ≤ 96 := by cases v <;> decide
theorem refMay_l (v : Bool) (x1 x2 x3 x4 x5 x6 x7 x8 x9 x10 x11 x12 x13 x14 x15 x16 n : Int) (hx : byteL [x1, x2, x3, x4, x5, x6, x7, x8, x9, x10, x11, x12, x13, x14, x15, x16]) : ∀ (c k : Nat) (i : Int), c < k → 0 ≤ i → i + (c : Int) = btI v → lanternref06_May.l0 k i v x1 x2 x3 x4 x5 x6 x7 x8 x9 x10 x11 x12 x13 x14 x15 x16 n = some (allZ [x1, x2, x3, x4, x5, x6, x7, x8, x9, x10, x11, x12, x13, x14, x15, x16] (frN v + i.toNat) c)
 | _, 0, _, h, _, _ => absurd h (Nat.not_lt_zero _)
 | 0, k + 1, i, _, h0, h1 => by
  rw [lanternref06_May.l0, bits_f, Option.bind_some, if_neg (by omega)]; rfl
 | c + 1, k + 1, i, hk, h0, h1 => by
  have hb := bt_le v
  rw [lanternref06_May.l0, bits_f, Option.bind_some, if_pos (by omega), bit_f v x1 x2 x3 x4 x5 x6 x7 x8 x9 x10 x11 x12 x13 x14 x15 x16 hx i h0 (by omega), Option.bind_some, allZ]
  by_cases h : bitN [x1, x2, x3, x4, x5, x6, x7, x8, x9, x10, x11, x12, x13, x14, x15, x16] (frN v + i.toNat) = 0
  ·rw [if_pos h, if_pos h, wrap_id (by omega) (by omega), refMay_l v x1 x2 x3 x4 x5 x6 x7 x8 x9 x10 x11 x12 x13 x14 x15 x16 n hx c k (i + 1) (by omega) (by omega) (by omega), show frN v + (i + 1).toNat = frN v + i.toNat + 1 by omega]
  ·rw [if_neg h, if_neg h]
def zL : List Int → Bool
 | [x1, x2, x3, x4, x5, x6, x7, x8, x9, x10, x11, x12, x13, x14, x15, x16] => zB x1 x2 x3 x4 x5 x6 x7 x8 x9 x10 x11 x12
 | _ => false
theorem zL_mk (x1 x2 x3 x4 x5 x6 x7 x8 x9 x10 x11 x12 x13 x14 x15 x16 : Int) : zL [x1, x2, x3, x4, x5, x6, x7, x8, x9, x10, x11, x12, x13, x14, x15, x16] = zB x1 x2 x3 x4 x5 x6 x7 x8 x9 x10 x11 x12 := rfl
def mayB (v : Bool) (l : List Int) : Bool := v || zL l
def netB (v : Bool) (l : List Int) (n : Int) : Bool := mayB v l && (decide (0 ≤ n) && (decide (n ≤ btI v) && allZ l (frN v + n.toNat) (btI v - n).toNat))
theorem refMay_f (k : Nat) (hk : 200 ≤ k) (v : Bool) (x1 x2 x3 x4 x5 x6 x7 x8 x9 x10 x11 x12 x13 x14 x15 x16 n : Int) (hx : byteL [x1, x2, x3, x4, x5, x6, x7, x8, x9, x10, x11, x12, x13, x14, x15, x16]) : lanternref06_May.f k v x1 x2 x3 x4 x5 x6 x7 x8 x9 x10 x11 x12 x13 x14 x15 x16 n = some (netB v [x1, x2, x3, x4, x5, x6, x7, x8, x9, x10, x11, x12, x13, x14, x15, x16] n) := by
 obtain ⟨k, rfl⟩ : ∃ j, k = j + 1 := ⟨k - 1, by omega⟩
 have hb := bt_le v
 rw [lanternref06_May.f, May_f _ (by omega), Option.bind_some, netB, mayB, zL_mk]
 by_cases h : (v || zB x1 x2 x3 x4 x5 x6 x7 x8 x9 x10 x11 x12) = true
 ·rw [if_pos h, h, Bool.true_and]
  by_cases h2 : n < 0
  ·rw [if_pos h2, lanternref06_May.j0, if_pos rfl, decide_eq_false (by omega), Bool.false_and]
  ·rw [if_neg h2, bits_f, Option.bind_some, decide_eq_true (p := 0 ≤ n) (by omega), Bool.true_and, lanternref06_May.j0]
   by_cases h3 : n > btI v
   ·rw [decide_eq_true h3, if_pos rfl, decide_eq_false (by omega), Bool.false_and]
   ·rw [decide_eq_false h3, if_neg (by decide), decide_eq_true (by omega), Bool.true_and, refMay_l v x1 x2 x3 x4 x5 x6 x7 x8 x9 x10 x11 x12 x13 x14 x15 x16 n hx (btI v - n).toNat k n (by omega) (by omega) (by omega)]
 ·rw [if_neg h, lanternref06_May.j0, if_pos rfl, Bool.eq_false_iff.2 h, Bool.false_and]
theorem netB_range {v : Bool} {l : List Int} {n : Int} (h : netB v l n = true) : mayB v l = true ∧ 0 ≤ n ∧ n ≤ btI v ∧ allZ l (frN v + n.toNat) (btI v - n).toNat = true := by
 simpa only [netB, Bool.and_eq_true, decide_eq_true_eq] using h
theorem cutL_mk (c : Int) (x1 x2 x3 x4 x5 x6 x7 x8 x9 x10 x11 x12 x13 x14 x15 x16 : Int) : cutL c 0 [x1, x2, x3, x4, x5, x6, x7, x8, x9, x10, x11, x12, x13, x14, x15, x16] = [cutB c 0 x1, cutB c 1 x2, cutB c 2 x3, cutB c 3 x4, cutB c 4 x5, cutB c 5 x6, cutB c 6 x7, cutB c 7 x8, cutB c 8 x9, cutB c 9 x10, cutB c 10 x11, cutB c 11 x12, cutB c 12 x13, cutB c 13 x14, cutB c 14 x15, cutB c 15 x16] := rfl
theorem all_test (c1 c2 c3 c4 c5 c6 c7 c8 c9 c10 c11 c12 c13 c14 c15 c16 a1 a2 a3 a4 a5 a6 a7 a8 a9 a10 a11 a12 a13 a14 a15 a16 : Int) : (c1 == a1 && (c2 == a2 && (c3 == a3 && (c4 == a4 && (c5 == a5 && (c6 == a6 && (c7 == a7 && (c8 == a8 && (c9 == a9 && (c10 == a10 && (c11 == a11 && (c12 == a12 && (c13 == a13 && (c14 == a14 && (c15 == a15 && (c16 == a16)))))))))))))))) = decide ([c1, c2, c3, c4, c5, c6, c7, c8, c9, c10, c11, c12, c13, c14, c15, c16] = [a1, a2, a3, a4, a5, a6, a7, a8, a9, a10, a11, a12, a13, a14, a15, a16]) := by
 rw [Bool.eq_iff_iff]
 simp only [Bool.and_eq_true, beq_iff_eq, decide_eq_true_eq, List.cons.injEq, and_true]
theorem not_test (c1 c2 c3 c4 c5 c6 c7 c8 c9 c10 c11 c12 c13 c14 c15 c16 a1 a2 a3 a4 a5 a6 a7 a8 a9 a10 a11 a12 a13 a14 a15 a16 : Int) : (!(c1 == a1) || (!(c2 == a2) || (!(c3 == a3) || (!(c4 == a4) || (!(c5 == a5) || (!(c6 == a6) || (!(c7 == a7) || (!(c8 == a8) || (!(c9 == a9) || (!(c10 == a10) || (!(c11 == a11) || (!(c12 == a12) || (!(c13 == a13) || (!(c14 == a14) || (!(c15 == a15) || (!(c16 == a16))))))))))))))))) = !(decide ([c1, c2, c3, c4, c5, c6, c7, c8, c9, c10, c11, c12, c13, c14, c15, c16] = [a1, a2, a3, a4, a5, a6, a7, a8, a9, a10, a11, a12, a13, a14, a15, a16])) := by
 rw [← all_test]
 simp only [Bool.not_and]
theorem cut_own (v : Bool) (l : List Int) (n : Int) (hl : byteL l) (h2 : mayB v l = true) (h0 : 0 ≤ n) (h1 : n ≤ btI v) : decide (cutL (frI v + n) 0 l = l) = allZ l (frN v + n.toNat) (btI v - n).toNat := by
 have hb := bt_le v
 rw [Bool.eq_iff_iff, decide_eq_true_eq, cut_eq _ _ _ hl hl, allZ_iff, frN_I]
 constructor
 ·intro H t h3 h4
  have e := H t (by omega)
  rw [if_neg (by omega)] at e
  exact e.symm
 ·intro H j hj
  by_cases h4 : (j : Int) < (frN v : Int) + n
  ·rw [if_pos h4]
  ·rw [if_neg h4]; exact (H j (by omega) (by omega)).symm
theorem size_f (v : Bool) (x1 x2 x3 x4 x5 x6 x7 x8 x9 x10 x11 x12 x13 x14 x15 x16 : Int) : cidr_size.f v x1 x2 x3 x4 x5 x6 x7 x8 x9 x10 x11 x12 x13 x14 x15 x16 = some (btI v, frI v) := by cases v <;> rfl
theorem netCheck_f (v : Bool) (x1 x2 x3 x4 x5 x6 x7 x8 x9 x10 x11 x12 x13 x14 x15 x16 n : Int) (hx : byteL [x1, x2, x3, x4, x5, x6, x7, x8, x9, x10, x11, x12, x13, x14, x15, x16]) : cidr_Check.f v x1 x2 x3 x4 x5 x6 x7 x8 x9 x10 x11 x12 x13 x14 x15 x16 n = some (if netB v [x1, x2, x3, x4, x5, x6, x7, x8, x9, x10, x11, x12, x13, x14, x15, x16] n = true then 0 else 1) := by
 have hb := bt_le v
 rw [cidr_Check.f, size_f, Option.bind_some, Check_f, Option.bind_some, netB, mayB, zL_mk]
 by_cases h : (v || zB x1 x2 x3 x4 x5 x6 x7 x8 x9 x10 x11 x12) = true
 ·rw [if_pos h, if_pos rfl, h, Bool.true_and]
  by_cases h2 : n < 0
  ·rw [if_pos h2, decide_eq_false (by omega), Bool.false_and, if_neg (by decide)]
  ·rw [if_neg h2, decide_eq_true (p := 0 ≤ n) (by omega), Bool.true_and]
   by_cases h3 : n > btI v
   ·rw [if_pos h3, decide_eq_false (by omega), Bool.false_and, if_neg (by decide)]
   ·rw [if_neg h3, decide_eq_true (by omega), Bool.true_and, ← cut_own v [x1, x2, x3, x4, x5, x6, x7, x8, x9, x10, x11, x12, x13, x14, x15, x16] n hx (by rw [mayB, zL_mk]; exact h) (by omega) (by omega), cidr_first.f, if_pos (by omega), Option.bind_some]
    dsimp only
    rw [beq_self_eq_true, Bool.not_true, Bool.false_or, not_test, ← cutL_mk]
    by_cases h4 : cutL (frI v + n) 0 [x1, x2, x3, x4, x5, x6, x7, x8, x9, x10, x11, x12, x13, x14, x15, x16] = [x1, x2, x3, x4, x5, x6, x7, x8, x9, x10, x11, x12, x13, x14, x15, x16]
    ·rw [decide_eq_true h4]; rfl
    ·rw [decide_eq_false h4]; rfl
 ·rw [if_neg h, if_neg (by decide), Bool.eq_false_iff.2 h, Bool.false_and, if_neg (by decide)]
def knownB : ByteArray := ⟨#[48, 46, 48, 46, 48, 46, 48, 47, 56, 32, 49, 48, 46, 48, 46, 48, 46, 48, 47, 56, 32, 49, 48, 48, 46, 54, 52, 46, 48, 46, 48, 47, 49, 48, 32, 49, 50, 55, 46, 48, 46, 48, 46, 48, 47, 56, 32, 49, 54, 57, 46, 50, 53, 52, 46, 48, 46, 48, 47, 49, 54, 32, 49, 55, 50, 46, 49, 54, 46, 48, 46, 48, 47, 49, 50, 32, 49, 57, 50, 46, 48, 46, 48, 46, 48, 47, 50, 52, 32, 49, 57, 50, 46, 48, 46, 50, 46, 48, 47, 50, 52, 32, 49, 57, 50, 46, 56, 56, 46, 57, 57, 46, 48, 47, 50, 52, 32, 49, 57, 50, 46, 49, 54, 56, 46, 48, 46, 48, 47, 49, 54, 32, 49, 57, 56, 46, 49, 56, 46, 48, 46, 48, 47, 49, 53, 32, 49, 57, 56, 46, 53, 49, 46, 49, 48, 48, 46, 48, 47, 50, 52, 32, 50, 48, 51, 46, 48, 46, 49, 49, 51, 46, 48, 47, 50, 52, 32, 50, 50, 52, 46, 48, 46, 48, 46, 48, 47, 52, 32, 50, 52, 48, 46, 48, 46, 48, 46, 48, 47, 52, 32, 58, 58, 47, 49, 50, 56, 32, 58, 58, 49, 47, 49, 50, 56, 32, 54, 52, 58, 102, 102, 57, 98, 58, 49, 58, 58, 47, 52, 56, 32, 49, 48, 48, 58, 58, 47, 54, 52, 32, 50, 48, 48, 49, 58, 58, 47, 50, 51, 32, 50, 48, 48, 49, 58, 100, 98, 56, 58, 58, 47, 51, 50, 32, 51, 102, 102, 102, 58, 58, 47, 50, 48, 32, 53, 102, 48, 48, 58, 58, 47, 49, 54, 32, 102, 99, 48, 48, 58, 58, 47, 55, 32, 102, 101, 56, 48, 58, 58, 47, 49, 48, 32, 102, 102, 48, 48, 58, 58, 47, 56]⟩
def pieceL : List ByteArray := [⟨#[48, 46, 48, 46, 48, 46, 48, 47, 56]⟩,
 ⟨#[49, 48, 46, 48, 46, 48, 46, 48, 47, 56]⟩,
 ⟨#[49, 48, 48, 46, 54, 52, 46, 48, 46, 48, 47, 49, 48]⟩,
 ⟨#[49, 50, 55, 46, 48, 46, 48, 46, 48, 47, 56]⟩,
 ⟨#[49, 54, 57, 46, 50, 53, 52, 46, 48, 46, 48, 47, 49, 54]⟩,
 ⟨#[49, 55, 50, 46, 49, 54, 46, 48, 46, 48, 47, 49, 50]⟩,
 ⟨#[49, 57, 50, 46, 48, 46, 48, 46, 48, 47, 50, 52]⟩,
 ⟨#[49, 57, 50, 46, 48, 46, 50, 46, 48, 47, 50, 52]⟩,
 ⟨#[49, 57, 50, 46, 56, 56, 46, 57, 57, 46, 48, 47, 50, 52]⟩,
 ⟨#[49, 57, 50, 46, 49, 54, 56, 46, 48, 46, 48, 47, 49, 54]⟩,
 ⟨#[49, 57, 56, 46, 49, 56, 46, 48, 46, 48, 47, 49, 53]⟩,
 ⟨#[49, 57, 56, 46, 53, 49, 46, 49, 48, 48, 46, 48, 47, 50, 52]⟩,
 ⟨#[50, 48, 51, 46, 48, 46, 49, 49, 51, 46, 48, 47, 50, 52]⟩,
 ⟨#[50, 50, 52, 46, 48, 46, 48, 46, 48, 47, 52]⟩,
 ⟨#[50, 52, 48, 46, 48, 46, 48, 46, 48, 47, 52]⟩,
 ⟨#[58, 58, 47, 49, 50, 56]⟩,
 ⟨#[58, 58, 49, 47, 49, 50, 56]⟩,
 ⟨#[54, 52, 58, 102, 102, 57, 98, 58, 49, 58, 58, 47, 52, 56]⟩,
 ⟨#[49, 48, 48, 58, 58, 47, 54, 52]⟩,
 ⟨#[50, 48, 48, 49, 58, 58, 47, 50, 51]⟩,
 ⟨#[50, 48, 48, 49, 58, 100, 98, 56, 58, 58, 47, 51, 50]⟩,
 ⟨#[51, 102, 102, 102, 58, 58, 47, 50, 48]⟩,
 ⟨#[53, 102, 48, 48, 58, 58, 47, 49, 54]⟩,
 ⟨#[102, 99, 48, 48, 58, 58, 47, 55]⟩,
 ⟨#[102, 101, 56, 48, 58, 58, 47, 49, 48]⟩,
 ⟨#[102, 102, 48, 48, 58, 58, 47, 56]⟩]
def FL : List S26 := [⟨⟨false, ⟨0, 0, 0, 0, 0, 0, 0, 0, 0, 0, 0, 0, 0, 0, 0, 0⟩⟩, 8⟩,
 ⟨⟨false, ⟨0, 0, 0, 0, 0, 0, 0, 0, 0, 0, 0, 0, 10, 0, 0, 0⟩⟩, 8⟩,
 ⟨⟨false, ⟨0, 0, 0, 0, 0, 0, 0, 0, 0, 0, 0, 0, 100, 64, 0, 0⟩⟩, 10⟩,
 ⟨⟨false, ⟨0, 0, 0, 0, 0, 0, 0, 0, 0, 0, 0, 0, 127, 0, 0, 0⟩⟩, 8⟩,
 ⟨⟨false, ⟨0, 0, 0, 0, 0, 0, 0, 0, 0, 0, 0, 0, 169, 254, 0, 0⟩⟩, 16⟩,
 ⟨⟨false, ⟨0, 0, 0, 0, 0, 0, 0, 0, 0, 0, 0, 0, 172, 16, 0, 0⟩⟩, 12⟩,
 ⟨⟨false, ⟨0, 0, 0, 0, 0, 0, 0, 0, 0, 0, 0, 0, 192, 0, 0, 0⟩⟩, 24⟩,
 ⟨⟨false, ⟨0, 0, 0, 0, 0, 0, 0, 0, 0, 0, 0, 0, 192, 0, 2, 0⟩⟩, 24⟩,
 ⟨⟨false, ⟨0, 0, 0, 0, 0, 0, 0, 0, 0, 0, 0, 0, 192, 88, 99, 0⟩⟩, 24⟩,
 ⟨⟨false, ⟨0, 0, 0, 0, 0, 0, 0, 0, 0, 0, 0, 0, 192, 168, 0, 0⟩⟩, 16⟩,
 ⟨⟨false, ⟨0, 0, 0, 0, 0, 0, 0, 0, 0, 0, 0, 0, 198, 18, 0, 0⟩⟩, 15⟩,
 ⟨⟨false, ⟨0, 0, 0, 0, 0, 0, 0, 0, 0, 0, 0, 0, 198, 51, 100, 0⟩⟩, 24⟩,
 ⟨⟨false, ⟨0, 0, 0, 0, 0, 0, 0, 0, 0, 0, 0, 0, 203, 0, 113, 0⟩⟩, 24⟩,
 ⟨⟨false, ⟨0, 0, 0, 0, 0, 0, 0, 0, 0, 0, 0, 0, 224, 0, 0, 0⟩⟩, 4⟩,
 ⟨⟨false, ⟨0, 0, 0, 0, 0, 0, 0, 0, 0, 0, 0, 0, 240, 0, 0, 0⟩⟩, 4⟩,
 ⟨⟨true, ⟨0, 0, 0, 0, 0, 0, 0, 0, 0, 0, 0, 0, 0, 0, 0, 0⟩⟩, 128⟩,
 ⟨⟨true, ⟨0, 0, 0, 0, 0, 0, 0, 0, 0, 0, 0, 0, 0, 0, 0, 1⟩⟩, 128⟩,
 ⟨⟨true, ⟨0, 100, 255, 155, 0, 1, 0, 0, 0, 0, 0, 0, 0, 0, 0, 0⟩⟩, 48⟩,
 ⟨⟨true, ⟨1, 0, 0, 0, 0, 0, 0, 0, 0, 0, 0, 0, 0, 0, 0, 0⟩⟩, 64⟩,
 ⟨⟨true, ⟨32, 1, 0, 0, 0, 0, 0, 0, 0, 0, 0, 0, 0, 0, 0, 0⟩⟩, 23⟩,
 ⟨⟨true, ⟨32, 1, 13, 184, 0, 0, 0, 0, 0, 0, 0, 0, 0, 0, 0, 0⟩⟩, 32⟩,
 ⟨⟨true, ⟨63, 255, 0, 0, 0, 0, 0, 0, 0, 0, 0, 0, 0, 0, 0, 0⟩⟩, 20⟩,
 ⟨⟨true, ⟨95, 0, 0, 0, 0, 0, 0, 0, 0, 0, 0, 0, 0, 0, 0, 0⟩⟩, 16⟩,
 ⟨⟨true, ⟨252, 0, 0, 0, 0, 0, 0, 0, 0, 0, 0, 0, 0, 0, 0, 0⟩⟩, 7⟩,
 ⟨⟨true, ⟨254, 128, 0, 0, 0, 0, 0, 0, 0, 0, 0, 0, 0, 0, 0, 0⟩⟩, 10⟩,
 ⟨⟨true, ⟨255, 0, 0, 0, 0, 0, 0, 0, 0, 0, 0, 0, 0, 0, 0, 0⟩⟩, 8⟩]
theorem pieces : (splitS 32 (L knownB)).map B = pieceL := by kernel_rfl
theorem forb_l : cidr_Forbidden.l0 60 [] pieceL 26 0 = some FL := by kernel_rfl
theorem forb60 : cidr_Forbidden.f 60 = some FL := by
 show ((strings_Split.f knownB ⟨#[32]⟩).bind fun t => cidr_Forbidden.l0 60 ([] : List S26) t (t.length : Int) 0) = some FL
 rw [split_f 32 knownB (by decide), Option.bind_some, pieces]
 exact forb_l
end Go.Proofs.YtdopafhppaalfaaGreatDoor.Q
