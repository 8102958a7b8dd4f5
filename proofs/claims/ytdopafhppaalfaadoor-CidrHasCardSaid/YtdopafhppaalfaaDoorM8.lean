/- The law CidrHas, plainly: bits of addresses. -/
import Derived.Test.YtdopafhppaalfaaDoorB
import Derived.Test.YtdopafhppaalfaaDoorM2
set_option linter.unusedSimpArgs false
set_option linter.unusedVariables false
set_option maxRecDepth 10000
namespace Go.Proofs.YtdopafhppaalfaaDoor.Q
open Go Go.RowKit Go.Lib Go.Proofs.YtdopafhppaalfaaDoorW.PrintWords Go.Proofs.YtdopafhppaalfaaDoorW.PrintMore Go.Proofs.YtdopafhppaalfaaDoorB Go.Proofs.YtdopafhppaalfaaDoor.E Go.Proofs.YtdopafhppaalfaaDoorV Go.Proofs.YtdopafhppaalfaaDoor.P

/-- A bit of a row of bytes, counted from the front. -/
def bitN (l : List Int) (j : Nat) : Int := l.getD (j / 8) 0 / 2 ^ (7 - j % 8) % 2
def byteL (l : List Int) : Prop := l.length = 16 ∧ ∀ b ∈ l, 0 ≤ b ∧ b < 256
def allZ (l : List Int) : Nat → Nat → Bool
 | _, 0 => true
 | j, c + 1 => if bitN l j = 0 then allZ l (j + 1) c else false
def allE (l m : List Int) : Nat → Nat → Bool
 | _, 0 => true
 | j, c + 1 => if bitN l j = bitN m j then allE l m (j + 1) c else false
theorem allZ_iff (l : List Int) : ∀ (c j : Nat), allZ l j c = true ↔ ∀ t, j ≤ t → t < j + c → bitN l t = 0
 | 0, j => by simp only [allZ, true_iff]; intro t h1 h2; omega
 | c + 1, j => by
  rw [allZ]
  by_cases h : bitN l j = 0
  ·rw [if_pos h, allZ_iff l c (j + 1)]
   constructor
   ·intro H t h1 h2
    by_cases e : t = j
    ·rw [e]; exact h
    ·exact H t (by omega) (by omega)
   ·intro H t h1 h2; exact H t (by omega) (by omega)
  ·rw [if_neg h]
   constructor
   ·intro H; cases H
   ·intro H; exact absurd (H j (Nat.le_refl j) (by omega)) h
theorem allE_iff (l m : List Int) : ∀ (c j : Nat), allE l m j c = true ↔ ∀ t, j ≤ t → t < j + c → bitN l t = bitN m t
 | 0, j => by simp only [allE, true_iff]; intro t h1 h2; omega
 | c + 1, j => by
  rw [allE]
  by_cases h : bitN l j = bitN m j
  ·rw [if_pos h, allE_iff l m c (j + 1)]
   constructor
   ·intro H t h1 h2
    by_cases e : t = j
    ·rw [e]; exact h
    ·exact H t (by omega) (by omega)
   ·intro H t h1 h2; exact H t (by omega) (by omega)
  ·rw [if_neg h]
   constructor
   ·intro H; cases H
   ·intro H; exact absurd (H j (Nat.le_refl j) (by omega)) h
theorem cutb_all : ∀ (b : Fin 256) (k : Fin 9), ((0 ≤ Go.bits .and .u8 ((b.val : Nat) : Int) (maskI ((k.val : Nat) : Int)) ∧ Go.bits .and .u8 ((b.val : Nat) : Int) (maskI ((k.val : Nat) : Int)) < 256) ∧ ∀ t : Fin 8, Go.bits .and .u8 ((b.val : Nat) : Int) (maskI ((k.val : Nat) : Int)) / 2 ^ (7 - t.val) % 2 = if t.val < k.val then ((b.val : Nat) : Int) / 2 ^ (7 - t.val) % 2 else 0) := by decide +kernel
theorem cut_bit (b k : Int) (hb : 0 ≤ b ∧ b < 256) (hk : 0 ≤ k ∧ k ≤ 8) (t : Nat) (ht : t < 8) : Go.bits .and .u8 b (maskI k) / 2 ^ (7 - t) % 2 = if (t : Int) < k then b / 2 ^ (7 - t) % 2 else 0 := by
 obtain ⟨n, rfl⟩ := Int.eq_ofNat_of_zero_le hb.1
 obtain ⟨m, rfl⟩ := Int.eq_ofNat_of_zero_le hk.1
 have h := (cutb_all ⟨n, by omega⟩ ⟨m, by omega⟩).2 ⟨t, ht⟩
 simp only [Int.ofNat_lt] at h ⊢
 exact h
theorem cut_range (b k : Int) (hb : 0 ≤ b ∧ b < 256) (hk : 0 ≤ k ∧ k ≤ 8) : 0 ≤ Go.bits .and .u8 b (maskI k) ∧ Go.bits .and .u8 b (maskI k) < 256 := by
 obtain ⟨n, rfl⟩ := Int.eq_ofNat_of_zero_le hb.1
 obtain ⟨m, rfl⟩ := Int.eq_ofNat_of_zero_le hk.1
 exact (cutb_all ⟨n, by omega⟩ ⟨m, by omega⟩).1
theorem byte_sum : ∀ b : Fin 256, ((b.val : Nat) : Int) = ((b.val : Nat) : Int) / 2 ^ 7 % 2 * 128 + ((b.val : Nat) : Int) / 2 ^ 6 % 2 * 64 + ((b.val : Nat) : Int) / 2 ^ 5 % 2 * 32 + ((b.val : Nat) : Int) / 2 ^ 4 % 2 * 16 + ((b.val : Nat) : Int) / 2 ^ 3 % 2 * 8 + ((b.val : Nat) : Int) / 2 ^ 2 % 2 * 4 + ((b.val : Nat) : Int) / 2 ^ 1 % 2 * 2 + ((b.val : Nat) : Int) / 2 ^ 0 % 2 := by decide +kernel
theorem byte_ext (b c : Int) (hb : 0 ≤ b ∧ b < 256) (hc : 0 ≤ c ∧ c < 256) (h : ∀ t, t < 8 → b / 2 ^ (7 - t) % 2 = c / 2 ^ (7 - t) % 2) : b = c := by
 obtain ⟨n, rfl⟩ := Int.eq_ofNat_of_zero_le hb.1
 obtain ⟨m, rfl⟩ := Int.eq_ofNat_of_zero_le hc.1
 have e1 := byte_sum ⟨n, by omega⟩
 have e2 := byte_sum ⟨m, by omega⟩
 rw [show ((n : Nat) : Int) = _ from e1, show ((m : Nat) : Int) = _ from e2]
 dsimp only
 rw [show ((n : Int)) / 2 ^ 7 % 2 = _ from h 0 (by decide), show ((n : Int)) / 2 ^ 6 % 2 = _ from h 1 (by decide), show ((n : Int)) / 2 ^ 5 % 2 = _ from h 2 (by decide), show ((n : Int)) / 2 ^ 4 % 2 = _ from h 3 (by decide), show ((n : Int)) / 2 ^ 3 % 2 = _ from h 4 (by decide), show ((n : Int)) / 2 ^ 2 % 2 = _ from h 5 (by decide), show ((n : Int)) / 2 ^ 1 % 2 = _ from h 6 (by decide), show ((n : Int)) / 2 ^ 0 % 2 = _ from h 7 (by decide)]
theorem getD_get (l : List Int) (i : Nat) (h : i < l.length) : l.getD i 0 = l[i] := by rw [List.getD_eq_getElem?_getD, List.getElem?_eq_getElem h, Option.getD_some]
theorem list_ext (l m : List Int) (hl : byteL l) (hm : byteL m) (h : ∀ j, j < 128 → bitN l j = bitN m j) : l = m := by
 refine List.ext_getElem (by rw [hl.1, hm.1]) fun i h1 h2 => ?_
 refine byte_ext _ _ (hl.2 _ (List.getElem_mem h1)) (hm.2 _ (List.getElem_mem h2)) fun t ht => ?_
 have h3 := h (8 * i + t) (by rw [hl.1] at h1; omega)
 unfold bitN at h3
 rw [show (8 * i + t) / 8 = i by omega, show (8 * i + t) % 8 = t by omega, getD_get l i h1, getD_get m i h2] at h3
 exact h3
theorem cutL_get (c : Int) : ∀ (l : List Int) (i t : Nat), t < l.length → (cutL c i l).getD t 0 = cutB c (i + t) (l.getD t 0)
 | [], _, _, h => absurd h (Nat.not_lt_zero _)
 | b :: l, i, 0, _ => rfl
 | b :: l, i, t + 1, h => by
  rw [cutL, List.getD_cons_succ, List.getD_cons_succ, cutL_get c l (i + 1) t (by simpa using h), show i + 1 + t = i + (t + 1) by omega]
theorem getD_byte (l : List Int) (hl : byteL l) (i : Nat) (h : i < 16) : 0 ≤ l.getD i 0 ∧ l.getD i 0 < 256 := by
 rw [getD_get l i (by rw [hl.1]; exact h)]
 exact hl.2 _ (List.getElem_mem _)
theorem cutL_bit (c : Int) (l : List Int) (hl : byteL l) (j : Nat) (hj : j < 128) : bitN (cutL c 0 l) j = if (j : Int) < c then bitN l j else 0 := by
 unfold bitN
 rw [cutL_get c l 0 (j / 8) (by rw [hl.1]; omega), cutB, Nat.zero_add, keepI, cut_bit _ _ (getD_byte l hl _ (by omega)) (keep_range _) (j % 8) (by omega)]
 have e : ((j % 8 : Nat) : Int) < mnI (mxI (c - 8 * ((j / 8 : Nat) : Int))) ↔ (j : Int) < c := by
  unfold mnI mxI
  split <;> split <;> omega
 by_cases h : (j : Int) < c
 ·rw [if_pos h, if_pos (e.2 h)]
 ·rw [if_neg h, if_neg (fun h2 => h (e.1 h2))]
theorem cutL_byte (c : Int) : ∀ (l : List Int) (i : Nat), (∀ b ∈ l, 0 ≤ b ∧ b < 256) → ∀ b ∈ cutL c i l, 0 ≤ b ∧ b < 256
 | [], _, _, b, hb => by cases hb
 | y :: l, i, h, b, hb => by
  rw [cutL] at hb
  rcases List.mem_cons.1 hb with rfl | hb
  ·exact cut_range _ _ (h y (List.mem_cons_self ..)) (keep_range _)
  ·exact cutL_byte c l (i + 1) (fun z hz => h z (List.mem_cons_of_mem _ hz)) b hb
theorem cut_eq (c : Int) (l m : List Int) (hl : byteL l) (hm : byteL m) : cutL c 0 l = m ↔ ∀ j : Nat, j < 128 → (if (j : Int) < c then bitN l j else 0) = bitN m j := by
 constructor
 ·intro h j hj
  rw [← h, cutL_bit c l hl j hj]
 ·intro h
  exact list_ext _ _ ⟨by rw [cutL_len, hl.1], cutL_byte c l 0 hl.2⟩ hm fun j hj => by rw [cutL_bit c l hl j hj]; exact h j hj
def frN (v : Bool) : Nat := if v = true then 0 else 96
theorem frN_I (v : Bool) : frI v = (frN v : Int) := by cases v <;> rfl
end Go.Proofs.YtdopafhppaalfaaDoor.Q
