/- Plain lemmas on texts, as lists of bytes; no program in sight. -/
import Derived.Test.YtipleegkonhfcaaGreatDoorWWords
import Derived.Lib.SlTrimSet
import Derived.Lib.Join
import Derived.Lib.MapLaws
namespace Go.Proofs.YtipleegkonhfcaaGreatDoorB
open Go Go.RowKit Go.Lib Go.Proofs.YtipleegkonhfcaaGreatDoorW.PrintWords

/-! ### texts and their bytes -/
abbrev L (s : ByteArray) : List UInt8 := s.data.toList
def B (l : List UInt8) : ByteArray := ⟨l.toArray⟩
@[simp] theorem L_B (l : List UInt8) : L (B l) = l := by simp [L, B]
@[simp] theorem B_L (s : ByteArray) : B (L s) = s := by cases s; simp [L, B]
theorem L_inj {s t : ByteArray} (h : L s = L t) : s = t := by rw [← B_L s, ← B_L t, h]
theorem size_L (s : ByteArray) : s.size = (L s).length := by cases s; simp [L, ByteArray.size]
theorem size_B (l : List UInt8) : (B l).size = l.length := by rw [size_L, L_B]
theorem L_extract (s : ByteArray) (a b : Nat) : L (s.extract a b) = ((L s).take b).drop a := by
  simp [L, ByteArray.extract, ByteArray.copySlice]
  try rw [List.drop_take]
theorem extract_B (l : List UInt8) (a b : Nat) : (B l).extract a b = B ((l.take b).drop a) := by
  apply L_inj; rw [L_extract, L_B, L_B]
theorem L_append (s t : ByteArray) : L (s ++ t) = L s ++ L t := by simp [L]
theorem toList_L (s : ByteArray) : s.toList = L s := Go.ByteArray.toList_eq s
theorem bt_L (s : ByteArray) (i : Int) : bt s i = (((L s).getD i.toNat 0).toNat : Int) := by
  unfold bt
  by_cases h : i.toNat < s.size
  · rw [dif_pos h]
    have h' : i.toNat < (L s).length := by rw [← size_L]; exact h
    rw [List.getD_eq_getElem?_getD, List.getElem?_eq_getElem h', Option.getD_some]
    rfl
  · rw [dif_neg h]
    have h' : ¬ i.toNat < (L s).length := by rw [← size_L]; exact h
    rw [List.getD_eq_getElem?_getD, List.getElem?_eq_none (by omega)]
    rfl
theorem wrap_id {x : Int} (h0 : -9223372036854775808 ≤ x) (h1 : x ≤ 9223372036854775807) : wrap64 x = x := by unfold wrap64; omega
theorem getD_drop (l : List UInt8) (i : Nat) (h : i < l.length) : l.drop i = l.getD i 0 :: l.drop (i + 1) := by
  rw [List.getD_eq_getElem?_getD, List.getElem?_eq_getElem h, Option.getD_some]
  exact List.drop_eq_getElem_cons h
theorem take_getD (l : List UInt8) (i : Nat) (h : i < l.length) : l.take (i + 1) = l.take i ++ [l.getD i 0] := by
  rw [List.getD_eq_getElem?_getD, List.getElem?_eq_getElem h, Option.getD_some]
  rw [List.take_succ_eq_append_getElem h]
end Go.Proofs.YtipleegkonhfcaaGreatDoorB
