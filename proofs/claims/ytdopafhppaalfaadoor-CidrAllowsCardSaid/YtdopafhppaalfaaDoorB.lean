/- Plain lemmas on texts, as lists of bytes; no program in sight. -/
import Derived.Test.YtdopafhppaalfaaDoorWWords
import Derived.Lib.SlTrimSet
import Derived.Lib.Join
import Derived.Lib.MapLaws
namespace Go.Proofs.YtdopafhppaalfaaDoorB
open Go Go.RowKit Go.Lib Go.Proofs.YtdopafhppaalfaaDoorW.PrintWords

/-! ### texts and their bytes -/
abbrev L (s : ByteArray) : List UInt8 := s.data.toList
def B (l : List UInt8) : ByteArray := ⟨l.toArray⟩
@[simp] theorem L_B (l : List UInt8) : L (B l) = l := by simp [L, B]
@[simp] theorem B_L (s : ByteArray) : B (L s) = s := by cases s; simp [L, B]
theorem L_inj {s t : ByteArray} (h : L s = L t) : s = t := by rw [← B_L s, ← B_L t, h]
theorem size_L (s : ByteArray) : s.size = (L s).length := by cases s; simp [L, ByteArray.size]
theorem L_extract (s : ByteArray) (a b : Nat) : L (s.extract a b) = ((L s).take b).drop a := by
  simp [L, ByteArray.extract, ByteArray.copySlice]
  try rw [List.drop_take]
theorem wrap_id {x : Int} (h0 : -9223372036854775808 ≤ x) (h1 : x ≤ 9223372036854775807) : wrap64 x = x := by unfold wrap64; omega
end Go.Proofs.YtdopafhppaalfaaDoorB
