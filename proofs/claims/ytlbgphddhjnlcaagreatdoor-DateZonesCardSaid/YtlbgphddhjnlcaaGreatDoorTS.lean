/- Plain lemmas: trimming by any set of bytes; no program in sight. -/
import Derived.Test.YtlbgphddhjnlcaaGreatDoorB
set_option linter.unusedSimpArgs false
namespace Go.Proofs.YtlbgphddhjnlcaaGreatDoorB
open Go Go.RowKit Go.Lib Go.Proofs.YtlbgphddhjnlcaaGreatDoorW.PrintWords

theorem dropWhile_head (p : UInt8 → Bool) : ∀ (l : List UInt8) (c : UInt8) (t : List UInt8), l.dropWhile p = c :: t → p c = false
  | [], _, _, h => by simp at h
  | x :: l, c, t, h => by
    rw [List.dropWhile_cons] at h
    split at h
    · exact dropWhile_head p l c t h
    · rename_i hx
      injection h with h _
      subst h
      simpa using hx
theorem dropWhile_nil_iff (p : UInt8 → Bool) : ∀ l : List UInt8, l.dropWhile p = [] ↔ ∀ c ∈ l, p c = true
  | [] => by simp
  | c :: t => by
    rw [List.dropWhile_cons]
    by_cases h : p c = true
    · rw [if_pos h, dropWhile_nil_iff p t]
      simp [h]
    · rw [if_neg h]
      simp [h]
theorem trimS_nil_iff (cs l : List UInt8) : Lib.trimS l cs = [] ↔ ∀ c ∈ l, cs.contains c = true := by
  unfold Lib.trimS Lib.trimLeftS Lib.trimRightS
  rw [dropWhile_nil_iff]
  refine ⟨fun h => ?_, fun h c hc => ?_⟩
  · have e : l.reverse.dropWhile (cs.contains ·) = [] := by
      cases hm : l.reverse.dropWhile (cs.contains ·) with
      | nil => rfl
      | cons d t =>
        have h1 := dropWhile_head (cs.contains ·) l.reverse d t hm
        rw [hm] at h
        have h2 := h d (by simp)
        rw [h1] at h2
        cases h2
    intro c hc
    exact (dropWhile_nil_iff _ _).1 e c (List.mem_reverse.2 hc)
  · have hs : (l.reverse.dropWhile (cs.contains ·)) <:+ l.reverse := List.dropWhile_suffix _
    exact h c (List.mem_reverse.1 (hs.subset (List.mem_reverse.1 hc)))
end Go.Proofs.YtlbgphddhjnlcaaGreatDoorB
