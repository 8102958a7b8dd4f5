/- Plain lemmas: trimming by any set of bytes; no program in sight. -/
import Derived.Test.YtfjfpgihgaiacaaDoorB
set_option linter.unusedSimpArgs false
namespace Go.Proofs.YtfjfpgihgaiacaaDoorB
open Go Go.RowKit Go.Lib Go.Proofs.YtfjfpgihgaiacaaDoorW.PrintWords

theorem u8_eq (c d : UInt8) : c = d ↔ (c.toNat : Int) = (d.toNat : Int) := ⟨by rintro rfl; rfl, fun h => UInt8.toNat_inj.mp (by omega)⟩
theorem u8_lt (c : UInt8) : 0 ≤ (c.toNat : Int) ∧ (c.toNat : Int) ≤ 255 := by have := c.toNat_lt; omega
theorem wrap_nat {x : Int} (n : Nat) (h : x = (n : Int)) (hn : n ≤ 9223372036854775807) : wrap64 x = (n : Int) := by subst h; exact wrap_id (by omega) (by omega)
theorem trimS_range (cs l : List UInt8) (a b : Nat) (hab : a ≤ b) (hb : b ≤ l.length) (ha : ∀ j, j < a → cs.contains (l.getD j 0) = true) (hB : ∀ j, b ≤ j → j < l.length → cs.contains (l.getD j 0) = true)
    (h1 : a < b → cs.contains (l.getD a 0) = false) (h2 : a < b → cs.contains (l.getD (b - 1) 0) = false) (h0 : a = b → a = l.length ∨ b = 0) : Lib.trimS l cs = (l.take b).drop a := by
  have gd : ∀ (j : Nat) (c : UInt8), l[j]? = some c → l.getD j 0 = c := fun j c h => by rw [List.getD_eq_getElem?_getD, h]; rfl
  rcases Nat.lt_or_ge a b with hlt | hge
  · have hr : Lib.trimRightS l cs = l.take b := Lib.trimRightS_take l cs b hb
      (fun j c hj hc => by
        have hl := (List.getElem?_eq_some_iff.1 hc).1
        have := hB j hj hl
        rw [gd j c hc] at this
        exact this)
      (fun c _ hc => by
        have := h2 hlt
        rw [gd _ c hc] at this
        exact this)
    unfold Lib.trimS
    rw [hr]
    exact Lib.trimLeftS_drop (l.take b) cs a (by rw [List.length_take]; omega)
      (fun j c hj hc => by
        rw [List.getElem?_take_of_lt (by omega)] at hc
        have := ha j hj
        rw [gd j c hc] at this
        exact this)
      (fun c hc => by
        rw [List.getElem?_take_of_lt (by omega)] at hc
        have := h1 hlt
        rw [gd a c hc] at this
        exact this)
  · obtain rfl : a = b := by omega
    have hall : ∀ j, j < l.length → cs.contains (l.getD j 0) = true := fun j hj => by
      rcases Nat.lt_or_ge j a with h | h
      · exact ha j h
      · exact hB j h hj
    have hr : Lib.trimRightS l cs = l.take 0 := Lib.trimRightS_take l cs 0 (Nat.zero_le _)
      (fun j c _ hc => by
        have hl := (List.getElem?_eq_some_iff.1 hc).1
        have := hall j hl
        rw [gd j c hc] at this
        exact this)
      (fun c h _ => absurd h (by omega))
    unfold Lib.trimS
    rw [hr]
    rw [List.drop_eq_nil_of_le (by rw [List.length_take]; omega)]
    simp [Lib.trimLeftS]
theorem dropWhile_head (p : UInt8 → Bool) : ∀ (l : List UInt8) (c : UInt8) (t : List UInt8), l.dropWhile p = c :: t → p c = false
  | [], _, _, h => by simp at h
  | x :: l, c, t, h => by
    rw [List.dropWhile_cons] at h
    split at h
    · exact dropWhile_head p l c t h
    · rename_i hx
      injection h with h _
      subst h
      simpa using hx
theorem dropWhile_id (p : UInt8 → Bool) (l : List UInt8) (h : ∀ c t, l = c :: t → p c = false) : l.dropWhile p = l := by
  cases l with
  | nil => rfl
  | cons c t => rw [List.dropWhile_cons, if_neg (by rw [h c t rfl]; simp)]
/-- Trimmed: no white at either end. -/
def TrimmedS (cs l : List UInt8) : Prop := (∀ c t, l = c :: t → cs.contains c = false) ∧ (∀ c t, l = t ++ [c] → cs.contains c = false)
theorem trimS_trimmed (cs l : List UInt8) : TrimmedS cs (Lib.trimS l cs) := by
  unfold Lib.trimS Lib.trimLeftS Lib.trimRightS
  refine ⟨fun c t h => dropWhile_head _ _ c t h, fun c t h => ?_⟩
  generalize hm : l.reverse.dropWhile (cs.contains ·) = m at h
  have hs : (m.reverse.dropWhile (cs.contains ·)) <:+ m.reverse := List.dropWhile_suffix _
  obtain ⟨u, hu⟩ := hs
  rw [h] at hu
  have hm2 : m = c :: (u ++ t).reverse := by
    have := congrArg List.reverse hu
    rw [List.reverse_reverse] at this
    rw [← this]
    simp
  have := dropWhile_head (cs.contains ·) l.reverse c _ (hm.trans hm2)
  exact this
theorem trimS_id {cs l : List UInt8} (h : TrimmedS cs l) : Lib.trimS l cs = l := by
  have e : Lib.trimRightS l cs = l := by
    show (List.dropWhile (cs.contains ·) l.reverse).reverse = l
    rw [dropWhile_id (cs.contains ·) l.reverse (fun c t hc => h.2 c t.reverse (by have := congrArg List.reverse hc; simpa using this)), List.reverse_reverse]
  unfold Lib.trimS
  rw [e]
  exact dropWhile_id _ l (fun c t hc => h.1 c t hc)
theorem trimS_iff (cs l : List UInt8) : Lib.trimS l cs = l ↔ TrimmedS cs l := ⟨fun h => h ▸ trimS_trimmed cs l, trimS_id⟩
theorem dropWhile_nil_iff (p : UInt8 → Bool) : ∀ l : List UInt8, l.dropWhile p = [] ↔ ∀ c ∈ l, p c = true
  | [] => by simp
  | c :: t => by
    rw [List.dropWhile_cons]
    by_cases h : p c = true
    · rw [if_pos h, dropWhile_nil_iff p t]
      simp [h]
    · rw [if_neg h]
      simp [h]
theorem trimS_nil_iff (cs l : List UInt8) : Lib.trimS l cs = [] ↔ ∀ c ∈ l, cs.contains c = true := by
  unfold Lib.trimS Lib.trimLeftS Lib.trimRightS
  rw [dropWhile_nil_iff]
  refine ⟨fun h => ?_, fun h c hc => ?_⟩
  · have e : l.reverse.dropWhile (cs.contains ·) = [] := by
      cases hm : l.reverse.dropWhile (cs.contains ·) with
      | nil => rfl
      | cons d t =>
        have h1 := dropWhile_head (cs.contains ·) l.reverse d t hm
        rw [hm] at h
        have h2 := h d (by simp)
        rw [h1] at h2
        cases h2
    intro c hc
    exact (dropWhile_nil_iff _ _).1 e c (List.mem_reverse.2 hc)
  · have hs : (l.reverse.dropWhile (cs.contains ·)) <:+ l.reverse := List.dropWhile_suffix _
    exact h c (List.mem_reverse.1 (hs.subset (List.mem_reverse.1 hc)))
end Go.Proofs.YtfjfpgihgaiacaaDoorB
