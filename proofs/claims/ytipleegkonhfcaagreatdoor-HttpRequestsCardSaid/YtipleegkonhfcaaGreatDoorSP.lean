/- strings.Split at one byte, plainly: the parts of a text between the places of that byte. -/
import Derived.Test.YtipleegkonhfcaaGreatDoorB
import Derived.Test.YtipleegkonhfcaaGreatDoorE
import Derived.Lib.SplitLaws
import Derived.Lib.CountLaws
set_option linter.unusedSimpArgs false
set_option linter.unusedVariables false
namespace Go.Proofs.YtipleegkonhfcaaGreatDoor.Q
open Go Go.RowKit Go.Lib Go.Proofs.YtipleegkonhfcaaGreatDoorW.PrintWords Go.Proofs.YtipleegkonhfcaaGreatDoorB Go.Proofs.YtipleegkonhfcaaGreatDoor.E

def splitS (c : UInt8) : List UInt8 → List (List UInt8)
  | [] => [[]]
  | b :: l => if b = c then [] :: splitS c l else match splitS c l with
    | [] => [[b]]
    | h :: t => (b :: h) :: t
theorem splitS_miss (c : UInt8) : ∀ l : List UInt8, (∀ b ∈ l, b ≠ c) → splitS c l = [l]
  | [], _ => rfl
  | b :: l, h => by
    rw [splitS, if_neg (h b List.mem_cons_self), splitS_miss c l (fun x hx => h x (List.mem_cons_of_mem _ hx))]
theorem splitS_hit (c : UInt8) : ∀ u v : List UInt8, (∀ b ∈ u, b ≠ c) → splitS c (u ++ c :: v) = u :: splitS c v
  | [], v, _ => by rw [List.nil_append, splitS, if_pos rfl]
  | b :: u, v, h => by
    rw [List.cons_append, splitS, if_neg (h b List.mem_cons_self), splitS_hit c u v (fun x hx => h x (List.mem_cons_of_mem _ hx))]
theorem split_bytes (c : UInt8) : ∀ (n : Nat) (s : ByteArray), s.size ≤ n → Lib.splitB ⟨#[c]⟩ 0 (Lib.countB s ⟨#[c]⟩) s = (splitS c (L s)).map B := by
  intro n
  induction n with
  | zero =>
    intro s hs
    have hi : Lib.indexB s ⟨#[c]⟩ = -1 := by
      rcases Lib.indexB_cases s ⟨#[c]⟩ with h | ⟨i, h, hle⟩
      · exact h
      · have e : (⟨#[c]⟩ : ByteArray).size = 1 := rfl
        omega
    rw [Lib.countB_miss _ _ hi, Lib.splitB_zero]
    have hl : L s = [] := List.length_eq_zero_iff.1 (by rw [← size_L]; omega)
    rw [hl]
    show [s] = [B []]
    rw [← hl, B_L]
  | succ n ih =>
    intro s hs
    have e1 : Lib.indexB s ⟨#[c]⟩ = Lib.indexByte (L s) c := Lib.index_one (L s) c
    rcases Lib.indexB_cases s ⟨#[c]⟩ with h | ⟨i, h, hle⟩
    · rw [Lib.countB_miss _ _ h, Lib.splitB_zero]
      rw [e1] at h
      rw [splitS_miss c (L s) (fun b hb hbc => ?_)]
      · show [s] = [B (L s)]
        rw [B_L]
      · obtain ⟨k, hk⟩ := List.mem_iff_getElem?.1 hb
        exact Lib.indexByte_none h k (by rw [hk, hbc])
    · have hsz : (⟨#[c]⟩ : ByteArray).size = 1 := rfl
      rw [Lib.countB_hit _ _ i (by rw [hsz]; omega) h, Nat.add_comm 1, Lib.splitB_hit _ _ _ _ i h, ih _ (by rw [ByteArray.size_extract, hsz]; rw [hsz] at hle; omega)]
      rw [e1] at h
      obtain ⟨h1, h2⟩ := Lib.indexByte_some h
      have hlt : i < (L s).length := (List.getElem?_eq_some_iff.1 h1).1
      have hp : L s = (L s).take i ++ c :: (L s).drop (i + 1) := by
        conv => lhs; rw [← List.take_append_drop i (L s)]
        congr 1
        rw [List.drop_eq_getElem_cons hlt, (List.getElem?_eq_some_iff.1 h1).2]
      have hm : splitS c (L s) = (L s).take i :: splitS c ((L s).drop (i + 1)) := by
        conv => lhs; rw [hp]
        refine splitS_hit c _ _ (fun b hb hbc => ?_)
        obtain ⟨k, hk⟩ := List.mem_iff_getElem?.1 hb
        have hki : k < i := by
          have := (List.getElem?_eq_some_iff.1 hk).1
          rw [List.length_take] at this
          omega
        rw [List.getElem?_take_of_lt hki] at hk
        exact h2 k hki (by rw [hk, hbc])
      have x1 : s.extract 0 (i + 0) = B ((L s).take i) := by
        apply L_inj
        rw [L_extract, L_B, List.drop_zero, Nat.add_zero]
      have x2 : L (s.extract (i + 1) s.size) = (L s).drop (i + 1) := by
        rw [L_extract, size_L, List.take_length]
      rw [hm, List.map_cons, hsz, x1, x2]
theorem split_f (c : UInt8) (s : ByteArray) (h : s.size ≤ 1000000) : strings_Split.f s ⟨#[c]⟩ = some ((splitS c (L s)).map B) := by
  unfold strings_Split.f
  rw [if_pos ⟨h, Nat.le_refl 1⟩, split_bytes c s.size s (Nat.le_refl _)]
end Go.Proofs.YtipleegkonhfcaaGreatDoor.Q
