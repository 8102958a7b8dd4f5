/- A body in chunks: the program's reading and the reference's are one plain function; the law ChunkDecodes. -/
import Derived.Test.YtgkcdnkkdhmjfaaDoorC1
set_option linter.unusedSimpArgs false
set_option linter.unusedVariables false
namespace Go.Proofs.YtgkcdnkkdhmjfaaDoor.Q
open Go Go.RowKit Go.Lib Go.Proofs.YtgkcdnkkdhmjfaaDoorW.PrintWords Go.Proofs.YtgkcdnkkdhmjfaaDoorB Go.Proofs.YtgkcdnkkdhmjfaaDoor.E Go.Proofs.YtgkcdnkkdhmjfaaDoor.P

theorem ref_digit : ∀ c : Fin 256, (48 ≤ c.val ∧ c.val ≤ 57 ∧ ((c.val : Int) - 48) % 256 = (puD c.val : Int) ∧ puD c.val < 16) ∨ (¬ (48 ≤ c.val ∧ c.val ≤ 57) ∧ 97 ≤ c.val ∧ c.val ≤ 102 ∧ ((c.val : Int) - 97) % 256 + 10 = (puD c.val : Int) ∧ puD c.val < 16) ∨ (¬ (48 ≤ c.val ∧ c.val ≤ 57) ∧ ¬ (97 ≤ c.val ∧ c.val ≤ 102) ∧ 65 ≤ c.val ∧ c.val ≤ 70 ∧ ((c.val : Int) - 65) % 256 + 10 = (puD c.val : Int) ∧ puD c.val < 16) ∨ (¬ (48 ≤ c.val ∧ c.val ≤ 57) ∧ ¬ (97 ≤ c.val ∧ c.val ≤ 102) ∧ ¬ (65 ≤ c.val ∧ c.val ≤ 70) ∧ 16 ≤ puD c.val) := by decide +kernel
def orNeg : Option Nat → Int
  | some v => v
  | none => -1
theorem refSize_l1 (s : ByteArray) (hs : s.size ≤ 1000000) (e : Nat) (he : e ≤ s.size) : ∀ (d k n i : Nat), i + d = e → (n + 1) * 16 ^ d ≤ 4294967296 → 3 * d + 1 < k →
    lanternref10_Size.l1 k s e n i = some (orNeg (valL 16 (((L s).take e).drop i) n))
  | 0, k, n, i, hd, hn, hk => by
    obtain ⟨k, rfl⟩ : ∃ m, k = m + 1 := ⟨k - 1, by omega⟩
    rw [lanternref10_Size.l1, if_neg (by omega), List.drop_eq_nil_of_le (by rw [List.length_take]; omega)]
    rfl
  | d + 1, k, n, i, hd, hn, hk => by
    obtain ⟨k, rfl⟩ : ∃ m, k = m + 3 := ⟨k - 3, by omega⟩
    have hi : i < s.size := by omega
    have hpos : 1 ≤ 16 ^ (d + 1) := Nat.pow_pos (by decide)
    have hn1 : n + 1 ≤ (n + 1) * 16 ^ (d + 1) := Nat.le_mul_of_pos_right _ hpos
    have hlen : ((L s).take e).length = e := by rw [List.length_take, ← size_L]; omega
    have hdr := getD_drop ((L s).take e) i (by omega)
    have hge : ((L s).take e).getD i 0 = (L s).getD i 0 := by
      simp only [List.getD_eq_getElem?_getD, List.getElem?_take, if_pos (show i < e by omega)]
    rw [hge] at hdr
    have hg := gb_lt s i
    rw [lanternref10_Size.l1, if_pos (by omega), if_pos (by omega), if_pos (by omega), bt_gb, hdr, valL]
    have e0 : ((L s).getD i 0).toNat = gb s i := rfl
    rw [e0]
    have hnext : ∀ k', k ≤ k' → puD (gb s i) < 16 → lanternref10_Size.l1 k' s e ((n * 16 + puD (gb s i) : Nat) : Int) ((i + 1 : Nat) : Int) = some (orNeg (valL 16 (((L s).take e).drop (i + 1)) (n * 16 + puD (gb s i)))) := fun k' hk' hlt => refSize_l1 s hs e he d k' _ (i + 1) (by omega) (by
      refine Nat.le_trans ?_ hn
      rw [Nat.pow_succ, Nat.mul_comm (16 ^ d) 16, ← Nat.mul_assoc]
      exact Nat.mul_le_mul_right _ (by omega)) (by omega)
    have wi : wrap64 ((i : Int) + 1) = ((i + 1 : Nat) : Int) := wrap_nat (i + 1) rfl (by omega)
    have w16 : wrap64 ((n : Int) * 16) = ((n * 16 : Nat) : Int) := wrap_nat (n * 16) (by omega) (by omega)
    have wa : ∀ d : Int, d = ((puD (gb s i) : Nat) : Int) → puD (gb s i) < 16 → wrap64 (((n * 16 : Nat) : Int) + d) = ((n * 16 + puD (gb s i) : Nat) : Int) := fun d hd hlt => wrap_nat _ (by omega) (by omega)
    have wb : ∀ d : Int, d + 10 = ((puD (gb s i) : Nat) : Int) → puD (gb s i) < 16 → wrap64 (wrap64 (((n * 16 : Nat) : Int) + d) + 10) = ((n * 16 + puD (gb s i) : Nat) : Int) := by
      intro d hd hlt
      have h1 : wrap64 (((n * 16 : Nat) : Int) + d) = ((n * 16 : Nat) : Int) + d := wrap_id (by omega) (by omega)
      rw [h1]
      exact wrap_nat _ (by omega) (by omega)
    have hj4 : ∀ b : Bool, (b = true ∧ ((gb s i : Int) - 97) % 256 + 10 = (puD (gb s i) : Int) ∧ puD (gb s i) < 16 ∨ b = false ∧ (65 ≤ gb s i ∧ gb s i ≤ 70 ∧ ((gb s i : Int) - 65) % 256 + 10 = (puD (gb s i) : Int) ∧ puD (gb s i) < 16 ∨ ¬ (65 ≤ gb s i ∧ gb s i ≤ 70) ∧ 16 ≤ puD (gb s i))) → lanternref10_Size.j4 (k + 1) s e n i (gb s i) b = some (orNeg (if 16 ≤ puD (gb s i) then none else valL 16 (((L s).take e).drop (i + 1)) (n * 16 + puD (gb s i)))) := by
      intro b hb
      rw [lanternref10_Size.j4, w16, wi]
      rcases hb with ⟨rfl, h1, h2⟩ | ⟨rfl, ⟨h1, h2, h3, h4⟩ | ⟨h1, h2⟩⟩
      · rw [if_pos rfl, wb _ h1 h2, hnext k (by omega) h2, if_neg (by omega)]
      · rw [if_neg (by simp), if_pos (by omega), if_pos (by omega), wb _ h3 h4, hnext k (by omega) h4, if_neg (by omega)]
      · rw [if_neg (by simp), if_pos h2]
        by_cases c : (gb s i : Int) ≥ 65
        · rw [if_pos c, if_neg (by omega)]; rfl
        · rw [if_neg c]; rfl
    have hj3 : ∀ b : Bool, (b = true ∧ ((gb s i : Int) - 48) % 256 = (puD (gb s i) : Int) ∧ puD (gb s i) < 16 ∨ b = false ∧ (97 ≤ gb s i ∧ gb s i ≤ 102 ∧ ((gb s i : Int) - 97) % 256 + 10 = (puD (gb s i) : Int) ∧ puD (gb s i) < 16 ∨ ¬ (97 ≤ gb s i ∧ gb s i ≤ 102) ∧ (65 ≤ gb s i ∧ gb s i ≤ 70 ∧ ((gb s i : Int) - 65) % 256 + 10 = (puD (gb s i) : Int) ∧ puD (gb s i) < 16 ∨ ¬ (65 ≤ gb s i ∧ gb s i ≤ 70) ∧ 16 ≤ puD (gb s i)))) → lanternref10_Size.j3 (k + 2) s e n i (gb s i) b = some (orNeg (if 16 ≤ puD (gb s i) then none else valL 16 (((L s).take e).drop (i + 1)) (n * 16 + puD (gb s i)))) := by
      intro b hb
      rw [lanternref10_Size.j3, w16, wi]
      rcases hb with ⟨rfl, h1, h2⟩ | ⟨rfl, ⟨h1, h2, h3, h4⟩ | ⟨h1, h2⟩⟩
      · rw [if_pos rfl, wa _ h1 h2, hnext (k + 1) (by omega) h2, if_neg (by omega)]
      · rw [if_neg (by simp), if_pos (by omega)]
        exact hj4 _ (Or.inl ⟨decide_eq_true (by omega), h3, h4⟩)
      · rw [if_neg (by simp)]
        by_cases c : (gb s i : Int) ≥ 97
        · rw [if_pos c]
          exact hj4 _ (Or.inr ⟨decide_eq_false (by omega), h2⟩)
        · rw [if_neg c]
          exact hj4 _ (Or.inr ⟨rfl, h2⟩)
    rcases ref_digit ⟨gb s i, hg⟩ with ⟨h1, h2, h3, h4⟩ | ⟨h0, h1, h2, h3, h4⟩ | ⟨h0, h1, h2, h3, h4, h5⟩ | ⟨h0, h1, h2, h3⟩
    · dsimp only at h1 h2 h3 h4
      rw [if_pos (by omega)]
      exact hj3 _ (Or.inl ⟨decide_eq_true (by omega), h3, h4⟩)
    · dsimp only at h0 h1 h2 h3 h4
      by_cases c : (gb s i : Int) ≥ 48
      · rw [if_pos c]
        exact hj3 _ (Or.inr ⟨decide_eq_false (by omega), Or.inl ⟨h1, h2, h3, h4⟩⟩)
      · rw [if_neg c]
        exact hj3 _ (Or.inr ⟨rfl, Or.inl ⟨h1, h2, h3, h4⟩⟩)
    · dsimp only at h0 h1 h2 h3 h4 h5
      by_cases c : (gb s i : Int) ≥ 48
      · rw [if_pos c]
        exact hj3 _ (Or.inr ⟨decide_eq_false (by omega), Or.inr ⟨h1, Or.inl ⟨h2, h3, h4, h5⟩⟩⟩)
      · rw [if_neg c]
        exact hj3 _ (Or.inr ⟨rfl, Or.inr ⟨h1, Or.inl ⟨h2, h3, h4, h5⟩⟩⟩)
    · dsimp only at h0 h1 h2 h3
      by_cases c : (gb s i : Int) ≥ 48
      · rw [if_pos c]
        exact hj3 _ (Or.inr ⟨decide_eq_false (by omega), Or.inr ⟨h1, Or.inr ⟨h2, h3⟩⟩⟩)
      · rw [if_neg c]
        exact hj3 _ (Or.inr ⟨rfl, Or.inr ⟨h1, Or.inr ⟨h2, h3⟩⟩⟩)
theorem refSize_f (s : ByteArray) (hs : s.size ≤ 1000000) (k : Nat) (hk : 500 < k) : lanternref10_Size.f k s = some (orNeg (sizeL (L s))) := by
  unfold lanternref10_Size.f sizeL
  have hsz : s.size = (L s).length := size_L s
  by_cases c1 : 256 < (L s).length
  · rw [if_pos (by omega), if_pos c1]
    rfl
  · rw [if_neg (by omega), if_neg c1]
    have w1 : wrap64 ((s.size : Int) - 1) = (s.size : Int) - 1 := wrap_id (by omega) (by omega)
    have hb := refSize_back s (by omega) s.size k s.size (Nat.le_refl _) (Nat.le_refl _) (by omega) (fun _ _ => rfl)
    have ht : (L s).take s.size = L s := by rw [hsz, List.take_length]
    rw [w1, hb, ht]
    by_cases c2 : splitC 13 (L s) ≠ none
    · rw [if_pos c2, if_pos c2]
      rfl
    · rw [if_neg c2, if_neg c2]
      obtain ⟨q, hq⟩ : ∃ q, k - s.size = q + 2 := ⟨k - s.size - 2, by omega⟩
      have heq : headOf (L s) = (L s).take (endOf (L s) s.size) ∧ endOf (L s) s.size ≤ s.size := by
        unfold headOf endOf
        cases h : splitC 59 (L s) with
        | none => exact ⟨ht.symm, Nat.le_refl _⟩
        | some x =>
          obtain ⟨u, t⟩ := x
          obtain ⟨e, _⟩ := splitC_some 59 (L s) u t h
          refine ⟨?_, ?_⟩
          · dsimp only
            rw [e]
            exact List.take_left.symm
          · dsimp only
            rw [hsz, e, List.length_append]
            omega
      have hlen : (headOf (L s)).length = endOf (L s) s.size := by
        rw [heq.1, List.length_take]
        omega
      rw [hq, lanternref10_Size.l0, if_neg (by decide)]
      by_cases c3 : headOf (L s) = []
      · have : endOf (L s) s.size = 0 := by rw [← hlen, c3]; rfl
        rw [if_pos (by omega), lanternref10_Size.j1, if_pos rfl, if_pos (Or.inl c3)]
        rfl
      · have hpos : 0 < endOf (L s) s.size := by rw [← hlen]; exact List.length_pos_iff.2 c3
        rw [if_neg (by omega)]
        by_cases c4 : 8 < (headOf (L s)).length
        · rw [decide_eq_true (by omega), lanternref10_Size.j1, if_pos rfl, if_pos (Or.inr c4)]
          rfl
        · have hp : 16 ^ endOf (L s) s.size ≤ 16 ^ 8 := Nat.pow_le_pow_right (by decide) (by omega)
          rw [decide_eq_false (by omega), lanternref10_Size.j1, if_neg (by simp), if_neg (by rintro (h | h); exact c3 h; exact c4 h)]
          have := refSize_l1 s (by omega) (endOf (L s) s.size) heq.2 (endOf (L s) s.size) q 0 0 (by omega) (by omega) (by omega)
          rw [List.drop_zero, ← heq.1] at this
          exact this
end Go.Proofs.YtgkcdnkkdhmjfaaDoor.Q
