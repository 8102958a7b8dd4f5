/- What the text functions compute, as plain functions on lists: trimming and words. -/
import Derived.Test.YtljmgihgbjohnaaDoorT
import Derived.Test.YtljmgihgbjohnaaDoorP
namespace Go.Proofs.YtljmgihgbjohnaaDoor.Q
open Go Go.RowKit Go.Lib Go.Proofs.YtljmgihgbjohnaaDoorW.PrintWords Go.Proofs.YtljmgihgbjohnaaDoorB Go.Proofs.YtljmgihgbjohnaaDoor.E Go.Proofs.YtljmgihgbjohnaaDoor.P

theorem white_f (c : UInt8) : lanternref01_White.f (c.toNat : Int) = some (wh c) := by
  unfold lanternref01_White.f
  have h := wh_iff c
  by_cases h1 : (c.toNat : Int) = 32
  · rw [if_pos h1, h.mpr (.inl h1)]
  · rw [if_neg h1]
    by_cases h2 : (c.toNat : Int) = 9
    · rw [if_pos h2, h.mpr (.inr (.inl h2))]
    · rw [if_neg h2]
      by_cases h3 : (c.toNat : Int) = 10
      · rw [if_pos h3, h.mpr (.inr (.inr (.inl h3)))]
      · rw [if_neg h3]
        congr 1
        rw [Bool.eq_iff_iff, beq_iff_eq, h]
        omega
theorem trim_f (s : ByteArray) (hs : s.size ≤ 9223372036854775807) : text_Trim.f s = some (B (trimL (L s))) := by
  unfold text_Trim.f strings_Trim.f
  rw [if_pos ⟨hs, by decide, by decide⟩]
  rfl
/-! ### the reference's Trim -/
theorem right_loop (s : ByteArray) (hs : s.size ≤ 9223372036854775807) (a : Nat) (d : Nat) : ∀ (k b : Nat), a ≤ b → b ≤ s.size → b - a = d → d < k →
    ∃ b' : Nat, a ≤ b' ∧ b' ≤ b ∧ (∀ j, b' ≤ j → j < b → wh ((L s).getD j 0) = true) ∧ (a < b' → wh ((L s).getD (b' - 1) 0) = false) ∧ lanternref01_Trim.l1 k s a b = some (s.extract a b') := by
  induction d with
  | zero =>
    intro k b h1 h2 h3 h4
    obtain ⟨k, rfl⟩ : ∃ m, k = m + 1 := ⟨k - 1, by omega⟩
    refine ⟨b, h1, Nat.le_refl _, fun j hj hj2 => by omega, fun h => by omega, ?_⟩
    simp only [lanternref01_Trim.l1]
    rw [if_neg (by omega), if_pos (by omega), if_pos (by omega), if_pos (by omega)]
    rfl
  | succ d ih =>
    intro k b h1 h2 h3 h4
    obtain ⟨k, rfl⟩ : ∃ m, k = m + 1 := ⟨k - 1, by omega⟩
    have e : wrap64 ((b : Int) - 1) = ((b - 1 : Nat) : Int) := by rw [wrap_id (by omega) (by omega)]; omega
    simp only [lanternref01_Trim.l1]
    rw [if_pos (by omega), e, if_pos (by omega), if_pos (by omega), bt_L, Int.toNat_natCast, white_f]
    simp only [Option.bind_some]
    cases hw : wh ((L s).getD (b - 1) 0) with
    | true =>
      obtain ⟨b', g1, g2, g3, g4, g5⟩ := ih k (b - 1) (by omega) (by omega) (by omega) (by omega)
      refine ⟨b', g1, by omega, fun j hj hj2 => ?_, g4, ?_⟩
      · by_cases hjb : j = b - 1
        · rw [hjb]; exact hw
        · exact g3 j hj (by omega)
      · rw [if_pos rfl]; exact g5
    | false =>
      refine ⟨b, h1, Nat.le_refl _, fun j hj hj2 => by omega, fun _ => hw, ?_⟩
      rw [if_neg (by simp), if_pos (by omega), if_pos (by omega), if_pos (by omega)]
      rfl
theorem left_loop (s : ByteArray) (hs : s.size ≤ 9223372036854775807) (d : Nat) : ∀ (k a : Nat), a ≤ s.size → s.size - a = d → s.size + d + 2 < k →
    ∃ a' k' : Nat, a ≤ a' ∧ a' ≤ s.size ∧ (∀ j, a ≤ j → j < a' → wh ((L s).getD j 0) = true) ∧ (a' < s.size → wh ((L s).getD a' 0) = false) ∧ s.size < k' ∧ lanternref01_Trim.l0 k s a s.size = lanternref01_Trim.l1 k' s a' s.size := by
  induction d with
  | zero =>
    intro k a h1 h2 h3
    obtain ⟨k, rfl⟩ : ∃ m, k = m + 1 + 1 := ⟨k - 2, by omega⟩
    refine ⟨a, k, Nat.le_refl _, h1, fun j hj hj2 => by omega, fun h => by omega, by omega, ?_⟩
    simp only [lanternref01_Trim.l0]
    rw [if_neg (by omega)]
    simp only [lanternref01_Trim.j1]
  | succ d ih =>
    intro k a h1 h2 h3
    obtain ⟨k, rfl⟩ : ∃ m, k = m + 1 + 1 := ⟨k - 2, by omega⟩
    have e : wrap64 ((a : Int) + 1) = ((a + 1 : Nat) : Int) := by rw [wrap_id (by omega) (by omega)]; omega
    simp only [lanternref01_Trim.l0]
    rw [if_pos (by omega), if_pos (by omega), if_pos (by omega), bt_L, Int.toNat_natCast, white_f]
    simp only [Option.bind_some]
    cases hw : wh ((L s).getD a 0) with
    | true =>
      obtain ⟨a', k', g1, g2, g3, g4, g5, g6⟩ := ih (k + 1) (a + 1) (by omega) (by omega) (by omega)
      refine ⟨a', k', by omega, g2, fun j hj hj2 => ?_, g4, g5, ?_⟩
      · by_cases hja : j = a
        · rw [hja]; exact hw
        · exact g3 j (by omega) hj2
      · rw [if_pos rfl, e]; exact g6
    | false =>
      refine ⟨a, k, Nat.le_refl _, h1, fun j hj hj2 => by omega, fun _ => hw, by omega, ?_⟩
      rw [if_neg (by simp)]
      simp only [lanternref01_Trim.j1]
theorem ref_trim (s : ByteArray) (hs : s.size ≤ 4000000000) (k : Nat) (hk : 2 * s.size + 3 < k) : lanternref01_Trim.f k s = some (B (trimL (L s))) := by
  unfold lanternref01_Trim.f
  obtain ⟨a, k', g1, g2, g3, g4, g5, g6⟩ := left_loop s (by omega) s.size k 0 (by omega) (by omega) (by omega)
  obtain ⟨b, f1, f2, f3, f4, f5⟩ := right_loop s (by omega) a (s.size - a) k' s.size g2 (Nat.le_refl _) rfl (by omega)
  have g6' : lanternref01_Trim.l0 k s 0 (s.size : Int) = lanternref01_Trim.l1 k' s (a : Int) (s.size : Int) := g6
  rw [g6', f5]
  congr 1
  apply L_inj
  rw [L_extract, L_B]
  have hl : (L s).length = s.size := (size_L s).symm
  refine (trimS_range (L s) a b f1 (by omega) (fun j hj => g3 j (Nat.zero_le _) hj) (fun j h1 h2 => f3 j h1 (by omega)) (fun h => g4 (by omega)) (fun h => f4 h) (fun h => ?_)).symm
  by_cases ha : a < s.size
  · exfalso
    have := f3 a (by omega) ha
    rw [g4 ha] at this
    cases this
  · left; omega
/-! ### the reference's Words -/
theorem ref_words_loop (s : ByteArray) (hs : s.size ≤ 4000000000) (d : Nat) : ∀ (k : Nat) (i : Nat) (acc : List ByteArray) (w : List UInt8), i ≤ s.size → s.size - i = d → d < k → acc.length ≤ i → w.length ≤ i →
    lanternref01_Words.l0 k s acc (B w) i = some (acc ++ (wordsAcc w ((L s).drop i)).map B) := by
  have hl : (L s).length = s.size := (size_L s).symm
  induction d with
  | zero =>
    intro k i acc w h1 h2 h3 h4 h5
    obtain ⟨k, rfl⟩ : ∃ m, k = m + 1 := ⟨k - 1, by omega⟩
    simp only [lanternref01_Words.l0]
    rw [if_neg (by omega), List.drop_eq_nil_of_le (by omega), wordsAcc, toList_L, L_B]
    by_cases hw : w = []
    · rw [if_pos hw, if_pos hw]; simp
    · rw [if_neg hw, if_neg hw, if_pos (by omega)]; rfl
  | succ d ih =>
    intro k i acc w h1 h2 h3 h4 h5
    obtain ⟨k, rfl⟩ : ∃ m, k = m + 1 := ⟨k - 1, by omega⟩
    have e : wrap64 ((i : Int) + 1) = ((i + 1 : Nat) : Int) := by rw [wrap_id (by omega) (by omega)]; omega
    have hx : s.extract i (i + 1) = B [(L s).getD i 0] := by
      apply L_inj
      rw [L_extract, L_B, take_getD _ _ (by omega), List.drop_left' (by rw [List.length_take]; omega)]
    simp only [lanternref01_Words.l0]
    rw [if_pos (by omega), if_pos (by omega), bt_L, Int.toNat_natCast, white_f, getD_drop (L s) i (by omega), wordsAcc, e]
    simp only [Option.bind_some]
    by_cases hw : wh ((L s).getD i 0) = true
    · rw [if_pos hw, if_pos hw, toList_L, L_B]
      by_cases hwe : w = []
      · rw [if_pos hwe, if_pos hwe, nil_B, ih k (i + 1) acc [] (by omega) (by omega) (by omega) (by omega) (by simp)]
      · rw [if_neg hwe, if_neg hwe, if_pos (by omega), nil_B, ih k (i + 1) _ [] (by omega) (by omega) (by omega) (by simp; omega) (by simp)]
        simp
    · rw [if_neg hw, if_neg hw, if_pos (by omega), if_pos (by omega), Int.toNat_natCast, hx, size_B, size_B, if_pos (by simp; omega), append_B, ih k (i + 1) acc _ (by omega) (by omega) (by omega) (by omega) (by simp; omega)]
theorem ref_words (s : ByteArray) (hs : s.size ≤ 4000000000) (k : Nat) (hk : s.size < k) : lanternref01_Words.f k s = some ((wordsL (L s)).map B) := by
  unfold lanternref01_Words.f
  have := ref_words_loop s hs s.size k 0 [] [] (by omega) (by omega) hk (by simp) (by simp)
  rw [List.drop_zero] at this
  exact this
theorem rdOf_map (ws : List (List UInt8)) (i : Nat) (h : i < ws.length) : rdOf ByteArray.empty (ws.map B) (i : Int) = B (ws.getD i []) := by
  simp [rdOf, List.getD_eq_getElem?_getD, h]
theorem texts_loop (ws : List (List UInt8)) (hn : ws.length ≤ 4000000000) (d : Nat) : ∀ (k i : Nat), i ≤ ws.length → ws.length - i = d → d < k → lanternref01_Texts.l0 k (ws.map B) (ws.map B) i = some true := by
  induction d with
  | zero =>
    intro k i h1 h2 h3
    obtain ⟨k, rfl⟩ : ∃ m, k = m + 1 := ⟨k - 1, by omega⟩
    simp only [lanternref01_Texts.l0]
    rw [if_neg (by simp; omega)]
  | succ d ih =>
    intro k i h1 h2 h3
    obtain ⟨k, rfl⟩ : ∃ m, k = m + 1 := ⟨k - 1, by omega⟩
    have e : wrap64 ((i : Int) + 1) = ((i + 1 : Nat) : Int) := by rw [wrap_id (by omega) (by omega)]; omega
    simp only [lanternref01_Texts.l0]
    rw [if_pos (by simp; omega), if_pos (by omega), if_pos (by simp; omega), if_pos trivial, e]
    exact ih k (i + 1) (by omega) (by omega) (by omega)
theorem texts_same (ws : List (List UInt8)) (hn : ws.length ≤ 4000000000) (k : Nat) (hk : ws.length < k) : lanternref01_Texts.f k (ws.map B) (ws.map B) = some true := by
  unfold lanternref01_Texts.f
  rw [if_pos rfl]
  exact texts_loop ws hn ws.length k 0 (by omega) (by omega) hk
/-! ### the reference's Squeeze -/
theorem joinL_snoc (ws : List (List UInt8)) (w : List UInt8) (h : ws ≠ []) : joinL (ws ++ [w]) = joinL ws ++ 32 :: w := by
  induction ws with
  | nil => exact absurd rfl h
  | cons x r ih =>
    cases r with
    | nil => simp [joinL_cons, joinL_one]
    | cons y r =>
      have := ih (by simp)
      simp only [List.cons_append] at this ⊢
      rw [joinL_cons, this, joinL_cons, List.append_assoc]
      rfl
theorem total_take (ws : List (List UInt8)) (i : Nat) : total (ws.take i) ≤ total ws := by
  have h : total ws = total (ws.take i) + total (ws.drop i) := by
    unfold total
    rw [← List.sum_append, ← List.map_append, List.take_append_drop]
  omega
theorem total_getD (ws : List (List UInt8)) (i : Nat) (h : i < ws.length) : (ws.getD i []).length ≤ total ws := by
  have h1 : ws.getD i [] ∈ ws := by
    rw [List.getD_eq_getElem?_getD, List.getElem?_eq_getElem h]
    exact List.getElem_mem h
  have h2 : ∀ (ws : List (List UInt8)) w, w ∈ ws → w.length ≤ total ws := by
    intro ws
    induction ws with
    | nil => intro w hw; simp at hw
    | cons x r ih =>
      intro w hw
      rcases List.mem_cons.1 hw with rfl | hw
      · simp [total]; omega
      · have := ih w hw
        simp [total] at this ⊢
        omega
  exact h2 ws _ h1
theorem take_getD' (ws : List (List UInt8)) (i : Nat) (h : i < ws.length) : ws.take (i + 1) = ws.take i ++ [ws.getD i []] := by
  rw [List.getD_eq_getElem?_getD, List.getElem?_eq_getElem h, Option.getD_some]
  rw [List.take_succ_eq_append_getElem h]
theorem squeeze_loop (ws : List (List UInt8)) (hn : ws.length ≤ 4000000000) (ht : total ws ≤ 4000000000) (d : Nat) : ∀ (k i : Nat), i ≤ ws.length → ws.length - i = d → d < k →
    lanternref01_Squeeze.l0 k (ws.map B) (B (joinL (ws.take i))) i = some (B (joinL ws)) := by
  induction d with
  | zero =>
    intro k i h1 h2 h3
    obtain ⟨k, rfl⟩ : ∃ m, k = m + 1 := ⟨k - 1, by omega⟩
    simp only [lanternref01_Squeeze.l0]
    rw [if_neg (by simp; omega), List.take_of_length_le (by omega)]
  | succ d ih =>
    intro k i h1 h2 h3
    obtain ⟨k, rfl⟩ : ∃ m, k = m + 1 := ⟨k - 1, by omega⟩
    have e : wrap64 ((i : Int) + 1) = ((i + 1 : Nat) : Int) := by rw [wrap_id (by omega) (by omega)]; omega
    have hj := joinL_length (ws.take i)
    have ht1 := total_take ws i
    have ht2 := total_getD ws i (by omega)
    have hb : (⟨#[32]⟩ : ByteArray) = B [32] := rfl
    simp only [lanternref01_Squeeze.l0]
    rw [if_pos (by simp; omega), rdOf_map ws i (by omega), hb, append_B, append_B, append_B, e]
    simp only [size_B, List.length_append, List.length_cons, List.length_nil]
    by_cases hi : i = 0
    · subst hi
      rw [if_neg (by omega), if_pos (by omega), if_pos (by omega)]
      have e2 : joinL (ws.take 0) ++ ws.getD 0 [] = joinL (ws.take (0 + 1)) := by rw [take_getD' ws 0 (by omega)]; simp [joinL_one, joinL_nil]
      rw [e2]
      exact ih k (0 + 1) (by omega) (by omega) (by omega)
    · rw [if_pos (by omega), if_pos (by omega), if_pos (by omega), if_pos (by omega)]
      have e2 : joinL (ws.take i) ++ [32] ++ ws.getD i [] = joinL (ws.take (i + 1)) := by
        rw [take_getD' ws i (by omega), joinL_snoc _ _ (by
          intro hc
          have h0 : min i ws.length = 0 := by rw [← List.length_take, hc]; rfl
          omega)]
        simp
      rw [e2]
      exact ih k (i + 1) (by omega) (by omega) (by omega)
theorem ref_squeeze (s : ByteArray) (hs : s.size ≤ 1000000000) (k : Nat) (hk : s.size + 2 < k) : lanternref01_Squeeze.f k s = some (B (joinL (wordsL (L s)))) := by
  have hl : (L s).length = s.size := (size_L s).symm
  unfold lanternref01_Squeeze.f
  rw [ref_words s (by omega) k (by omega)]
  simp only [Option.bind_some]
  have h1 := words_count (L s)
  have h2 := total_wordsAcc (L s) []
  have h3 : total (wordsL (L s)) ≤ (L s).length + 1 := by simpa [wordsL] using h2
  have := squeeze_loop (wordsL (L s)) (by omega) (by omega) (wordsL (L s)).length k 0 (by omega) (by omega) (by omega)
  rw [List.take_zero] at this
  exact this
end Go.Proofs.YtljmgihgbjohnaaDoor.Q
