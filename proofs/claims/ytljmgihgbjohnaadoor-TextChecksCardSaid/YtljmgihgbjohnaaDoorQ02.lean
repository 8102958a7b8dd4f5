/- The program's Words and Squeeze; the laws on words, on what is done twice, and on letters turned. -/
import Derived.Test.YtljmgihgbjohnaaDoorQ01
set_option linter.unusedSimpArgs false
set_option linter.unusedVariables false
namespace Go.Proofs.YtljmgihgbjohnaaDoor.Q
open Go Go.RowKit Go.Lib Go.Proofs.YtljmgihgbjohnaaDoorW.PrintWords Go.Proofs.YtljmgihgbjohnaaDoorB Go.Proofs.YtljmgihgbjohnaaDoor.E Go.Proofs.YtljmgihgbjohnaaDoor.P

/-- The least of the places that are none below 0. -/
def least (n t : Int) : Int := if t ≥ 0 then (if n < 0 then t else if t < n then t else n) else n
def firstWhite (l : List UInt8) : Int := least (least (least (least (Lib.indexByte l 32) (Lib.indexByte l 32)) (Lib.indexByte l 9)) (Lib.indexByte l 10)) (Lib.indexByte l 13)
theorem indexByte_ge : ∀ (l : List UInt8) (c : UInt8), -1 ≤ Lib.indexByte l c
  | [], _ => by simp [Lib.indexByte]
  | b :: l, c => by
    have := indexByte_ge l c
    rw [Lib.indexByte]
    split
    · omega
    · split <;> omega
theorem least_shift (n t n' t' : Int) (hn : n' = if n < 0 then -1 else n + 1) (ht : t' = if t < 0 then -1 else t + 1) (h1 : -1 ≤ n) (h2 : -1 ≤ t) : least n' t' = (if least n t < 0 then -1 else least n t + 1) ∧ -1 ≤ least n t := by
  unfold least
  subst hn ht
  refine ⟨?_, ?_⟩ <;> (repeat' split) <;> omega
theorem least_zero (n t : Int) (h1 : -1 ≤ n) (h2 : -1 ≤ t) (h : n = 0 ∨ t = 0) : least n t = 0 := by
  unfold least
  repeat' split
  all_goals omega
theorem least_ge (n t : Int) (h1 : -1 ≤ n) (h2 : -1 ≤ t) : -1 ≤ least n t := by
  unfold least
  repeat' split
  all_goals omega
theorem indexByte_cons (b : UInt8) (l : List UInt8) (c : UInt8) : Lib.indexByte (b :: l) c = if b = c then 0 else if Lib.indexByte l c < 0 then -1 else Lib.indexByte l c + 1 := by
  have g := indexByte_ge l c
  rw [Lib.indexByte]
  by_cases h : b = c
  · simp [h]
  · simp only [h, if_false, beq_iff_eq]
    by_cases h2 : Lib.indexByte l c = -1
    · rw [if_pos h2, if_pos (by omega)]
    · rw [if_neg h2, if_neg (by omega)]
theorem firstWhite_eq : ∀ l : List UInt8, firstWhite l = if l.dropWhile (fun c => !wh c) = [] then -1 else ((l.takeWhile (fun c => !wh c)).length : Int)
  | [] => by simp [firstWhite, Lib.indexByte, least]
  | b :: l => by
    have ih := firstWhite_eq l
    have g1 := indexByte_ge l 32
    have g2 := indexByte_ge l 9
    have g3 := indexByte_ge l 10
    have g4 := indexByte_ge l 13
    have k1 := indexByte_ge (b :: l) 32
    have k2 := indexByte_ge (b :: l) 9
    have k3 := indexByte_ge (b :: l) 10
    have k4 := indexByte_ge (b :: l) 13
    by_cases hw : wh b = true
    · have e : firstWhite (b :: l) = 0 := by
        unfold firstWhite
        have hb : b = 32 ∨ b = 9 ∨ b = 10 ∨ b = 13 := by simpa [wh, W4] using hw
        have z : ∀ c, b = c → Lib.indexByte (b :: l) c = 0 := fun c h => by rw [indexByte_cons, if_pos h]
        have p1 := least_ge _ _ k1 k1
        have p2 := least_ge _ _ p1 k2
        have p3 := least_ge _ _ p2 k3
        rcases hb with h | h | h | h
        · exact least_zero _ _ p3 k4 (.inl (least_zero _ _ p2 k3 (.inl (least_zero _ _ p1 k2 (.inl (least_zero _ _ k1 k1 (.inl (z 32 h))))))))
        · exact least_zero _ _ p3 k4 (.inl (least_zero _ _ p2 k3 (.inl (least_zero _ _ p1 k2 (.inr (z 9 h))))))
        · exact least_zero _ _ p3 k4 (.inl (least_zero _ _ p2 k3 (.inr (z 10 h))))
        · exact least_zero _ _ p3 k4 (.inr (z 13 h))
      rw [e]
      simp [List.dropWhile_cons, List.takeWhile_cons, hw]
    · have hn : ∀ c ∈ W4, b ≠ c := fun c hc h => hw (by subst h; simpa [wh] using hc)
      have s : ∀ c ∈ W4, Lib.indexByte (b :: l) c = if Lib.indexByte l c < 0 then -1 else Lib.indexByte l c + 1 := fun c hc => by rw [indexByte_cons, if_neg (hn c hc)]
      have q1 := least_shift _ _ _ _ (s 32 (by decide)) (s 32 (by decide)) g1 g1
      have q2 := least_shift _ _ _ _ q1.1 (s 9 (by decide)) q1.2 g2
      have q3 := least_shift _ _ _ _ q2.1 (s 10 (by decide)) q2.2 g3
      have q4 := least_shift _ _ _ _ q3.1 (s 13 (by decide)) q3.2 g4
      have e : firstWhite (b :: l) = if firstWhite l < 0 then -1 else firstWhite l + 1 := q4.1
      rw [e, ih]
      have hf : wh b = false := by simpa using hw
      simp only [List.dropWhile_cons, List.takeWhile_cons, hf, Bool.not_false, if_true, List.length_cons]
      split
      · simp
      · rw [if_neg (by omega)]
        omega
/-- One round of the program's loop over the white bytes. -/
theorem words_l1 (k : Nat) (s : ByteArray) (acc : List ByteArray) (n : Int) (hn : -1 ≤ n) (i : Nat) (c : UInt8) (hi : i < 4) (hc : rd [32, 9, 10, 13] (i : Int) = (c.toNat : Int)) :
    text_Words.l1 (k + 1) s acc n [32, 9, 10, 13] 4 i = text_Words.l1 k s acc (least n (Lib.indexByte (L s) c)) [32, 9, 10, 13] 4 (i + 1 : Nat) := by
  have e : wrap64 ((i : Int) + 1) = ((i + 1 : Nat) : Int) := by rw [wrap_id (by omega) (by omega)]; omega
  simp only [text_Words.l1]
  rw [if_pos (by omega), if_pos (by omega), if_pos (by simp; omega), hc, e]
  unfold strings_IndexByte.f
  simp only [Option.bind_some, Int.toNat_natCast]
  have hu : c.toNat.toUInt8 = c := by simp
  rw [hu]
  unfold least
  by_cases h1 : Lib.indexByte (L s) c ≥ 0
  · rw [if_pos h1, if_pos h1]
    by_cases h2 : n < 0
    · rw [if_pos h2, if_pos h2]
    · rw [if_neg h2, if_neg h2]
      by_cases h3 : Lib.indexByte (L s) c < n
      · rw [if_pos h3, if_pos h3]
      · rw [if_neg h3, if_neg h3]
  · rw [if_neg h1, if_neg h1]
theorem words_l1_all (k : Nat) (s : ByteArray) (acc : List ByteArray) : text_Words.l1 (k + 4) s acc (Lib.indexByte (L s) 32) [32, 9, 10, 13] 4 0 = text_Words.l1 k s acc (firstWhite (L s)) [32, 9, 10, 13] 4 4 := by
  have g1 := indexByte_ge (L s) 32
  have g2 := indexByte_ge (L s) 9
  have g3 := indexByte_ge (L s) 10
  have p1 := least_ge _ _ g1 g1
  have p2 := least_ge _ _ p1 g2
  have p3 := least_ge _ _ p2 g3
  have h0 := words_l1 (k + 3) s acc _ g1 0 32 (by omega) rfl
  have h1 := words_l1 (k + 2) s acc _ p1 1 9 (by omega) rfl
  have h2 := words_l1 (k + 1) s acc _ p2 2 10 (by omega) rfl
  have h3 := words_l1 k s acc _ p3 3 13 (by omega) rfl
  exact h0.trans (h1.trans (h2.trans h3))
theorem takeWhile_all (p : UInt8 → Bool) : ∀ (l : List UInt8), ∀ c ∈ l.takeWhile p, p c = true
  | [], c, h => by simp at h
  | b :: l, c, h => by
    rw [List.takeWhile_cons] at h
    split at h
    · next hb =>
      rcases List.mem_cons.1 h with rfl | h
      · exact hb
      · exact takeWhile_all p l c h
    · simp at h
theorem text_words_loop (n : Nat) : ∀ (s : ByteArray) (k : Nat) (acc : List ByteArray), s.size = n → s.size + acc.length ≤ 4000000000 → 6 * (s.size + 2) < k → Trimmed (L s) → text_Words.l0 k s acc = some (acc ++ (wordsL (L s)).map B) := by
  induction n using Nat.strongRecOn with
  | _ n ih =>
    intro s k acc hsn hs hk htr
    have hl : (L s).length = s.size := (size_L s).symm
    obtain ⟨k, rfl⟩ : ∃ m, k = m + 1 + 1 + 4 := ⟨k - 6, by omega⟩
    rw [show k + 1 + 1 + 4 = (k + 1 + 4) + 1 from by omega]
    simp only [text_Words.l0]
    rw [toList_L]
    by_cases hne : L s = []
    · rw [if_pos hne, hne]; simp [wordsL, wordsAcc]
    · rw [if_neg hne]
      unfold strings_IndexByte.f
      simp only [Option.bind_some]
      have e1 : ((([32, 9, 10, 13] : List Int).length : Nat) : Int) = 4 := rfl
      have e2 : Int.toNat 32 = 32 := rfl
      have e3 : (32 : Nat).toUInt8 = 32 := rfl
      rw [e1, e2, e3, words_l1_all, firstWhite_eq]
      simp only [text_Words.l1]
      rw [if_neg (by omega)]
      have hsplit : (L s).takeWhile (fun c => !wh c) ++ (L s).dropWhile (fun c => !wh c) = L s := List.takeWhile_append_dropWhile
      have hclean : ∀ c ∈ (L s).takeWhile (fun c => !wh c), wh c = false := fun c hc => by simpa using takeWhile_all _ _ c hc
      have hfirst : (L s).takeWhile (fun c => !wh c) ≠ [] := by
        cases hL : L s with
        | nil => exact absurd hL hne
        | cons c t =>
          have := htr.1 c t hL
          simp [List.takeWhile_cons, this]
      generalize hu : (L s).takeWhile (fun c => !wh c) = u at hsplit hclean hfirst
      generalize hv : (L s).dropWhile (fun c => !wh c) = v at hsplit
      cases v with
      | nil =>
        rw [List.append_nil] at hsplit
        rw [if_pos rfl, if_pos (by omega), if_pos (by omega), if_pos (by omega), if_pos (by omega), empty_B, trim_f _ (by rw [size_B]; simp), L_B]
        have et : trimL [] = [] := by decide
        rw [et]
        obtain ⟨k, rfl⟩ : ∃ m, k = m + 1 := ⟨k - 1, by omega⟩
        simp only [Option.bind_some, text_Words.l0]
        rw [toList_L, L_B, if_pos rfl, ← hsplit, wordsL_one u hfirst hclean, hsplit]
        simp
      | cons c t =>
        have hwc : wh c = true := by
          have := dropWhile_head (fun c => !wh c) (L s) c t hv
          simpa using this
        have hlen : u.length + (t.length + 1) = s.size := by rw [← hl, ← hsplit]; simp
        have hu0 : 0 < u.length := List.length_pos_iff.2 hfirst
        have ex1 : s.extract u.length s.size = B (c :: t) := by
          apply L_inj
          rw [L_extract, L_B, ← hl, List.take_length, ← hsplit, List.drop_left]
        have ex2 : s.extract 0 u.length = B u := by
          apply L_inj
          rw [L_extract, L_B, List.drop_zero, ← hsplit, List.take_left]
        rw [if_neg (show ¬ (c :: t = []) by simp), if_neg (by omega), if_pos (by omega), if_pos (by omega), if_pos (by omega), Int.toNat_natCast, ex1, ex2, trim_f _ (by rw [size_B]; simp; omega), L_B]
        simp only [Option.bind_some]
        have htl : (trimL (c :: t)).length ≤ t.length := by
          have h1 : (trimL (c :: t)).length ≤ ((Lib.trimRightS (c :: t) W4).dropWhile wh).length := Nat.le_refl _
          obtain ⟨z, hz, _⟩ := dropWhile_split wh (c :: t).reverse
          have hpre : Lib.trimRightS (c :: t) W4 ++ z.reverse = c :: t := by
            have := congrArg List.reverse hz
            rw [List.reverse_reverse, List.reverse_append] at this
            exact this.symm
          cases hr : Lib.trimRightS (c :: t) W4 with
          | nil => rw [hr] at h1; exact Nat.le_trans h1 (Nat.zero_le _)
          | cons a r =>
            rw [hr] at hpre h1
            simp only [List.cons_append, List.cons.injEq] at hpre
            obtain ⟨rfl, hpre⟩ := hpre
            rw [List.dropWhile_cons, if_pos hwc] at h1
            have h2 : (r.dropWhile wh).length ≤ r.length := (List.dropWhile_suffix _).length_le
            have h3 : r.length ≤ t.length := by rw [← hpre]; simp
            omega
        rw [ih (trimL (c :: t)).length (by omega) (B (trimL (c :: t))) k (acc ++ [B u]) (by rw [size_B]) (by rw [size_B]; simp; omega) (by rw [size_B]; omega) (by rw [L_B]; exact trimL_trimmed _), L_B, wordsL_trimL, ← hsplit, wordsL_cut u c t hfirst hclean hwc]
        simp
theorem text_words (s : ByteArray) (hs : s.size ≤ 1000000000) (k : Nat) (hk : 6 * (s.size + 2) < k) : text_Words.f k s = some ((wordsL (L s)).map B) := by
  have hl : (L s).length = s.size := (size_L s).symm
  unfold text_Words.f
  rw [trim_f s (by omega)]
  simp only [Option.bind_some]
  have htl : (trimL (L s)).length ≤ (L s).length := by
    have h1 : (trimL (L s)).length ≤ (Lib.trimRightS (L s) W4).length := (List.dropWhile_suffix _).length_le
    have h2 : (Lib.trimRightS (L s) W4).length ≤ (L s).length := by
      unfold Lib.trimRightS
      rw [List.length_reverse]
      have := (List.dropWhile_suffix (l := (L s).reverse) (W4.contains ·)).length_le
      rw [List.length_reverse] at this
      exact this
    omega
  rw [text_words_loop _ (B (trimL (L s))) k [] rfl (by rw [size_B]; simp; omega) (by rw [size_B]; omega) (by rw [L_B]; exact trimL_trimmed _), L_B, wordsL_trimL]
  simp
theorem joinOf_B (ws : List (List UInt8)) : joinOf (ws.map B) (B [32]) = joinL ws := by
  unfold joinOf joinL
  have e : (ws.map B).map (fun x : ByteArray => x.data.toList) = ws := by
    rw [List.map_map]
    conv => rhs; rw [← List.map_id ws]
    apply List.map_congr_left
    intro w _
    exact L_B w
  rw [e]
  rfl
theorem text_squeeze (s : ByteArray) (hs : s.size ≤ 1000000000) (k : Nat) (hk : 6 * (s.size + 2) < k) : text_Squeeze.f k s = some (B (joinL (wordsL (L s)))) := by
  have hl : (L s).length = s.size := (size_L s).symm
  have h1 := words_count (L s)
  have h2 := squeeze_length (L s)
  unfold text_Squeeze.f
  rw [text_words s hs k hk]
  simp only [Option.bind_some]
  unfold strings_Join.f
  have hb : (⟨#[32]⟩ : ByteArray) = B [32] := rfl
  rw [hb, joinOf_B, if_pos ⟨by simp; omega, by omega⟩]
  rfl

/-! ### the laws -/
theorem light_f (s : ByteArray) : lanternlaw01_light.f s = some (decide ((s.size : Int) ≤ 4000)) := rfl
theorem awake_f (k : Nat) (hk : 60 < k) : lanternlaw01_awake.f k = some true := by
  unfold lanternlaw01_awake.f
  have h1 : text_Count.f (⟨#[226, 130, 172, 117]⟩ : ByteArray) = some 2 := by decide +kernel
  have h2 : text_Head.f (⟨#[226, 130, 172, 117, 114, 111]⟩ : ByteArray) 2 = some ⟨#[226, 130, 172, 117]⟩ := by decide +kernel
  have h3 : text_Squeeze.f k (⟨#[9, 97, 32, 32, 98]⟩ : ByteArray) = some (B [97, 32, 98]) := by
    rw [text_squeeze _ (by decide) k (by have : (⟨#[9, 97, 32, 32, 98]⟩ : ByteArray).size = 5 := rfl; omega)]
    first | done | decide +kernel
  have h4 : text_Check.f (⟨#[255]⟩ : ByteArray) = some 5 := by decide +kernel
  have e2 : (⟨#[226, 130, 172, 117]⟩ : ByteArray).toList = [226, 130, 172, 117] := by rw [toList_L]
  rw [h1]; simp only [Option.bind_some]; rw [if_pos trivial, h2]; simp only [Option.bind_some]; rw [if_pos e2, h3]; simp only [Option.bind_some]
  rw [toList_L, L_B, if_pos rfl, h4]
  rfl
theorem TextWords (s : ByteArray) : ∃ k, lanternlaw01_TextWords.f k s = some true := by
  refine ⟨6 * (s.size + 2) + 100, ?_⟩
  unfold lanternlaw01_TextWords.f
  rw [light_f]
  simp only [Option.bind_some]
  by_cases h : (s.size : Int) ≤ 4000
  · have hl : (L s).length = s.size := (size_L s).symm
    have hc := words_count (L s)
    rw [if_pos (by simpa using h), text_words s (by omega) _ (by omega)]
    simp only [Option.bind_some]
    rw [ref_words s (by omega) _ (by omega)]
    simp only [Option.bind_some]
    rw [texts_same _ (by omega) _ (by omega)]
    simp only [Option.bind_some]
    rw [if_pos trivial, trim_f s (by omega)]
    simp only [Option.bind_some]
    rw [ref_trim s (by omega) _ (by omega)]
    simp only [Option.bind_some]
    rw [if_pos trivial, text_squeeze s (by omega) _ (by omega)]
    simp only [Option.bind_some]
    rw [ref_squeeze s (by omega) _ (by omega)]
    simp only [Option.bind_some]
    rw [if_pos trivial, awake_f _ (by omega)]
    rfl
  · rw [if_neg (by simpa using h), awake_f _ (by omega)]
    rfl
theorem TextTwice (s : ByteArray) : ∃ k, lanternlaw01_TextTwice.f k s = some true := by
  refine ⟨7 * (s.size + 4) + 100, ?_⟩
  unfold lanternlaw01_TextTwice.f
  rw [light_f]
  simp only [Option.bind_some]
  by_cases h : (s.size : Int) ≤ 4000
  · have hl : (L s).length = s.size := (size_L s).symm
    have hc := words_count (L s)
    have hq := squeeze_length (L s)
    have hg := wordsL_good (L s)
    have hwj := wordsL_joinL _ hg
    rw [if_pos (by simpa using h), trim_f s (by omega)]
    simp only [Option.bind_some]
    rw [text_squeeze s (by omega) _ (by omega)]
    simp only [Option.bind_some]
    have htl : (B (trimL (L s))).size ≤ 9223372036854775807 := by
      have h1 : (trimL (L s)).length ≤ (Lib.trimRightS (L s) W4).length := (List.dropWhile_suffix _).length_le
      have h2 : (Lib.trimRightS (L s) W4).length ≤ (L s).length := by
        unfold Lib.trimRightS
        rw [List.length_reverse]
        have := (List.dropWhile_suffix (l := (L s).reverse) (W4.contains ·)).length_le
        rw [List.length_reverse] at this
        exact this
      rw [size_B]
      omega
    rw [trim_f _ htl]
    simp only [Option.bind_some, L_B, trimL_trimL]
    rw [if_pos trivial, text_squeeze _ (by rw [size_B]; omega) _ (by rw [size_B]; omega)]
    simp only [Option.bind_some, L_B]
    rw [hwj, if_pos rfl, text_words _ (by rw [size_B]; omega) _ (by rw [size_B]; omega)]
    simp only [Option.bind_some, L_B]
    rw [hwj, ref_words s (by omega) _ (by omega)]
    simp only [Option.bind_some]
    rw [texts_same _ (by omega) _ (by omega)]
    simp only [Option.bind_some]
    rw [if_pos trivial, awake_f _ (by omega)]
    rfl
  · rw [if_neg (by simpa using h), awake_f _ (by omega)]
    rfl
theorem lowB_lowB (b : UInt8) : lowB (lowB b) = lowB b := by
  rw [u8_eq, lowB_toNat, lowB_toNat]
  unfold lowN
  split
  · rw [if_neg (by omega)]
  · rfl
theorem lowerOf_twice (s : ByteArray) : lowerOf (lowerOf s) = lowerOf s := by
  unfold lowerOf
  simp [lowB_lowB]
theorem TextLowers (s : ByteArray) : ∃ k, lanternlaw01_TextLowers.f k s = some true := by
  refine ⟨100, ?_⟩
  unfold lanternlaw01_TextLowers.f
  rw [light_f]
  simp only [Option.bind_some]
  by_cases h : (s.size : Int) ≤ 4000
  · have hs2 : (lowerOf s).size = s.size := by rw [size_L, size_L]; simp [lowerOf, L]
    rw [if_pos (by simpa using h)]
    unfold text_Lower.f lanternref01_Lower.f
    rw [if_pos (by omega)]
    simp only [Option.bind_some]
    rw [if_pos trivial, if_pos (by omega)]
    simp only [Option.bind_some]
    rw [lowerOf_twice, if_pos rfl, awake_f _ (by omega)]
    rfl
  · rw [if_neg (by simpa using h), awake_f _ (by omega)]
    rfl
end Go.Proofs.YtljmgihgbjohnaaDoor.Q
