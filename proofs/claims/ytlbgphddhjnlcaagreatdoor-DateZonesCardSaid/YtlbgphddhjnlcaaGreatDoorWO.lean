/- What text.Words computes: the words between white; plain lemmas, and the program's printed functions. -/
import Derived.Test.YtlbgphddhjnlcaaGreatDoorB
import Derived.Test.YtlbgphddhjnlcaaGreatDoorP
set_option linter.unusedSimpArgs false
set_option linter.unusedVariables false
namespace Go.Proofs.YtlbgphddhjnlcaaGreatDoorB
open Go Go.RowKit Go.Lib Go.Proofs.YtlbgphddhjnlcaaGreatDoorW.PrintWords

/-! ### white -/
def W4 : List UInt8 := [32, 9, 10, 13]
def wh (c : UInt8) : Bool := W4.contains c
/-! ### trim -/
def trimL (l : List UInt8) : List UInt8 := Lib.trimS l W4
theorem dropWhile_headT (p : UInt8 → Bool) : ∀ (l : List UInt8) (c : UInt8) (t : List UInt8), l.dropWhile p = c :: t → p c = false
  | [], _, _, h => by simp at h
  | x :: l, c, t, h => by
    rw [List.dropWhile_cons] at h
    split at h
    · exact dropWhile_headT p l c t h
    · rename_i hx
      injection h with h _
      subst h
      simpa using hx
/-- Trimmed: no white at either end. -/
def Trimmed (l : List UInt8) : Prop := (∀ c t, l = c :: t → wh c = false) ∧ (∀ c t, l = t ++ [c] → wh c = false)
theorem trimL_trimmed (l : List UInt8) : Trimmed (trimL l) := by
  unfold trimL Lib.trimS Lib.trimLeftS Lib.trimRightS
  refine ⟨fun c t h => dropWhile_headT _ _ c t h, fun c t h => ?_⟩
  generalize hm : l.reverse.dropWhile (W4.contains ·) = m at h
  have hs : (m.reverse.dropWhile (W4.contains ·)) <:+ m.reverse := List.dropWhile_suffix _
  obtain ⟨u, hu⟩ := hs
  rw [h] at hu
  have hm2 : m = c :: (u ++ t).reverse := by
    have := congrArg List.reverse hu
    rw [List.reverse_reverse] at this
    rw [← this]
    simp
  have := dropWhile_headT (W4.contains ·) l.reverse c _ (hm.trans hm2)
  exact this
/-! ### words -/
/-- What stands between white, a word being under way. -/
def wordsAcc : List UInt8 → List UInt8 → List (List UInt8)
  | w, [] => if w = [] then [] else [w]
  | w, c :: t => if wh c = true then (if w = [] then wordsAcc [] t else w :: wordsAcc [] t) else wordsAcc (w ++ [c]) t
def wordsL (l : List UInt8) : List (List UInt8) := wordsAcc [] l
theorem wordsAcc_white : ∀ (t w : List UInt8), (∀ c ∈ t, wh c = true) → wordsAcc w t = if w = [] then [] else [w]
  | [], _, _ => rfl
  | c :: t, w, h => by
    rw [wordsAcc, if_pos (h c (by simp)), wordsAcc_white t [] (fun d hd => h d (by simp [hd]))]
    split <;> simp_all
theorem wordsAcc_append_white : ∀ (l w t : List UInt8), (∀ c ∈ t, wh c = true) → wordsAcc w (l ++ t) = wordsAcc w l
  | [], w, t, h => by rw [List.nil_append, wordsAcc_white t w h]; rfl
  | c :: l, w, t, h => by
    rw [List.cons_append, wordsAcc, wordsAcc, wordsAcc_append_white l [] t h, wordsAcc_append_white l (w ++ [c]) t h]
theorem wordsAcc_dropWhile : ∀ l : List UInt8, wordsAcc [] (l.dropWhile wh) = wordsAcc [] l
  | [] => rfl
  | c :: l => by
    rw [List.dropWhile_cons]
    split
    · rename_i hc
      rw [wordsAcc_dropWhile l]
      conv => rhs; rw [wordsAcc, if_pos hc, if_pos rfl]
    · rfl
theorem dropWhile_splitT (p : UInt8 → Bool) : ∀ l : List UInt8, ∃ u, l = u ++ l.dropWhile p ∧ ∀ c ∈ u, p c = true
  | [] => ⟨[], rfl, by simp⟩
  | c :: l => by
    rw [List.dropWhile_cons]
    split
    · rename_i hc
      obtain ⟨u, hu, h⟩ := dropWhile_splitT p l
      refine ⟨c :: u, by rw [List.cons_append, ← hu], fun d hd => ?_⟩
      rcases List.mem_cons.1 hd with rfl | hd
      · exact hc
      · exact h d hd
    · exact ⟨[], rfl, by simp⟩
theorem wordsL_trimL (l : List UInt8) : wordsL (trimL l) = wordsL l := by
  have e1 : wordsL (trimL l) = wordsL (Lib.trimRightS l W4) := wordsAcc_dropWhile _
  rw [e1]
  obtain ⟨u, hu, hw⟩ := dropWhile_splitT wh l.reverse
  have hl : l = Lib.trimRightS l W4 ++ u.reverse := by
    have := congrArg List.reverse hu
    rw [List.reverse_reverse, List.reverse_append] at this
    exact this
  conv => rhs; rw [hl]
  exact (wordsAcc_append_white _ [] u.reverse (fun c hc => hw c (List.mem_reverse.1 hc))).symm
theorem wordsAcc_clean : ∀ (u v t : List UInt8), (∀ c ∈ u, wh c = false) → wordsAcc v (u ++ t) = wordsAcc (v ++ u) t
  | [], v, t, _ => by simp
  | c :: u, v, t, h => by
    rw [List.cons_append, wordsAcc, if_neg (by rw [h c (by simp)]; simp), wordsAcc_clean u (v ++ [c]) t (fun d hd => h d (by simp [hd])), List.append_assoc]
    rfl
/-- A word ahead of white. -/
theorem wordsL_cut (u : List UInt8) (c : UInt8) (t : List UInt8) (hu : u ≠ []) (h : ∀ d ∈ u, wh d = false) (hc : wh c = true) : wordsL (u ++ c :: t) = u :: wordsL (c :: t) := by
  unfold wordsL
  rw [wordsAcc_clean u [] (c :: t) h, List.nil_append, wordsAcc, if_pos hc, if_neg hu, wordsAcc, if_pos hc, if_pos rfl]
theorem wordsL_one (u : List UInt8) (hu : u ≠ []) (h : ∀ d ∈ u, wh d = false) : wordsL u = [u] := by
  have := wordsAcc_clean u [] [] h
  rw [List.append_nil, List.nil_append] at this
  unfold wordsL
  rw [this, wordsAcc, if_neg hu]
/-! ### words put together -/
end Go.Proofs.YtlbgphddhjnlcaaGreatDoorB
namespace Go.Proofs.YtlbgphddhjnlcaaGreatDoor.Q
open Go Go.RowKit Go.Lib Go.Proofs.YtlbgphddhjnlcaaGreatDoorW.PrintWords Go.Proofs.YtlbgphddhjnlcaaGreatDoorB Go.Proofs.YtlbgphddhjnlcaaGreatDoor.E Go.Proofs.YtlbgphddhjnlcaaGreatDoor.P

theorem trim_f (s : ByteArray) (hs : s.size ≤ 9223372036854775807) : text_Trim.f s = some (B (trimL (L s))) := by
  unfold text_Trim.f strings_Trim.f
  rw [if_pos ⟨hs, by decide, by decide⟩]
  rfl
/-- The least of the places that are none below 0. -/
def least (n t : Int) : Int := if t ≥ 0 then (if n < 0 then t else if t < n then t else n) else n
def firstWhite (l : List UInt8) : Int := least (least (least (least (Lib.indexByte l 32) (Lib.indexByte l 32)) (Lib.indexByte l 9)) (Lib.indexByte l 10)) (Lib.indexByte l 13)
theorem indexByte_ge : ∀ (l : List UInt8) (c : UInt8), -1 ≤ Lib.indexByte l c
  | [], _ => by simp [Lib.indexByte]
  | b :: l, c => by
    have := indexByte_ge l c
    rw [Lib.indexByte]
    split
    · omega
    · split <;> omega
theorem least_shift (n t n' t' : Int) (hn : n' = if n < 0 then -1 else n + 1) (ht : t' = if t < 0 then -1 else t + 1) (h1 : -1 ≤ n) (h2 : -1 ≤ t) : least n' t' = (if least n t < 0 then -1 else least n t + 1) ∧ -1 ≤ least n t := by
  unfold least
  subst hn ht
  refine ⟨?_, ?_⟩ <;> (repeat' split) <;> omega
theorem least_zero (n t : Int) (h1 : -1 ≤ n) (h2 : -1 ≤ t) (h : n = 0 ∨ t = 0) : least n t = 0 := by
  unfold least
  repeat' split
  all_goals omega
theorem least_ge (n t : Int) (h1 : -1 ≤ n) (h2 : -1 ≤ t) : -1 ≤ least n t := by
  unfold least
  repeat' split
  all_goals omega
theorem indexByte_cons (b : UInt8) (l : List UInt8) (c : UInt8) : Lib.indexByte (b :: l) c = if b = c then 0 else if Lib.indexByte l c < 0 then -1 else Lib.indexByte l c + 1 := by
  have g := indexByte_ge l c
  rw [Lib.indexByte]
  by_cases h : b = c
  · simp [h]
  · simp only [h, if_false, beq_iff_eq]
    by_cases h2 : Lib.indexByte l c = -1
    · rw [if_pos h2, if_pos (by omega)]
    · rw [if_neg h2, if_neg (by omega)]
theorem firstWhite_eq : ∀ l : List UInt8, firstWhite l = if l.dropWhile (fun c => !wh c) = [] then -1 else ((l.takeWhile (fun c => !wh c)).length : Int)
  | [] => by simp [firstWhite, Lib.indexByte, least]
  | b :: l => by
    have ih := firstWhite_eq l
    have g1 := indexByte_ge l 32
    have g2 := indexByte_ge l 9
    have g3 := indexByte_ge l 10
    have g4 := indexByte_ge l 13
    have k1 := indexByte_ge (b :: l) 32
    have k2 := indexByte_ge (b :: l) 9
    have k3 := indexByte_ge (b :: l) 10
    have k4 := indexByte_ge (b :: l) 13
    by_cases hw : wh b = true
    · have e : firstWhite (b :: l) = 0 := by
        unfold firstWhite
        have hb : b = 32 ∨ b = 9 ∨ b = 10 ∨ b = 13 := by simpa [wh, W4] using hw
        have z : ∀ c, b = c → Lib.indexByte (b :: l) c = 0 := fun c h => by rw [indexByte_cons, if_pos h]
        have p1 := least_ge _ _ k1 k1
        have p2 := least_ge _ _ p1 k2
        have p3 := least_ge _ _ p2 k3
        rcases hb with h | h | h | h
        · exact least_zero _ _ p3 k4 (.inl (least_zero _ _ p2 k3 (.inl (least_zero _ _ p1 k2 (.inl (least_zero _ _ k1 k1 (.inl (z 32 h))))))))
        · exact least_zero _ _ p3 k4 (.inl (least_zero _ _ p2 k3 (.inl (least_zero _ _ p1 k2 (.inr (z 9 h))))))
        · exact least_zero _ _ p3 k4 (.inl (least_zero _ _ p2 k3 (.inr (z 10 h))))
        · exact least_zero _ _ p3 k4 (.inr (z 13 h))
      rw [e]
      simp [List.dropWhile_cons, List.takeWhile_cons, hw]
    · have hn : ∀ c ∈ W4, b ≠ c := fun c hc h => hw (by subst h; simpa [wh] using hc)
      have s : ∀ c ∈ W4, Lib.indexByte (b :: l) c = if Lib.indexByte l c < 0 then -1 else Lib.indexByte l c + 1 := fun c hc => by rw [indexByte_cons, if_neg (hn c hc)]
      have q1 := least_shift _ _ _ _ (s 32 (by decide)) (s 32 (by decide)) g1 g1
      have q2 := least_shift _ _ _ _ q1.1 (s 9 (by decide)) q1.2 g2
      have q3 := least_shift _ _ _ _ q2.1 (s 10 (by decide)) q2.2 g3
      have q4 := least_shift _ _ _ _ q3.1 (s 13 (by decide)) q3.2 g4
      have e : firstWhite (b :: l) = if firstWhite l < 0 then -1 else firstWhite l + 1 := q4.1
      rw [e, ih]
      have hf : wh b = false := by simpa using hw
      simp only [List.dropWhile_cons, List.takeWhile_cons, hf, Bool.not_false, if_true, List.length_cons]
      split
      · simp
      · rw [if_neg (by omega)]
        omega
/-- One round of the program's loop over the white bytes. -/
theorem words_l1 (k : Nat) (s : ByteArray) (acc : List ByteArray) (n : Int) (hn : -1 ≤ n) (i : Nat) (c : UInt8) (hi : i < 4) (hc : rd [32, 9, 10, 13] (i : Int) = (c.toNat : Int)) :
    text_Words.l1 (k + 1) s acc n [32, 9, 10, 13] 4 i = text_Words.l1 k s acc (least n (Lib.indexByte (L s) c)) [32, 9, 10, 13] 4 (i + 1 : Nat) := by
  have e : wrap64 ((i : Int) + 1) = ((i + 1 : Nat) : Int) := by rw [wrap_id (by omega) (by omega)]; omega
  simp only [text_Words.l1]
  rw [if_pos (by omega), if_pos (by omega), if_pos (by simp; omega), hc, e]
  unfold strings_IndexByte.f
  simp only [Option.bind_some, Int.toNat_natCast]
  have hu : c.toNat.toUInt8 = c := by simp
  rw [hu]
  unfold least
  by_cases h1 : Lib.indexByte (L s) c ≥ 0
  · rw [if_pos h1, if_pos h1]
    by_cases h2 : n < 0
    · rw [if_pos h2, if_pos h2]
    · rw [if_neg h2, if_neg h2]
      by_cases h3 : Lib.indexByte (L s) c < n
      · rw [if_pos h3, if_pos h3]
      · rw [if_neg h3, if_neg h3]
  · rw [if_neg h1, if_neg h1]
theorem words_l1_all (k : Nat) (s : ByteArray) (acc : List ByteArray) : text_Words.l1 (k + 4) s acc (Lib.indexByte (L s) 32) [32, 9, 10, 13] 4 0 = text_Words.l1 k s acc (firstWhite (L s)) [32, 9, 10, 13] 4 4 := by
  have g1 := indexByte_ge (L s) 32
  have g2 := indexByte_ge (L s) 9
  have g3 := indexByte_ge (L s) 10
  have p1 := least_ge _ _ g1 g1
  have p2 := least_ge _ _ p1 g2
  have p3 := least_ge _ _ p2 g3
  have h0 := words_l1 (k + 3) s acc _ g1 0 32 (by omega) rfl
  have h1 := words_l1 (k + 2) s acc _ p1 1 9 (by omega) rfl
  have h2 := words_l1 (k + 1) s acc _ p2 2 10 (by omega) rfl
  have h3 := words_l1 k s acc _ p3 3 13 (by omega) rfl
  exact h0.trans (h1.trans (h2.trans h3))
theorem takeWhile_all (p : UInt8 → Bool) : ∀ (l : List UInt8), ∀ c ∈ l.takeWhile p, p c = true
  | [], c, h => by simp at h
  | b :: l, c, h => by
    rw [List.takeWhile_cons] at h
    split at h
    · next hb =>
      rcases List.mem_cons.1 h with rfl | h
      · exact hb
      · exact takeWhile_all p l c h
    · simp at h
theorem text_words_loop (n : Nat) : ∀ (s : ByteArray) (k : Nat) (acc : List ByteArray), s.size = n → s.size + acc.length ≤ 4000000000 → 6 * (s.size + 2) < k → Trimmed (L s) → text_Words.l0 k s acc = some (acc ++ (wordsL (L s)).map B) := by
  induction n using Nat.strongRecOn with
  | _ n ih =>
    intro s k acc hsn hs hk htr
    have hl : (L s).length = s.size := (size_L s).symm
    obtain ⟨k, rfl⟩ : ∃ m, k = m + 1 + 1 + 4 := ⟨k - 6, by omega⟩
    rw [show k + 1 + 1 + 4 = (k + 1 + 4) + 1 from by omega]
    simp only [text_Words.l0]
    rw [toList_L]
    by_cases hne : L s = []
    · rw [if_pos hne, hne]; simp [wordsL, wordsAcc]
    · rw [if_neg hne]
      unfold strings_IndexByte.f
      simp only [Option.bind_some]
      have e1 : ((([32, 9, 10, 13] : List Int).length : Nat) : Int) = 4 := rfl
      have e2 : Int.toNat 32 = 32 := rfl
      have e3 : (32 : Nat).toUInt8 = 32 := rfl
      rw [e1, e2, e3, words_l1_all, firstWhite_eq]
      simp only [text_Words.l1]
      rw [if_neg (by omega)]
      have hsplit : (L s).takeWhile (fun c => !wh c) ++ (L s).dropWhile (fun c => !wh c) = L s := List.takeWhile_append_dropWhile
      have hclean : ∀ c ∈ (L s).takeWhile (fun c => !wh c), wh c = false := fun c hc => by simpa using takeWhile_all _ _ c hc
      have hfirst : (L s).takeWhile (fun c => !wh c) ≠ [] := by
        cases hL : L s with
        | nil => exact absurd hL hne
        | cons c t =>
          have := htr.1 c t hL
          simp [List.takeWhile_cons, this]
      generalize hu : (L s).takeWhile (fun c => !wh c) = u at hsplit hclean hfirst
      generalize hv : (L s).dropWhile (fun c => !wh c) = v at hsplit
      cases v with
      | nil =>
        rw [List.append_nil] at hsplit
        rw [if_pos rfl, if_pos (by omega), if_pos (by omega), if_pos (by omega), if_pos (by omega), empty_B, trim_f _ (by rw [size_B]; simp), L_B]
        have et : trimL [] = [] := by decide
        rw [et]
        obtain ⟨k, rfl⟩ : ∃ m, k = m + 1 := ⟨k - 1, by omega⟩
        simp only [Option.bind_some, text_Words.l0]
        rw [toList_L, L_B, if_pos rfl, ← hsplit, wordsL_one u hfirst hclean, hsplit]
        simp
      | cons c t =>
        have hwc : wh c = true := by
          have := dropWhile_headT (fun c => !wh c) (L s) c t hv
          simpa using this
        have hlen : u.length + (t.length + 1) = s.size := by rw [← hl, ← hsplit]; simp
        have hu0 : 0 < u.length := List.length_pos_iff.2 hfirst
        have ex1 : s.extract u.length s.size = B (c :: t) := by
          apply L_inj
          rw [L_extract, L_B, ← hl, List.take_length, ← hsplit, List.drop_left]
        have ex2 : s.extract 0 u.length = B u := by
          apply L_inj
          rw [L_extract, L_B, List.drop_zero, ← hsplit, List.take_left]
        rw [if_neg (show ¬ (c :: t = []) by simp), if_neg (by omega), if_pos (by omega), if_pos (by omega), if_pos (by omega), Int.toNat_natCast, ex1, ex2, trim_f _ (by rw [size_B]; simp; omega), L_B]
        simp only [Option.bind_some]
        have htl : (trimL (c :: t)).length ≤ t.length := by
          have h1 : (trimL (c :: t)).length ≤ ((Lib.trimRightS (c :: t) W4).dropWhile wh).length := Nat.le_refl _
          obtain ⟨z, hz, _⟩ := dropWhile_splitT wh (c :: t).reverse
          have hpre : Lib.trimRightS (c :: t) W4 ++ z.reverse = c :: t := by
            have := congrArg List.reverse hz
            rw [List.reverse_reverse, List.reverse_append] at this
            exact this.symm
          cases hr : Lib.trimRightS (c :: t) W4 with
          | nil => rw [hr] at h1; exact Nat.le_trans h1 (Nat.zero_le _)
          | cons a r =>
            rw [hr] at hpre h1
            simp only [List.cons_append, List.cons.injEq] at hpre
            obtain ⟨rfl, hpre⟩ := hpre
            rw [List.dropWhile_cons, if_pos hwc] at h1
            have h2 : (r.dropWhile wh).length ≤ r.length := (List.dropWhile_suffix _).length_le
            have h3 : r.length ≤ t.length := by rw [← hpre]; simp
            omega
        rw [ih (trimL (c :: t)).length (by omega) (B (trimL (c :: t))) k (acc ++ [B u]) (by rw [size_B]) (by rw [size_B]; simp; omega) (by rw [size_B]; omega) (by rw [L_B]; exact trimL_trimmed _), L_B, wordsL_trimL, ← hsplit, wordsL_cut u c t hfirst hclean hwc]
        simp
theorem text_words (s : ByteArray) (hs : s.size ≤ 1000000000) (k : Nat) (hk : 6 * (s.size + 2) < k) : text_Words.f k s = some ((wordsL (L s)).map B) := by
  have hl : (L s).length = s.size := (size_L s).symm
  unfold text_Words.f
  rw [trim_f s (by omega)]
  simp only [Option.bind_some]
  have htl : (trimL (L s)).length ≤ (L s).length := by
    have h1 : (trimL (L s)).length ≤ (Lib.trimRightS (L s) W4).length := (List.dropWhile_suffix _).length_le
    have h2 : (Lib.trimRightS (L s) W4).length ≤ (L s).length := by
      unfold Lib.trimRightS
      rw [List.length_reverse]
      have := (List.dropWhile_suffix (l := (L s).reverse) (W4.contains ·)).length_le
      rw [List.length_reverse] at this
      exact this
    omega
  rw [text_words_loop _ (B (trimL (L s))) k [] rfl (by rw [size_B]; simp; omega) (by rw [size_B]; omega) (by rw [L_B]; exact trimL_trimmed _), L_B, wordsL_trimL]
  simp
end Go.Proofs.YtlbgphddhjnlcaaGreatDoor.Q
