/- Plain lemmas: trimming, words, words put together; no program in sight. -/
import Derived.Test.YtljmgihgbjohnaaDoorB
namespace Go.Proofs.YtljmgihgbjohnaaDoorB
open Go Go.RowKit Go.Lib Go.Proofs.YtljmgihgbjohnaaDoorW.PrintWords

/-! ### white -/
def W4 : List UInt8 := [32, 9, 10, 13]
def wh (c : UInt8) : Bool := W4.contains c
theorem u8_eq (c d : UInt8) : c = d ↔ (c.toNat : Int) = (d.toNat : Int) := ⟨by rintro rfl; rfl, fun h => UInt8.toNat_inj.mp (by omega)⟩
theorem u8_lt (c : UInt8) : 0 ≤ (c.toNat : Int) ∧ (c.toNat : Int) ≤ 255 := by have := c.toNat_lt; omega
theorem wh_iff (c : UInt8) : wh c = true ↔ ((c.toNat : Int) = 32 ∨ (c.toNat : Int) = 9 ∨ (c.toNat : Int) = 10 ∨ (c.toNat : Int) = 13) := by
  have e : wh c = true ↔ (c = 32 ∨ c = 9 ∨ c = 10 ∨ c = 13) := by simp [wh, W4]
  rw [e, u8_eq, u8_eq, u8_eq, u8_eq]
  rfl

/-! ### trim -/
def trimL (l : List UInt8) : List UInt8 := Lib.trimS l W4
theorem trimS_range (l : List UInt8) (a b : Nat) (hab : a ≤ b) (hb : b ≤ l.length) (ha : ∀ j, j < a → wh (l.getD j 0) = true) (hB : ∀ j, b ≤ j → j < l.length → wh (l.getD j 0) = true)
    (h1 : a < b → wh (l.getD a 0) = false) (h2 : a < b → wh (l.getD (b - 1) 0) = false) (h0 : a = b → a = l.length ∨ b = 0) : trimL l = (l.take b).drop a := by
  have gd : ∀ (j : Nat) (c : UInt8), l[j]? = some c → l.getD j 0 = c := fun j c h => by rw [List.getD_eq_getElem?_getD, h]; rfl
  rcases Nat.lt_or_ge a b with hlt | hge
  · have hr : Lib.trimRightS l W4 = l.take b := Lib.trimRightS_take l W4 b hb
      (fun j c hj hc => by
        have hl := (List.getElem?_eq_some_iff.1 hc).1
        have := hB j hj hl
        rw [gd j c hc] at this
        exact this)
      (fun c _ hc => by
        have := h2 hlt
        rw [gd _ c hc] at this
        exact this)
    unfold trimL Lib.trimS
    rw [hr]
    exact Lib.trimLeftS_drop (l.take b) W4 a (by rw [List.length_take]; omega)
      (fun j c hj hc => by
        rw [List.getElem?_take_of_lt (by omega)] at hc
        have := ha j hj
        rw [gd j c hc] at this
        exact this)
      (fun c hc => by
        rw [List.getElem?_take_of_lt (by omega)] at hc
        have := h1 hlt
        rw [gd a c hc] at this
        exact this)
  · obtain rfl : a = b := by omega
    have hall : ∀ j, j < l.length → wh (l.getD j 0) = true := fun j hj => by
      rcases Nat.lt_or_ge j a with h | h
      · exact ha j h
      · exact hB j h hj
    have hr : Lib.trimRightS l W4 = l.take 0 := Lib.trimRightS_take l W4 0 (Nat.zero_le _)
      (fun j c _ hc => by
        have hl := (List.getElem?_eq_some_iff.1 hc).1
        have := hall j hl
        rw [gd j c hc] at this
        exact this)
      (fun c h _ => absurd h (by omega))
    unfold trimL Lib.trimS
    rw [hr]
    rw [List.drop_eq_nil_of_le (by rw [List.length_take]; omega)]
    simp [Lib.trimLeftS]
theorem dropWhile_head (p : UInt8 → Bool) : ∀ (l : List UInt8) (c : UInt8) (t : List UInt8), l.dropWhile p = c :: t → p c = false
  | [], _, _, h => by simp at h
  | x :: l, c, t, h => by
    rw [List.dropWhile_cons] at h
    split at h
    · exact dropWhile_head p l c t h
    · rename_i hx
      injection h with h _
      subst h
      simpa using hx
theorem dropWhile_id (p : UInt8 → Bool) (l : List UInt8) (h : ∀ c t, l = c :: t → p c = false) : l.dropWhile p = l := by
  cases l with
  | nil => rfl
  | cons c t => rw [List.dropWhile_cons, if_neg (by rw [h c t rfl]; simp)]
/-- Trimmed: no white at either end. -/
def Trimmed (l : List UInt8) : Prop := (∀ c t, l = c :: t → wh c = false) ∧ (∀ c t, l = t ++ [c] → wh c = false)
theorem trimL_trimmed (l : List UInt8) : Trimmed (trimL l) := by
  unfold trimL Lib.trimS Lib.trimLeftS Lib.trimRightS
  refine ⟨fun c t h => dropWhile_head _ _ c t h, fun c t h => ?_⟩
  generalize hm : l.reverse.dropWhile (W4.contains ·) = m at h
  have hs : (m.reverse.dropWhile (W4.contains ·)) <:+ m.reverse := List.dropWhile_suffix _
  obtain ⟨u, hu⟩ := hs
  rw [h] at hu
  have hm2 : m = c :: (u ++ t).reverse := by
    have := congrArg List.reverse hu
    rw [List.reverse_reverse] at this
    rw [← this]
    simp
  have := dropWhile_head (W4.contains ·) l.reverse c _ (hm.trans hm2)
  exact this
theorem trimL_id {l : List UInt8} (h : Trimmed l) : trimL l = l := by
  have e : Lib.trimRightS l W4 = l := by
    show (List.dropWhile wh l.reverse).reverse = l
    rw [dropWhile_id wh l.reverse (fun c t hc => h.2 c t.reverse (by have := congrArg List.reverse hc; simpa using this)), List.reverse_reverse]
  unfold trimL Lib.trimS
  rw [e]
  exact dropWhile_id _ l (fun c t hc => h.1 c t hc)
theorem trimL_trimL (l : List UInt8) : trimL (trimL l) = trimL l := trimL_id (trimL_trimmed l)

/-! ### words -/
/-- What stands between white, a word being under way. -/
def wordsAcc : List UInt8 → List UInt8 → List (List UInt8)
  | w, [] => if w = [] then [] else [w]
  | w, c :: t => if wh c = true then (if w = [] then wordsAcc [] t else w :: wordsAcc [] t) else wordsAcc (w ++ [c]) t
def wordsL (l : List UInt8) : List (List UInt8) := wordsAcc [] l
theorem wordsAcc_white : ∀ (t w : List UInt8), (∀ c ∈ t, wh c = true) → wordsAcc w t = if w = [] then [] else [w]
  | [], _, _ => rfl
  | c :: t, w, h => by
    rw [wordsAcc, if_pos (h c (by simp)), wordsAcc_white t [] (fun d hd => h d (by simp [hd]))]
    split <;> simp_all
theorem wordsAcc_append_white : ∀ (l w t : List UInt8), (∀ c ∈ t, wh c = true) → wordsAcc w (l ++ t) = wordsAcc w l
  | [], w, t, h => by rw [List.nil_append, wordsAcc_white t w h]; rfl
  | c :: l, w, t, h => by
    rw [List.cons_append, wordsAcc, wordsAcc, wordsAcc_append_white l [] t h, wordsAcc_append_white l (w ++ [c]) t h]
theorem wordsAcc_dropWhile : ∀ l : List UInt8, wordsAcc [] (l.dropWhile wh) = wordsAcc [] l
  | [] => rfl
  | c :: l => by
    rw [List.dropWhile_cons]
    split
    · rename_i hc
      rw [wordsAcc_dropWhile l]
      conv => rhs; rw [wordsAcc, if_pos hc, if_pos rfl]
    · rfl
theorem dropWhile_split (p : UInt8 → Bool) : ∀ l : List UInt8, ∃ u, l = u ++ l.dropWhile p ∧ ∀ c ∈ u, p c = true
  | [] => ⟨[], rfl, by simp⟩
  | c :: l => by
    rw [List.dropWhile_cons]
    split
    · rename_i hc
      obtain ⟨u, hu, h⟩ := dropWhile_split p l
      refine ⟨c :: u, by rw [List.cons_append, ← hu], fun d hd => ?_⟩
      rcases List.mem_cons.1 hd with rfl | hd
      · exact hc
      · exact h d hd
    · exact ⟨[], rfl, by simp⟩
theorem wordsL_trimL (l : List UInt8) : wordsL (trimL l) = wordsL l := by
  have e1 : wordsL (trimL l) = wordsL (Lib.trimRightS l W4) := wordsAcc_dropWhile _
  rw [e1]
  obtain ⟨u, hu, hw⟩ := dropWhile_split wh l.reverse
  have hl : l = Lib.trimRightS l W4 ++ u.reverse := by
    have := congrArg List.reverse hu
    rw [List.reverse_reverse, List.reverse_append] at this
    exact this
  conv => rhs; rw [hl]
  exact (wordsAcc_append_white _ [] u.reverse (fun c hc => hw c (List.mem_reverse.1 hc))).symm
theorem wordsAcc_clean : ∀ (u v t : List UInt8), (∀ c ∈ u, wh c = false) → wordsAcc v (u ++ t) = wordsAcc (v ++ u) t
  | [], v, t, _ => by simp
  | c :: u, v, t, h => by
    rw [List.cons_append, wordsAcc, if_neg (by rw [h c (by simp)]; simp), wordsAcc_clean u (v ++ [c]) t (fun d hd => h d (by simp [hd])), List.append_assoc]
    rfl
/-- A word ahead of white. -/
theorem wordsL_cut (u : List UInt8) (c : UInt8) (t : List UInt8) (hu : u ≠ []) (h : ∀ d ∈ u, wh d = false) (hc : wh c = true) : wordsL (u ++ c :: t) = u :: wordsL (c :: t) := by
  unfold wordsL
  rw [wordsAcc_clean u [] (c :: t) h, List.nil_append, wordsAcc, if_pos hc, if_neg hu, wordsAcc, if_pos hc, if_pos rfl]
theorem wordsL_one (u : List UInt8) (hu : u ≠ []) (h : ∀ d ∈ u, wh d = false) : wordsL u = [u] := by
  have := wordsAcc_clean u [] [] h
  rw [List.append_nil, List.nil_append] at this
  unfold wordsL
  rw [this, wordsAcc, if_neg hu]
theorem wordsAcc_good : ∀ (l v : List UInt8), (∀ c ∈ v, wh c = false) → ∀ w ∈ wordsAcc v l, w ≠ [] ∧ ∀ c ∈ w, wh c = false
  | [], v, hv, w, hw => by
    rw [wordsAcc] at hw
    split at hw
    · simp at hw
    · rename_i hne
      obtain rfl := List.mem_singleton.1 hw
      exact ⟨hne, hv⟩
  | c :: l, v, hv, w, hw => by
    rw [wordsAcc] at hw
    split at hw
    · split at hw
      · exact wordsAcc_good l [] (by simp) w hw
      · rename_i hne
        rcases List.mem_cons.1 hw with rfl | hw
        · exact ⟨hne, hv⟩
        · exact wordsAcc_good l [] (by simp) w hw
    · rename_i hc
      refine wordsAcc_good l (v ++ [c]) (fun d hd => ?_) w hw
      rcases List.mem_append.1 hd with hd | hd
      · exact hv d hd
      · obtain rfl := List.mem_singleton.1 hd
        simpa using hc
theorem wordsL_good (l : List UInt8) : ∀ w ∈ wordsL l, w ≠ [] ∧ ∀ c ∈ w, wh c = false := wordsAcc_good l [] (by simp)

/-! ### words put together -/
def joinL (ws : List (List UInt8)) : List UInt8 := Lib.join ws [32]
theorem joinL_nil : joinL [] = [] := rfl
theorem joinL_one (w : List UInt8) : joinL [w] = w := Lib.join_one w [32]
theorem joinL_cons (w x : List UInt8) (r : List (List UInt8)) : joinL (w :: x :: r) = w ++ 32 :: joinL (x :: r) := by simp [joinL, Lib.join, List.intercalate]
theorem wordsL_joinL : ∀ ws : List (List UInt8), (∀ w ∈ ws, w ≠ [] ∧ ∀ c ∈ w, wh c = false) → wordsL (joinL ws) = ws
  | [], _ => rfl
  | [w], h => by rw [joinL_one]; exact wordsL_one w (h w (by simp)).1 (h w (by simp)).2
  | w :: x :: r, h => by
    rw [joinL_cons, wordsL_cut w 32 _ (h w (by simp)).1 (h w (by simp)).2 (by decide)]
    have e : wordsL (32 :: joinL (x :: r)) = wordsL (joinL (x :: r)) := by
      unfold wordsL
      rw [wordsAcc, if_pos (by decide), if_pos rfl]
    rw [e, wordsL_joinL (x :: r) (fun y hy => h y (by simp at hy ⊢; right; exact hy))]
def total (ws : List (List UInt8)) : Nat := (ws.map fun w => w.length + 1).sum
theorem joinL_length : ∀ ws : List (List UInt8), (joinL ws).length ≤ total ws
  | [] => by simp [joinL_nil]
  | [w] => by rw [joinL_one]; simp [total]
  | w :: x :: r => by
    have := joinL_length (x :: r)
    rw [joinL_cons]
    simp [total] at this ⊢
    omega
theorem total_wordsAcc : ∀ (l v : List UInt8), total (wordsAcc v l) ≤ v.length + l.length + 1
  | [], v => by
    rw [wordsAcc]
    split <;> simp [total]
  | c :: l, v => by
    rw [wordsAcc]
    split
    · split
      · have := total_wordsAcc l []
        simp at this ⊢
        omega
      · have := total_wordsAcc l []
        simp [total] at this ⊢
        omega
    · have := total_wordsAcc l (v ++ [c])
      simp at this ⊢
      omega
theorem squeeze_length (l : List UInt8) : (joinL (wordsL l)).length ≤ l.length + 1 := by
  have h1 := joinL_length (wordsL l)
  have h2 := total_wordsAcc l []
  have h3 : total (wordsL l) ≤ l.length + 1 := by simpa [wordsL] using h2
  omega
theorem words_count (l : List UInt8) : (wordsL l).length ≤ l.length + 1 := by
  have h2 := total_wordsAcc l []
  have h3 : total (wordsL l) ≤ l.length + 1 := by simpa [wordsL] using h2
  have h4 : ∀ ws : List (List UInt8), ws.length ≤ total ws := by
    intro ws
    induction ws with
    | nil => simp [total]
    | cons w r ih => simp [total] at ih ⊢; omega
  have := h4 (wordsL l)
  omega
end Go.Proofs.YtljmgihgbjohnaaDoorB
