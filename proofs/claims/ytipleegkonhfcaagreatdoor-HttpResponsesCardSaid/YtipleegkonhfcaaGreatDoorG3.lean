/- The law HeaderParses. -/
import Derived.Test.YtipleegkonhfcaaGreatDoorB
import Derived.Test.YtipleegkonhfcaaGreatDoorP5
import Derived.Test.YtipleegkonhfcaaGreatDoorP9
import Derived.Test.YtipleegkonhfcaaGreatDoorP13
/- Headers read: the program's reader and the reference's are one plain function; the law HeaderParses. -/
/- Headers, plainly: which texts are names and values; the program's and the reference's answers are these. -/
/- Plain lemmas: trimming by any set of bytes; no program in sight. -/
set_option linter.unusedSimpArgs false
namespace Go.Proofs.YtipleegkonhfcaaGreatDoorB
open Go Go.RowKit Go.Lib Go.Proofs.YtipleegkonhfcaaGreatDoorW.PrintWords

theorem u8_eq (c d : UInt8) : c = d ↔ (c.toNat : Int) = (d.toNat : Int) := ⟨by rintro rfl; rfl, fun h => UInt8.toNat_inj.mp (by omega)⟩
theorem wrap_nat {x : Int} (n : Nat) (h : x = (n : Int)) (hn : n ≤ 9223372036854775807) : wrap64 x = (n : Int) := by subst h; exact wrap_id (by omega) (by omega)
theorem trimS_range (cs l : List UInt8) (a b : Nat) (hab : a ≤ b) (hb : b ≤ l.length) (ha : ∀ j, j < a → cs.contains (l.getD j 0) = true) (hB : ∀ j, b ≤ j → j < l.length → cs.contains (l.getD j 0) = true)
    (h1 : a < b → cs.contains (l.getD a 0) = false) (h2 : a < b → cs.contains (l.getD (b - 1) 0) = false) (h0 : a = b → a = l.length ∨ b = 0) : Lib.trimS l cs = (l.take b).drop a := by
  have gd : ∀ (j : Nat) (c : UInt8), l[j]? = some c → l.getD j 0 = c := fun j c h => by rw [List.getD_eq_getElem?_getD, h]; rfl
  rcases Nat.lt_or_ge a b with hlt | hge
  · have hr : Lib.trimRightS l cs = l.take b := Lib.trimRightS_take l cs b hb
      (fun j c hj hc => by
        have hl := (List.getElem?_eq_some_iff.1 hc).1
        have := hB j hj hl
        rw [gd j c hc] at this
        exact this)
      (fun c _ hc => by
        have := h2 hlt
        rw [gd _ c hc] at this
        exact this)
    unfold Lib.trimS
    rw [hr]
    exact Lib.trimLeftS_drop (l.take b) cs a (by rw [List.length_take]; omega)
      (fun j c hj hc => by
        rw [List.getElem?_take_of_lt (by omega)] at hc
        have := ha j hj
        rw [gd j c hc] at this
        exact this)
      (fun c hc => by
        rw [List.getElem?_take_of_lt (by omega)] at hc
        have := h1 hlt
        rw [gd a c hc] at this
        exact this)
  · obtain rfl : a = b := by omega
    have hall : ∀ j, j < l.length → cs.contains (l.getD j 0) = true := fun j hj => by
      rcases Nat.lt_or_ge j a with h | h
      · exact ha j h
      · exact hB j h hj
    have hr : Lib.trimRightS l cs = l.take 0 := Lib.trimRightS_take l cs 0 (Nat.zero_le _)
      (fun j c _ hc => by
        have hl := (List.getElem?_eq_some_iff.1 hc).1
        have := hall j hl
        rw [gd j c hc] at this
        exact this)
      (fun c h _ => absurd h (by omega))
    unfold Lib.trimS
    rw [hr]
    rw [List.drop_eq_nil_of_le (by rw [List.length_take]; omega)]
    simp [Lib.trimLeftS]
theorem dropWhile_head (p : UInt8 → Bool) : ∀ (l : List UInt8) (c : UInt8) (t : List UInt8), l.dropWhile p = c :: t → p c = false
  | [], _, _, h => by simp at h
  | x :: l, c, t, h => by
    rw [List.dropWhile_cons] at h
    split at h
    · exact dropWhile_head p l c t h
    · rename_i hx
      injection h with h _
      subst h
      simpa using hx
theorem dropWhile_id (p : UInt8 → Bool) (l : List UInt8) (h : ∀ c t, l = c :: t → p c = false) : l.dropWhile p = l := by
  cases l with
  | nil => rfl
  | cons c t => rw [List.dropWhile_cons, if_neg (by rw [h c t rfl]; simp)]
/-- Trimmed: no white at either end. -/
def TrimmedS (cs l : List UInt8) : Prop := (∀ c t, l = c :: t → cs.contains c = false) ∧ (∀ c t, l = t ++ [c] → cs.contains c = false)
theorem trimS_trimmed (cs l : List UInt8) : TrimmedS cs (Lib.trimS l cs) := by
  unfold Lib.trimS Lib.trimLeftS Lib.trimRightS
  refine ⟨fun c t h => dropWhile_head _ _ c t h, fun c t h => ?_⟩
  generalize hm : l.reverse.dropWhile (cs.contains ·) = m at h
  have hs : (m.reverse.dropWhile (cs.contains ·)) <:+ m.reverse := List.dropWhile_suffix _
  obtain ⟨u, hu⟩ := hs
  rw [h] at hu
  have hm2 : m = c :: (u ++ t).reverse := by
    have := congrArg List.reverse hu
    rw [List.reverse_reverse] at this
    rw [← this]
    simp
  have := dropWhile_head (cs.contains ·) l.reverse c _ (hm.trans hm2)
  exact this
theorem trimS_id {cs l : List UInt8} (h : TrimmedS cs l) : Lib.trimS l cs = l := by
  have e : Lib.trimRightS l cs = l := by
    show (List.dropWhile (cs.contains ·) l.reverse).reverse = l
    rw [dropWhile_id (cs.contains ·) l.reverse (fun c t hc => h.2 c t.reverse (by have := congrArg List.reverse hc; simpa using this)), List.reverse_reverse]
  unfold Lib.trimS
  rw [e]
  exact dropWhile_id _ l (fun c t hc => h.1 c t hc)
theorem trimS_iff (cs l : List UInt8) : Lib.trimS l cs = l ↔ TrimmedS cs l := ⟨fun h => h ▸ trimS_trimmed cs l, trimS_id⟩
theorem dropWhile_nil_iff (p : UInt8 → Bool) : ∀ l : List UInt8, l.dropWhile p = [] ↔ ∀ c ∈ l, p c = true
  | [] => by simp
  | c :: t => by
    rw [List.dropWhile_cons]
    by_cases h : p c = true
    · rw [if_pos h, dropWhile_nil_iff p t]
      simp [h]
    · rw [if_neg h]
      simp [h]
theorem trimS_nil_iff (cs l : List UInt8) : Lib.trimS l cs = [] ↔ ∀ c ∈ l, cs.contains c = true := by
  unfold Lib.trimS Lib.trimLeftS Lib.trimRightS
  rw [dropWhile_nil_iff]
  refine ⟨fun h => ?_, fun h c hc => ?_⟩
  · have e : l.reverse.dropWhile (cs.contains ·) = [] := by
      cases hm : l.reverse.dropWhile (cs.contains ·) with
      | nil => rfl
      | cons d t =>
        have h1 := dropWhile_head (cs.contains ·) l.reverse d t hm
        rw [hm] at h
        have h2 := h d (by simp)
        rw [h1] at h2
        cases h2
    intro c hc
    exact (dropWhile_nil_iff _ _).1 e c (List.mem_reverse.2 hc)
  · have hs : (l.reverse.dropWhile (cs.contains ·)) <:+ l.reverse := List.dropWhile_suffix _
    exact h c (List.mem_reverse.1 (hs.subset (List.mem_reverse.1 hc)))
end Go.Proofs.YtipleegkonhfcaaGreatDoorB
set_option linter.unusedSimpArgs false
set_option linter.unusedVariables false
namespace Go.Proofs.YtipleegkonhfcaaGreatDoor.Q
open Go Go.RowKit Go.Lib Go.Proofs.YtipleegkonhfcaaGreatDoorW.PrintWords Go.Proofs.YtipleegkonhfcaaGreatDoorB Go.Proofs.YtipleegkonhfcaaGreatDoor.E Go.Proofs.YtipleegkonhfcaaGreatDoor.P Go.Proofs.YtipleegkonhfcaaGreatDoor.U Go.Proofs.YtipleegkonhfcaaGreatDoor.KF

theorem dropD (l : List UInt8) (i : Nat) (h : i < l.length) : l.drop i = l.getD i 0 :: l.drop (i + 1) := Go.Proofs.YtipleegkonhfcaaGreatDoorB.getD_drop l i h
theorem u8_all {p : UInt8 → Prop} (h : ∀ n : Fin 256, p (UInt8.ofNat n.val)) (c : UInt8) : p c := by
  have := h ⟨c.toNat, c.toNat_lt⟩
  simpa using this
/-! ### bytes told by numbers -/
def nums (l : List UInt8) : List Int := l.map fun b => (b.toNat : Int)
theorem nums_length (l : List UInt8) : (nums l).length = l.length := by simp [nums]
theorem rd_nums (l : List UInt8) (i : Nat) : rd (nums l) (i : Int) = ((l.getD i 0).toNat : Int) := by
  unfold rd nums
  rw [Int.toNat_natCast, List.getD_eq_getElem?_getD, List.getD_eq_getElem?_getD, List.getElem?_map]
  cases l[i]? <;> rfl
theorem bytesOf_nums (l : List UInt8) : Lib.bytesOf (nums l) = l := by
  unfold Lib.bytesOf nums
  rw [List.map_map]
  conv => rhs; rw [← List.map_id l]
  apply List.map_congr_left
  intro b _
  simp
theorem strOf_nums (l : List UInt8) : strOfNums (nums l) = B l := by
  apply L_inj
  have h := Lib.strOfNums_toList (nums l)
  rw [toList_L, bytesOf_nums] at h
  rw [h, L_B]
theorem nums_take (l : List UInt8) (n : Nat) : (nums l).take n = nums (l.take n) := by simp [nums, List.map_take]
theorem nums_drop (l : List UInt8) (n : Nat) : (nums l).drop n = nums (l.drop n) := by simp [nums, List.map_drop]
theorem nums_of {l : List Int} (h : ∀ n ∈ l, 0 ≤ n ∧ n < 256) : nums (Lib.bytesOf l) = l := by
  unfold nums Lib.bytesOf
  rw [List.map_map]
  conv => rhs; rw [← List.map_id l]
  apply List.map_congr_left
  intro n hn
  have := h n hn
  simp
  omega

/-! ### names -/
def signL : List UInt8 := [97, 98, 99, 100, 101, 102, 103, 104, 105, 106, 107, 108, 109, 110, 111, 112, 113, 114, 115, 116, 117, 118, 119, 120, 121, 122, 65, 66, 67, 68, 69, 70, 71, 72, 73, 74, 75, 76, 77, 78, 79, 80, 81, 82, 83, 84, 85, 86, 87, 88, 89, 90, 48, 49, 50, 51, 52, 53, 54, 55, 56, 57, 33, 35, 36, 37, 38, 39, 42, 43, 45, 46, 94, 95, 96, 124, 126]
def tokenL (l : List UInt8) : Bool := decide (l ≠ []) && l.all (signL.contains ·)
theorem token_f (s : ByteArray) (hs : s.size ≤ 1000000000) : header_Token.f s = some (tokenL (L s)) := by
  unfold header_Token.f strings_Trim.f
  rw [toList_L]
  unfold tokenL
  by_cases h : L s = []
  · rw [if_pos h, h]; rfl
  · rw [if_neg h, if_pos ⟨by omega, by decide, by decide⟩]
    simp only [Option.bind_some, toList_L]
    have e : (L (⟨(Lib.trimS s.data.toList signL).toArray⟩ : ByteArray) == ([] : List UInt8)) = (L s).all (signL.contains ·) := by
      rw [show L (⟨(Lib.trimS s.data.toList signL).toArray⟩ : ByteArray) = Lib.trimS (L s) signL from L_B _]
      rw [Bool.eq_iff_iff, beq_iff_eq, trimS_nil_iff, List.all_eq_true]
    have e' : (decide (L s ≠ []) && (L s).all (signL.contains ·)) = (L s).all (signL.contains ·) := by rw [decide_eq_true h]; rfl
    rw [e']
    exact congrArg some e
theorem within_loop (c : Int) (s : ByteArray) (hs : s.size ≤ 1000000000) : ∀ (d k i : Nat), i + d = s.size → d < k → lanternref07_Within.l0 k c s i = some (((L s).drop i).any fun b => (b.toNat : Int) == c)
  | d, k, i, hd, hk => by
    have hl : (L s).length = s.size := (size_L s).symm
    obtain ⟨k, rfl⟩ : ∃ m, k = m + 1 := ⟨k - 1, by omega⟩
    rw [lanternref07_Within.l0]
    by_cases h : i < s.size
    · obtain ⟨d, rfl⟩ : ∃ m, d = m + 1 := ⟨d - 1, by omega⟩
      rw [if_pos (by omega), if_pos (by omega), dropD _ i (by omega), List.any_cons, bt_L, Int.toNat_natCast]
      by_cases hb : (((L s).getD i 0).toNat : Int) = c
      · have e : ((((L s).getD i 0).toNat : Int) == c) = true := by simpa using hb
        rw [if_pos hb, e, Bool.true_or]
      · rw [if_neg hb, wrap_nat (x := (i : Int) + 1) (i + 1) rfl (by omega), within_loop c s hs d k (i + 1) (by omega) (by omega)]
        have e : ((((L s).getD i 0).toNat : Int) == c) = false := by simpa using hb
        rw [e, Bool.false_or]
    · rw [if_neg (by omega), List.drop_eq_nil_of_le (by omega)]
      rfl
def markL : List UInt8 := [33, 35, 36, 37, 38, 39, 42, 43, 45, 46, 94, 95, 124, 126]
theorem within_f (c : UInt8) (k : Nat) (hk : 20 < k) : lanternref07_Within.f k (c.toNat : Int) (⟨#[33, 35, 36, 37, 38, 39, 42, 43, 45, 46, 94, 95, 124, 126]⟩ : ByteArray) = some (markL.contains c) := by
  unfold lanternref07_Within.f
  have hz : (⟨#[33, 35, 36, 37, 38, 39, 42, 43, 45, 46, 94, 95, 124, 126]⟩ : ByteArray).size = 14 := rfl
  have := within_loop (c.toNat : Int) ⟨#[33, 35, 36, 37, 38, 39, 42, 43, 45, 46, 94, 95, 124, 126]⟩ (by omega) 14 k 0 (by omega) (by omega)
  have e0 : ((0 : Nat) : Int) = 0 := rfl
  rw [e0] at this
  rw [this, List.drop_zero]
  have e : L (⟨#[33, 35, 36, 37, 38, 39, 42, 43, 45, 46, 94, 95, 124, 126]⟩ : ByteArray) = markL := rfl
  rw [e]
  congr 1
  rw [Bool.eq_iff_iff, List.any_eq_true]
  constructor
  · rintro ⟨b, hb, h⟩
    have : b = c := by rw [u8_eq]; simpa using h
    subst this
    simpa using hb
  · intro h
    exact ⟨c, by simpa using h, by simp⟩
def signN (c : UInt8) : Bool := decide (97 ≤ c.toNat ∧ c.toNat ≤ 122) || decide (65 ≤ c.toNat ∧ c.toNat ≤ 90) || decide (48 ≤ c.toNat ∧ c.toNat ≤ 57) || decide (c.toNat = 96) || markL.contains c
theorem signN_eq (c : UInt8) : signN c = signL.contains c := u8_all (p := fun c => signN c = signL.contains c) (by decide +kernel) c
theorem sign_f (c : UInt8) (k : Nat) (hk : 20 < k) : lanternref09_sign.f k (c.toNat : Int) = some (signL.contains c) := by
  rw [← signN_eq]
  unfold lanternref09_sign.f
  rw [within_f c k hk]
  simp only [Option.bind_some]
  unfold signN
  generalize markL.contains c = z
  generalize c.toNat = n
  by_cases h1 : n ≥ 97 <;> by_cases h2 : n ≤ 122 <;> by_cases h3 : n ≥ 65 <;> by_cases h4 : n ≤ 90 <;> by_cases h5 : n ≥ 48 <;> by_cases h6 : n ≤ 57 <;> by_cases h7 : n = 96 <;>
    first
      | (exfalso; omega)
      | (have g1 : ((n : Int) ≥ 97) = (n ≥ 97) := propext ⟨fun _ => by omega, fun _ => by omega⟩
         have g2 : ((n : Int) ≤ 122) = (n ≤ 122) := propext ⟨fun _ => by omega, fun _ => by omega⟩
         have g3 : ((n : Int) ≥ 65) = (n ≥ 65) := propext ⟨fun _ => by omega, fun _ => by omega⟩
         have g4 : ((n : Int) ≤ 90) = (n ≤ 90) := propext ⟨fun _ => by omega, fun _ => by omega⟩
         have g5 : ((n : Int) ≥ 48) = (n ≥ 48) := propext ⟨fun _ => by omega, fun _ => by omega⟩
         have g6 : ((n : Int) ≤ 57) = (n ≤ 57) := propext ⟨fun _ => by omega, fun _ => by omega⟩
         have g7 : ((n : Int) = 96) = (n = 96) := propext ⟨fun _ => by omega, fun _ => by omega⟩
         simp [g1, g2, g3, g4, g5, g6, g7, h1, h2, h3, h4, h5, h6, h7])
theorem ref_token_loop (s : ByteArray) (hs : s.size ≤ 1000000000) : ∀ (d k i : Nat), i + d = s.size → d + 25 < k → lanternref09_Token.l0 k s i = some (((L s).drop i).all (signL.contains ·) && decide (L s ≠ []))
  | d, k, i, hd, hk => by
    have hl : (L s).length = s.size := (size_L s).symm
    obtain ⟨k, rfl⟩ : ∃ m, k = m + 1 := ⟨k - 1, by omega⟩
    rw [lanternref09_Token.l0]
    by_cases h : i < s.size
    · obtain ⟨d, rfl⟩ : ∃ m, d = m + 1 := ⟨d - 1, by omega⟩
      rw [if_pos (by omega), if_pos (by omega), dropD _ i (by omega), List.all_cons, bt_L, Int.toNat_natCast, sign_f _ k (by omega)]
      simp only [Option.bind_some]
      by_cases hb : signL.contains ((L s).getD i 0) = true
      · rw [if_pos hb, hb, Bool.true_and, wrap_nat (x := (i : Int) + 1) (i + 1) rfl (by omega)]
        exact ref_token_loop s hs d k (i + 1) (by omega) (by omega)
      · have e : signL.contains ((L s).getD i 0) = false := by simpa using hb
        rw [if_neg hb, e]
        rfl
    · rw [if_neg (by omega), List.drop_eq_nil_of_le (by omega), toList_L]
      simp only [List.all_nil, Bool.true_and]
      congr 1
      cases L s <;> rfl
theorem ref_token (s : ByteArray) (hs : s.size ≤ 1000000000) (k : Nat) (hk : s.size + 25 < k) : lanternref09_Token.f k s = some (tokenL (L s)) := by
  unfold lanternref09_Token.f
  have := ref_token_loop s hs s.size k 0 (by omega) hk
  rw [List.drop_zero] at this
  unfold tokenL
  rw [Bool.and_comm]
  exact this

/-! ### values -/
def okc (c : UInt8) : Bool := !(decide (c.toNat < 32) && !decide (c.toNat = 9)) && !decide (c.toNat = 127)
def blL : List UInt8 := [32, 9]
def valueL (l : List UInt8) : Bool := l.all okc && decide (Lib.trimS l blL = l)
theorem value_loop (s : ByteArray) (hs : s.size ≤ 1000000000) : ∀ (d k i : Nat), i + d = s.size → d < k → header_value.l0 k s i = some (((L s).drop i).all okc && decide (Lib.trimS (L s) blL = L s))
  | d, k, i, hd, hk => by
    have hl : (L s).length = s.size := (size_L s).symm
    obtain ⟨k, rfl⟩ : ∃ m, k = m + 1 := ⟨k - 1, by omega⟩
    rw [header_value.l0]
    by_cases h : i < s.size
    · obtain ⟨d, rfl⟩ : ∃ m, d = m + 1 := ⟨d - 1, by omega⟩
      rw [if_pos (by omega), if_pos (by omega), dropD _ i (by omega), List.all_cons, bt_L, Int.toNat_natCast]
      rw [wrap_nat (x := (i : Int) + 1) (i + 1) rfl (by omega), value_loop s hs d k (i + 1) (by omega) (by omega)]
      rw [Bool.and_assoc]
      generalize ((List.drop (i + 1) (L s)).all okc && decide (Lib.trimS (L s) blL = L s)) = z
      unfold okc
      generalize ((L s).getD i 0).toNat = n
      by_cases h1 : n < 32
      · rw [if_pos (by omega)]
        by_cases h2 : n = 9
        · subst h2; simp
        · rw [if_neg (by omega)]; simp [h1, h2]
      · rw [if_neg (by omega)]
        by_cases h3 : n = 127
        · subst h3; simp
        · rw [if_neg (by omega)]; simp [h1, h3]
    · rw [if_neg (by omega), List.drop_eq_nil_of_le (by omega)]
      unfold strings_Trim.f
      rw [if_pos ⟨by omega, by decide, by decide⟩]
      simp only [Option.bind_some, toList_L, List.all_nil, Bool.true_and]
      congr 1
      rw [Bool.eq_iff_iff, beq_iff_eq, decide_eq_true_eq]
      rw [show L (⟨(Lib.trimS s.data.toList [32, 9]).toArray⟩ : ByteArray) = Lib.trimS (L s) blL from L_B _]
theorem value_f (s : ByteArray) (hs : s.size ≤ 1000000000) (k : Nat) (hk : s.size < k) : header_value.f k s = some (valueL (L s)) := by
  unfold header_value.f
  have := value_loop s hs s.size k 0 (by omega) hk
  rw [List.drop_zero] at this
  exact this
def mayL (n v : List UInt8) : Bool := tokenL n && valueL v
theorem may_f (n v : ByteArray) (hn : n.size ≤ 1000000000) (hv : v.size ≤ 1000000000) (k : Nat) (hk : v.size < k) : header_may.f k n v = some (mayL (L n) (L v)) := by
  unfold header_may.f mayL
  rw [token_f n hn]
  simp only [Option.bind_some]
  by_cases h : tokenL (L n) = true
  · rw [if_pos h, value_f v hv k hk, h]; rfl
  · have e : tokenL (L n) = false := by simpa using h
    rw [if_neg h, e]; rfl

/-! ### the reference's -/
theorem blank_f (c : UInt8) : lanternref09_blank.f (c.toNat : Int) = some (blL.contains c) := by
  have e : blL.contains c = (decide (c.toNat = 32) || decide (c.toNat = 9)) := u8_all (p := fun c => blL.contains c = (decide (c.toNat = 32) || decide (c.toNat = 9))) (by decide +kernel) c
  rw [e]
  unfold lanternref09_blank.f
  by_cases h : c.toNat = 32
  · rw [if_pos (by omega), decide_eq_true h]; rfl
  · rw [if_neg (by omega), decide_eq_false h, Bool.false_or]
    congr 1
    rw [Bool.eq_iff_iff, beq_iff_eq, decide_eq_true_eq]
    omega
/-- From a place on: no bad byte, and no blank at the first or the last place. -/
def mayFrom (l : List UInt8) : Nat → Nat → Bool
  | 0, _ => true
  | d + 1, i => okc (l.getD i 0) && (!((decide (i = 0) || decide (i + 1 = l.length)) && blL.contains (l.getD i 0)) && mayFrom l d (i + 1))
theorem ref_may_loop (s n : ByteArray) (hs : s.size ≤ 1000000000) (hn : n.size ≤ 1000000000) (v : ByteArray) : ∀ (d k i : Nat), i + d = s.size → d + n.size + 30 < k →
    lanternref09_May.l0 k s i n v = some (mayFrom (L s) d i && tokenL (L n))
  | d, k, i, hd, hk => by
    have hl : (L s).length = s.size := (size_L s).symm
    obtain ⟨k, rfl⟩ : ∃ m, k = m + 1 := ⟨k - 1, by omega⟩
    rw [lanternref09_May.l0]
    by_cases h : i < s.size
    · obtain ⟨d, rfl⟩ : ∃ m, d = m + 1 := ⟨d - 1, by omega⟩
      have e2 : wrap64 ((s.size : Int) - 1) = ((s.size - 1 : Nat) : Int) := wrap_nat (s.size - 1) (by omega) (by omega)
      rw [if_pos (by omega), if_pos (by omega), bt_L, Int.toNat_natCast, e2, wrap_nat (x := (i : Int) + 1) (i + 1) rfl (by omega), ref_may_loop s n hs hn v d k (i + 1) (by omega) (by omega), blank_f, mayFrom]
      simp only [Option.bind_some]
      rw [hl]
      have q1 : ((i : Int) = 0) = (i = 0) := propext ⟨fun _ => by omega, fun _ => by omega⟩
      have q2 : ((i : Int) = ((s.size - 1 : Nat) : Int)) = (i + 1 = s.size) := propext ⟨fun _ => by omega, fun _ => by omega⟩
      simp only [q1, q2]
      generalize mayFrom (L s) d (i + 1) = z
      generalize blL.contains ((L s).getD i 0) = y
      unfold okc
      generalize ((L s).getD i 0).toNat = m
      have q3 : ((m : Int) = 127) = (m = 127) := propext ⟨fun _ => by omega, fun _ => by omega⟩
      have q4 : ((m : Int) < 32) = (m < 32) := propext ⟨fun _ => by omega, fun _ => by omega⟩
      have q5 : ((m : Int) = 9) = (m = 9) := propext ⟨fun _ => by omega, fun _ => by omega⟩
      simp only [q3, q4, q5]
      clear q1 q2 q3 q4 q5
      by_cases a1 : m = 127
      · simp [a1]
      · by_cases a2 : m < 32
        · by_cases a3 : m = 9
          · by_cases a4 : i = 0
            · cases y <;> simp [a1, a2, a3, a4]
            · by_cases a5 : i + 1 = s.size
              · cases y <;> simp [a1, a2, a3, a4, a5]
              · cases y <;> simp [a1, a2, a3, a4, a5]
          · simp [a1, a2, a3]
        · by_cases a4 : i = 0
          · cases y <;> simp [a1, a2, a4]
          · by_cases a5 : i + 1 = s.size
            · cases y <;> simp [a1, a2, a4, a5]
            · cases y <;> simp [a1, a2, a4, a5]
    · have h0 : d = 0 := by omega
      subst h0
      rw [if_neg (by omega), ref_token n hn k (by omega)]
      simp [mayFrom]
theorem mayFrom_iff (l : List UInt8) : ∀ d i, i + d = l.length → (mayFrom l d i = true ↔ (∀ j, i ≤ j → j < l.length → okc (l.getD j 0) = true) ∧ (∀ j, i ≤ j → j < l.length → (j = 0 ∨ j + 1 = l.length) → blL.contains (l.getD j 0) = false))
  | 0, i, h => by
    simp only [mayFrom, true_iff]
    exact ⟨fun j h1 h2 => by omega, fun j h1 h2 => by omega⟩
  | d + 1, i, h => by
    have ih := mayFrom_iff l d (i + 1) (by omega)
    rw [mayFrom, Bool.and_eq_true, Bool.and_eq_true, ih]
    constructor
    · rintro ⟨a, b, c1, c2⟩
      refine ⟨fun j h1 h2 => ?_, fun j h1 h2 h3 => ?_⟩
      · by_cases e : j = i
        · rw [e]; exact a
        · exact c1 j (by omega) h2
      · by_cases e : j = i
        · subst e
          cases hb : blL.contains (l.getD j 0) with
          | false => rfl
          | true =>
            rw [hb] at b
            rcases h3 with h3 | h3 <;> simp [h3] at b
        · exact c2 j (by omega) h2 h3
    · rintro ⟨c1, c2⟩
      refine ⟨c1 i (Nat.le_refl _) (by omega), ?_, fun j h1 h2 => c1 j (by omega) h2, fun j h1 h2 h3 => c2 j (by omega) h2 h3⟩
      by_cases e : i = 0 ∨ i + 1 = l.length
      · rw [c2 i (Nat.le_refl _) (by omega) e]; simp
      · have e1 : ¬ i = 0 := fun h => e (.inl h)
        have e2 : ¬ i + 1 = l.length := fun h => e (.inr h)
        simp [e1, e2]
theorem mayFrom_value (l : List UInt8) : mayFrom l l.length 0 = valueL l := by
  rw [Bool.eq_iff_iff, mayFrom_iff l l.length 0 (by omega)]
  unfold valueL
  rw [Bool.and_eq_true, List.all_eq_true, decide_eq_true_eq, trimS_iff]
  have gd : ∀ j, (h : j < l.length) → l.getD j 0 = l[j] := fun j h => by rw [List.getD_eq_getElem?_getD, List.getElem?_eq_getElem h]; rfl
  constructor
  · rintro ⟨h1, h2⟩
    refine ⟨fun c hc => ?_, fun c t h => ?_, fun c t h => ?_⟩
    · obtain ⟨j, hj, rfl⟩ := List.getElem_of_mem hc
      rw [← gd j hj]
      exact h1 j (Nat.zero_le _) hj
    · subst h
      have := h2 0 (Nat.le_refl _) (by simp) (.inl rfl)
      simpa using this
    · subst h
      have := h2 t.length (Nat.zero_le _) (by simp) (.inr (by simp))
      rw [gd _ (by simp)] at this
      simpa using this
  · rintro ⟨h1, h2, h3⟩
    refine ⟨fun j _ hj => ?_, fun j _ hj hc => ?_⟩
    · rw [gd j hj]
      exact h1 _ (List.getElem_mem hj)
    · rcases hc with hc | hc
      · subst hc
        cases l with
        | nil => simp at hj
        | cons c t => exact h2 c t rfl
      · have hne : l ≠ [] := by intro h0; rw [h0] at hj; simp at hj
        have e : l = l.dropLast ++ [l.getLast hne] := (List.dropLast_concat_getLast hne).symm
        have := h3 _ _ e
        rw [gd j hj]
        have ej : l[j] = l.getLast hne := by rw [List.getLast_eq_getElem]; congr 1; omega
        rw [ej]
        exact this
theorem ref_may (n v : ByteArray) (hn : n.size ≤ 1000000000) (hv : v.size ≤ 1000000000) (k : Nat) (hk : v.size + n.size + 30 < k) : lanternref09_May.f k n v = some (mayL (L n) (L v)) := by
  unfold lanternref09_May.f
  have := ref_may_loop v n hv hn v v.size k 0 (by omega) hk
  rw [size_L v, mayFrom_value] at this
  unfold mayL
  rw [Bool.and_comm]
  exact this
end Go.Proofs.YtipleegkonhfcaaGreatDoor.Q
set_option linter.unusedSimpArgs false
set_option linter.unusedVariables false
namespace Go.Proofs.YtipleegkonhfcaaGreatDoor.Q
open Go Go.RowKit Go.Lib Go.Proofs.YtipleegkonhfcaaGreatDoorW.PrintWords Go.Proofs.YtipleegkonhfcaaGreatDoorB Go.Proofs.YtipleegkonhfcaaGreatDoor.E Go.Proofs.YtipleegkonhfcaaGreatDoor.P Go.Proofs.YtipleegkonhfcaaGreatDoor.U Go.Proofs.YtipleegkonhfcaaGreatDoor.KF

/-! ### cut at a byte -/
def splitC (c : UInt8) : List UInt8 → Option (List UInt8 × List UInt8)
  | [] => none
  | b :: t => if b = c then some ([], t) else (splitC c t).map fun x => (b :: x.1, x.2)
theorem splitC_some (c : UInt8) : ∀ (l u t : List UInt8), splitC c l = some (u, t) → l = u ++ c :: t ∧ ∀ b ∈ u, b ≠ c
  | [], u, t, h => by simp [splitC] at h
  | b :: l, u, t, h => by
    rw [splitC] at h
    split at h
    · next hb =>
      simp only [Option.some.injEq, Prod.mk.injEq] at h
      obtain ⟨rfl, rfl⟩ := h
      subst hb
      simp
    · next hb =>
      obtain ⟨⟨u', t'⟩, h1, h2⟩ := Option.map_eq_some_iff.1 h
      simp only [Prod.mk.injEq] at h2
      obtain ⟨rfl, rfl⟩ := h2
      obtain ⟨e, g⟩ := splitC_some c l u' t' h1
      refine ⟨by rw [e]; rfl, fun d hd => ?_⟩
      rcases List.mem_cons.1 hd with rfl | hd
      · exact hb
      · exact g d hd
theorem indexByte_split (c : UInt8) : ∀ l : List UInt8, Lib.indexByte l c = match splitC c l with | some x => (x.1.length : Int) | none => -1
  | [] => rfl
  | b :: l => by
    have ih := indexByte_split c l
    rw [Lib.indexByte, splitC]
    by_cases h : b = c
    · rw [if_pos (by simpa using h), if_pos h]; rfl
    · rw [if_neg (by simpa using h), if_neg h, ih]
      cases hs : splitC c l with
      | none => rfl
      | some x =>
        simp only [Option.map_some, beq_iff_eq]
        rw [if_neg (by omega), List.length_cons]
        show ((x.1.length : Nat) : Int) + 1 = ((x.1.length + 1 : Nat) : Int)
        omega
theorem index_split (c : UInt8) : ∀ l : List UInt8, Lib.index l [c] = match splitC c l with | some x => (x.1.length : Int) | none => -1
  | [] => rfl
  | b :: l => by
    have ih := index_split c l
    rw [Lib.index, splitC]
    have e : ([c] : List UInt8).isPrefixOf (b :: l) = (c == b) := by simp [List.isPrefixOf]
    rw [e]
    by_cases h : b = c
    · rw [if_pos (by simpa using h.symm), if_pos h]; rfl
    · rw [if_neg (by simpa using fun q => h q.symm), if_neg h, ih]
      cases hs : splitC c l with
      | none => rfl
      | some x =>
        simp only [Option.map_some, beq_iff_eq]
        rw [if_neg (by omega), List.length_cons]
        show ((x.1.length : Nat) : Int) + 1 = ((x.1.length + 1 : Nat) : Int)
        omega
theorem cut_split (c : UInt8) (l : List UInt8) : Lib.cut l [c] = match splitC c l with | some x => (x.1, x.2, true) | none => (l, [], false) := by
  unfold Lib.cut
  rw [index_split]
  cases hs : splitC c l with
  | none => rfl
  | some x =>
    obtain ⟨u, t⟩ := x
    obtain ⟨e, _⟩ := splitC_some c l u t hs
    simp only
    rw [if_pos (by omega), e]
    simp

/-! ### a line -/
def chomp (u : List UInt8) : List UInt8 := Lib.trimSuffix u [13]
theorem chomp_eq (u : List UInt8) : chomp u = if u ≠ [] ∧ u.getD (u.length - 1) 0 = 13 then u.take (u.length - 1) else u := by
  unfold chomp Lib.trimSuffix Lib.hasSuffix
  have e : ([13] : List UInt8).isSuffixOf u = true ↔ (u ≠ [] ∧ u.getD (u.length - 1) 0 = 13) := by
    rw [List.isSuffixOf_iff_suffix]
    constructor
    · rintro ⟨t, rfl⟩
      simp
    · rintro ⟨h1, h2⟩
      refine ⟨u.dropLast, ?_⟩
      have hl : u.length - 1 < u.length := by have := List.length_pos_iff.2 h1; omega
      have e2 : u.getLast h1 = 13 := by
        rw [List.getLast_eq_getElem]
        rw [List.getD_eq_getElem?_getD, List.getElem?_eq_getElem hl] at h2
        exact h2
      rw [← e2]
      exact List.dropLast_concat_getLast h1
  by_cases h : ([13] : List UInt8).isSuffixOf u = true
  · rw [if_pos h, if_pos (e.1 h)]; rfl
  · rw [if_neg h, if_neg (fun q => h (e.2 q))]
theorem chomp_length (u : List UInt8) : (chomp u).length ≤ u.length := by
  rw [chomp_eq]
  split
  · rw [List.length_take]; omega
  · exact Nat.le_refl _
def headL (l : List UInt8) : Option S67 :=
  match splitC 58 l with
  | none => none
  | some x => if mayL x.1 (Lib.trimS x.2 blL) = true then some ⟨B x.1, B (Lib.trimS x.2 blL)⟩ else none
theorem trimS_length (l cs : List UInt8) : (Lib.trimS l cs).length ≤ l.length := by
  have h1 : (Lib.trimS l cs).length ≤ (Lib.trimRightS l cs).length := (List.dropWhile_suffix _).length_le
  have h2 : (Lib.trimRightS l cs).length ≤ l.length := by
    unfold Lib.trimRightS
    rw [List.length_reverse]
    have := (List.dropWhile_suffix (l := l.reverse) (cs.contains ·)).length_le
    rw [List.length_reverse] at this
    exact this
  omega

/-! ### the whole -/
def parseM (bs : List UInt8) : Nat → Nat → List S67 → List S67 × Int × Int
  | 0, _, _ => ([], 0, 0)
  | f + 1, p, acc =>
    match splitC 10 (bs.drop p) with
    | none => if bs.length ≤ 8192 then ([], 0, 10) else ([], 0, 3)
    | some x =>
      if p + x.1.length + 1 > 8192 then ([], 0, 3)
      else if chomp x.1 = [] then (acc, ((p + x.1.length + 1 : Nat) : Int), 0)
      else match headL (chomp x.1) with
        | none => ([], 0, 5)
        | some h => if acc.length ≥ 64 then ([], 0, 3) else parseM bs f (p + x.1.length + 1) (acc ++ [h])
theorem take_drop_of (l u t : List UInt8) (p : Nat) (h : l.drop p = u ++ t) (hp : p ≤ l.length) : (l.take (p + u.length)).drop p = u := by
  rw [List.drop_take]
  rw [h]
  simp
theorem prog_parse (bs : List UInt8) (hb : bs.length ≤ 1000000) : ∀ (f k p : Nat) (acc : List S67), p ≤ bs.length → bs.length < p + f → 3 * f + bs.length + 100 < k → acc.length ≤ 64 →
    header_Parse.l0 k (nums bs) acc p = some (parseM bs f p acc)
  | 0, k, p, acc, hp, hf, hk, ha => by omega
  | f + 1, k, p, acc, hp, hf, hk, ha => by
    obtain ⟨k, rfl⟩ : ∃ m, k = m + 1 + 1 + 1 := ⟨k - 3, by omega⟩
    have hnl := nums_length bs
    have c1 : 0 ≤ (p : Int) := by omega
    have c2 : (p : Int) ≤ ((nums bs).length : Int) := by omega
    rw [header_Parse.l0, if_pos c1, if_pos c2, Int.toNat_natCast, nums_drop]
    unfold bytes_IndexByte.f
    rw [bytesOf_nums]
    have e10 : (10 : Int).toNat.toUInt8 = 10 := rfl
    rw [e10, indexByte_split, parseM]
    simp only [Option.bind_some]
    cases hs : splitC 10 (bs.drop p) with
    | none =>
      simp only
      rw [if_pos (by omega), header_Parse.j1]
      by_cases h : bs.length ≤ 8192
      · rw [if_pos (by rw [hnl]; exact decide_eq_true (by omega)), if_pos h]
      · rw [if_neg (by rw [hnl]; simp; omega), if_pos (by omega), if_neg h]
    | some x =>
      obtain ⟨u, t⟩ := x
      simp only
      obtain ⟨e, hu⟩ := splitC_some 10 _ _ _ hs
      have hlen : p + u.length + 1 + t.length = bs.length := by
        have := congrArg List.length e
        rw [List.length_drop, List.length_append, List.length_cons] at this
        omega
      have hneg : ¬ ((u.length : Int) < 0) := by omega
      have n1 : p + u.length ≤ 9223372036854775807 := by omega
      have n2 : p + u.length + 1 ≤ 9223372036854775807 := by omega
      have n3 : u.length + 1 ≤ 9223372036854775807 := by omega
      have n4 : (p : Int) + ((u.length + 1 : Nat) : Int) = ((p + u.length + 1 : Nat) : Int) := by omega
      have w1 : wrap64 ((p : Int) + (u.length : Int)) = ((p + u.length : Nat) : Int) := wrap_nat (p + u.length) rfl n1
      have w2 : wrap64 (((p + u.length : Nat) : Int) + 1) = ((p + u.length + 1 : Nat) : Int) := wrap_nat (p + u.length + 1) rfl n2
      have w3 : wrap64 ((u.length : Int) + 1) = ((u.length + 1 : Nat) : Int) := wrap_nat (u.length + 1) rfl n3
      have w4 : wrap64 ((p : Int) + ((u.length + 1 : Nat) : Int)) = ((p + u.length + 1 : Nat) : Int) := wrap_nat (p + u.length + 1) n4 n2
      rw [if_neg hneg, header_Parse.j1, if_neg (by simp), if_neg hneg, w1, w2, w3, w4]
      clear w1 w2 w3 w4
      by_cases h1 : p + u.length + 1 > 8192
      · rw [if_pos (by omega), if_pos h1]
      · have hcl := chomp_length u
        have c3 : ((p + u.length : Nat) : Int) ≤ ((nums bs).length : Int) := by omega
        rw [if_neg (by omega), if_neg h1, if_pos c1, if_pos (by omega), if_pos c3, Int.toNat_natCast, Int.toNat_natCast, nums_take, nums_drop, strOf_nums, take_drop_of bs u (10 :: t) p e hp]
        unfold strings_TrimSuffix.f
        rw [if_pos (by rw [size_B]; omega)]
        simp only [Option.bind_some]
        rw [show (⟨(Lib.trimSuffix (B u).data.toList [13]).toArray⟩ : ByteArray) = B (chomp u) from by rw [show (B u).data.toList = u from L_B u]; rfl]
        rw [toList_L, L_B]
        by_cases h2 : chomp u = []
        · rw [if_pos h2, if_pos h2]
        · rw [if_neg h2, if_neg h2]
          unfold strings_Cut.f cutOf
          rw [if_pos (by rw [size_B]; omega)]
          simp only [Option.bind_some]
          rw [show (B (chomp u)).data.toList = chomp u from L_B _, cut_split]
          unfold headL
          cases hc : splitC 58 (chomp u) with
          | none =>
            simp only
            unfold strings_Trim.f
            rw [if_pos ⟨by decide, by decide, by decide⟩]
            simp only [Option.bind_some]
            rw [if_neg (by simp), header_Parse.j2, if_pos rfl]
          | some y =>
            obtain ⟨a, r⟩ := y
            obtain ⟨e2, _⟩ := splitC_some 58 _ _ _ hc
            have hl2 : a.length + (r.length + 1) = (chomp u).length := by rw [e2]; simp
            simp only
            unfold strings_Trim.f
            rw [if_pos ⟨by show (B r).size ≤ _; rw [size_B]; omega, by decide, by decide⟩]
            simp only [Option.bind_some, if_true]
            have ht := trimS_length r blL
            rw [show (⟨a.toArray⟩ : ByteArray) = B a from rfl, show (⟨(Lib.trimS r [32, 9]).toArray⟩ : ByteArray) = B (Lib.trimS r blL) from rfl]
            rw [may_f (B a) (B (Lib.trimS r blL)) (by rw [size_B]; omega) (by rw [size_B]; omega) _ (by rw [size_B]; omega), L_B, L_B]
            simp only [Option.bind_some]
            cases hm : mayL a (Lib.trimS r blL) with
            | false => rw [header_Parse.j2, if_pos (by rfl), if_neg (by simp)]
            | true =>
              rw [header_Parse.j2, if_neg (by simp), if_pos rfl]
              simp only
              by_cases h3 : acc.length ≥ 64
              · rw [if_pos (by omega), if_pos h3]
              · rw [if_neg (by omega), if_neg h3, if_pos (by omega)]
                exact prog_parse bs hb f k (p + u.length + 1) _ (by omega) (by omega) (by omega) (by rw [List.length_append, List.length_singleton]; omega)

/-! ### the reference's line -/
/-! ### the reference's reader -/
theorem parseM_acc (bs : List UInt8) : ∀ (f p : Nat) (acc : List S67), acc.length ≤ 64 → (parseM bs f p acc).1.length ≤ 64
  | 0, p, acc, h => by simp [parseM]
  | f + 1, p, acc, h => by
    rw [parseM]
    split
    · split <;> simp
    · split
      · simp
      · split
        · exact h
        · split
          · simp
          · split
            · simp
            · exact parseM_acc bs f _ _ (by rw [List.length_append, List.length_singleton]; omega)
end Go.Proofs.YtipleegkonhfcaaGreatDoor.Q
set_option linter.unusedSimpArgs false
set_option linter.unusedVariables false
namespace Go.Proofs.YtipleegkonhfcaaGreatDoor.Q
open Go Go.RowKit Go.Lib Go.Proofs.YtipleegkonhfcaaGreatDoorW.PrintWords Go.Proofs.YtipleegkonhfcaaGreatDoorB Go.Proofs.YtipleegkonhfcaaGreatDoor.E Go.Proofs.YtipleegkonhfcaaGreatDoor.P Go.Proofs.YtipleegkonhfcaaGreatDoor.U Go.Proofs.YtipleegkonhfcaaGreatDoor.KF

theorem parse_f (bs : List UInt8) (hb : bs.length ≤ 1000000) (k : Nat) (hk : 4 * bs.length + 200 < k) : header_Parse.f k (nums bs) = some (parseM bs (bs.length + 1) 0 []) := by
  unfold header_Parse.f
  exact prog_parse bs hb (bs.length + 1) k 0 [] (by omega) (by omega) (by omega) (by simp)
end Go.Proofs.YtipleegkonhfcaaGreatDoor.Q
set_option linter.unusedSimpArgs false
set_option linter.unusedVariables false
namespace Go.Proofs.YtipleegkonhfcaaGreatDoor.Q
open Go Go.RowKit Go.Lib Go.Proofs.YtipleegkonhfcaaGreatDoorW.PrintWords Go.Proofs.YtipleegkonhfcaaGreatDoorB Go.Proofs.YtipleegkonhfcaaGreatDoor.E Go.Proofs.YtipleegkonhfcaaGreatDoor.P Go.Proofs.YtipleegkonhfcaaGreatDoor.U Go.Proofs.YtipleegkonhfcaaGreatDoor.KF

def gb (s : ByteArray) (i : Nat) : Nat := ((L s).getD i 0).toNat
theorem gb_lt (s : ByteArray) (i : Nat) : gb s i < 256 := ((L s).getD i 0).toNat_lt
theorem bt_gb (s : ByteArray) (i : Nat) : bt s (i : Int) = (gb s i : Int) := by rw [bt_L, Int.toNat_natCast]; rfl
/-- A digit's value as strconv reads it; 255: it is none. -/
def puD (c : Nat) : Nat := if 48 ≤ c ∧ c ≤ 57 then c - 48 else if 97 ≤ c ∧ c ≤ 122 then c - 87 else if 65 ≤ c ∧ c ≤ 90 then c - 55 else 255
def lowI (c : Nat) : Int := Go.bits .or .u8 (c : Int) 32
theorem low_facts : ∀ c : Fin 256, (48 ≤ c.val ∧ c.val ≤ 57) ∨ (¬ (48 ≤ c.val ∧ c.val ≤ 57) ∧ 97 ≤ lowI c.val ∧ lowI c.val ≤ 122 ∧ ((lowI c.val - 97) % 256 + 10) % 256 = (puD c.val : Int)) ∨ (¬ (48 ≤ c.val ∧ c.val ≤ 57) ∧ (lowI c.val < 97 ∨ (97 ≤ lowI c.val ∧ 122 < lowI c.val)) ∧ puD c.val = 255) := by decide +kernel
theorem puD_dig {c : Nat} (h : 48 ≤ c ∧ c ≤ 57) : puD c = c - 48 := by unfold puD; rw [if_pos h]
/-- A number's value; none: a digit is none. -/
def valL (base : Nat) : List UInt8 → Nat → Option Nat
  | [], n => some n
  | c :: t, n => if base ≤ puD c.toNat then none else valL base t (n * base + puD c.toNat)
theorem pu_j9 (k : Nat) (s : ByteArray) (n i d : Nat) (hn : n ≤ 4294967296) (hi : i < s.size) (hs : s.size ≤ 1000000) (hd : d < 16) :
    I.strconv_ParseUint.j9 (k + 1) 16 false s 1152921504606846976 18446744073709551615 false n d (bytesOf s) s.size i = I.strconv_ParseUint.l0 k 16 false s 1152921504606846976 18446744073709551615 false ((n * 16 + d : Nat) : Int) (bytesOf s) s.size ((i + 1 : Nat) : Int) := by
  have w0 : IntKind.u64.wrap ((d : Nat) : Int) = (d : Int) := by rw [IntKind.wrap_u64]; omega
  have wi : wrap64 ((i : Int) + 1) = ((i + 1 : Nat) : Int) := wrap_nat (i + 1) rfl (by omega)
  have w1 : IntKind.u64.wrap 16 = 16 := rfl
  have w2 : IntKind.u64.wrap ((n : Int) * 16) = (n : Int) * 16 := by rw [IntKind.wrap_u64]; omega
  have w3 : IntKind.u64.wrap ((n : Int) * 16 + (d : Int)) = ((n * 16 + d : Nat) : Int) := by rw [IntKind.wrap_u64]; omega
  rw [I.strconv_ParseUint.j9, if_neg (by omega), if_neg (by omega), w1, w2, w0, w3, if_neg (by omega), if_neg (by omega), wi]
theorem pu_step (k : Nat) (s : ByteArray) (n i : Nat) (hn : n ≤ 4294967296) (hi : i < s.size) (hs : s.size ≤ 1000000) (hd : puD (gb s i) < 16) :
    I.strconv_ParseUint.l0 (k + 4) 16 false s 1152921504606846976 18446744073709551615 false n (bytesOf s) s.size i = I.strconv_ParseUint.l0 k 16 false s 1152921504606846976 18446744073709551615 false ((n * 16 + puD (gb s i) : Nat) : Int) (bytesOf s) s.size ((i + 1 : Nat) : Int) := by
  have hg := gb_lt s i
  rw [I.strconv_ParseUint.l0, if_pos (by omega), if_pos (by omega), if_pos (by rw [Go.Proofs.YtipleegkonhfcaaGreatDoorW.PrintWords.bytesOf_length]; omega), rd_bytesOf, bt_gb, ite_self, I.strconv_ParseUint.j7, if_neg (by simp)]
  rcases low_facts ⟨gb s i, hg⟩ with h1 | ⟨h0, h1, h2, h3⟩ | ⟨h0, h1, h2⟩
  · dsimp only at h1
    rw [if_pos (by omega), decide_eq_true (by omega), I.strconv_ParseUint.j8, if_pos rfl]
    have e : ((gb s i : Int) - 48) % 256 = ((puD (gb s i) : Nat) : Int) := by rw [puD_dig h1]; omega
    rw [e]
    exact pu_j9 k s n i _ hn hi hs hd
  · dsimp only at h0 h1 h2 h3
    have hj : ∀ b : Bool, b = false → I.strconv_ParseUint.j8 (k + 2) 16 false s 1152921504606846976 18446744073709551615 false n (gb s i) (bytesOf s) s.size i b = I.strconv_ParseUint.l0 k 16 false s 1152921504606846976 18446744073709551615 false ((n * 16 + puD (gb s i) : Nat) : Int) (bytesOf s) s.size ((i + 1 : Nat) : Int) := by
      rintro b rfl
      rw [I.strconv_ParseUint.j8, if_neg (by simp)]
      have hl : I.strconv_lower.f (gb s i : Int) = some (lowI (gb s i)) := rfl
      rw [hl, Option.bind_some, if_pos h1, Option.bind_some, if_pos h2, Option.bind_some, h3]
      exact pu_j9 k s n i _ hn hi hs hd
    by_cases c1 : 48 ≤ (gb s i : Int)
    · rw [if_pos c1]; exact hj _ (decide_eq_false (by omega))
    · rw [if_neg c1]; exact hj _ rfl
  · dsimp only at h2
    omega
theorem pu_loop (s : ByteArray) (hs : s.size ≤ 1000000) : ∀ (d k n i v : Nat), (n + 1) * 16 ^ d ≤ 4294967296 → i + d = s.size → 4 * d + 1 < k → valL 16 ((L s).drop i) n = some v →
    I.strconv_ParseUint.l0 k 16 false s 1152921504606846976 18446744073709551615 false n (bytesOf s) s.size i = some ((v : Int), none)
  | 0, k, n, i, v, hn, hd, hk, hv => by
    obtain ⟨k, rfl⟩ : ∃ m, k = m + 1 := ⟨k - 1, by omega⟩
    rw [List.drop_eq_nil_of_le (by rw [← size_L]; omega), valL, Option.some.injEq] at hv
    subst hv
    rw [I.strconv_ParseUint.l0, if_neg (by omega), if_neg (by simp)]
  | d + 1, k, n, i, v, hn, hd, hk, hv => by
    obtain ⟨k, rfl⟩ : ∃ m, k = m + 4 := ⟨k - 4, by omega⟩
    have hi : i < s.size := by omega
    have hpos : 1 ≤ 16 ^ (d + 1) := Nat.pow_pos (by decide)
    have hn1 : n + 1 ≤ (n + 1) * 16 ^ (d + 1) := Nat.le_mul_of_pos_right _ hpos
    rw [getD_drop (L s) i (by rw [← size_L]; exact hi), valL] at hv
    have e : ((L s).getD i 0).toNat = gb s i := rfl
    rw [e] at hv
    split at hv
    · cases hv
    · rename_i hc
      rw [pu_step k s n i (by omega) hi hs (by omega)]
      refine pu_loop s hs d k _ (i + 1) v ?_ (by omega) (by omega) hv
      refine Nat.le_trans ?_ hn
      rw [Nat.pow_succ, Nat.mul_comm (16 ^ d) 16, ← Nat.mul_assoc]
      exact Nat.mul_le_mul_right _ (by omega)
theorem pu_f (s : ByteArray) (hs : s.size ≤ 8) (h0 : L s ≠ []) (v : Nat) (hv : valL 16 (L s) 0 = some v) (k : Nat) (hk : 60 < k) : strconv_ParseUint.f k s 16 64 = some ((v : Int), none) := by
  obtain ⟨k, rfl⟩ : ∃ m, k = m + 4 := ⟨k - 4, by omega⟩
  unfold strconv_ParseUint.f I.strconv_ParseUint.f
  rw [toList_L, if_neg h0]
  have hp : 16 ^ s.size ≤ 16 ^ 8 := Nat.pow_le_pow_right (by decide) hs
  have hloop := pu_loop s (by omega) s.size k 0 0 v (by omega) (by omega) (by omega) (by rw [List.drop_zero]; exact hv)
  have hsh : IntKind.u64.wrap ((shl .u64 1 (IntKind.u64.wrap 64)) - 1) = 18446744073709551615 := by decide +kernel
  have hw : (0 : Int) ≤ IntKind.u64.wrap 64 := by decide
  rw [if_pos (by decide), decide_eq_true (by decide), I.strconv_ParseUint.j0, if_pos rfl, I.strconv_ParseUint.j3, if_neg (by decide), if_neg (by decide), if_neg (by decide), I.strconv_ParseUint.j4, if_neg (by decide), if_pos (by decide), I.strconv_ParseUint.j5, if_pos hw, if_pos (by omega), hsh, Option.bind_some, Go.Proofs.YtipleegkonhfcaaGreatDoorW.PrintWords.bytesOf_length]
  have e : I.strconv_ParseUint.l0 k 16 ((16 : Int) == 0) s 1152921504606846976 18446744073709551615 false 0 (bytesOf s) s.size 0 = some ((v : Int), none) := hloop
  rw [e, Option.bind_some, if_pos rfl]

/-! ### the size that a line says -/
theorem hex_set : ∀ c : Fin 256, (([48, 49, 50, 51, 52, 53, 54, 55, 56, 57, 97, 98, 99, 100, 101, 102, 65, 66, 67, 68, 69, 70] : List UInt8).contains (UInt8.ofNat c.val)) = decide (puD c.val < 16) := by decide +kernel
theorem hex_set' (c : UInt8) : (([48, 49, 50, 51, 52, 53, 54, 55, 56, 57, 97, 98, 99, 100, 101, 102, 65, 66, 67, 68, 69, 70] : List UInt8).contains c) = decide (puD c.toNat < 16) := by
  have := hex_set ⟨c.toNat, c.toNat_lt⟩
  simpa using this
theorem valL_all (l : List UInt8) : ∀ n, (∀ c ∈ l, puD c.toNat < 16) → ∃ v, valL 16 l n = some v := by
  induction l with
  | nil => exact fun n _ => ⟨n, rfl⟩
  | cons c t ih =>
    intro n h
    rw [valL, if_neg (by have := h c (by simp); omega)]
    exact ih _ (fun x hx => h x (by simp [hx]))
theorem valL_not (l : List UInt8) : ∀ n, ¬ (∀ c ∈ l, puD c.toNat < 16) → valL 16 l n = none := by
  induction l with
  | nil => exact fun n h => absurd (by simp) h
  | cons c t ih =>
    intro n h
    rw [valL]
    by_cases hc : 16 ≤ puD c.toNat
    · rw [if_pos hc]
    · rw [if_neg hc]
      refine ih _ (fun h2 => h (fun x hx => ?_))
      rcases List.mem_cons.1 hx with rfl | hx
      · omega
      · exact h2 x hx
def headOf (l : List UInt8) : List UInt8 := match splitC 59 l with | some x => x.1 | none => l
def sizeL (l : List UInt8) : Option Nat := if 256 < l.length then none else if splitC 13 l ≠ none then none else if headOf l = [] ∨ 8 < (headOf l).length then none else valL 16 (headOf l) 0
def sizeSays : Option Nat → Int × Int
  | some n => ((n : Int), 0)
  | none => (0, 5)
theorem valL_lt (l : List UInt8) : ∀ n v, valL 16 l n = some v → v + 1 ≤ (n + 1) * 16 ^ l.length := by
  induction l with
  | nil =>
    intro n v h
    rw [valL, Option.some.injEq] at h
    subst h
    simp
  | cons c t ih =>
    intro n v h
    rw [valL] at h
    split at h
    · cases h
    · refine Nat.le_trans (ih _ v h) ?_
      rw [List.length_cons, Nat.pow_succ, Nat.mul_comm (16 ^ t.length) 16, ← Nat.mul_assoc]
      exact Nat.mul_le_mul_right _ (by omega)
theorem sizeL_lt (l : List UInt8) (v : Nat) (h : sizeL l = some v) : v < 4294967296 := by
  unfold sizeL at h
  split at h
  · cases h
  · split at h
    · cases h
    · split at h
      · cases h
      · rename_i hc
        have h1 := valL_lt _ _ _ h
        have h2 : 16 ^ (headOf l).length ≤ 16 ^ 8 := Nat.pow_le_pow_right (by decide) (by omega)
        omega
theorem Size_f (s : ByteArray) (hs : s.size ≤ 1000000) (k : Nat) (hk : 100 < k) : chunk_Size.f k s = some (sizeSays (sizeL (L s))) := by
  obtain ⟨k, rfl⟩ : ∃ m, k = m + 2 := ⟨k - 2, by omega⟩
  unfold chunk_Size.f sizeL
  by_cases c1 : 256 < (L s).length
  · rw [if_pos (by rw [size_L]; omega), if_pos c1, chunk_Size.j0, if_pos rfl]
    rfl
  · rw [if_neg (by rw [size_L]; omega), if_neg c1]
    have hi : strings_IndexByte.f s 13 = some (Lib.indexByte (L s) 13) := rfl
    rw [hi, Option.bind_some, indexByte_split]
    cases h13 : splitC 13 (L s) with
    | some x =>
      rw [if_pos (by simp), decide_eq_true (show (0 : Int) ≤ ((x.1.length : Nat) : Int) by omega), chunk_Size.j0, if_pos rfl]
      rfl
    | none =>
      rw [if_neg (by simp), decide_eq_false (by dsimp only; omega), chunk_Size.j0, if_neg (by simp)]
      have hcut : strings_Cut.f s (⟨#[59]⟩ : ByteArray) = some (B (headOf (L s)), (cutOf s ⟨#[59]⟩).2) := by
        unfold strings_Cut.f
        rw [if_pos (by omega)]
        unfold cutOf headOf
        rw [show (⟨#[59]⟩ : ByteArray).data.toList = [59] from rfl, show s.data.toList = L s from rfl, cut_split]
        cases splitC 59 (L s) with
        | none => rfl
        | some x => rfl
      rw [hcut, Option.bind_some]
      dsimp only
      rw [toList_L, L_B, size_B]
      by_cases c2 : headOf (L s) = []
      · rw [if_pos c2, if_pos (Or.inl c2), chunk_Size.j1, if_pos rfl]
        rfl
      · rw [if_neg c2]
        by_cases c3 : 8 < (headOf (L s)).length
        · rw [if_pos (by omega), if_pos (Or.inr c3), chunk_Size.j1, if_pos rfl]
          rfl
        · rw [if_neg (by omega), if_neg (by rintro (h | h); exact c2 h; exact c3 h)]
          have htr : strings_Trim.f (B (headOf (L s))) (⟨#[48, 49, 50, 51, 52, 53, 54, 55, 56, 57, 97, 98, 99, 100, 101, 102, 65, 66, 67, 68, 69, 70]⟩ : ByteArray) = some (B (Lib.trimS (headOf (L s)) [48, 49, 50, 51, 52, 53, 54, 55, 56, 57, 97, 98, 99, 100, 101, 102, 65, 66, 67, 68, 69, 70])) := by
            unfold strings_Trim.f
            rw [if_pos ⟨by rw [size_B]; omega, by decide, by decide⟩, show (B (headOf (L s))).data.toList = headOf (L s) from L_B _]
            rfl
          rw [htr, Option.bind_some, toList_L, L_B]
          by_cases c4 : ∀ c ∈ headOf (L s), puD c.toNat < 16
          · have ht : Lib.trimS (headOf (L s)) [48, 49, 50, 51, 52, 53, 54, 55, 56, 57, 97, 98, 99, 100, 101, 102, 65, 66, 67, 68, 69, 70] = [] := (trimS_nil_iff _ _).2 (fun c hc => by rw [hex_set']; exact decide_eq_true (c4 c hc))
            obtain ⟨v, hv⟩ := valL_all (headOf (L s)) 0 c4
            have hlt := valL_lt _ _ _ hv
            have h2 : 16 ^ (headOf (L s)).length ≤ 16 ^ 8 := Nat.pow_le_pow_right (by decide) (by omega)
            rw [ht, chunk_Size.j1, if_neg (by simp), pu_f (B (headOf (L s))) (by rw [size_B]; omega) (by rw [L_B]; exact c2) v (by rw [L_B]; exact hv) k (by omega), Option.bind_some, hv]
            rw [if_pos (show (none : Option Int).isNone = true from rfl), wrap_nat v rfl (by omega)]
            rfl
          · have ht : Lib.trimS (headOf (L s)) [48, 49, 50, 51, 52, 53, 54, 55, 56, 57, 97, 98, 99, 100, 101, 102, 65, 66, 67, 68, 69, 70] ≠ [] := fun h => c4 (fun c hc => by
              have := (trimS_nil_iff _ _).1 h c hc
              rw [hex_set'] at this
              exact of_decide_eq_true this)
            have e : ∀ l : List UInt8, l ≠ [] → (l != []) = true := fun l h => bne_iff_ne.mpr h
            rw [e _ ht, chunk_Size.j1, if_pos rfl, valL_not _ _ c4]
            rfl

/-! ### the reference's -/
end Go.Proofs.YtipleegkonhfcaaGreatDoor.Q
set_option linter.unusedSimpArgs false
set_option linter.unusedVariables false
namespace Go.Proofs.YtipleegkonhfcaaGreatDoor.Q
open Go Go.RowKit Go.Lib Go.Proofs.YtipleegkonhfcaaGreatDoorW.PrintWords Go.Proofs.YtipleegkonhfcaaGreatDoorB Go.Proofs.YtipleegkonhfcaaGreatDoor.E Go.Proofs.YtipleegkonhfcaaGreatDoor.P Go.Proofs.YtipleegkonhfcaaGreatDoor.U Go.Proofs.YtipleegkonhfcaaGreatDoor.KF

/-! ### a line -/
/-- A line without its end; or the mistake: 10 more is to come, 5 no line. -/
def lineM (r : List UInt8) : List UInt8 ⊕ Int := match splitC 10 r with
  | none => if r.length < 258 then .inr 10 else .inr 5
  | some x => if x.1 = [] ∨ 257 < x.1.length ∨ x.1.getD (x.1.length - 1) 0 ≠ 13 then .inr 5 else .inl (x.1.take (x.1.length - 1))
def lineSays : List UInt8 ⊕ Int → ByteArray × Int × Int
  | .inl u => (B u, ((u.length + 2 : Nat) : Int), 0)
  | .inr e => (⟨#[]⟩, 0, e)
theorem take_f (r : List UInt8) (hr : r.length ≤ 1000000) (k : Nat) (hk : 5 < k) : chunk_take.f k (nums r) = some (lineSays (lineM r)) := by
  obtain ⟨k, rfl⟩ : ∃ m, k = m + 1 := ⟨k - 1, by omega⟩
  have hnl := nums_length r
  unfold chunk_take.f bytes_IndexByte.f lineM
  rw [bytesOf_nums]
  have e10 : (10 : Int).toNat.toUInt8 = 10 := rfl
  rw [e10, indexByte_split, Option.bind_some]
  cases hs : splitC 10 r with
  | none =>
    dsimp only
    rw [if_pos (by omega), chunk_take.j0, hnl]
    by_cases h : r.length < 258
    · rw [decide_eq_true (by omega), if_pos rfl, if_pos h]; rfl
    · rw [decide_eq_false (by omega), if_neg (by simp), if_pos (by omega), if_neg h]; rfl
  | some x =>
    obtain ⟨u, t⟩ := x
    dsimp only
    obtain ⟨e, hu⟩ := splitC_some 10 _ _ _ hs
    have hlen : u.length + 1 + t.length = r.length := by
      have := congrArg List.length e
      rw [List.length_append, List.length_cons] at this
      omega
    rw [if_neg (by omega), chunk_take.j0, if_neg (by simp)]
    by_cases h1 : u = []
    · rw [if_pos (by rw [h1]; decide), if_pos (Or.inl h1)]; rfl
    · have hpos := List.length_pos_iff.2 h1
      rw [if_neg (by omega)]
      by_cases h2 : 257 < u.length
      · rw [if_pos (by omega), if_pos (Or.inr (Or.inl h2))]; rfl
      · have w1 : wrap64 ((u.length : Int) - 1) = ((u.length - 1 : Nat) : Int) := wrap_nat (u.length - 1) (by omega) (by omega)
        have w2 : wrap64 ((u.length : Int) + 1) = ((u.length + 1 : Nat) : Int) := wrap_nat (u.length + 1) rfl (by omega)
        rw [if_neg (by omega), w1, w2, if_pos (by omega), if_pos (by omega), rd_nums]
        clear w1 w2
        have g : r.getD (u.length - 1) 0 = u.getD (u.length - 1) 0 := by
          rw [e]; simp [List.getD_eq_getElem?_getD, List.getElem?_append, show u.length - 1 < u.length from by omega]
        rw [g]
        by_cases h3 : u.getD (u.length - 1) 0 = 13
        · rw [if_pos (by rw [h3]; rfl), if_pos (by omega), if_neg (by rintro (h | h | h); exact h1 h; exact h2 h; exact h h3), Int.toNat_natCast, nums_take, strOf_nums]
          have et : r.take (u.length - 1) = u.take (u.length - 1) := by
            rw [e, List.take_append_of_le_length (by omega)]
          rw [et]
          have hl : (u.take (u.length - 1)).length + 2 = u.length + 1 := by rw [List.length_take]; omega
          rw [show lineSays (.inl (u.take (u.length - 1))) = (B (u.take (u.length - 1)), (((u.take (u.length - 1)).length + 2 : Nat) : Int), 0) from rfl, hl]
        · have h3' : ¬ (((u.getD (u.length - 1) 0).toNat : Int) = 13) := fun q => h3 (by rw [u8_eq]; exact q)
          rw [if_neg h3', if_pos (Or.inr (Or.inr h3))]; rfl

/-! ### the body -/
def decM (bs : List UInt8) : Nat → Nat → List UInt8 → List Int × Int × Int
  | 0, _, _ => ([], 0, 0)
  | f + 1, p, body => match lineM (bs.drop p) with
    | .inr e => ([], 0, e)
    | .inl u => match sizeL u with
      | none => ([], 0, 5)
      | some sz => if sz = 0 then
          (if (parseM (bs.drop (p + u.length + 2)) ((bs.drop (p + u.length + 2)).length + 1) 0 []).2.2 = 0 then (nums body, wrap64 (((p + u.length + 2 : Nat) : Int) + (parseM (bs.drop (p + u.length + 2)) ((bs.drop (p + u.length + 2)).length + 1) 0 []).2.1), 0) else ([], 0, (parseM (bs.drop (p + u.length + 2)) ((bs.drop (p + u.length + 2)).length + 1) 0 []).2.2))
        else if 32768 < body.length + sz then ([], 0, 3)
        else if bs.length < p + u.length + 2 + sz then ([], 0, 10)
        else match bs.drop (p + u.length + 2 + sz) with
          | [] => ([], 0, 10)
          | c :: t => if c ≠ 13 then ([], 0, 5) else match t with
            | [] => ([], 0, 10)
            | d :: _ => if d ≠ 10 then ([], 0, 5) else decM bs f (p + u.length + 2 + sz + 2) (body ++ (bs.drop (p + u.length + 2)).take sz)
theorem lineM_inl {r u : List UInt8} (h : lineM r = .inl u) : ∃ t, r = u ++ 13 :: 10 :: t ∧ splitC 10 r = some (u ++ [13], t) ∧ u.length + 2 ≤ r.length ∧ u.length ≤ 256 := by
  unfold lineM at h
  cases hs : splitC 10 r with
  | none => rw [hs] at h; dsimp only at h; split at h <;> cases h
  | some x =>
    obtain ⟨a, t⟩ := x
    rw [hs] at h
    dsimp only at h
    obtain ⟨e, _⟩ := splitC_some 10 _ _ _ hs
    split at h
    · cases h
    · rename_i hc
      have hpos : 0 < a.length := List.length_pos_iff.2 (fun q => hc (Or.inl q))
      have h2 : ¬ 257 < a.length := fun q => hc (Or.inr (Or.inl q))
      have h3 : a.getD (a.length - 1) 0 = 13 := Decidable.byContradiction (fun q => hc (Or.inr (Or.inr q)))
      injection h with h
      have ha : a = u ++ [13] := by
        have := take_getD a (a.length - 1) (by omega)
        rw [show a.length - 1 + 1 = a.length from by omega, List.take_length, h, h3] at this
        exact this
      subst ha
      refine ⟨t, by rw [e]; simp, rfl, ?_, ?_⟩
      · rw [e]; simp
      · simp at h2; omega
theorem lineM_inr {r : List UInt8} {e : Int} (h : lineM r = .inr e) : e ≠ 0 := by
  unfold lineM at h
  cases hs : splitC 10 r with
  | none => rw [hs] at h; dsimp only at h; split at h <;> (injection h with h; omega)
  | some x =>
    rw [hs] at h; dsimp only at h; split at h
    · injection h with h; omega
    · cases h
theorem prefix_f (l : List UInt8) (hl : l.length ≤ 2) : strings_HasPrefix.f (⟨#[13, 10]⟩ : ByteArray) (B l) = some (([13, 10] : List UInt8).take l.length == l) := by
  unfold strings_HasPrefix.f stringslite_HasPrefix.f
  have hs : (⟨#[13, 10]⟩ : ByteArray).size = 2 := rfl
  rw [hs, size_B, if_pos (by omega), if_pos (by omega), if_pos (by omega), Option.bind_some, toList_L, toList_L, L_B, Int.toNat_natCast, show (⟨#[13, 10]⟩ : ByteArray) = B [13, 10] from rfl, extract_B, L_B, List.drop_zero]

theorem prog_dec (bs : List UInt8) (hb : bs.length ≤ 100000) : ∀ (f k p : Nat) (body : List UInt8), p ≤ bs.length → bs.length < p + f → 3 * f + 4 * bs.length + 1000 < k → body.length ≤ 32768 →
    chunk_Decode.l0 k (nums bs) (nums body) p = some (decM bs f p body)
  | 0, k, p, body, hp, hf, hk, ha => by omega
  | f + 1, k, p, body, hp, hf, hk, ha => by
    obtain ⟨k, rfl⟩ : ∃ m, k = m + 1 := ⟨k - 1, by omega⟩
    have hnl := nums_length bs
    have hnb := nums_length body
    have hld : (bs.drop p).length = bs.length - p := List.length_drop
    rw [chunk_Decode.l0, if_pos (by omega), if_pos (by omega), Int.toNat_natCast, nums_drop, take_f (bs.drop p) (by omega) k (by omega), Option.bind_some, decM]
    cases hl : lineM (bs.drop p) with
    | inr e =>
      rw [show lineSays (.inr e) = (⟨#[]⟩, 0, e) from rfl]
      dsimp only
      rw [if_neg (lineM_inr hl)]
    | inl u =>
      obtain ⟨_, _, _, hu1, hu2⟩ := lineM_inl hl
      rw [show lineSays (.inl u) = (B u, ((u.length + 2 : Nat) : Int), 0) from rfl]
      dsimp only
      rw [if_pos rfl, Size_f (B u) (by rw [size_B]; omega) k (by omega), Option.bind_some, L_B]
      cases hz : sizeL u with
      | none => rw [show sizeSays none = (0, 5) from rfl]; dsimp only; rw [if_neg (by decide)]
      | some sz =>
        have hsz := sizeL_lt _ _ hz
        rw [show sizeSays (some sz) = ((sz : Int), 0) from rfl]
        dsimp only
        have n1 : (p : Int) + ((u.length + 2 : Nat) : Int) = ((p + u.length + 2 : Nat) : Int) := by omega
        have m1 : p + u.length + 2 ≤ 9223372036854775807 := by omega
        have n2 : 32768 - ((nums body).length : Int) = ((32768 - body.length : Nat) : Int) := by omega
        have m2 : 32768 - body.length ≤ 9223372036854775807 := by omega
        have n3 : ((p + u.length + 2 : Nat) : Int) + (sz : Int) = ((p + u.length + 2 + sz : Nat) : Int) := by omega
        have m3 : p + u.length + 2 + sz ≤ 9223372036854775807 := by omega
        have n4 : (sz : Int) + 2 = ((sz + 2 : Nat) : Int) := by omega
        have m4 : sz + 2 ≤ 9223372036854775807 := by omega
        have n5 : ((p + u.length + 2 : Nat) : Int) + ((sz + 2 : Nat) : Int) = ((p + u.length + 2 + sz + 2 : Nat) : Int) := by omega
        have m5 : p + u.length + 2 + sz + 2 ≤ 9223372036854775807 := by omega
        have w1 := wrap_nat (p + u.length + 2) n1 m1
        have w2 := wrap_nat (32768 - body.length) n2 m2
        have w3 := wrap_nat (p + u.length + 2 + sz) n3 m3
        have w4 := wrap_nat (sz + 2) n4 m4
        have w5 := wrap_nat (p + u.length + 2 + sz + 2) n5 m5
        rw [if_pos rfl, w1, w2, w3, w4, w5]
        clear w1 w2 w3 w4 w5 n1 n2 n3 n4 n5 m1 m2 m3 m4 m5
        generalize hq : p + u.length + 2 = q
        have hqb : q ≤ bs.length := by omega
        have hqp : p < q := by omega
        have hldq : (bs.drop q).length = bs.length - q := List.length_drop
        have hnq := nums_length (bs.drop q)
        by_cases c0 : sz = 0
        · rw [if_pos (by omega), if_pos (by omega), if_pos (by omega), Int.toNat_natCast, nums_drop, parse_f (bs.drop q) (by omega) k (by omega), Option.bind_some, if_pos c0]
          by_cases ce : (parseM (bs.drop q) ((bs.drop q).length + 1) 0 []).2.2 = 0
          · rw [if_pos ce, if_pos ce]
          · rw [if_neg ce, if_neg ce]
        · rw [if_neg (by omega), if_neg c0]
          by_cases c1 : 32768 < body.length + sz
          · rw [if_pos (by omega), if_pos c1]
          · rw [if_neg (by omega), if_neg c1, if_pos (by omega), if_pos (by omega), Int.toNat_natCast, nums_drop]
            by_cases c2 : bs.length < q + sz
            · rw [if_pos (by omega), if_pos c2]
            · rw [if_neg (by omega), if_neg c2, if_pos (by omega), if_pos (by omega), Int.toNat_natCast, nums_drop, List.drop_drop, Int.toNat_natCast]
              have hldz : (bs.drop (q + sz)).length = bs.length - (q + sz) := List.length_drop
              have hnz := nums_length (bs.drop (q + sz))
              rcases hz2 : bs.drop (q + sz) with _ | ⟨c, t⟩
              · rw [show (nums ([] : List UInt8)).length = 0 from rfl, show mn 2 ((0 : Nat) : Int) = 0 from by decide, if_pos (by decide), if_pos (by decide), show (nums ([] : List UInt8)).take (0 : Int).toNat = nums [] from rfl, strOf_nums, prefix_f [] (by decide), Option.bind_some, if_pos (by decide), if_pos (by decide)]
              · rcases t with _ | ⟨d, t⟩
                · rw [show (nums [c]).length = 1 from rfl, show mn 2 ((1 : Nat) : Int) = 1 from by decide, if_pos (by decide), if_pos (by decide), show (nums [c]).take (1 : Int).toNat = nums [c] from rfl, strOf_nums, prefix_f [c] (by simp), Option.bind_some]
                  dsimp only
                  by_cases h13 : c = 13
                  · subst h13
                    rw [if_pos (by decide), if_pos (by decide), if_neg (by decide)]
                  · rw [if_neg (by simp; exact fun h => h13 h.symm), if_pos h13]
                · have hlc : (nums (c :: d :: t)).length = t.length + 2 := by rw [nums_length]; rfl
                  have hmn : mn 2 ((t.length + 2 : Nat) : Int) = 2 := by unfold mn; split <;> omega
                  rw [hlc, hmn, if_pos (by decide), if_pos (by omega), show (nums (c :: d :: t)).take (2 : Int).toNat = nums [c, d] from rfl, strOf_nums, prefix_f [c, d] (by simp), Option.bind_some]
                  dsimp only
                  by_cases h13 : c = 13
                  · subst h13
                    by_cases h10 : d = 10
                    · subst h10
                      rw [hz2] at hldz
                      simp only [List.length_cons] at hldz
                      rw [if_pos (by decide), if_neg (by omega), if_pos (by omega), if_pos (by omega), nums_take, nums_drop]
                      have htd : (bs.take (q + sz)).drop q = (bs.drop q).take sz := by
                        rw [List.drop_take, show q + sz - q = sz from by omega]
                      have hlt : ((bs.drop q).take sz).length = sz := by rw [List.length_take]; omega
                      rw [htd, if_pos (by rw [nums_length, nums_length, hlt]; omega), if_neg (by decide), if_neg (by decide)]
                      have := prog_dec bs hb f k (q + sz + 2) (body ++ (bs.drop q).take sz) (by omega) (by omega) (by omega) (by rw [List.length_append, hlt]; omega)
                      rw [show nums body ++ nums ((bs.drop q).take sz) = nums (body ++ (bs.drop q).take sz) from by simp [nums]]
                      exact this
                    · rw [if_neg (by simp; exact fun h => h10 h.symm), if_neg (by decide), if_pos h10]
                  · rw [if_neg (by simp; exact fun h => absurd h.symm h13), if_pos h13]
end Go.Proofs.YtipleegkonhfcaaGreatDoor.Q
set_option linter.unusedSimpArgs false
set_option linter.unusedVariables false
namespace Go.Proofs.YtipleegkonhfcaaGreatDoor.Q
open Go Go.RowKit Go.Lib Go.Proofs.YtipleegkonhfcaaGreatDoorW.PrintWords Go.Proofs.YtipleegkonhfcaaGreatDoorB Go.Proofs.YtipleegkonhfcaaGreatDoor.E

def splitS (c : UInt8) : List UInt8 → List (List UInt8)
  | [] => [[]]
  | b :: l => if b = c then [] :: splitS c l else match splitS c l with
    | [] => [[b]]
    | h :: t => (b :: h) :: t
theorem splitS_miss (c : UInt8) : ∀ l : List UInt8, (∀ b ∈ l, b ≠ c) → splitS c l = [l]
  | [], _ => rfl
  | b :: l, h => by
    rw [splitS, if_neg (h b List.mem_cons_self), splitS_miss c l (fun x hx => h x (List.mem_cons_of_mem _ hx))]
theorem splitS_hit (c : UInt8) : ∀ u v : List UInt8, (∀ b ∈ u, b ≠ c) → splitS c (u ++ c :: v) = u :: splitS c v
  | [], v, _ => by rw [List.nil_append, splitS, if_pos rfl]
  | b :: u, v, h => by
    rw [List.cons_append, splitS, if_neg (h b List.mem_cons_self), splitS_hit c u v (fun x hx => h x (List.mem_cons_of_mem _ hx))]
theorem split_bytes (c : UInt8) : ∀ (n : Nat) (s : ByteArray), s.size ≤ n → Lib.splitB ⟨#[c]⟩ 0 (Lib.countB s ⟨#[c]⟩) s = (splitS c (L s)).map B := by
  intro n
  induction n with
  | zero =>
    intro s hs
    have hi : Lib.indexB s ⟨#[c]⟩ = -1 := by
      rcases Lib.indexB_cases s ⟨#[c]⟩ with h | ⟨i, h, hle⟩
      · exact h
      · have e : (⟨#[c]⟩ : ByteArray).size = 1 := rfl
        omega
    rw [Lib.countB_miss _ _ hi, Lib.splitB_zero]
    have hl : L s = [] := List.length_eq_zero_iff.1 (by rw [← size_L]; omega)
    rw [hl]
    show [s] = [B []]
    rw [← hl, B_L]
  | succ n ih =>
    intro s hs
    have e1 : Lib.indexB s ⟨#[c]⟩ = Lib.indexByte (L s) c := Lib.index_one (L s) c
    rcases Lib.indexB_cases s ⟨#[c]⟩ with h | ⟨i, h, hle⟩
    · rw [Lib.countB_miss _ _ h, Lib.splitB_zero]
      rw [e1] at h
      rw [splitS_miss c (L s) (fun b hb hbc => ?_)]
      · show [s] = [B (L s)]
        rw [B_L]
      · obtain ⟨k, hk⟩ := List.mem_iff_getElem?.1 hb
        exact Lib.indexByte_none h k (by rw [hk, hbc])
    · have hsz : (⟨#[c]⟩ : ByteArray).size = 1 := rfl
      rw [Lib.countB_hit _ _ i (by rw [hsz]; omega) h, Nat.add_comm 1, Lib.splitB_hit _ _ _ _ i h, ih _ (by rw [ByteArray.size_extract, hsz]; rw [hsz] at hle; omega)]
      rw [e1] at h
      obtain ⟨h1, h2⟩ := Lib.indexByte_some h
      have hlt : i < (L s).length := (List.getElem?_eq_some_iff.1 h1).1
      have hp : L s = (L s).take i ++ c :: (L s).drop (i + 1) := by
        conv => lhs; rw [← List.take_append_drop i (L s)]
        congr 1
        rw [List.drop_eq_getElem_cons hlt, (List.getElem?_eq_some_iff.1 h1).2]
      have hm : splitS c (L s) = (L s).take i :: splitS c ((L s).drop (i + 1)) := by
        conv => lhs; rw [hp]
        refine splitS_hit c _ _ (fun b hb hbc => ?_)
        obtain ⟨k, hk⟩ := List.mem_iff_getElem?.1 hb
        have hki : k < i := by
          have := (List.getElem?_eq_some_iff.1 hk).1
          rw [List.length_take] at this
          omega
        rw [List.getElem?_take_of_lt hki] at hk
        exact h2 k hki (by rw [hk, hbc])
      have x1 : s.extract 0 (i + 0) = B ((L s).take i) := by
        apply L_inj
        rw [L_extract, L_B, List.drop_zero, Nat.add_zero]
      have x2 : L (s.extract (i + 1) s.size) = (L s).drop (i + 1) := by
        rw [L_extract, size_L, List.take_length]
      rw [hm, List.map_cons, hsz, x1, x2]
theorem split_f (c : UInt8) (s : ByteArray) (h : s.size ≤ 1000000) : strings_Split.f s ⟨#[c]⟩ = some ((splitS c (L s)).map B) := by
  unfold strings_Split.f
  rw [if_pos ⟨h, Nat.le_refl 1⟩, split_bytes c s.size s (Nat.le_refl _)]
end Go.Proofs.YtipleegkonhfcaaGreatDoor.Q
set_option linter.unusedSimpArgs false
set_option linter.unusedVariables false
set_option maxRecDepth 10000
namespace Go.Proofs.YtipleegkonhfcaaGreatDoor.Q
open Go Go.RowKit Go.Lib Go.Proofs.YtipleegkonhfcaaGreatDoorW.PrintWords Go.Proofs.YtipleegkonhfcaaGreatDoorB Go.Proofs.YtipleegkonhfcaaGreatDoor.E Go.Proofs.YtipleegkonhfcaaGreatDoor.P Go.Proofs.YtipleegkonhfcaaGreatDoor.U Go.Proofs.YtipleegkonhfcaaGreatDoor.KF

def sameB (a b : ByteArray) : Bool := (lowerOf a).toList == (lowerOf b).toList
theorem wn1 (i : Nat) (h : i < 1000000) : wrap64 ((i : Int) + 1) = ((i + 1 : Nat) : Int) := by unfold wrap64; omega
theorem same_b (a b : ByteArray) (ha : a.size ≤ 1000000) (hb : b.size ≤ 1000000) : header_same.f a b = some (sameB a b) := by
  unfold header_same.f text_Lower.f
  rw [if_pos (by omega), if_pos (by omega)]
  rfl
theorem alike_b (a b : ByteArray) (ha : a.size ≤ 1000000) (hb : b.size ≤ 1000000) : lanternref09_Alike.f a b = some (sameB a b) := by
  unfold lanternref09_Alike.f lanternref01_Lower.f
  rw [if_pos (by omega), if_pos (by omega)]
  rfl
def Small (l : List S67) : Prop := l.length ≤ 100 ∧ ∀ h ∈ l, h.f0.size ≤ 1000000
def allV (nm : ByteArray) (l : List S67) : List ByteArray := (l.filter fun h => sameB h.f0 nm).map fun h => h.f1
theorem allV_len (nm : ByteArray) (l : List S67) : (allV nm l).length ≤ l.length := by
  unfold allV
  rw [List.length_map]
  exact List.length_filter_le _ _
theorem rdH (l : List S67) (i : Nat) (h : i < l.length) : rd_T67 l (i : Int) = l[i] := by
  show l.getD (i : Int).toNat z67 = l[i]
  rw [Int.toNat_natCast, List.getD_eq_getElem?_getD, List.getElem?_eq_getElem h, Option.getD_some]
theorem allV_step (nm : ByteArray) (l : List S67) (i : Nat) (h : i < l.length) : allV nm (l.drop i) = (if sameB l[i].f0 nm = true then [l[i].f1] else []) ++ allV nm (l.drop (i + 1)) := by
  rw [List.drop_eq_getElem_cons h]
  unfold allV
  rw [List.filter_cons]
  split <;> rfl
theorem all_loop (nm : ByteArray) (l : List S67) (hs : Small l) (hn : nm.size ≤ 1000000) : ∀ (d k i : Nat) (acc : List ByteArray), i + d = l.length → d < k → acc.length ≤ i → header_All.l0 k nm acc l (l.length : Int) (i : Int) = some (acc ++ allV nm (l.drop i))
  | 0, k + 1, i, acc, hi, hk, ha => by
    rw [header_All.l0, if_neg (by omega), List.drop_eq_nil_of_le (by omega)]
    simp [allV]
  | d + 1, k + 1, i, acc, hi, hk, ha => by
    have hl := hs.1
    have hlt : i < l.length := by omega
    have hsz := hs.2 l[i] (List.getElem_mem hlt)
    have ih := fun acc ha => all_loop nm l hs hn d k (i + 1) acc (by omega) (by omega) ha
    rw [header_All.l0, if_pos (by omega), if_pos (by omega), if_pos (by omega), rdH l i hlt, same_b _ _ hsz hn, Option.bind_some, wn1 i (by omega), allV_step nm l i hlt]
    cases sameB l[i].f0 nm with
    | true =>
      rw [if_pos rfl, if_pos rfl, if_pos (by omega), ih _ (by simp; omega)]
      simp
    | false =>
      rw [if_neg (by decide), if_neg (by decide), ih _ (by omega)]
      simp
theorem all_f (nm : ByteArray) (l : List S67) (hs : Small l) (hn : nm.size ≤ 1000000) (k : Nat) (hk : 1000 < k) : header_All.f k l nm = some (allV nm l) := by
  have := all_loop nm l hs hn l.length k 0 [] (by omega) (by have := hs.1; omega) (by simp)
  unfold header_All.f
  exact this
theorem rall_loop (nm : ByteArray) (l : List S67) (hs : Small l) (hn : nm.size ≤ 1000000) : ∀ (d k i : Nat) (acc : List ByteArray), i + d = l.length → d < k → acc.length ≤ i → lanternref09_All.l0 k l nm acc (i : Int) = some (acc ++ allV nm (l.drop i))
  | 0, k + 1, i, acc, hi, hk, ha => by
    rw [lanternref09_All.l0, if_neg (by omega), List.drop_eq_nil_of_le (by omega)]
    simp [allV]
  | d + 1, k + 1, i, acc, hi, hk, ha => by
    have hl := hs.1
    have hlt : i < l.length := by omega
    have hsz := hs.2 l[i] (List.getElem_mem hlt)
    have ih := fun acc ha => rall_loop nm l hs hn d k (i + 1) acc (by omega) (by omega) ha
    rw [lanternref09_All.l0, if_pos (by omega), if_pos (by omega), rdH l i hlt, alike_b _ _ hsz hn, Option.bind_some, wn1 i (by omega), allV_step nm l i hlt]
    cases sameB l[i].f0 nm with
    | true =>
      rw [if_pos rfl, if_pos rfl, if_pos (by omega), ih _ (by simp; omega)]
      simp
    | false =>
      rw [if_neg (by decide), if_neg (by decide), ih _ (by omega)]
      simp
theorem rall_f (nm : ByteArray) (l : List S67) (hs : Small l) (hn : nm.size ≤ 1000000) (k : Nat) (hk : 1000 < k) : lanternref09_All.f k l nm = some (allV nm l) := by
  have := rall_loop nm l hs hn l.length k 0 [] (by omega) (by have := hs.1; omega) (by simp)
  unfold lanternref09_All.f
  exact this

theorem headL_size {l : List UInt8} {h : S67} (e : headL l = some h) : h.f0.size ≤ l.length ∧ h.f1.size ≤ l.length := by
  unfold headL at e
  split at e
  · cases e
  · next x hx =>
    split at e
    · injection e with e
      subst e
      obtain ⟨e1, _⟩ := splitC_some _ _ x.1 x.2 hx
      have e2 := congrArg List.length e1
      rw [List.length_append, List.length_cons] at e2
      have e3 := trimS_length x.2 blL
      refine ⟨?_, ?_⟩
      · show (B x.1).size ≤ _
        rw [size_B]
        omega
      · show (B (Lib.trimS x.2 blL)).size ≤ _
        rw [size_B]
        omega
    · cases e
theorem parseM_small (bs : List UInt8) : ∀ (f p : Nat) (acc : List S67), (∀ h ∈ acc, h.f0.size ≤ bs.length ∧ h.f1.size ≤ bs.length) → ∀ h ∈ (parseM bs f p acc).1, h.f0.size ≤ bs.length ∧ h.f1.size ≤ bs.length
  | 0, p, acc, ha => by simp [parseM]
  | f + 1, p, acc, ha => by
    rw [parseM]
    split
    · split <;> simp
    · next x hx =>
      obtain ⟨e1, _⟩ := splitC_some _ _ x.1 x.2 hx
      have e2 := congrArg List.length e1
      rw [List.length_append, List.length_cons, List.length_drop] at e2
      split
      · simp
      · split
        · exact ha
        · split
          · simp
          · next h hh =>
            split
            · simp
            · have h1 := headL_size hh
              have h2 := chomp_length x.1
              refine parseM_small bs f _ _ (fun q hq => ?_)
              rcases List.mem_append.1 hq with hq | hq
              · exact ha q hq
              · rw [List.mem_singleton.1 hq]
                omega
theorem allV_mem {nm : ByteArray} {l : List S67} {n : Nat} (h : ∀ x ∈ l, x.f0.size ≤ n ∧ x.f1.size ≤ n) : ∀ v ∈ allV nm l, v.size ≤ n := by
  intro v hv
  unfold allV at hv
  obtain ⟨x, hx, rfl⟩ := List.mem_map.1 hv
  exact (h x (List.mem_filter.1 hx).1).2
def inR (a b : Nat) (c : UInt8) : Bool := decide (a ≤ c.toNat) && decide (c.toNat ≤ b)
theorem hwithin_l (s : ByteArray) (hs : s.size ≤ 1000000000) (a b : Nat) : ∀ (d k i : Nat), i + d = s.size → d < k → http_within.l0 k s (a : Int) (b : Int) (i : Int) = some (((L s).drop i).all (inR a b))
  | 0, k + 1, i, hi, hk => by
    rw [http_within.l0, if_neg (by omega), List.drop_eq_nil_of_le (by rw [← size_L]; omega)]
    rfl
  | d + 1, k + 1, i, hi, hk => by
    have ih := hwithin_l s hs a b d k (i + 1) (by omega) (by omega)
    have hw : wrap64 ((i : Int) + 1) = ((i + 1 : Nat) : Int) := wrap_nat (i + 1) (by omega) (by omega)
    rw [http_within.l0, if_pos (by omega), if_pos (by omega), bt_gb, hw, ih, dropD (L s) i (by rw [← size_L]; omega), List.all_cons]
    clear hw
    unfold gb inR
    by_cases h1 : ((L s).getD i 0).toNat < a
    · rw [if_pos (by omega), decide_eq_false (by omega)]
      rfl
    · rw [if_neg (by omega), decide_eq_true (show a ≤ ((L s).getD i 0).toNat by omega)]
      by_cases h2 : b < ((L s).getD i 0).toNat
      · rw [if_pos (by omega), decide_eq_false (by omega)]
        rfl
      · rw [if_neg (by omega), decide_eq_true (show ((L s).getD i 0).toNat ≤ b by omega)]
        rfl
theorem hwithin_f (s : ByteArray) (hs : s.size ≤ 1000000000) (a b : Nat) (k : Nat) (hk : s.size < k) : http_within.f k s (a : Int) (b : Int) = some ((L s).all (inR a b)) := by
  have := hwithin_l s hs a b s.size k 0 (by omega) hk
  rw [List.drop_zero] at this
  unfold http_within.f
  exact this
theorem between_l (s : ByteArray) (hs : s.size ≤ 1000000000) (a b : Nat) : ∀ (d k i : Nat), i + d = s.size → d < k → lanternref11_between.l0 k s (a : Int) (b : Int) (i : Int) = some (((L s).drop i).all (inR a b))
  | 0, k + 1, i, hi, hk => by
    rw [lanternref11_between.l0, if_neg (by omega), List.drop_eq_nil_of_le (by rw [← size_L]; omega)]
    rfl
  | d + 1, k + 1, i, hi, hk => by
    have ih := between_l s hs a b d k (i + 1) (by omega) (by omega)
    have hw : wrap64 ((i : Int) + 1) = ((i + 1 : Nat) : Int) := wrap_nat (i + 1) (by omega) (by omega)
    rw [lanternref11_between.l0, if_pos (by omega), if_pos (by omega), bt_gb, hw, ih, dropD (L s) i (by rw [← size_L]; omega), List.all_cons]
    clear hw
    unfold gb inR
    by_cases h1 : ((L s).getD i 0).toNat < a
    · rw [if_pos (by omega), decide_eq_false (by omega)]
      rfl
    · rw [if_neg (by omega), decide_eq_true (show a ≤ ((L s).getD i 0).toNat by omega)]
      by_cases h2 : b < ((L s).getD i 0).toNat
      · rw [if_pos (by omega), decide_eq_false (by omega)]
        rfl
      · rw [if_neg (by omega), decide_eq_true (show ((L s).getD i 0).toNat ≤ b by omega)]
        rfl
theorem between_f (s : ByteArray) (hs : s.size ≤ 1000000000) (a b : Nat) (k : Nat) (hk : s.size < k) : lanternref11_between.f k s (a : Int) (b : Int) = some ((L s).all (inR a b)) := by
  have := between_l s hs a b s.size k 0 (by omega) hk
  rw [List.drop_zero] at this
  unfold lanternref11_between.f
  exact this
/-! ### a target -/
def targetL (l : List UInt8) : Bool := decide (l ≠ []) && decide (l.length ≤ 2048) && l.all (inR 33 126)
theorem target_f (s : ByteArray) (hs : s.size ≤ 1000000000) (k : Nat) (hk : s.size < k) : http_target.f k s = some (targetL (L s)) := by
  have hw : http_within.f k s 33 126 = some ((L s).all (inR 33 126)) := hwithin_f s hs 33 126 k hk
  have hz := size_L s
  unfold http_target.f targetL
  rw [toList_L, hw]
  by_cases h1 : L s = []
  · rw [if_pos h1, h1]
    rfl
  · rw [if_neg h1, decide_eq_true h1]
    by_cases h2 : (L s).length ≤ 2048
    · rw [if_pos (by omega), decide_eq_true h2]
      rfl
    · rw [if_neg (by omega), decide_eq_false h2]
      rfl
end Go.Proofs.YtipleegkonhfcaaGreatDoor.Q
set_option linter.unusedSimpArgs false
set_option linter.unusedVariables false
set_option maxRecDepth 10000
namespace Go.Proofs.YtipleegkonhfcaaGreatDoor.Q
open Go Go.RowKit Go.Lib Go.Proofs.YtipleegkonhfcaaGreatDoorW.PrintWords Go.Proofs.YtipleegkonhfcaaGreatDoorB Go.Proofs.YtipleegkonhfcaaGreatDoor.E Go.Proofs.YtipleegkonhfcaaGreatDoor.P Go.Proofs.YtipleegkonhfcaaGreatDoor.U Go.Proofs.YtipleegkonhfcaaGreatDoor.KF

def firstM (bs : List UInt8) : ByteArray × Int × Int := match splitC 10 (bs.take 4096) with
  | some x => (B (chomp x.1), ((x.1.length + 1 : Nat) : Int), 0)
  | none => ((⟨#[]⟩ : ByteArray), 0, if 4096 < bs.length then 3 else 10)
theorem splitC_take {c : UInt8} {l u t : List UInt8} {n : Nat} (h : splitC c (l.take n) = some (u, t)) : u.length < n ∧ u.length < l.length ∧ l.take u.length = u := by
  obtain ⟨e, _⟩ := splitC_some _ _ _ _ h
  have hl := congrArg List.length e
  rw [List.length_take, List.length_append, List.length_cons] at hl
  refine ⟨by omega, by omega, ?_⟩
  have h2 : (l.take n).take u.length = u := by rw [e, List.take_left]
  rw [List.take_take, Nat.min_eq_left (by omega)] at h2
  exact h2
theorem first_f (bs : List UInt8) (hb : bs.length ≤ 1000000) (k : Nat) (hk : 5 < k) : http_first.f k (nums bs) = some (firstM bs) := by
  obtain ⟨k, rfl⟩ : ∃ m, k = m + 1 := ⟨k - 1, by omega⟩
  have hnl := nums_length bs
  have hm : mn ((nums bs).length : Int) 4096 = ((min bs.length 4096 : Nat) : Int) := by
    rw [hnl]
    unfold mn
    split <;> omega
  have ht : bs.take (min bs.length 4096) = bs.take 4096 := by
    rcases Nat.le_total bs.length 4096 with h | h
    · rw [Nat.min_eq_left h, List.take_length, List.take_of_length_le h]
    · rw [Nat.min_eq_right h]
  unfold http_first.f firstM
  rw [hm, if_pos (by omega), if_pos (by omega), Int.toNat_natCast, nums_take, ht]
  unfold bytes_IndexByte.f
  rw [bytesOf_nums, show (10 : Int).toNat.toUInt8 = 10 from rfl, indexByte_split, Option.bind_some]
  cases hs : splitC 10 (bs.take 4096) with
  | none =>
    simp only
    rw [if_pos (by omega), http_first.j0]
    by_cases h : 4096 < bs.length
    · rw [if_pos (by rw [hnl]; exact decide_eq_true (by omega)), if_pos h]
    · rw [if_neg (by rw [hnl]; simp; omega), if_pos (by omega), if_neg h]
  | some x =>
    obtain ⟨u, t⟩ := x
    obtain ⟨h1, h2, h3⟩ := splitC_take hs
    have hc := chomp_length u
    simp only
    have hw : wrap64 ((u.length : Int) + 1) = ((u.length + 1 : Nat) : Int) := wrap_nat (u.length + 1) (by omega) (by omega)
    rw [if_neg (by omega), http_first.j0, if_neg (by decide), if_neg (by omega), if_pos (by omega), if_pos (by omega), Int.toNat_natCast, nums_take, strOf_nums, h3, hw]
    unfold strings_TrimSuffix.f
    rw [if_pos (by rw [size_B]; omega), Option.bind_some]
    rw [show (⟨(Lib.trimSuffix (B u).data.toList [13]).toArray⟩ : ByteArray) = B (chomp u) from by rw [show (B u).data.toList = u from L_B u]; rfl]
end Go.Proofs.YtipleegkonhfcaaGreatDoor.Q
set_option linter.unusedSimpArgs false
set_option linter.unusedVariables false
set_option maxRecDepth 10000
namespace Go.Proofs.YtipleegkonhfcaaGreatDoor.Q
open Go Go.RowKit Go.Lib Go.Proofs.YtipleegkonhfcaaGreatDoorW.PrintWords Go.Proofs.YtipleegkonhfcaaGreatDoorB Go.Proofs.YtipleegkonhfcaaGreatDoor.E Go.Proofs.YtipleegkonhfcaaGreatDoor.P Go.Proofs.YtipleegkonhfcaaGreatDoor.U Go.Proofs.YtipleegkonhfcaaGreatDoor.KF

/-! ### numbers -/
def numV : List UInt8 → Nat → Nat
  | [], n => n
  | c :: r, n => numV r (n * 10 + (c.toNat - 48))
theorem numV_lt : ∀ (l : List UInt8) (n : Nat), l.all (inR 48 57) = true → numV l n + 1 ≤ (n + 1) * 10 ^ l.length
  | [], n, h => by simp [numV]
  | c :: r, n, h => by
    rw [List.all_cons, Bool.and_eq_true] at h
    have ih := numV_lt r (n * 10 + (c.toNat - 48)) h.2
    have hc : c.toNat ≤ 57 := by
      have := h.1
      unfold inR at this
      rw [Bool.and_eq_true] at this
      exact of_decide_eq_true this.2
    rw [numV, List.length_cons, Nat.pow_succ]
    refine Nat.le_trans ih ?_
    rw [Nat.mul_comm (10 ^ r.length) 10, ← Nat.mul_assoc]
    exact Nat.mul_le_mul_right _ (by omega)
theorem decFrom_num : ∀ (l : List UInt8) (n : Nat), l.all (inR 48 57) = true → Lib.decFrom n l = some (numV l n)
  | [], n, h => rfl
  | c :: r, n, h => by
    rw [List.all_cons, Bool.and_eq_true] at h
    have hc := h.1
    unfold inR at hc
    rw [Bool.and_eq_true] at hc
    have h1 := of_decide_eq_true hc.1
    have h2 := of_decide_eq_true hc.2
    have hv : Lib.digitVal c = some (c.toNat - 48) := by
      unfold Lib.digitVal
      first
        | rw [if_pos ⟨h1, h2⟩]
        | simp [h1, h2]
    rw [Lib.decFrom, hv]
    exact decFrom_num r _ h.2
theorem atoi_num (l : List UInt8) (h0 : l ≠ []) (h : l.all (inR 48 57) = true) : Lib.atoi l = some ((numV l 0 : Nat) : Int) := by
  cases l with
  | nil => exact absurd rfl h0
  | cons c r =>
    have hd := decFrom_num (c :: r) 0 h
    rw [List.all_cons, Bool.and_eq_true] at h
    have hc := h.1
    unfold inR at hc
    rw [Bool.and_eq_true] at hc
    have h1 := of_decide_eq_true hc.1
    have n1 : (c == 45) = false := by
      rw [beq_eq_false_iff_ne]
      rintro rfl
      revert h1
      decide
    have n2 : (c == 43) = false := by
      rw [beq_eq_false_iff_ne]
      rintro rfl
      revert h1
      decide
    rw [Lib.atoi, n1, n2, if_neg (by decide), if_neg (by decide)]
    unfold Lib.decNat
    rw [List.isEmpty_cons, if_neg (by decide), hd]
    rfl
/-! ### a body of so many bytes -/
def sizedM (bs : List UInt8) (n : Nat) : List Int × Int × Int := if n > 32768 then ([], 0, 3) else if n > bs.length then ([], 0, 10) else (nums (bs.take n), (n : Int), 0)
theorem sized_f (bs : List UInt8) (hb : bs.length ≤ 1000000) (n k : Nat) : http_body.j0 (k + 1) (nums bs) (n : Int) = some (sizedM bs n) := by
  have hnl := nums_length bs
  unfold sizedM
  rw [http_body.j0]
  by_cases h1 : n > 32768
  · rw [if_pos (by omega), if_pos h1]
  · rw [if_neg (by omega), if_neg h1]
    by_cases h2 : n > bs.length
    · rw [if_pos (by omega), if_pos h2]
    · rw [if_neg (by omega), if_neg h2, if_pos (by omega), if_pos (by omega), Int.toNat_natCast, nums_take]
      unfold slices_Clone_byte_byte.f
      rw [if_pos (by rw [nums_length, List.length_take]; omega), Option.bind_some]
def okY (a y : ByteArray) : Bool := (L y == L a) && (decide (1 ≤ y.size) && (decide (y.size ≤ 8) && (L y).all (inR 48 57)))
theorem compactUpTo_one (d : Array (List UInt8)) : ∀ m, 1 ≤ (Lib.compactUpTo d (m + 1)).length ∧ ((Lib.compactUpTo d (m + 1)).length = 1 ↔ ∀ j, j ≤ m → d[j]! = d[0]!)
  | 0 => by
    rw [Lib.compactUpTo_succ, Lib.keeps_lt_one d 0 (by omega)]
    refine ⟨by simp [Lib.compactUpTo], by simp [Lib.compactUpTo], fun _ => by simp [Lib.compactUpTo]⟩
  | m + 1 => by
    obtain ⟨h1, h2⟩ := compactUpTo_one d m
    rw [Lib.compactUpTo_succ, List.length_append]
    by_cases hk : d[m + 1]! = d[m]!
    · rw [Lib.keeps_neg (Nat.succ_pos m) hk]
      simp only [Bool.false_eq_true, if_false, List.length_nil, Nat.add_zero]
      refine ⟨h1, h2.trans ⟨fun h j hj => ?_, fun h j hj => h j (by omega)⟩⟩
      rcases Nat.lt_or_ge j (m + 1) with hlt | hge
      · exact h j (by omega)
      · rw [show j = m + 1 from by omega, hk]
        exact h m (Nat.le_refl _)
    · rw [Lib.keeps_pos hk]
      simp only [if_true, List.length_singleton]
      refine ⟨by omega, fun h => by omega, fun h => ?_⟩
      exact absurd ((h (m + 1) (Nat.le_refl _)).trans (h m (by omega)).symm) hk
theorem compact_one (x : ByteArray) (r : List ByteArray) : (Lib.compact ((x :: r).map (·.data.toList))).length = 1 ↔ ∀ y ∈ r, y = x := by
  have hl : ((x :: r).map (·.data.toList)).length = r.length + 1 := by simp
  unfold Lib.compact
  rw [hl, (compactUpTo_one _ r.length).2]
  have hg : ∀ j (hj : j < r.length + 1), (((x :: r).map (·.data.toList)).toArray)[j]! = ((x :: r)[j]'(by simpa using hj)).data.toList := by
    intro j hj
    rw [getElem!_pos _ _ (by simpa using hj), List.getElem_toArray, List.getElem_map]
  constructor
  · intro h y hy
    obtain ⟨i, hi, rfl⟩ := List.mem_iff_getElem.1 hy
    have := h (i + 1) (by omega)
    rw [hg (i + 1) (by omega), hg 0 (by omega)] at this
    exact L_inj this
  · intro h j hj
    rw [hg j (by omega), hg 0 (by omega)]
    cases j with
    | zero => rfl
    | succ j =>
      have := h (r[j]'(by omega)) (List.getElem_mem _)
      show L ((x :: r)[j + 1]'_) = L x
      rw [List.getElem_cons_succ, this]
theorem okY_all (x : ByteArray) (r : List ByteArray) : (x :: r).all (okY x) = (decide ((Lib.compact ((x :: r).map (·.data.toList))).length = 1) && (decide (1 ≤ x.size) && (decide (x.size ≤ 8) && (L x).all (inR 48 57)))) := by
  rw [Bool.eq_iff_iff, List.all_eq_true, Bool.and_eq_true, decide_eq_true_iff, compact_one]
  constructor
  · intro h
    have h0 := h x List.mem_cons_self
    unfold okY at h0
    rw [Bool.and_eq_true] at h0
    refine ⟨fun y hy => ?_, h0.2⟩
    have h1 := h y (List.mem_cons_of_mem _ hy)
    unfold okY at h1
    rw [Bool.and_eq_true] at h1
    exact L_inj (beq_iff_eq.1 h1.1)
  · rintro ⟨h1, h2⟩ y hy
    have : y = x := by
      rcases List.mem_cons.1 hy with h | h
      · exact h
      · exact h1 y h
    subst this
    unfold okY
    rw [Bool.and_eq_true]
    exact ⟨beq_self_eq_true _, h2⟩
/-! ### the headers' names, whatever their case -/
theorem allV_low (nm nm' : ByteArray) (l : List S67) (h : lowerOf nm = lowerOf nm') : allV nm l = allV nm' l := by
  unfold allV sameB
  rw [h]
def teB : ByteArray := ⟨#[116, 114, 97, 110, 115, 102, 101, 114, 45, 101, 110, 99, 111, 100, 105, 110, 103]⟩
def clB : ByteArray := ⟨#[99, 111, 110, 116, 101, 110, 116, 45, 108, 101, 110, 103, 116, 104]⟩
theorem te_low : lowerOf (⟨#[84, 114, 97, 110, 115, 102, 101, 114, 45, 69, 110, 99, 111, 100, 105, 110, 103]⟩ : ByteArray) = lowerOf teB := by kernel_rfl
theorem cl_low : lowerOf (⟨#[67, 111, 110, 116, 101, 110, 116, 45, 76, 101, 110, 103, 116, 104]⟩ : ByteArray) = lowerOf clB := by kernel_rfl
def chunkedL : List UInt8 := [99, 104, 117, 110, 107, 101, 100]
/-- Which body there is: 0 none, 1 of so many bytes, 2 in chunks, 3 a bad one. -/
def kindM (c s : List ByteArray) : Int × Int := match c with
  | x :: r => if r = [] ∧ L (lowerOf x) = chunkedL ∧ s = [] then (2, 0) else (3, 0)
  | [] => match s with
    | [] => (0, 0)
    | y :: t => if (y :: t).all (okY y) = true then (1, ((numV (L y) 0 : Nat) : Int)) else (3, 0)
theorem kindM_cons (x : ByteArray) (r s : List ByteArray) : kindM (x :: r) s = if r = [] ∧ L (lowerOf x) = chunkedL ∧ s = [] then (2, 0) else (3, 0) := rfl
def Small2 (l : List S67) : Prop := l.length ≤ 100 ∧ ∀ h ∈ l, h.f0.size ≤ 1000000 ∧ h.f1.size ≤ 1000000
theorem Small2.small {l : List S67} (h : Small2 l) : Small l := ⟨h.1, fun x hx => (h.2 x hx).1⟩
def kj0M (c s : List ByteArray) (b : Bool) : Int × Int := if b = true then (2, 0) else match c with
  | x :: r => (3, 0)
  | [] => match s with
    | [] => (0, 0)
    | y :: t => if (y :: t).all (okY y) = true then (1, ((numV (L y) 0 : Nat) : Int)) else (3, 0)
theorem kind_j0 (c s : List ByteArray) (hs : ∀ v ∈ s, v.size ≤ 1000000) (hsl : s.length ≤ 100) (b : Bool) (k : Nat) (hk : 30 < k) : http_kind.j0 k c s b = some (kj0M c s b) := by
  obtain ⟨k, rfl⟩ : ∃ m, k = m + 1 := ⟨k - 1, by omega⟩
  rw [http_kind.j0]
  unfold kj0M
  cases b with
  | true => rfl
  | false =>
    rw [if_neg (by decide)]
    cases c with
    | cons x r =>
      rw [if_pos (show (((x :: r).length : Nat) : Int) > 0 from by rw [List.length_cons]; omega)]
      rfl
    | nil =>
      rw [if_neg (show ¬ ((([] : List ByteArray).length : Nat) : Int) > 0 from by decide)]
      cases s with
      | nil =>
        rw [if_pos (show ((([] : List ByteArray).length : Nat) : Int) = 0 from rfl)]
        rfl
      | cons y t =>
        have hy := hs y List.mem_cons_self
        rw [if_neg (show ¬ (((y :: t).length : Nat) : Int) = 0 from by rw [List.length_cons]; omega)]
        show _ = some (if (y :: t).all (okY y) = true then ((1, ((numV (L y) 0 : Nat) : Int)) : Int × Int) else (3, 0))
        unfold slices_Compact_string_string.f
        rw [if_pos (by rw [List.length_cons] at hsl ⊢; omega), Option.bind_some, List.length_map, okY_all]
        have h0 : rdOf ByteArray.empty (y :: t) 0 = y := rfl
        have hz := size_L y
        rw [h0]
        by_cases h1 : (Lib.compact ((y :: t).map (·.data.toList))).length = 1
        · rw [if_pos (by omega), if_pos (by rw [List.length_cons]; omega), decide_eq_true h1, Bool.true_and, toList_L]
          by_cases h2 : L y = []
          · have : y.size = 0 := by rw [hz, h2]; rfl
            rw [if_pos h2, decide_eq_false (by omega)]
            rfl
          · have hp : 0 < (L y).length := List.length_pos_iff.2 h2
            rw [if_neg h2, decide_eq_true (show 1 ≤ y.size by omega), Bool.true_and]
            by_cases h3 : y.size ≤ 8
            · have hw : http_within.f k y 48 57 = some ((L y).all (inR 48 57)) := hwithin_f y (by omega) 48 57 k (by omega)
              rw [if_neg (by omega), decide_eq_true h3, Bool.true_and, hw, Option.bind_some]
              cases h4 : (L y).all (inR 48 57) with
              | false => rfl
              | true =>
                rw [if_pos rfl, if_pos rfl]
                unfold strconv_Atoi.f
                rw [if_pos (by omega), show y.data.toList = L y from rfl, atoi_num (L y) h2 h4]
                rfl
            · rw [if_pos (by omega), decide_eq_false h3]
              rfl
        · rw [if_neg (by omega), decide_eq_false h1]
          rfl
theorem kind_f (l : List S67) (hl : Small2 l) (k : Nat) (hk : 1000 < k) : http_kind.f k l = some (kindM (allV teB l) (allV clB l)) := by
  have hs1 : ∀ v ∈ allV teB l, v.size ≤ 1000000 := allV_mem hl.2
  have hs2 : ∀ v ∈ allV clB l, v.size ≤ 1000000 := allV_mem hl.2
  have hl2 : (allV clB l).length ≤ 100 := Nat.le_trans (allV_len _ _) hl.1
  unfold http_kind.f
  rw [all_f _ l hl.small (by decide) k hk, all_f _ l hl.small (by decide) k hk, Option.bind_some, Option.bind_some, allV_low _ _ l te_low, allV_low _ _ l cl_low]
  generalize hc : allV teB l = c at hs1 ⊢
  generalize hs : allV clB l = s at hs2 hl2 ⊢
  clear hc hs
  cases c with
  | nil =>
    rw [if_neg (by decide), kind_j0 [] s hs2 hl2 false k (by omega)]
    rfl
  | cons x r =>
    cases r with
    | cons y t =>
      rw [if_neg (by simp only [List.length_cons]; omega), kind_j0 _ s hs2 hl2 false k (by omega)]
      rw [kindM_cons, if_neg (by rintro ⟨h, _⟩; cases h)]
      rfl
    | nil =>
      have hx := hs1 x List.mem_cons_self
      rw [if_pos (show (([x].length : Nat) : Int) = 1 from rfl), if_pos (show (0 : Int) < (([x].length : Nat) : Int) from Int.zero_lt_one)]
      unfold text_Lower.f
      rw [show rdOf ByteArray.empty [x] 0 = x from rfl, if_pos (by omega), Option.bind_some, toList_L]
      rw [kindM_cons]
      by_cases h1 : L (lowerOf x) = chunkedL
      · rw [if_pos (show L (lowerOf x) = [99, 104, 117, 110, 107, 101, 100] from h1), kind_j0 _ s hs2 hl2 _ k (by omega)]
        unfold kj0M
        cases s with
        | nil => rw [if_pos (show ((([] : List ByteArray).length : Int) == 0) = true from rfl), if_pos ⟨rfl, h1, rfl⟩]
        | cons y t => rw [if_neg (show ¬ (((y :: t).length : Int) == 0) = true from by rw [beq_iff_eq, List.length_cons]; omega), if_neg (by rintro ⟨_, _, h⟩; cases h)]
      · rw [if_neg (show ¬ L (lowerOf x) = [99, 104, 117, 110, 107, 101, 100] from h1), kind_j0 _ s hs2 hl2 _ k (by omega), if_neg (by rintro ⟨_, h, _⟩; exact h1 h)]
        rfl
/-! ### the body -/
def bodyM (bs : List UInt8) (c s : List ByteArray) (rest : Bool) : List Int × Int × Int := match kindM c s with
  | (t, n) => if t = 3 then ([], 0, 5) else if t = 2 then decM bs (bs.length + 1) 0 [] else if t = 0 ∧ rest = true then sizedM bs bs.length else sizedM bs n.toNat
theorem kindM_facts (c s : List ByteArray) : 0 ≤ (kindM c s).2 := by
  unfold kindM
  repeat (first | split | simp | omega)
theorem body_f (bs : List UInt8) (hb : bs.length ≤ 100000) (l : List S67) (hl : Small2 l) (rest : Bool) (k : Nat) (hk : 7 * bs.length + 3000 < k) : http_body.f k (nums bs) l rest = some (bodyM bs (allV teB l) (allV clB l) rest) := by
  obtain ⟨k, rfl⟩ : ∃ m, k = m + 1 := ⟨k - 1, by omega⟩
  have hnl := nums_length bs
  unfold http_body.f bodyM
  rw [kind_f l hl _ (by omega), Option.bind_some]
  have hn := kindM_facts (allV teB l) (allV clB l)
  generalize kindM (allV teB l) (allV clB l) = q at hn ⊢
  obtain ⟨t, n⟩ := q
  simp only at hn ⊢
  by_cases h3 : t = 3
  · rw [if_pos h3, if_pos h3]
  · rw [if_neg h3, if_neg h3]
    by_cases h2 : t = 2
    · have hd : chunk_Decode.f (k + 1) (nums bs) = some (decM bs (bs.length + 1) 0 []) := by
        unfold chunk_Decode.f
        exact prog_dec bs hb (bs.length + 1) (k + 1) 0 [] (by omega) (by omega) (by omega) (by simp)
      rw [if_pos h2, if_pos h2, hd, Option.bind_some]
    · rw [if_neg h2, if_neg h2]
      have hc : n = ((n.toNat : Nat) : Int) := by omega
      by_cases h0 : t = 0
      · rw [if_pos h0]
        cases rest with
        | true =>
          rw [if_pos rfl, if_pos ⟨h0, rfl⟩, hnl]
          exact sized_f bs (by omega) _ k
        | false =>
          rw [if_neg (by decide), if_neg (by rintro ⟨_, h⟩; cases h), hc]
          exact sized_f bs (by omega) _ k
      · rw [if_neg h0, if_neg (by rintro ⟨h, _⟩; exact h0 h), hc]
        exact sized_f bs (by omega) _ k
end Go.Proofs.YtipleegkonhfcaaGreatDoor.Q
