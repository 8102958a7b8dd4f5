/- The law HeaderParses. -/
import Derived.Test.YtipleegkonhfcaaGreatDoorB
import Derived.Test.YtipleegkonhfcaaGreatDoorP4
import Derived.Test.YtipleegkonhfcaaGreatDoorP5
import Derived.Test.YtipleegkonhfcaaGreatDoorP7
import Derived.Test.YtipleegkonhfcaaGreatDoorP9
import Derived.Test.YtipleegkonhfcaaGreatDoorP13
import Derived.Lib.Index
/- Headers read: the program's reader and the reference's are one plain function; the law HeaderParses. -/
/- Headers, plainly: which texts are names and values; the program's and the reference's answers are these. -/
/- Plain lemmas: trimming by any set of bytes; no program in sight. -/
set_option linter.unusedSimpArgs false
namespace Go.Proofs.YtipleegkonhfcaaGreatDoorB
open Go Go.RowKit Go.Lib Go.Proofs.YtipleegkonhfcaaGreatDoorW.PrintWords

theorem u8_eq (c d : UInt8) : c = d ↔ (c.toNat : Int) = (d.toNat : Int) := ⟨by rintro rfl; rfl, fun h => UInt8.toNat_inj.mp (by omega)⟩
theorem wrap_nat {x : Int} (n : Nat) (h : x = (n : Int)) (hn : n ≤ 9223372036854775807) : wrap64 x = (n : Int) := by subst h; exact wrap_id (by omega) (by omega)
theorem trimS_range (cs l : List UInt8) (a b : Nat) (hab : a ≤ b) (hb : b ≤ l.length) (ha : ∀ j, j < a → cs.contains (l.getD j 0) = true) (hB : ∀ j, b ≤ j → j < l.length → cs.contains (l.getD j 0) = true)
    (h1 : a < b → cs.contains (l.getD a 0) = false) (h2 : a < b → cs.contains (l.getD (b - 1) 0) = false) (h0 : a = b → a = l.length ∨ b = 0) : Lib.trimS l cs = (l.take b).drop a := by
  have gd : ∀ (j : Nat) (c : UInt8), l[j]? = some c → l.getD j 0 = c := fun j c h => by rw [List.getD_eq_getElem?_getD, h]; rfl
  rcases Nat.lt_or_ge a b with hlt | hge
  · have hr : Lib.trimRightS l cs = l.take b := Lib.trimRightS_take l cs b hb
      (fun j c hj hc => by
        have hl := (List.getElem?_eq_some_iff.1 hc).1
        have := hB j hj hl
        rw [gd j c hc] at this
        exact this)
      (fun c _ hc => by
        have := h2 hlt
        rw [gd _ c hc] at this
        exact this)
    unfold Lib.trimS
    rw [hr]
    exact Lib.trimLeftS_drop (l.take b) cs a (by rw [List.length_take]; omega)
      (fun j c hj hc => by
        rw [List.getElem?_take_of_lt (by omega)] at hc
        have := ha j hj
        rw [gd j c hc] at this
        exact this)
      (fun c hc => by
        rw [List.getElem?_take_of_lt (by omega)] at hc
        have := h1 hlt
        rw [gd a c hc] at this
        exact this)
  · obtain rfl : a = b := by omega
    have hall : ∀ j, j < l.length → cs.contains (l.getD j 0) = true := fun j hj => by
      rcases Nat.lt_or_ge j a with h | h
      · exact ha j h
      · exact hB j h hj
    have hr : Lib.trimRightS l cs = l.take 0 := Lib.trimRightS_take l cs 0 (Nat.zero_le _)
      (fun j c _ hc => by
        have hl := (List.getElem?_eq_some_iff.1 hc).1
        have := hall j hl
        rw [gd j c hc] at this
        exact this)
      (fun c h _ => absurd h (by omega))
    unfold Lib.trimS
    rw [hr]
    rw [List.drop_eq_nil_of_le (by rw [List.length_take]; omega)]
    simp [Lib.trimLeftS]
theorem dropWhile_head (p : UInt8 → Bool) : ∀ (l : List UInt8) (c : UInt8) (t : List UInt8), l.dropWhile p = c :: t → p c = false
  | [], _, _, h => by simp at h
  | x :: l, c, t, h => by
    rw [List.dropWhile_cons] at h
    split at h
    · exact dropWhile_head p l c t h
    · rename_i hx
      injection h with h _
      subst h
      simpa using hx
theorem dropWhile_id (p : UInt8 → Bool) (l : List UInt8) (h : ∀ c t, l = c :: t → p c = false) : l.dropWhile p = l := by
  cases l with
  | nil => rfl
  | cons c t => rw [List.dropWhile_cons, if_neg (by rw [h c t rfl]; simp)]
/-- Trimmed: no white at either end. -/
def TrimmedS (cs l : List UInt8) : Prop := (∀ c t, l = c :: t → cs.contains c = false) ∧ (∀ c t, l = t ++ [c] → cs.contains c = false)
theorem trimS_trimmed (cs l : List UInt8) : TrimmedS cs (Lib.trimS l cs) := by
  unfold Lib.trimS Lib.trimLeftS Lib.trimRightS
  refine ⟨fun c t h => dropWhile_head _ _ c t h, fun c t h => ?_⟩
  generalize hm : l.reverse.dropWhile (cs.contains ·) = m at h
  have hs : (m.reverse.dropWhile (cs.contains ·)) <:+ m.reverse := List.dropWhile_suffix _
  obtain ⟨u, hu⟩ := hs
  rw [h] at hu
  have hm2 : m = c :: (u ++ t).reverse := by
    have := congrArg List.reverse hu
    rw [List.reverse_reverse] at this
    rw [← this]
    simp
  have := dropWhile_head (cs.contains ·) l.reverse c _ (hm.trans hm2)
  exact this
theorem trimS_id {cs l : List UInt8} (h : TrimmedS cs l) : Lib.trimS l cs = l := by
  have e : Lib.trimRightS l cs = l := by
    show (List.dropWhile (cs.contains ·) l.reverse).reverse = l
    rw [dropWhile_id (cs.contains ·) l.reverse (fun c t hc => h.2 c t.reverse (by have := congrArg List.reverse hc; simpa using this)), List.reverse_reverse]
  unfold Lib.trimS
  rw [e]
  exact dropWhile_id _ l (fun c t hc => h.1 c t hc)
theorem trimS_iff (cs l : List UInt8) : Lib.trimS l cs = l ↔ TrimmedS cs l := ⟨fun h => h ▸ trimS_trimmed cs l, trimS_id⟩
theorem dropWhile_nil_iff (p : UInt8 → Bool) : ∀ l : List UInt8, l.dropWhile p = [] ↔ ∀ c ∈ l, p c = true
  | [] => by simp
  | c :: t => by
    rw [List.dropWhile_cons]
    by_cases h : p c = true
    · rw [if_pos h, dropWhile_nil_iff p t]
      simp [h]
    · rw [if_neg h]
      simp [h]
theorem trimS_nil_iff (cs l : List UInt8) : Lib.trimS l cs = [] ↔ ∀ c ∈ l, cs.contains c = true := by
  unfold Lib.trimS Lib.trimLeftS Lib.trimRightS
  rw [dropWhile_nil_iff]
  refine ⟨fun h => ?_, fun h c hc => ?_⟩
  · have e : l.reverse.dropWhile (cs.contains ·) = [] := by
      cases hm : l.reverse.dropWhile (cs.contains ·) with
      | nil => rfl
      | cons d t =>
        have h1 := dropWhile_head (cs.contains ·) l.reverse d t hm
        rw [hm] at h
        have h2 := h d (by simp)
        rw [h1] at h2
        cases h2
    intro c hc
    exact (dropWhile_nil_iff _ _).1 e c (List.mem_reverse.2 hc)
  · have hs : (l.reverse.dropWhile (cs.contains ·)) <:+ l.reverse := List.dropWhile_suffix _
    exact h c (List.mem_reverse.1 (hs.subset (List.mem_reverse.1 hc)))
end Go.Proofs.YtipleegkonhfcaaGreatDoorB
set_option linter.unusedSimpArgs false
set_option linter.unusedVariables false
namespace Go.Proofs.YtipleegkonhfcaaGreatDoor.Q
open Go Go.RowKit Go.Lib Go.Proofs.YtipleegkonhfcaaGreatDoorW.PrintWords Go.Proofs.YtipleegkonhfcaaGreatDoorB Go.Proofs.YtipleegkonhfcaaGreatDoor.E Go.Proofs.YtipleegkonhfcaaGreatDoor.P Go.Proofs.YtipleegkonhfcaaGreatDoor.U Go.Proofs.YtipleegkonhfcaaGreatDoor.KF

theorem dropD (l : List UInt8) (i : Nat) (h : i < l.length) : l.drop i = l.getD i 0 :: l.drop (i + 1) := Go.Proofs.YtipleegkonhfcaaGreatDoorB.getD_drop l i h
theorem u8_all {p : UInt8 → Prop} (h : ∀ n : Fin 256, p (UInt8.ofNat n.val)) (c : UInt8) : p c := by
  have := h ⟨c.toNat, c.toNat_lt⟩
  simpa using this
/-! ### bytes told by numbers -/
def nums (l : List UInt8) : List Int := l.map fun b => (b.toNat : Int)
theorem nums_length (l : List UInt8) : (nums l).length = l.length := by simp [nums]
theorem rd_nums (l : List UInt8) (i : Nat) : rd (nums l) (i : Int) = ((l.getD i 0).toNat : Int) := by
  unfold rd nums
  rw [Int.toNat_natCast, List.getD_eq_getElem?_getD, List.getD_eq_getElem?_getD, List.getElem?_map]
  cases l[i]? <;> rfl
theorem bytesOf_nums (l : List UInt8) : Lib.bytesOf (nums l) = l := by
  unfold Lib.bytesOf nums
  rw [List.map_map]
  conv => rhs; rw [← List.map_id l]
  apply List.map_congr_left
  intro b _
  simp
theorem strOf_nums (l : List UInt8) : strOfNums (nums l) = B l := by
  apply L_inj
  have h := Lib.strOfNums_toList (nums l)
  rw [toList_L, bytesOf_nums] at h
  rw [h, L_B]
theorem nums_take (l : List UInt8) (n : Nat) : (nums l).take n = nums (l.take n) := by simp [nums, List.map_take]
theorem nums_drop (l : List UInt8) (n : Nat) : (nums l).drop n = nums (l.drop n) := by simp [nums, List.map_drop]
theorem nums_of {l : List Int} (h : ∀ n ∈ l, 0 ≤ n ∧ n < 256) : nums (Lib.bytesOf l) = l := by
  unfold nums Lib.bytesOf
  rw [List.map_map]
  conv => rhs; rw [← List.map_id l]
  apply List.map_congr_left
  intro n hn
  have := h n hn
  simp
  omega

/-! ### names -/
def signL : List UInt8 := [97, 98, 99, 100, 101, 102, 103, 104, 105, 106, 107, 108, 109, 110, 111, 112, 113, 114, 115, 116, 117, 118, 119, 120, 121, 122, 65, 66, 67, 68, 69, 70, 71, 72, 73, 74, 75, 76, 77, 78, 79, 80, 81, 82, 83, 84, 85, 86, 87, 88, 89, 90, 48, 49, 50, 51, 52, 53, 54, 55, 56, 57, 33, 35, 36, 37, 38, 39, 42, 43, 45, 46, 94, 95, 96, 124, 126]
def tokenL (l : List UInt8) : Bool := decide (l ≠ []) && l.all (signL.contains ·)
theorem token_f (s : ByteArray) (hs : s.size ≤ 1000000000) : header_Token.f s = some (tokenL (L s)) := by
  unfold header_Token.f strings_Trim.f
  rw [toList_L]
  unfold tokenL
  by_cases h : L s = []
  · rw [if_pos h, h]; rfl
  · rw [if_neg h, if_pos ⟨by omega, by decide, by decide⟩]
    simp only [Option.bind_some, toList_L]
    have e : (L (⟨(Lib.trimS s.data.toList signL).toArray⟩ : ByteArray) == ([] : List UInt8)) = (L s).all (signL.contains ·) := by
      rw [show L (⟨(Lib.trimS s.data.toList signL).toArray⟩ : ByteArray) = Lib.trimS (L s) signL from L_B _]
      rw [Bool.eq_iff_iff, beq_iff_eq, trimS_nil_iff, List.all_eq_true]
    have e' : (decide (L s ≠ []) && (L s).all (signL.contains ·)) = (L s).all (signL.contains ·) := by rw [decide_eq_true h]; rfl
    rw [e']
    exact congrArg some e
theorem within_loop (c : Int) (s : ByteArray) (hs : s.size ≤ 1000000000) : ∀ (d k i : Nat), i + d = s.size → d < k → lanternref07_Within.l0 k c s i = some (((L s).drop i).any fun b => (b.toNat : Int) == c)
  | d, k, i, hd, hk => by
    have hl : (L s).length = s.size := (size_L s).symm
    obtain ⟨k, rfl⟩ : ∃ m, k = m + 1 := ⟨k - 1, by omega⟩
    rw [lanternref07_Within.l0]
    by_cases h : i < s.size
    · obtain ⟨d, rfl⟩ : ∃ m, d = m + 1 := ⟨d - 1, by omega⟩
      rw [if_pos (by omega), if_pos (by omega), dropD _ i (by omega), List.any_cons, bt_L, Int.toNat_natCast]
      by_cases hb : (((L s).getD i 0).toNat : Int) = c
      · have e : ((((L s).getD i 0).toNat : Int) == c) = true := by simpa using hb
        rw [if_pos hb, e, Bool.true_or]
      · rw [if_neg hb, wrap_nat (x := (i : Int) + 1) (i + 1) rfl (by omega), within_loop c s hs d k (i + 1) (by omega) (by omega)]
        have e : ((((L s).getD i 0).toNat : Int) == c) = false := by simpa using hb
        rw [e, Bool.false_or]
    · rw [if_neg (by omega), List.drop_eq_nil_of_le (by omega)]
      rfl
def markL : List UInt8 := [33, 35, 36, 37, 38, 39, 42, 43, 45, 46, 94, 95, 124, 126]
theorem within_f (c : UInt8) (k : Nat) (hk : 20 < k) : lanternref07_Within.f k (c.toNat : Int) (⟨#[33, 35, 36, 37, 38, 39, 42, 43, 45, 46, 94, 95, 124, 126]⟩ : ByteArray) = some (markL.contains c) := by
  unfold lanternref07_Within.f
  have hz : (⟨#[33, 35, 36, 37, 38, 39, 42, 43, 45, 46, 94, 95, 124, 126]⟩ : ByteArray).size = 14 := rfl
  have := within_loop (c.toNat : Int) ⟨#[33, 35, 36, 37, 38, 39, 42, 43, 45, 46, 94, 95, 124, 126]⟩ (by omega) 14 k 0 (by omega) (by omega)
  have e0 : ((0 : Nat) : Int) = 0 := rfl
  rw [e0] at this
  rw [this, List.drop_zero]
  have e : L (⟨#[33, 35, 36, 37, 38, 39, 42, 43, 45, 46, 94, 95, 124, 126]⟩ : ByteArray) = markL := rfl
  rw [e]
  congr 1
  rw [Bool.eq_iff_iff, List.any_eq_true]
  constructor
  · rintro ⟨b, hb, h⟩
    have : b = c := by rw [u8_eq]; simpa using h
    subst this
    simpa using hb
  · intro h
    exact ⟨c, by simpa using h, by simp⟩
def signN (c : UInt8) : Bool := decide (97 ≤ c.toNat ∧ c.toNat ≤ 122) || decide (65 ≤ c.toNat ∧ c.toNat ≤ 90) || decide (48 ≤ c.toNat ∧ c.toNat ≤ 57) || decide (c.toNat = 96) || markL.contains c
theorem signN_eq (c : UInt8) : signN c = signL.contains c := u8_all (p := fun c => signN c = signL.contains c) (by decide +kernel) c
theorem sign_f (c : UInt8) (k : Nat) (hk : 20 < k) : lanternref09_sign.f k (c.toNat : Int) = some (signL.contains c) := by
  rw [← signN_eq]
  unfold lanternref09_sign.f
  rw [within_f c k hk]
  simp only [Option.bind_some]
  unfold signN
  generalize markL.contains c = z
  generalize c.toNat = n
  by_cases h1 : n ≥ 97 <;> by_cases h2 : n ≤ 122 <;> by_cases h3 : n ≥ 65 <;> by_cases h4 : n ≤ 90 <;> by_cases h5 : n ≥ 48 <;> by_cases h6 : n ≤ 57 <;> by_cases h7 : n = 96 <;>
    first
      | (exfalso; omega)
      | (have g1 : ((n : Int) ≥ 97) = (n ≥ 97) := propext ⟨fun _ => by omega, fun _ => by omega⟩
         have g2 : ((n : Int) ≤ 122) = (n ≤ 122) := propext ⟨fun _ => by omega, fun _ => by omega⟩
         have g3 : ((n : Int) ≥ 65) = (n ≥ 65) := propext ⟨fun _ => by omega, fun _ => by omega⟩
         have g4 : ((n : Int) ≤ 90) = (n ≤ 90) := propext ⟨fun _ => by omega, fun _ => by omega⟩
         have g5 : ((n : Int) ≥ 48) = (n ≥ 48) := propext ⟨fun _ => by omega, fun _ => by omega⟩
         have g6 : ((n : Int) ≤ 57) = (n ≤ 57) := propext ⟨fun _ => by omega, fun _ => by omega⟩
         have g7 : ((n : Int) = 96) = (n = 96) := propext ⟨fun _ => by omega, fun _ => by omega⟩
         simp [g1, g2, g3, g4, g5, g6, g7, h1, h2, h3, h4, h5, h6, h7])
theorem ref_token_loop (s : ByteArray) (hs : s.size ≤ 1000000000) : ∀ (d k i : Nat), i + d = s.size → d + 25 < k → lanternref09_Token.l0 k s i = some (((L s).drop i).all (signL.contains ·) && decide (L s ≠ []))
  | d, k, i, hd, hk => by
    have hl : (L s).length = s.size := (size_L s).symm
    obtain ⟨k, rfl⟩ : ∃ m, k = m + 1 := ⟨k - 1, by omega⟩
    rw [lanternref09_Token.l0]
    by_cases h : i < s.size
    · obtain ⟨d, rfl⟩ : ∃ m, d = m + 1 := ⟨d - 1, by omega⟩
      rw [if_pos (by omega), if_pos (by omega), dropD _ i (by omega), List.all_cons, bt_L, Int.toNat_natCast, sign_f _ k (by omega)]
      simp only [Option.bind_some]
      by_cases hb : signL.contains ((L s).getD i 0) = true
      · rw [if_pos hb, hb, Bool.true_and, wrap_nat (x := (i : Int) + 1) (i + 1) rfl (by omega)]
        exact ref_token_loop s hs d k (i + 1) (by omega) (by omega)
      · have e : signL.contains ((L s).getD i 0) = false := by simpa using hb
        rw [if_neg hb, e]
        rfl
    · rw [if_neg (by omega), List.drop_eq_nil_of_le (by omega), toList_L]
      simp only [List.all_nil, Bool.true_and]
      congr 1
      cases L s <;> rfl
theorem ref_token (s : ByteArray) (hs : s.size ≤ 1000000000) (k : Nat) (hk : s.size + 25 < k) : lanternref09_Token.f k s = some (tokenL (L s)) := by
  unfold lanternref09_Token.f
  have := ref_token_loop s hs s.size k 0 (by omega) hk
  rw [List.drop_zero] at this
  unfold tokenL
  rw [Bool.and_comm]
  exact this

/-! ### values -/
def okc (c : UInt8) : Bool := !(decide (c.toNat < 32) && !decide (c.toNat = 9)) && !decide (c.toNat = 127)
def blL : List UInt8 := [32, 9]
def valueL (l : List UInt8) : Bool := l.all okc && decide (Lib.trimS l blL = l)
theorem value_loop (s : ByteArray) (hs : s.size ≤ 1000000000) : ∀ (d k i : Nat), i + d = s.size → d < k → header_value.l0 k s i = some (((L s).drop i).all okc && decide (Lib.trimS (L s) blL = L s))
  | d, k, i, hd, hk => by
    have hl : (L s).length = s.size := (size_L s).symm
    obtain ⟨k, rfl⟩ : ∃ m, k = m + 1 := ⟨k - 1, by omega⟩
    rw [header_value.l0]
    by_cases h : i < s.size
    · obtain ⟨d, rfl⟩ : ∃ m, d = m + 1 := ⟨d - 1, by omega⟩
      rw [if_pos (by omega), if_pos (by omega), dropD _ i (by omega), List.all_cons, bt_L, Int.toNat_natCast]
      rw [wrap_nat (x := (i : Int) + 1) (i + 1) rfl (by omega), value_loop s hs d k (i + 1) (by omega) (by omega)]
      rw [Bool.and_assoc]
      generalize ((List.drop (i + 1) (L s)).all okc && decide (Lib.trimS (L s) blL = L s)) = z
      unfold okc
      generalize ((L s).getD i 0).toNat = n
      by_cases h1 : n < 32
      · rw [if_pos (by omega)]
        by_cases h2 : n = 9
        · subst h2; simp
        · rw [if_neg (by omega)]; simp [h1, h2]
      · rw [if_neg (by omega)]
        by_cases h3 : n = 127
        · subst h3; simp
        · rw [if_neg (by omega)]; simp [h1, h3]
    · rw [if_neg (by omega), List.drop_eq_nil_of_le (by omega)]
      unfold strings_Trim.f
      rw [if_pos ⟨by omega, by decide, by decide⟩]
      simp only [Option.bind_some, toList_L, List.all_nil, Bool.true_and]
      congr 1
      rw [Bool.eq_iff_iff, beq_iff_eq, decide_eq_true_eq]
      rw [show L (⟨(Lib.trimS s.data.toList [32, 9]).toArray⟩ : ByteArray) = Lib.trimS (L s) blL from L_B _]
theorem value_f (s : ByteArray) (hs : s.size ≤ 1000000000) (k : Nat) (hk : s.size < k) : header_value.f k s = some (valueL (L s)) := by
  unfold header_value.f
  have := value_loop s hs s.size k 0 (by omega) hk
  rw [List.drop_zero] at this
  exact this
def mayL (n v : List UInt8) : Bool := tokenL n && valueL v
theorem may_f (n v : ByteArray) (hn : n.size ≤ 1000000000) (hv : v.size ≤ 1000000000) (k : Nat) (hk : v.size < k) : header_may.f k n v = some (mayL (L n) (L v)) := by
  unfold header_may.f mayL
  rw [token_f n hn]
  simp only [Option.bind_some]
  by_cases h : tokenL (L n) = true
  · rw [if_pos h, value_f v hv k hk, h]; rfl
  · have e : tokenL (L n) = false := by simpa using h
    rw [if_neg h, e]; rfl

/-! ### the reference's -/
theorem blank_f (c : UInt8) : lanternref09_blank.f (c.toNat : Int) = some (blL.contains c) := by
  have e : blL.contains c = (decide (c.toNat = 32) || decide (c.toNat = 9)) := u8_all (p := fun c => blL.contains c = (decide (c.toNat = 32) || decide (c.toNat = 9))) (by decide +kernel) c
  rw [e]
  unfold lanternref09_blank.f
  by_cases h : c.toNat = 32
  · rw [if_pos (by omega), decide_eq_true h]; rfl
  · rw [if_neg (by omega), decide_eq_false h, Bool.false_or]
    congr 1
    rw [Bool.eq_iff_iff, beq_iff_eq, decide_eq_true_eq]
    omega
/-- From a place on: no bad byte, and no blank at the first or the last place. -/
def mayFrom (l : List UInt8) : Nat → Nat → Bool
  | 0, _ => true
  | d + 1, i => okc (l.getD i 0) && (!((decide (i = 0) || decide (i + 1 = l.length)) && blL.contains (l.getD i 0)) && mayFrom l d (i + 1))
theorem ref_may_loop (s n : ByteArray) (hs : s.size ≤ 1000000000) (hn : n.size ≤ 1000000000) (v : ByteArray) : ∀ (d k i : Nat), i + d = s.size → d + n.size + 30 < k →
    lanternref09_May.l0 k s i n v = some (mayFrom (L s) d i && tokenL (L n))
  | d, k, i, hd, hk => by
    have hl : (L s).length = s.size := (size_L s).symm
    obtain ⟨k, rfl⟩ : ∃ m, k = m + 1 := ⟨k - 1, by omega⟩
    rw [lanternref09_May.l0]
    by_cases h : i < s.size
    · obtain ⟨d, rfl⟩ : ∃ m, d = m + 1 := ⟨d - 1, by omega⟩
      have e2 : wrap64 ((s.size : Int) - 1) = ((s.size - 1 : Nat) : Int) := wrap_nat (s.size - 1) (by omega) (by omega)
      rw [if_pos (by omega), if_pos (by omega), bt_L, Int.toNat_natCast, e2, wrap_nat (x := (i : Int) + 1) (i + 1) rfl (by omega), ref_may_loop s n hs hn v d k (i + 1) (by omega) (by omega), blank_f, mayFrom]
      simp only [Option.bind_some]
      rw [hl]
      have q1 : ((i : Int) = 0) = (i = 0) := propext ⟨fun _ => by omega, fun _ => by omega⟩
      have q2 : ((i : Int) = ((s.size - 1 : Nat) : Int)) = (i + 1 = s.size) := propext ⟨fun _ => by omega, fun _ => by omega⟩
      simp only [q1, q2]
      generalize mayFrom (L s) d (i + 1) = z
      generalize blL.contains ((L s).getD i 0) = y
      unfold okc
      generalize ((L s).getD i 0).toNat = m
      have q3 : ((m : Int) = 127) = (m = 127) := propext ⟨fun _ => by omega, fun _ => by omega⟩
      have q4 : ((m : Int) < 32) = (m < 32) := propext ⟨fun _ => by omega, fun _ => by omega⟩
      have q5 : ((m : Int) = 9) = (m = 9) := propext ⟨fun _ => by omega, fun _ => by omega⟩
      simp only [q3, q4, q5]
      clear q1 q2 q3 q4 q5
      by_cases a1 : m = 127
      · simp [a1]
      · by_cases a2 : m < 32
        · by_cases a3 : m = 9
          · by_cases a4 : i = 0
            · cases y <;> simp [a1, a2, a3, a4]
            · by_cases a5 : i + 1 = s.size
              · cases y <;> simp [a1, a2, a3, a4, a5]
              · cases y <;> simp [a1, a2, a3, a4, a5]
          · simp [a1, a2, a3]
        · by_cases a4 : i = 0
          · cases y <;> simp [a1, a2, a4]
          · by_cases a5 : i + 1 = s.size
            · cases y <;> simp [a1, a2, a4, a5]
            · cases y <;> simp [a1, a2, a4, a5]
    · have h0 : d = 0 := by omega
      subst h0
      rw [if_neg (by omega), ref_token n hn k (by omega)]
      simp [mayFrom]
theorem mayFrom_iff (l : List UInt8) : ∀ d i, i + d = l.length → (mayFrom l d i = true ↔ (∀ j, i ≤ j → j < l.length → okc (l.getD j 0) = true) ∧ (∀ j, i ≤ j → j < l.length → (j = 0 ∨ j + 1 = l.length) → blL.contains (l.getD j 0) = false))
  | 0, i, h => by
    simp only [mayFrom, true_iff]
    exact ⟨fun j h1 h2 => by omega, fun j h1 h2 => by omega⟩
  | d + 1, i, h => by
    have ih := mayFrom_iff l d (i + 1) (by omega)
    rw [mayFrom, Bool.and_eq_true, Bool.and_eq_true, ih]
    constructor
    · rintro ⟨a, b, c1, c2⟩
      refine ⟨fun j h1 h2 => ?_, fun j h1 h2 h3 => ?_⟩
      · by_cases e : j = i
        · rw [e]; exact a
        · exact c1 j (by omega) h2
      · by_cases e : j = i
        · subst e
          cases hb : blL.contains (l.getD j 0) with
          | false => rfl
          | true =>
            rw [hb] at b
            rcases h3 with h3 | h3 <;> simp [h3] at b
        · exact c2 j (by omega) h2 h3
    · rintro ⟨c1, c2⟩
      refine ⟨c1 i (Nat.le_refl _) (by omega), ?_, fun j h1 h2 => c1 j (by omega) h2, fun j h1 h2 h3 => c2 j (by omega) h2 h3⟩
      by_cases e : i = 0 ∨ i + 1 = l.length
      · rw [c2 i (Nat.le_refl _) (by omega) e]; simp
      · have e1 : ¬ i = 0 := fun h => e (.inl h)
        have e2 : ¬ i + 1 = l.length := fun h => e (.inr h)
        simp [e1, e2]
theorem mayFrom_value (l : List UInt8) : mayFrom l l.length 0 = valueL l := by
  rw [Bool.eq_iff_iff, mayFrom_iff l l.length 0 (by omega)]
  unfold valueL
  rw [Bool.and_eq_true, List.all_eq_true, decide_eq_true_eq, trimS_iff]
  have gd : ∀ j, (h : j < l.length) → l.getD j 0 = l[j] := fun j h => by rw [List.getD_eq_getElem?_getD, List.getElem?_eq_getElem h]; rfl
  constructor
  · rintro ⟨h1, h2⟩
    refine ⟨fun c hc => ?_, fun c t h => ?_, fun c t h => ?_⟩
    · obtain ⟨j, hj, rfl⟩ := List.getElem_of_mem hc
      rw [← gd j hj]
      exact h1 j (Nat.zero_le _) hj
    · subst h
      have := h2 0 (Nat.le_refl _) (by simp) (.inl rfl)
      simpa using this
    · subst h
      have := h2 t.length (Nat.zero_le _) (by simp) (.inr (by simp))
      rw [gd _ (by simp)] at this
      simpa using this
  · rintro ⟨h1, h2, h3⟩
    refine ⟨fun j _ hj => ?_, fun j _ hj hc => ?_⟩
    · rw [gd j hj]
      exact h1 _ (List.getElem_mem hj)
    · rcases hc with hc | hc
      · subst hc
        cases l with
        | nil => simp at hj
        | cons c t => exact h2 c t rfl
      · have hne : l ≠ [] := by intro h0; rw [h0] at hj; simp at hj
        have e : l = l.dropLast ++ [l.getLast hne] := (List.dropLast_concat_getLast hne).symm
        have := h3 _ _ e
        rw [gd j hj]
        have ej : l[j] = l.getLast hne := by rw [List.getLast_eq_getElem]; congr 1; omega
        rw [ej]
        exact this
theorem ref_may (n v : ByteArray) (hn : n.size ≤ 1000000000) (hv : v.size ≤ 1000000000) (k : Nat) (hk : v.size + n.size + 30 < k) : lanternref09_May.f k n v = some (mayL (L n) (L v)) := by
  unfold lanternref09_May.f
  have := ref_may_loop v n hv hn v v.size k 0 (by omega) hk
  rw [size_L v, mayFrom_value] at this
  unfold mayL
  rw [Bool.and_comm]
  exact this
end Go.Proofs.YtipleegkonhfcaaGreatDoor.Q
set_option linter.unusedSimpArgs false
set_option linter.unusedVariables false
namespace Go.Proofs.YtipleegkonhfcaaGreatDoor.Q
open Go Go.RowKit Go.Lib Go.Proofs.YtipleegkonhfcaaGreatDoorW.PrintWords Go.Proofs.YtipleegkonhfcaaGreatDoorB Go.Proofs.YtipleegkonhfcaaGreatDoor.E Go.Proofs.YtipleegkonhfcaaGreatDoor.P Go.Proofs.YtipleegkonhfcaaGreatDoor.U Go.Proofs.YtipleegkonhfcaaGreatDoor.KF

/-! ### cut at a byte -/
def splitC (c : UInt8) : List UInt8 → Option (List UInt8 × List UInt8)
  | [] => none
  | b :: t => if b = c then some ([], t) else (splitC c t).map fun x => (b :: x.1, x.2)
theorem splitC_some (c : UInt8) : ∀ (l u t : List UInt8), splitC c l = some (u, t) → l = u ++ c :: t ∧ ∀ b ∈ u, b ≠ c
  | [], u, t, h => by simp [splitC] at h
  | b :: l, u, t, h => by
    rw [splitC] at h
    split at h
    · next hb =>
      simp only [Option.some.injEq, Prod.mk.injEq] at h
      obtain ⟨rfl, rfl⟩ := h
      subst hb
      simp
    · next hb =>
      obtain ⟨⟨u', t'⟩, h1, h2⟩ := Option.map_eq_some_iff.1 h
      simp only [Prod.mk.injEq] at h2
      obtain ⟨rfl, rfl⟩ := h2
      obtain ⟨e, g⟩ := splitC_some c l u' t' h1
      refine ⟨by rw [e]; rfl, fun d hd => ?_⟩
      rcases List.mem_cons.1 hd with rfl | hd
      · exact hb
      · exact g d hd
theorem indexByte_split (c : UInt8) : ∀ l : List UInt8, Lib.indexByte l c = match splitC c l with | some x => (x.1.length : Int) | none => -1
  | [] => rfl
  | b :: l => by
    have ih := indexByte_split c l
    rw [Lib.indexByte, splitC]
    by_cases h : b = c
    · rw [if_pos (by simpa using h), if_pos h]; rfl
    · rw [if_neg (by simpa using h), if_neg h, ih]
      cases hs : splitC c l with
      | none => rfl
      | some x =>
        simp only [Option.map_some, beq_iff_eq]
        rw [if_neg (by omega), List.length_cons]
        show ((x.1.length : Nat) : Int) + 1 = ((x.1.length + 1 : Nat) : Int)
        omega
theorem index_split (c : UInt8) : ∀ l : List UInt8, Lib.index l [c] = match splitC c l with | some x => (x.1.length : Int) | none => -1
  | [] => rfl
  | b :: l => by
    have ih := index_split c l
    rw [Lib.index, splitC]
    have e : ([c] : List UInt8).isPrefixOf (b :: l) = (c == b) := by simp [List.isPrefixOf]
    rw [e]
    by_cases h : b = c
    · rw [if_pos (by simpa using h.symm), if_pos h]; rfl
    · rw [if_neg (by simpa using fun q => h q.symm), if_neg h, ih]
      cases hs : splitC c l with
      | none => rfl
      | some x =>
        simp only [Option.map_some, beq_iff_eq]
        rw [if_neg (by omega), List.length_cons]
        show ((x.1.length : Nat) : Int) + 1 = ((x.1.length + 1 : Nat) : Int)
        omega
theorem cut_split (c : UInt8) (l : List UInt8) : Lib.cut l [c] = match splitC c l with | some x => (x.1, x.2, true) | none => (l, [], false) := by
  unfold Lib.cut
  rw [index_split]
  cases hs : splitC c l with
  | none => rfl
  | some x =>
    obtain ⟨u, t⟩ := x
    obtain ⟨e, _⟩ := splitC_some c l u t hs
    simp only
    rw [if_pos (by omega), e]
    simp

/-! ### a line -/
def chomp (u : List UInt8) : List UInt8 := Lib.trimSuffix u [13]
theorem chomp_eq (u : List UInt8) : chomp u = if u ≠ [] ∧ u.getD (u.length - 1) 0 = 13 then u.take (u.length - 1) else u := by
  unfold chomp Lib.trimSuffix Lib.hasSuffix
  have e : ([13] : List UInt8).isSuffixOf u = true ↔ (u ≠ [] ∧ u.getD (u.length - 1) 0 = 13) := by
    rw [List.isSuffixOf_iff_suffix]
    constructor
    · rintro ⟨t, rfl⟩
      simp
    · rintro ⟨h1, h2⟩
      refine ⟨u.dropLast, ?_⟩
      have hl : u.length - 1 < u.length := by have := List.length_pos_iff.2 h1; omega
      have e2 : u.getLast h1 = 13 := by
        rw [List.getLast_eq_getElem]
        rw [List.getD_eq_getElem?_getD, List.getElem?_eq_getElem hl] at h2
        exact h2
      rw [← e2]
      exact List.dropLast_concat_getLast h1
  by_cases h : ([13] : List UInt8).isSuffixOf u = true
  · rw [if_pos h, if_pos (e.1 h)]; rfl
  · rw [if_neg h, if_neg (fun q => h (e.2 q))]
theorem chomp_length (u : List UInt8) : (chomp u).length ≤ u.length := by
  rw [chomp_eq]
  split
  · rw [List.length_take]; omega
  · exact Nat.le_refl _
def headL (l : List UInt8) : Option S67 :=
  match splitC 58 l with
  | none => none
  | some x => if mayL x.1 (Lib.trimS x.2 blL) = true then some ⟨B x.1, B (Lib.trimS x.2 blL)⟩ else none
theorem trimS_length (l cs : List UInt8) : (Lib.trimS l cs).length ≤ l.length := by
  have h1 : (Lib.trimS l cs).length ≤ (Lib.trimRightS l cs).length := (List.dropWhile_suffix _).length_le
  have h2 : (Lib.trimRightS l cs).length ≤ l.length := by
    unfold Lib.trimRightS
    rw [List.length_reverse]
    have := (List.dropWhile_suffix (l := l.reverse) (cs.contains ·)).length_le
    rw [List.length_reverse] at this
    exact this
  omega

/-! ### the whole -/
def parseM (bs : List UInt8) : Nat → Nat → List S67 → List S67 × Int × Int
  | 0, _, _ => ([], 0, 0)
  | f + 1, p, acc =>
    match splitC 10 (bs.drop p) with
    | none => if bs.length ≤ 8192 then ([], 0, 10) else ([], 0, 3)
    | some x =>
      if p + x.1.length + 1 > 8192 then ([], 0, 3)
      else if chomp x.1 = [] then (acc, ((p + x.1.length + 1 : Nat) : Int), 0)
      else match headL (chomp x.1) with
        | none => ([], 0, 5)
        | some h => if acc.length ≥ 64 then ([], 0, 3) else parseM bs f (p + x.1.length + 1) (acc ++ [h])
theorem take_drop_of (l u t : List UInt8) (p : Nat) (h : l.drop p = u ++ t) (hp : p ≤ l.length) : (l.take (p + u.length)).drop p = u := by
  rw [List.drop_take]
  rw [h]
  simp
theorem prog_parse (bs : List UInt8) (hb : bs.length ≤ 1000000) : ∀ (f k p : Nat) (acc : List S67), p ≤ bs.length → bs.length < p + f → 3 * f + bs.length + 100 < k → acc.length ≤ 64 →
    header_Parse.l0 k (nums bs) acc p = some (parseM bs f p acc)
  | 0, k, p, acc, hp, hf, hk, ha => by omega
  | f + 1, k, p, acc, hp, hf, hk, ha => by
    obtain ⟨k, rfl⟩ : ∃ m, k = m + 1 + 1 + 1 := ⟨k - 3, by omega⟩
    have hnl := nums_length bs
    have c1 : 0 ≤ (p : Int) := by omega
    have c2 : (p : Int) ≤ ((nums bs).length : Int) := by omega
    rw [header_Parse.l0, if_pos c1, if_pos c2, Int.toNat_natCast, nums_drop]
    unfold bytes_IndexByte.f
    rw [bytesOf_nums]
    have e10 : (10 : Int).toNat.toUInt8 = 10 := rfl
    rw [e10, indexByte_split, parseM]
    simp only [Option.bind_some]
    cases hs : splitC 10 (bs.drop p) with
    | none =>
      simp only
      rw [if_pos (by omega), header_Parse.j1]
      by_cases h : bs.length ≤ 8192
      · rw [if_pos (by rw [hnl]; exact decide_eq_true (by omega)), if_pos h]
      · rw [if_neg (by rw [hnl]; simp; omega), if_pos (by omega), if_neg h]
    | some x =>
      obtain ⟨u, t⟩ := x
      simp only
      obtain ⟨e, hu⟩ := splitC_some 10 _ _ _ hs
      have hlen : p + u.length + 1 + t.length = bs.length := by
        have := congrArg List.length e
        rw [List.length_drop, List.length_append, List.length_cons] at this
        omega
      have hneg : ¬ ((u.length : Int) < 0) := by omega
      have n1 : p + u.length ≤ 9223372036854775807 := by omega
      have n2 : p + u.length + 1 ≤ 9223372036854775807 := by omega
      have n3 : u.length + 1 ≤ 9223372036854775807 := by omega
      have n4 : (p : Int) + ((u.length + 1 : Nat) : Int) = ((p + u.length + 1 : Nat) : Int) := by omega
      have w1 : wrap64 ((p : Int) + (u.length : Int)) = ((p + u.length : Nat) : Int) := wrap_nat (p + u.length) rfl n1
      have w2 : wrap64 (((p + u.length : Nat) : Int) + 1) = ((p + u.length + 1 : Nat) : Int) := wrap_nat (p + u.length + 1) rfl n2
      have w3 : wrap64 ((u.length : Int) + 1) = ((u.length + 1 : Nat) : Int) := wrap_nat (u.length + 1) rfl n3
      have w4 : wrap64 ((p : Int) + ((u.length + 1 : Nat) : Int)) = ((p + u.length + 1 : Nat) : Int) := wrap_nat (p + u.length + 1) n4 n2
      rw [if_neg hneg, header_Parse.j1, if_neg (by simp), if_neg hneg, w1, w2, w3, w4]
      clear w1 w2 w3 w4
      by_cases h1 : p + u.length + 1 > 8192
      · rw [if_pos (by omega), if_pos h1]
      · have hcl := chomp_length u
        have c3 : ((p + u.length : Nat) : Int) ≤ ((nums bs).length : Int) := by omega
        rw [if_neg (by omega), if_neg h1, if_pos c1, if_pos (by omega), if_pos c3, Int.toNat_natCast, Int.toNat_natCast, nums_take, nums_drop, strOf_nums, take_drop_of bs u (10 :: t) p e hp]
        unfold strings_TrimSuffix.f
        rw [if_pos (by rw [size_B]; omega)]
        simp only [Option.bind_some]
        rw [show (⟨(Lib.trimSuffix (B u).data.toList [13]).toArray⟩ : ByteArray) = B (chomp u) from by rw [show (B u).data.toList = u from L_B u]; rfl]
        rw [toList_L, L_B]
        by_cases h2 : chomp u = []
        · rw [if_pos h2, if_pos h2]
        · rw [if_neg h2, if_neg h2]
          unfold strings_Cut.f cutOf
          rw [if_pos (by rw [size_B]; omega)]
          simp only [Option.bind_some]
          rw [show (B (chomp u)).data.toList = chomp u from L_B _, cut_split]
          unfold headL
          cases hc : splitC 58 (chomp u) with
          | none =>
            simp only
            unfold strings_Trim.f
            rw [if_pos ⟨by decide, by decide, by decide⟩]
            simp only [Option.bind_some]
            rw [if_neg (by simp), header_Parse.j2, if_pos rfl]
          | some y =>
            obtain ⟨a, r⟩ := y
            obtain ⟨e2, _⟩ := splitC_some 58 _ _ _ hc
            have hl2 : a.length + (r.length + 1) = (chomp u).length := by rw [e2]; simp
            simp only
            unfold strings_Trim.f
            rw [if_pos ⟨by show (B r).size ≤ _; rw [size_B]; omega, by decide, by decide⟩]
            simp only [Option.bind_some, if_true]
            have ht := trimS_length r blL
            rw [show (⟨a.toArray⟩ : ByteArray) = B a from rfl, show (⟨(Lib.trimS r [32, 9]).toArray⟩ : ByteArray) = B (Lib.trimS r blL) from rfl]
            rw [may_f (B a) (B (Lib.trimS r blL)) (by rw [size_B]; omega) (by rw [size_B]; omega) _ (by rw [size_B]; omega), L_B, L_B]
            simp only [Option.bind_some]
            cases hm : mayL a (Lib.trimS r blL) with
            | false => rw [header_Parse.j2, if_pos (by rfl), if_neg (by simp)]
            | true =>
              rw [header_Parse.j2, if_neg (by simp), if_pos rfl]
              simp only
              by_cases h3 : acc.length ≥ 64
              · rw [if_pos (by omega), if_pos h3]
              · rw [if_neg (by omega), if_neg h3, if_pos (by omega)]
                exact prog_parse bs hb f k (p + u.length + 1) _ (by omega) (by omega) (by omega) (by rw [List.length_append, List.length_singleton]; omega)

/-! ### the reference's line -/
/-! ### the reference's reader -/
theorem parseM_acc (bs : List UInt8) : ∀ (f p : Nat) (acc : List S67), acc.length ≤ 64 → (parseM bs f p acc).1.length ≤ 64
  | 0, p, acc, h => by simp [parseM]
  | f + 1, p, acc, h => by
    rw [parseM]
    split
    · split <;> simp
    · split
      · simp
      · split
        · exact h
        · split
          · simp
          · split
            · simp
            · exact parseM_acc bs f _ _ (by rw [List.length_append, List.length_singleton]; omega)
end Go.Proofs.YtipleegkonhfcaaGreatDoor.Q
set_option linter.unusedSimpArgs false
set_option linter.unusedVariables false
namespace Go.Proofs.YtipleegkonhfcaaGreatDoor.Q
open Go Go.RowKit Go.Lib Go.Proofs.YtipleegkonhfcaaGreatDoorW.PrintWords Go.Proofs.YtipleegkonhfcaaGreatDoorB Go.Proofs.YtipleegkonhfcaaGreatDoor.E Go.Proofs.YtipleegkonhfcaaGreatDoor.P Go.Proofs.YtipleegkonhfcaaGreatDoor.U Go.Proofs.YtipleegkonhfcaaGreatDoor.KF

theorem parse_f (bs : List UInt8) (hb : bs.length ≤ 1000000) (k : Nat) (hk : 4 * bs.length + 200 < k) : header_Parse.f k (nums bs) = some (parseM bs (bs.length + 1) 0 []) := by
  unfold header_Parse.f
  exact prog_parse bs hb (bs.length + 1) k 0 [] (by omega) (by omega) (by omega) (by simp)
end Go.Proofs.YtipleegkonhfcaaGreatDoor.Q
