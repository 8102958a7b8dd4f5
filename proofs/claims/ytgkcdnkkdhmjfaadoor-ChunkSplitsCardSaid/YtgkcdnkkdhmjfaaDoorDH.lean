/- The law HeaderParses. -/
import Derived.Test.YtgkcdnkkdhmjfaaDoorB
import Derived.Test.YtgkcdnkkdhmjfaaDoorP
import Derived.Lib.Index
/- Headers read: the program's reader and the reference's are one plain function; the law HeaderParses. -/
/- Headers, plainly: which texts are names and values; the program's and the reference's answers are these. -/
/- Plain lemmas: trimming by any set of bytes; no program in sight. -/
set_option linter.unusedSimpArgs false
namespace Go.Proofs.YtgkcdnkkdhmjfaaDoorB
open Go Go.RowKit Go.Lib Go.Proofs.YtgkcdnkkdhmjfaaDoorW.PrintWords

theorem u8_eq (c d : UInt8) : c = d ↔ (c.toNat : Int) = (d.toNat : Int) := ⟨by rintro rfl; rfl, fun h => UInt8.toNat_inj.mp (by omega)⟩
theorem u8_lt (c : UInt8) : 0 ≤ (c.toNat : Int) ∧ (c.toNat : Int) ≤ 255 := by have := c.toNat_lt; omega
theorem wrap_nat {x : Int} (n : Nat) (h : x = (n : Int)) (hn : n ≤ 9223372036854775807) : wrap64 x = (n : Int) := by subst h; exact wrap_id (by omega) (by omega)
theorem dropWhile_head (p : UInt8 → Bool) : ∀ (l : List UInt8) (c : UInt8) (t : List UInt8), l.dropWhile p = c :: t → p c = false
  | [], _, _, h => by simp at h
  | x :: l, c, t, h => by
    rw [List.dropWhile_cons] at h
    split at h
    · exact dropWhile_head p l c t h
    · rename_i hx
      injection h with h _
      subst h
      simpa using hx
theorem dropWhile_id (p : UInt8 → Bool) (l : List UInt8) (h : ∀ c t, l = c :: t → p c = false) : l.dropWhile p = l := by
  cases l with
  | nil => rfl
  | cons c t => rw [List.dropWhile_cons, if_neg (by rw [h c t rfl]; simp)]
/-- Trimmed: no white at either end. -/
def TrimmedS (cs l : List UInt8) : Prop := (∀ c t, l = c :: t → cs.contains c = false) ∧ (∀ c t, l = t ++ [c] → cs.contains c = false)
theorem trimS_trimmed (cs l : List UInt8) : TrimmedS cs (Lib.trimS l cs) := by
  unfold Lib.trimS Lib.trimLeftS Lib.trimRightS
  refine ⟨fun c t h => dropWhile_head _ _ c t h, fun c t h => ?_⟩
  generalize hm : l.reverse.dropWhile (cs.contains ·) = m at h
  have hs : (m.reverse.dropWhile (cs.contains ·)) <:+ m.reverse := List.dropWhile_suffix _
  obtain ⟨u, hu⟩ := hs
  rw [h] at hu
  have hm2 : m = c :: (u ++ t).reverse := by
    have := congrArg List.reverse hu
    rw [List.reverse_reverse] at this
    rw [← this]
    simp
  have := dropWhile_head (cs.contains ·) l.reverse c _ (hm.trans hm2)
  exact this
theorem trimS_id {cs l : List UInt8} (h : TrimmedS cs l) : Lib.trimS l cs = l := by
  have e : Lib.trimRightS l cs = l := by
    show (List.dropWhile (cs.contains ·) l.reverse).reverse = l
    rw [dropWhile_id (cs.contains ·) l.reverse (fun c t hc => h.2 c t.reverse (by have := congrArg List.reverse hc; simpa using this)), List.reverse_reverse]
  unfold Lib.trimS
  rw [e]
  exact dropWhile_id _ l (fun c t hc => h.1 c t hc)
theorem trimS_iff (cs l : List UInt8) : Lib.trimS l cs = l ↔ TrimmedS cs l := ⟨fun h => h ▸ trimS_trimmed cs l, trimS_id⟩
theorem dropWhile_nil_iff (p : UInt8 → Bool) : ∀ l : List UInt8, l.dropWhile p = [] ↔ ∀ c ∈ l, p c = true
  | [] => by simp
  | c :: t => by
    rw [List.dropWhile_cons]
    by_cases h : p c = true
    · rw [if_pos h, dropWhile_nil_iff p t]
      simp [h]
    · rw [if_neg h]
      simp [h]
theorem trimS_nil_iff (cs l : List UInt8) : Lib.trimS l cs = [] ↔ ∀ c ∈ l, cs.contains c = true := by
  unfold Lib.trimS Lib.trimLeftS Lib.trimRightS
  rw [dropWhile_nil_iff]
  refine ⟨fun h => ?_, fun h c hc => ?_⟩
  · have e : l.reverse.dropWhile (cs.contains ·) = [] := by
      cases hm : l.reverse.dropWhile (cs.contains ·) with
      | nil => rfl
      | cons d t =>
        have h1 := dropWhile_head (cs.contains ·) l.reverse d t hm
        rw [hm] at h
        have h2 := h d (by simp)
        rw [h1] at h2
        cases h2
    intro c hc
    exact (dropWhile_nil_iff _ _).1 e c (List.mem_reverse.2 hc)
  · have hs : (l.reverse.dropWhile (cs.contains ·)) <:+ l.reverse := List.dropWhile_suffix _
    exact h c (List.mem_reverse.1 (hs.subset (List.mem_reverse.1 hc)))
end Go.Proofs.YtgkcdnkkdhmjfaaDoorB
set_option linter.unusedSimpArgs false
set_option linter.unusedVariables false
namespace Go.Proofs.YtgkcdnkkdhmjfaaDoor.Q
open Go Go.RowKit Go.Lib Go.Proofs.YtgkcdnkkdhmjfaaDoorW.PrintWords Go.Proofs.YtgkcdnkkdhmjfaaDoorB Go.Proofs.YtgkcdnkkdhmjfaaDoor.E Go.Proofs.YtgkcdnkkdhmjfaaDoor.P

theorem dropD (l : List UInt8) (i : Nat) (h : i < l.length) : l.drop i = l.getD i 0 :: l.drop (i + 1) := Go.Proofs.YtgkcdnkkdhmjfaaDoorB.getD_drop l i h
theorem u8_all {p : UInt8 → Prop} (h : ∀ n : Fin 256, p (UInt8.ofNat n.val)) (c : UInt8) : p c := by
  have := h ⟨c.toNat, c.toNat_lt⟩
  simpa using this
/-! ### bytes told by numbers -/
def nums (l : List UInt8) : List Int := l.map fun b => (b.toNat : Int)
theorem nums_length (l : List UInt8) : (nums l).length = l.length := by simp [nums]
theorem rd_nums (l : List UInt8) (i : Nat) : rd (nums l) (i : Int) = ((l.getD i 0).toNat : Int) := by
  unfold rd nums
  rw [Int.toNat_natCast, List.getD_eq_getElem?_getD, List.getD_eq_getElem?_getD, List.getElem?_map]
  cases l[i]? <;> rfl
theorem bytesOf_nums (l : List UInt8) : Lib.bytesOf (nums l) = l := by
  unfold Lib.bytesOf nums
  rw [List.map_map]
  conv => rhs; rw [← List.map_id l]
  apply List.map_congr_left
  intro b _
  simp
theorem strOf_nums (l : List UInt8) : strOfNums (nums l) = B l := by
  apply L_inj
  have h := Lib.strOfNums_toList (nums l)
  rw [toList_L, bytesOf_nums] at h
  rw [h, L_B]
theorem nums_take (l : List UInt8) (n : Nat) : (nums l).take n = nums (l.take n) := by simp [nums, List.map_take]
theorem nums_drop (l : List UInt8) (n : Nat) : (nums l).drop n = nums (l.drop n) := by simp [nums, List.map_drop]
theorem nums_of {l : List Int} (h : ∀ n ∈ l, 0 ≤ n ∧ n < 256) : nums (Lib.bytesOf l) = l := by
  unfold nums Lib.bytesOf
  rw [List.map_map]
  conv => rhs; rw [← List.map_id l]
  apply List.map_congr_left
  intro n hn
  have := h n hn
  simp
  omega

/-! ### names -/
def signL : List UInt8 := [97, 98, 99, 100, 101, 102, 103, 104, 105, 106, 107, 108, 109, 110, 111, 112, 113, 114, 115, 116, 117, 118, 119, 120, 121, 122, 65, 66, 67, 68, 69, 70, 71, 72, 73, 74, 75, 76, 77, 78, 79, 80, 81, 82, 83, 84, 85, 86, 87, 88, 89, 90, 48, 49, 50, 51, 52, 53, 54, 55, 56, 57, 33, 35, 36, 37, 38, 39, 42, 43, 45, 46, 94, 95, 96, 124, 126]
def tokenL (l : List UInt8) : Bool := decide (l ≠ []) && l.all (signL.contains ·)
theorem token_f (s : ByteArray) (hs : s.size ≤ 1000000000) : header_Token.f s = some (tokenL (L s)) := by
  unfold header_Token.f strings_Trim.f
  rw [toList_L]
  unfold tokenL
  by_cases h : L s = []
  · rw [if_pos h, h]; rfl
  · rw [if_neg h, if_pos ⟨by omega, by decide, by decide⟩]
    simp only [Option.bind_some, toList_L]
    have e : (L (⟨(Lib.trimS s.data.toList signL).toArray⟩ : ByteArray) == ([] : List UInt8)) = (L s).all (signL.contains ·) := by
      rw [show L (⟨(Lib.trimS s.data.toList signL).toArray⟩ : ByteArray) = Lib.trimS (L s) signL from L_B _]
      rw [Bool.eq_iff_iff, beq_iff_eq, trimS_nil_iff, List.all_eq_true]
    have e' : (decide (L s ≠ []) && (L s).all (signL.contains ·)) = (L s).all (signL.contains ·) := by rw [decide_eq_true h]; rfl
    rw [e']
    exact congrArg some e
/-! ### values -/
def okc (c : UInt8) : Bool := !(decide (c.toNat < 32) && !decide (c.toNat = 9)) && !decide (c.toNat = 127)
def blL : List UInt8 := [32, 9]
def valueL (l : List UInt8) : Bool := l.all okc && decide (Lib.trimS l blL = l)
theorem value_loop (s : ByteArray) (hs : s.size ≤ 1000000000) : ∀ (d k i : Nat), i + d = s.size → d < k → header_value.l0 k s i = some (((L s).drop i).all okc && decide (Lib.trimS (L s) blL = L s))
  | d, k, i, hd, hk => by
    have hl : (L s).length = s.size := (size_L s).symm
    obtain ⟨k, rfl⟩ : ∃ m, k = m + 1 := ⟨k - 1, by omega⟩
    rw [header_value.l0]
    by_cases h : i < s.size
    · obtain ⟨d, rfl⟩ : ∃ m, d = m + 1 := ⟨d - 1, by omega⟩
      rw [if_pos (by omega), if_pos (by omega), dropD _ i (by omega), List.all_cons, bt_L, Int.toNat_natCast]
      rw [wrap_nat (x := (i : Int) + 1) (i + 1) rfl (by omega), value_loop s hs d k (i + 1) (by omega) (by omega)]
      rw [Bool.and_assoc]
      generalize ((List.drop (i + 1) (L s)).all okc && decide (Lib.trimS (L s) blL = L s)) = z
      unfold okc
      generalize ((L s).getD i 0).toNat = n
      by_cases h1 : n < 32
      · rw [if_pos (by omega)]
        by_cases h2 : n = 9
        · subst h2; simp
        · rw [if_neg (by omega)]; simp [h1, h2]
      · rw [if_neg (by omega)]
        by_cases h3 : n = 127
        · subst h3; simp
        · rw [if_neg (by omega)]; simp [h1, h3]
    · rw [if_neg (by omega), List.drop_eq_nil_of_le (by omega)]
      unfold strings_Trim.f
      rw [if_pos ⟨by omega, by decide, by decide⟩]
      simp only [Option.bind_some, toList_L, List.all_nil, Bool.true_and]
      congr 1
      rw [Bool.eq_iff_iff, beq_iff_eq, decide_eq_true_eq]
      rw [show L (⟨(Lib.trimS s.data.toList [32, 9]).toArray⟩ : ByteArray) = Lib.trimS (L s) blL from L_B _]
theorem value_f (s : ByteArray) (hs : s.size ≤ 1000000000) (k : Nat) (hk : s.size < k) : header_value.f k s = some (valueL (L s)) := by
  unfold header_value.f
  have := value_loop s hs s.size k 0 (by omega) hk
  rw [List.drop_zero] at this
  exact this
def mayL (n v : List UInt8) : Bool := tokenL n && valueL v
theorem may_f (n v : ByteArray) (hn : n.size ≤ 1000000000) (hv : v.size ≤ 1000000000) (k : Nat) (hk : v.size < k) : header_may.f k n v = some (mayL (L n) (L v)) := by
  unfold header_may.f mayL
  rw [token_f n hn]
  simp only [Option.bind_some]
  by_cases h : tokenL (L n) = true
  · rw [if_pos h, value_f v hv k hk, h]; rfl
  · have e : tokenL (L n) = false := by simpa using h
    rw [if_neg h, e]; rfl

/-! ### the reference's -/
end Go.Proofs.YtgkcdnkkdhmjfaaDoor.Q
set_option linter.unusedSimpArgs false
set_option linter.unusedVariables false
namespace Go.Proofs.YtgkcdnkkdhmjfaaDoor.Q
open Go Go.RowKit Go.Lib Go.Proofs.YtgkcdnkkdhmjfaaDoorW.PrintWords Go.Proofs.YtgkcdnkkdhmjfaaDoorB Go.Proofs.YtgkcdnkkdhmjfaaDoor.E Go.Proofs.YtgkcdnkkdhmjfaaDoor.P

/-! ### cut at a byte -/
def splitC (c : UInt8) : List UInt8 → Option (List UInt8 × List UInt8)
  | [] => none
  | b :: t => if b = c then some ([], t) else (splitC c t).map fun x => (b :: x.1, x.2)
theorem splitC_some (c : UInt8) : ∀ (l u t : List UInt8), splitC c l = some (u, t) → l = u ++ c :: t ∧ ∀ b ∈ u, b ≠ c
  | [], u, t, h => by simp [splitC] at h
  | b :: l, u, t, h => by
    rw [splitC] at h
    split at h
    · next hb =>
      simp only [Option.some.injEq, Prod.mk.injEq] at h
      obtain ⟨rfl, rfl⟩ := h
      subst hb
      simp
    · next hb =>
      obtain ⟨⟨u', t'⟩, h1, h2⟩ := Option.map_eq_some_iff.1 h
      simp only [Prod.mk.injEq] at h2
      obtain ⟨rfl, rfl⟩ := h2
      obtain ⟨e, g⟩ := splitC_some c l u' t' h1
      refine ⟨by rw [e]; rfl, fun d hd => ?_⟩
      rcases List.mem_cons.1 hd with rfl | hd
      · exact hb
      · exact g d hd
theorem splitC_none (c : UInt8) : ∀ (l : List UInt8), splitC c l = none → ∀ b ∈ l, b ≠ c
  | [], _, b, hb => by simp at hb
  | d :: l, h, b, hb => by
    rw [splitC] at h
    split at h
    · cases h
    · next hd =>
      have h' : splitC c l = none := by
        cases hs : splitC c l with
        | none => rfl
        | some x => rw [hs] at h; cases h
      rcases List.mem_cons.1 hb with rfl | hb
      · exact hd
      · exact splitC_none c l h' b hb
theorem indexByte_split (c : UInt8) : ∀ l : List UInt8, Lib.indexByte l c = match splitC c l with | some x => (x.1.length : Int) | none => -1
  | [] => rfl
  | b :: l => by
    have ih := indexByte_split c l
    rw [Lib.indexByte, splitC]
    by_cases h : b = c
    · rw [if_pos (by simpa using h), if_pos h]; rfl
    · rw [if_neg (by simpa using h), if_neg h, ih]
      cases hs : splitC c l with
      | none => rfl
      | some x =>
        simp only [Option.map_some, beq_iff_eq]
        rw [if_neg (by omega), List.length_cons]
        show ((x.1.length : Nat) : Int) + 1 = ((x.1.length + 1 : Nat) : Int)
        omega
theorem index_split (c : UInt8) : ∀ l : List UInt8, Lib.index l [c] = match splitC c l with | some x => (x.1.length : Int) | none => -1
  | [] => rfl
  | b :: l => by
    have ih := index_split c l
    rw [Lib.index, splitC]
    have e : ([c] : List UInt8).isPrefixOf (b :: l) = (c == b) := by simp [List.isPrefixOf]
    rw [e]
    by_cases h : b = c
    · rw [if_pos (by simpa using h.symm), if_pos h]; rfl
    · rw [if_neg (by simpa using fun q => h q.symm), if_neg h, ih]
      cases hs : splitC c l with
      | none => rfl
      | some x =>
        simp only [Option.map_some, beq_iff_eq]
        rw [if_neg (by omega), List.length_cons]
        show ((x.1.length : Nat) : Int) + 1 = ((x.1.length + 1 : Nat) : Int)
        omega
theorem cut_split (c : UInt8) (l : List UInt8) : Lib.cut l [c] = match splitC c l with | some x => (x.1, x.2, true) | none => (l, [], false) := by
  unfold Lib.cut
  rw [index_split]
  cases hs : splitC c l with
  | none => rfl
  | some x =>
    obtain ⟨u, t⟩ := x
    obtain ⟨e, _⟩ := splitC_some c l u t hs
    simp only
    rw [if_pos (by omega), e]
    simp

/-! ### a line -/
def chomp (u : List UInt8) : List UInt8 := Lib.trimSuffix u [13]
theorem chomp_eq (u : List UInt8) : chomp u = if u ≠ [] ∧ u.getD (u.length - 1) 0 = 13 then u.take (u.length - 1) else u := by
  unfold chomp Lib.trimSuffix Lib.hasSuffix
  have e : ([13] : List UInt8).isSuffixOf u = true ↔ (u ≠ [] ∧ u.getD (u.length - 1) 0 = 13) := by
    rw [List.isSuffixOf_iff_suffix]
    constructor
    · rintro ⟨t, rfl⟩
      simp
    · rintro ⟨h1, h2⟩
      refine ⟨u.dropLast, ?_⟩
      have hl : u.length - 1 < u.length := by have := List.length_pos_iff.2 h1; omega
      have e2 : u.getLast h1 = 13 := by
        rw [List.getLast_eq_getElem]
        rw [List.getD_eq_getElem?_getD, List.getElem?_eq_getElem hl] at h2
        exact h2
      rw [← e2]
      exact List.dropLast_concat_getLast h1
  by_cases h : ([13] : List UInt8).isSuffixOf u = true
  · rw [if_pos h, if_pos (e.1 h)]; rfl
  · rw [if_neg h, if_neg (fun q => h (e.2 q))]
theorem chomp_length (u : List UInt8) : (chomp u).length ≤ u.length := by
  rw [chomp_eq]
  split
  · rw [List.length_take]; omega
  · exact Nat.le_refl _
def headL (l : List UInt8) : Option S69 :=
  match splitC 58 l with
  | none => none
  | some x => if mayL x.1 (Lib.trimS x.2 blL) = true then some ⟨B x.1, B (Lib.trimS x.2 blL)⟩ else none
theorem trimS_length (l cs : List UInt8) : (Lib.trimS l cs).length ≤ l.length := by
  have h1 : (Lib.trimS l cs).length ≤ (Lib.trimRightS l cs).length := (List.dropWhile_suffix _).length_le
  have h2 : (Lib.trimRightS l cs).length ≤ l.length := by
    unfold Lib.trimRightS
    rw [List.length_reverse]
    have := (List.dropWhile_suffix (l := l.reverse) (cs.contains ·)).length_le
    rw [List.length_reverse] at this
    exact this
  omega

/-! ### the whole -/
def parseM (bs : List UInt8) : Nat → Nat → List S69 → List S69 × Int × Int
  | 0, _, _ => ([], 0, 0)
  | f + 1, p, acc =>
    match splitC 10 (bs.drop p) with
    | none => if bs.length ≤ 8192 then ([], 0, 10) else ([], 0, 3)
    | some x =>
      if p + x.1.length + 1 > 8192 then ([], 0, 3)
      else if chomp x.1 = [] then (acc, ((p + x.1.length + 1 : Nat) : Int), 0)
      else match headL (chomp x.1) with
        | none => ([], 0, 5)
        | some h => if acc.length ≥ 64 then ([], 0, 3) else parseM bs f (p + x.1.length + 1) (acc ++ [h])
theorem take_drop_of (l u t : List UInt8) (p : Nat) (h : l.drop p = u ++ t) (hp : p ≤ l.length) : (l.take (p + u.length)).drop p = u := by
  rw [List.drop_take]
  rw [h]
  simp
theorem prog_parse (bs : List UInt8) (hb : bs.length ≤ 1000000) : ∀ (f k p : Nat) (acc : List S69), p ≤ bs.length → bs.length < p + f → 3 * f + bs.length + 100 < k → acc.length ≤ 64 →
    header_Parse.l0 k (nums bs) acc p = some (parseM bs f p acc)
  | 0, k, p, acc, hp, hf, hk, ha => by omega
  | f + 1, k, p, acc, hp, hf, hk, ha => by
    obtain ⟨k, rfl⟩ : ∃ m, k = m + 1 + 1 + 1 := ⟨k - 3, by omega⟩
    have hnl := nums_length bs
    have c1 : 0 ≤ (p : Int) := by omega
    have c2 : (p : Int) ≤ ((nums bs).length : Int) := by omega
    rw [header_Parse.l0, if_pos c1, if_pos c2, Int.toNat_natCast, nums_drop]
    unfold bytes_IndexByte.f
    rw [bytesOf_nums]
    have e10 : (10 : Int).toNat.toUInt8 = 10 := rfl
    rw [e10, indexByte_split, parseM]
    simp only [Option.bind_some]
    cases hs : splitC 10 (bs.drop p) with
    | none =>
      simp only
      rw [if_pos (by omega), header_Parse.j1]
      by_cases h : bs.length ≤ 8192
      · rw [if_pos (by rw [hnl]; exact decide_eq_true (by omega)), if_pos h]
      · rw [if_neg (by rw [hnl]; simp; omega), if_pos (by omega), if_neg h]
    | some x =>
      obtain ⟨u, t⟩ := x
      simp only
      obtain ⟨e, hu⟩ := splitC_some 10 _ _ _ hs
      have hlen : p + u.length + 1 + t.length = bs.length := by
        have := congrArg List.length e
        rw [List.length_drop, List.length_append, List.length_cons] at this
        omega
      have hneg : ¬ ((u.length : Int) < 0) := by omega
      have n1 : p + u.length ≤ 9223372036854775807 := by omega
      have n2 : p + u.length + 1 ≤ 9223372036854775807 := by omega
      have n3 : u.length + 1 ≤ 9223372036854775807 := by omega
      have n4 : (p : Int) + ((u.length + 1 : Nat) : Int) = ((p + u.length + 1 : Nat) : Int) := by omega
      have w1 : wrap64 ((p : Int) + (u.length : Int)) = ((p + u.length : Nat) : Int) := wrap_nat (p + u.length) rfl n1
      have w2 : wrap64 (((p + u.length : Nat) : Int) + 1) = ((p + u.length + 1 : Nat) : Int) := wrap_nat (p + u.length + 1) rfl n2
      have w3 : wrap64 ((u.length : Int) + 1) = ((u.length + 1 : Nat) : Int) := wrap_nat (u.length + 1) rfl n3
      have w4 : wrap64 ((p : Int) + ((u.length + 1 : Nat) : Int)) = ((p + u.length + 1 : Nat) : Int) := wrap_nat (p + u.length + 1) n4 n2
      rw [if_neg hneg, header_Parse.j1, if_neg (by simp), if_neg hneg, w1, w2, w3, w4]
      clear w1 w2 w3 w4
      by_cases h1 : p + u.length + 1 > 8192
      · rw [if_pos (by omega), if_pos h1]
      · have hcl := chomp_length u
        have c3 : ((p + u.length : Nat) : Int) ≤ ((nums bs).length : Int) := by omega
        rw [if_neg (by omega), if_neg h1, if_pos c1, if_pos (by omega), if_pos c3, Int.toNat_natCast, Int.toNat_natCast, nums_take, nums_drop, strOf_nums, take_drop_of bs u (10 :: t) p e hp]
        unfold strings_TrimSuffix.f
        rw [if_pos (by rw [size_B]; omega)]
        simp only [Option.bind_some]
        rw [show (⟨(Lib.trimSuffix (B u).data.toList [13]).toArray⟩ : ByteArray) = B (chomp u) from by rw [show (B u).data.toList = u from L_B u]; rfl]
        rw [toList_L, L_B]
        by_cases h2 : chomp u = []
        · rw [if_pos h2, if_pos h2]
        · rw [if_neg h2, if_neg h2]
          unfold strings_Cut.f cutOf
          rw [if_pos (by rw [size_B]; omega)]
          simp only [Option.bind_some]
          rw [show (B (chomp u)).data.toList = chomp u from L_B _, cut_split]
          unfold headL
          cases hc : splitC 58 (chomp u) with
          | none =>
            simp only
            unfold strings_Trim.f
            rw [if_pos ⟨by decide, by decide, by decide⟩]
            simp only [Option.bind_some]
            rw [if_neg (by simp), header_Parse.j2, if_pos rfl]
          | some y =>
            obtain ⟨a, r⟩ := y
            obtain ⟨e2, _⟩ := splitC_some 58 _ _ _ hc
            have hl2 : a.length + (r.length + 1) = (chomp u).length := by rw [e2]; simp
            simp only
            unfold strings_Trim.f
            rw [if_pos ⟨by show (B r).size ≤ _; rw [size_B]; omega, by decide, by decide⟩]
            simp only [Option.bind_some, if_true]
            have ht := trimS_length r blL
            rw [show (⟨a.toArray⟩ : ByteArray) = B a from rfl, show (⟨(Lib.trimS r [32, 9]).toArray⟩ : ByteArray) = B (Lib.trimS r blL) from rfl]
            rw [may_f (B a) (B (Lib.trimS r blL)) (by rw [size_B]; omega) (by rw [size_B]; omega) _ (by rw [size_B]; omega), L_B, L_B]
            simp only [Option.bind_some]
            cases hm : mayL a (Lib.trimS r blL) with
            | false => rw [header_Parse.j2, if_pos (by rfl), if_neg (by simp)]
            | true =>
              rw [header_Parse.j2, if_neg (by simp), if_pos rfl]
              simp only
              by_cases h3 : acc.length ≥ 64
              · rw [if_pos (by omega), if_pos h3]
              · rw [if_neg (by omega), if_neg h3, if_pos (by omega)]
                exact prog_parse bs hb f k (p + u.length + 1) _ (by omega) (by omega) (by omega) (by rw [List.length_append, List.length_singleton]; omega)

/-! ### the reference's line -/
/-! ### the reference's reader -/
theorem parseM_acc (bs : List UInt8) : ∀ (f p : Nat) (acc : List S69), acc.length ≤ 64 → (parseM bs f p acc).1.length ≤ 64
  | 0, p, acc, h => by simp [parseM]
  | f + 1, p, acc, h => by
    rw [parseM]
    split
    · split <;> simp
    · split
      · simp
      · split
        · exact h
        · split
          · simp
          · split
            · simp
            · exact parseM_acc bs f _ _ (by rw [List.length_append, List.length_singleton]; omega)
end Go.Proofs.YtgkcdnkkdhmjfaaDoor.Q
set_option linter.unusedSimpArgs false
set_option linter.unusedVariables false
namespace Go.Proofs.YtgkcdnkkdhmjfaaDoor.Q
open Go Go.RowKit Go.Lib Go.Proofs.YtgkcdnkkdhmjfaaDoorW.PrintWords Go.Proofs.YtgkcdnkkdhmjfaaDoorB Go.Proofs.YtgkcdnkkdhmjfaaDoor.E Go.Proofs.YtgkcdnkkdhmjfaaDoor.P

theorem parse_f (bs : List UInt8) (hb : bs.length ≤ 1000000) (k : Nat) (hk : 4 * bs.length + 200 < k) : header_Parse.f k (nums bs) = some (parseM bs (bs.length + 1) 0 []) := by
  unfold header_Parse.f
  exact prog_parse bs hb (bs.length + 1) k 0 [] (by omega) (by omega) (by omega) (by simp)
end Go.Proofs.YtgkcdnkkdhmjfaaDoor.Q
