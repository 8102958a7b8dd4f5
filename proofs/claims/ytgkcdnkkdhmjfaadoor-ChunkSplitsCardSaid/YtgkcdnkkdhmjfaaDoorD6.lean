/- Pieces as a body in chunks; that it is read back: plain. -/
import Derived.Test.YtgkcdnkkdhmjfaaDoorD5
set_option linter.unusedSimpArgs false
set_option linter.unusedVariables false
namespace Go.Proofs.YtgkcdnkkdhmjfaaDoor.Q
open Go Go.RowKit Go.Lib Go.Proofs.YtgkcdnkkdhmjfaaDoorW.PrintWords Go.Proofs.YtgkcdnkkdhmjfaaDoorB Go.Proofs.YtgkcdnkkdhmjfaaDoor.E Go.Proofs.YtgkcdnkkdhmjfaaDoor.P

/-! ### a number in hexadecimal -/
def dg (x : Nat) : UInt8 := UInt8.ofNat (bt hexS ((x % 16 : Nat) : Int)).toNat
theorem dg_facts : ∀ d : Fin 16, puD (dg d.val).toNat = d.val ∧ dg d.val ≠ 10 ∧ dg d.val ≠ 13 ∧ dg d.val ≠ 59 := by decide +kernel
theorem dg_mod (x : Nat) : dg x = dg (x % 16) := by unfold dg; rw [Nat.mod_mod]
theorem dg_val (x : Nat) : puD (dg x).toNat = x % 16 := by rw [dg_mod]; exact (dg_facts ⟨x % 16, Nat.mod_lt _ (by decide)⟩).1
theorem dg_ne (x : Nat) : dg x ≠ 10 ∧ dg x ≠ 13 ∧ dg x ≠ 59 := by rw [dg_mod]; exact (dg_facts ⟨x % 16, Nat.mod_lt _ (by decide)⟩).2
theorem hexB_map (n j : Nat) : hexB n j = (List.range (j + 1)).map fun i => dg (n / 16 ^ (j - i)) := rfl
theorem hexB_succ (n j : Nat) : hexB n (j + 1) = hexB (n / 16) j ++ [dg n] := by
  rw [hexB_map, hexB_map, List.range_succ, List.map_append]
  congr 1
  · apply List.map_congr_left
    intro i hi
    have hi' := List.mem_range.1 hi
    rw [Nat.div_div_eq_div_mul, show j + 1 - i = j - i + 1 from by omega, Nat.pow_succ, Nat.mul_comm]
  · simp
theorem hexB_zero (n : Nat) : hexB n 0 = [dg n] := by simp [hexB_map]
theorem hexB_mem (n j : Nat) : ∀ c ∈ hexB n j, c ≠ 10 ∧ c ≠ 13 ∧ c ≠ 59 := by
  intro c hc
  rw [hexB_map] at hc
  obtain ⟨i, _, rfl⟩ := List.mem_map.1 hc
  exact dg_ne _
theorem valL_append (base : Nat) : ∀ (a b : List UInt8) (n : Nat), valL base (a ++ b) n = (valL base a n).bind fun m => valL base b m
  | [], b, n => rfl
  | c :: a, b, n => by
    rw [List.cons_append, valL, valL]
    split
    · rfl
    · exact valL_append base a b _
theorem valL_hexB : ∀ (j n : Nat), n < 16 ^ (j + 1) → valL 16 (hexB n j) 0 = some n
  | 0, n, h => by
    have h' : n < 16 := by simpa using h
    rw [hexB_zero, valL, dg_val, if_neg (by omega), valL]
    congr 1
    omega
  | j + 1, n, h => by
    rw [hexB_succ, valL_append, valL_hexB j (n / 16) (by rw [Nat.div_lt_iff_lt_mul (by decide)]; rw [Nat.pow_succ] at h; exact h), Option.bind_some, valL, dg_val, if_neg (by omega), valL]
    congr 1
    omega
theorem hexJ_lt (n : Nat) (h : n < 65536) : n < 16 ^ (hexJ n + 1) := by
  unfold hexJ
  repeat' split
  all_goals (simp only [Nat.reduceAdd, Nat.reducePow]; omega)
theorem hexN_ne (n : Nat) : ∀ c ∈ hexN n, c ≠ 10 ∧ c ≠ 13 ∧ c ≠ 59 := hexB_mem n _
theorem splitC_no (c : UInt8) : ∀ (l : List UInt8), (∀ b ∈ l, b ≠ c) → splitC c l = none
  | [], _ => rfl
  | b :: l, h => by
    rw [splitC, if_neg (h b (by simp)), splitC_no c l (fun x hx => h x (by simp [hx]))]
    rfl
theorem splitC_at (c : UInt8) (t : List UInt8) : ∀ (u : List UInt8), (∀ b ∈ u, b ≠ c) → splitC c (u ++ c :: t) = some (u, t)
  | [], _ => by simp [splitC]
  | b :: u, h => by
    rw [List.cons_append, splitC, if_neg (h b (by simp)), splitC_at c t u (fun x hx => h x (by simp [hx]))]
    rfl
theorem sizeL_hexN (n : Nat) (hn : n < 65536) : sizeL (hexN n) = some n := by
  obtain ⟨h1, h2⟩ := hexN_length n
  have h13 := splitC_no 13 (hexN n) (fun b hb => (hexN_ne n b hb).2.1)
  have h59 := splitC_no 59 (hexN n) (fun b hb => (hexN_ne n b hb).2.2)
  have hh : headOf (hexN n) = hexN n := by unfold headOf; rw [h59]
  unfold sizeL
  rw [if_neg (by omega), if_neg (by rw [h13]; simp), hh, if_neg (by rintro (h | h); rw [h] at h1; simp at h1; omega)]
  exact valL_hexB _ n (hexJ_lt n hn)
theorem lineM_at (u X : List UInt8) (hu : ∀ b ∈ u, b ≠ 10) (hl : u.length ≤ 256) : lineM (u ++ 13 :: 10 :: X) = .inl u := by
  have e : u ++ 13 :: 10 :: X = (u ++ [13]) ++ 10 :: X := by simp
  have hs := splitC_at 10 X (u ++ [13]) (fun b hb => (List.mem_append.1 hb).elim (hu b) (fun h => by rw [List.mem_singleton.1 h]; decide))
  unfold lineM
  rw [e, hs]
  dsimp only
  have hlen : (u ++ [13]).length = u.length + 1 := by simp
  rw [if_neg]
  · rw [hlen, Nat.add_sub_cancel, List.take_left]
  · rintro (h | h | h)
    · simp at h
    · rw [hlen] at h; omega
    · apply h
      rw [hlen, Nat.add_sub_cancel]
      simp [List.getD_eq_getElem?_getD]

/-! ### pieces -/
def encP (p : List UInt8) : List UInt8 := if p = [] then [] else hexN p.length ++ 13 :: 10 :: (p ++ [13, 10])
def encL (l : List (List UInt8)) : List UInt8 := l.flatMap encP
def lastL : List UInt8 := [48, 13, 10, 13, 10]
theorem nums_append (a b : List UInt8) : nums (a ++ b) = nums a ++ nums b := by simp [nums]
theorem pieceI_nums (p : List UInt8) : pieceI (nums p) = nums (encP p) := by
  unfold pieceI encP
  by_cases h : p = []
  · subst h; rfl
  · rw [if_neg h, if_neg (by simpa [nums] using h), nums_length]
    simp [nums, numsU]
theorem piecesI_nums (l : List (List UInt8)) : piecesI (l.map nums) = nums (encL l) := by
  induction l with
  | nil => rfl
  | cons p l ih =>
    simp only [piecesI, encL, List.map_cons, List.flatMap_cons, nums_append, pieceI_nums] at ih ⊢
    rw [ih]
theorem totalL_nums (l : List (List UInt8)) : totalL (l.map nums) = (l.map List.length).sum := by
  simp [totalL, nums, Function.comp_def]
theorem Encode_f (l : List (List UInt8)) : chunk_Encode.f (l.map nums) = some (if 32768 < (l.map List.length).sum then ([], 3) else (nums (encL l ++ lastL), 0)) := by
  unfold chunk_Encode.f
  rw [totalL_nums]
  split
  · rfl
  · rw [piecesI_nums, nums_append]; rfl
theorem flatten_length (l : List (List UInt8)) : l.flatten.length = (l.map List.length).sum := List.length_flatten

theorem dec_last (more : List UInt8) (bs : List UInt8) (p f : Nat) (body : List UInt8) (hb : bs.length ≤ 100000) (hp : p + 5 ≤ bs.length) (h : bs.drop p = lastL ++ more) :
    decM bs (f + 1) p body = (nums body, ((p + 5 : Nat) : Int), 0) := by
  rw [decM, h, show lastL ++ more = [48] ++ 13 :: 10 :: ([13, 10] ++ more) from rfl, lineM_at [48] _ (by decide) (by decide)]
  have hs : sizeL [48] = some 0 := by kernel_rfl
  dsimp only
  rw [hs]
  dsimp only
  have hd : bs.drop (p + [(48 : UInt8)].length + 2) = 13 :: 10 :: more := by
    rw [show p + [(48 : UInt8)].length + 2 = p + 3 from rfl, ← List.drop_drop, h]
    rfl
  have hpm : ∀ k, parseM (13 :: 10 :: more) (k + 1) 0 [] = ([], 2, 0) := by
    intro k
    rw [parseM, List.drop_zero, show (13 :: 10 :: more : List UInt8) = [13] ++ 10 :: more from rfl, splitC_at 10 more [13] (by decide)]
    dsimp only
    rw [if_neg (by decide), if_pos (by rfl)]
    rfl
  rw [if_pos rfl, hd, hpm, if_pos rfl]
  have m1 : p + 5 ≤ 9223372036854775807 := by omega
  have n1 : ((p + [(48 : UInt8)].length + 2 : Nat) : Int) + 2 = ((p + 5 : Nat) : Int) := by rw [List.length_singleton]; omega
  rw [wrap_nat _ n1 m1]
theorem dec_enc (more : List UInt8) (bs : List UInt8) (hb : bs.length ≤ 100000) : ∀ (l : List (List UInt8)) (f p : Nat) (body : List UInt8), p ≤ bs.length → bs.drop p = encL l ++ (lastL ++ more) → (encL l).length < f → body.length + (l.map List.length).sum ≤ 32768 →
    decM bs f p body = (nums (body ++ l.flatten), ((p + (encL l).length + 5 : Nat) : Int), 0)
  | [], f, p, body, hp, h, hf, ht => by
    obtain ⟨f, rfl⟩ : ∃ m, f = m + 1 := ⟨f - 1, by omega⟩
    have hl := congrArg List.length h
    rw [List.length_drop, List.length_append, List.length_append] at hl
    have h5 : lastL.length = 5 := rfl
    rw [dec_last more bs p f body hb (by omega) h]
    simp [encL]
  | c :: l, f, p, body, hp, h, hf, ht => by
    by_cases hc : c = []
    · subst hc
      have e : encL ([] :: l) = encL l := rfl
      rw [e] at h hf ⊢
      have := dec_enc more bs hb l f p body hp h hf (by simpa using ht)
      simpa using this
    · obtain ⟨f, rfl⟩ : ∃ m, f = m + 1 := ⟨f - 1, by omega⟩
      have hpos := List.length_pos_iff.2 hc
      simp only [List.map_cons, List.sum_cons] at ht
      have e : encL (c :: l) = hexN c.length ++ 13 :: 10 :: (c ++ 13 :: 10 :: encL l) := by
        show encP c ++ encL l = _
        unfold encP
        rw [if_neg hc]
        simp
      have hlx := hexN_length c.length
      have hle : (encL (c :: l)).length = (hexN c.length).length + 2 + c.length + 2 + (encL l).length := by
        rw [e]; simp only [List.length_append, List.length_cons]; omega
      have hl := congrArg List.length h
      rw [List.length_drop, List.length_append, List.length_append, hle] at hl
      have h5 : lastL.length = 5 := rfl
      rw [e] at h
      have h1 : bs.drop p = hexN c.length ++ 13 :: 10 :: (c ++ 13 :: 10 :: (encL l ++ (lastL ++ more))) := by rw [h]; simp
      have h2 : bs.drop (p + (hexN c.length).length + 2) = c ++ 13 :: 10 :: (encL l ++ (lastL ++ more)) := by
        rw [Nat.add_assoc, ← List.drop_drop, h1, ← List.drop_drop, List.drop_left]
        rfl
      have h3 : bs.drop (p + (hexN c.length).length + 2 + c.length) = 13 :: 10 :: (encL l ++ (lastL ++ more)) := by
        rw [← List.drop_drop, h2, List.drop_left]
      have h4 : bs.drop (p + (hexN c.length).length + 2 + c.length + 2) = encL l ++ (lastL ++ more) := by
        rw [← List.drop_drop, h3]; rfl
      rw [decM, h1, lineM_at _ _ (fun b hb => (hexN_ne _ b hb).1) (by omega)]
      dsimp only
      rw [sizeL_hexN c.length (by omega)]
      dsimp only
      rw [if_neg (by omega), if_neg (by omega), if_neg (by omega), h3]
      dsimp only
      rw [if_neg (by decide), if_neg (by decide), h2, List.take_left]
      rw [dec_enc more bs hb l f _ (body ++ c) (by omega) h4 (by omega) (by rw [List.length_append]; omega)]
      rw [hle]
      have e3 : p + (hexN c.length).length + 2 + c.length + 2 + (encL l).length + 5 = p + ((hexN c.length).length + 2 + c.length + 2 + (encL l).length) + 5 := by omega
      rw [e3]
      simp
end Go.Proofs.YtgkcdnkkdhmjfaaDoor.Q
