/- The law ChunkEncodes. -/
import Derived.Test.YtgkcdnkkdhmjfaaDoorD6
set_option linter.unusedSimpArgs false
set_option linter.unusedVariables false
namespace Go.Proofs.YtgkcdnkkdhmjfaaDoor.Q
open Go Go.RowKit Go.Lib Go.Proofs.YtgkcdnkkdhmjfaaDoorW.PrintWords Go.Proofs.YtgkcdnkkdhmjfaaDoorB Go.Proofs.YtgkcdnkkdhmjfaaDoor.E Go.Proofs.YtgkcdnkkdhmjfaaDoor.P

theorem rdL_nums (l : List (List UInt8)) (i : Nat) : rd_L1 (l.map nums) (i : Int) = nums (l.getD i []) := by
  unfold rd_L1
  rw [Int.toNat_natCast, List.getD_eq_getElem?_getD, List.getD_eq_getElem?_getD, List.getElem?_map]
  cases l[i]? <;> rfl
theorem drop_getD (l : List (List UInt8)) (i : Nat) (h : i < l.length) : l.drop i = l.getD i [] :: l.drop (i + 1) := by
  rw [List.getD_eq_getElem?_getD, List.getElem?_eq_getElem h, Option.getD_some]
  exact List.drop_eq_getElem_cons h
theorem sum_drop (l : List (List UInt8)) (i : Nat) (h : i < l.length) : ((l.drop i).map List.length).sum = (l.getD i []).length + ((l.drop (i + 1)).map List.length).sum := by
  rw [drop_getD l i h]; simp
/-- How far the reference counts. -/
theorem total_l0 (l : List (List UInt8)) (hl : l.length ≤ 9223372036854775806) (hp : ∀ p ∈ l, p.length ≤ 4611686018427387904) : ∀ (d k i n : Nat), i + d = l.length → d < k → n ≤ 4611686018427420672 →
    ∃ t : Nat, lanternref10_Total.l0 k (l.map nums) n i = some (t : Int) ∧ (32768 < n + ((l.drop i).map List.length).sum → 32768 < t) ∧ (n + ((l.drop i).map List.length).sum ≤ 32768 → t = n + ((l.drop i).map List.length).sum)
  | 0, k, i, n, hd, hk, hn => by
    obtain ⟨k, rfl⟩ : ∃ m, k = m + 1 := ⟨k - 1, by omega⟩
    have hm : (l.map nums).length = l.length := List.length_map _
    rw [lanternref10_Total.l0, if_neg (by omega), List.drop_eq_nil_of_le (by omega)]
    exact ⟨n, rfl, by simp, by simp⟩
  | d + 1, k, i, n, hd, hk, hn => by
    obtain ⟨k, rfl⟩ : ∃ m, k = m + 1 := ⟨k - 1, by omega⟩
    have hm : (l.map nums).length = l.length := List.length_map _
    have hs := sum_drop l i (by omega)
    rw [lanternref10_Total.l0, if_pos (by omega)]
    by_cases hb : n ≤ 32768
    · have hq : (l.getD i []).length ≤ 4611686018427387904 := by
        rw [List.getD_eq_getElem?_getD, List.getElem?_eq_getElem (by omega), Option.getD_some]
        exact hp _ (List.getElem_mem _)
      have n1 : (n : Int) + ((l.getD i []).length : Int) = ((n + (l.getD i []).length : Nat) : Int) := by omega
      have m1 : n + (l.getD i []).length ≤ 9223372036854775807 := by omega
      have m2 : i + 1 ≤ 9223372036854775807 := by omega
      obtain ⟨t, h1, h2, h3⟩ := total_l0 l hl hp d k (i + 1) (n + (l.getD i []).length) (by omega) (by omega) (by omega)
      rw [if_pos (by omega), if_pos (by omega), rdL_nums, nums_length, wrap_nat _ n1 m1, wrap_nat (x := (i : Int) + 1) (i + 1) rfl m2]
      exact ⟨t, h1, fun h => h2 (by omega), fun h => by rw [h3 (by omega)]; omega⟩
    · rw [if_neg (by omega)]
      exact ⟨n, rfl, fun _ => by omega, fun h => by omega⟩
theorem total_f (l : List (List UInt8)) (hl : l.length ≤ 9223372036854775806) (hp : ∀ p ∈ l, p.length ≤ 4611686018427387904) (k : Nat) (hk : l.length < k) : ∃ t : Nat, lanternref10_Total.f k (l.map nums) = some (t : Int) ∧ (32768 < (l.map List.length).sum → 32768 < t) ∧ ((l.map List.length).sum ≤ 32768 → t = (l.map List.length).sum) := by
  obtain ⟨t, h1, h2, h3⟩ := total_l0 l hl hp l.length k 0 0 (by omega) hk (by omega)
  rw [List.drop_zero, Nat.zero_add] at h2 h3
  exact ⟨t, h1, h2, h3⟩
theorem light_f (l : List (List UInt8)) (hl : l.length ≤ 9223372036854775806) (hp : ∀ p ∈ l, p.length ≤ 4611686018427387904) (k : Nat) (hk : l.length < k) : lanternlaw10_light.f k (l.map nums) = some (decide (l.length ≤ 100 ∧ (l.map List.length).sum ≤ 6000)) := by
  obtain ⟨t, h1, h2, h3⟩ := total_f l hl hp k hk
  have hm : (l.map nums).length = l.length := List.length_map _
  unfold lanternlaw10_light.f
  rw [hm]
  by_cases c : l.length ≤ 100
  · rw [if_pos (by omega), h1, Option.bind_some]
    congr 1
    by_cases c2 : (l.map List.length).sum ≤ 6000
    · rw [decide_eq_true (show l.length ≤ 100 ∧ _ from ⟨c, c2⟩), h3 (by omega)]
      exact decide_eq_true (by omega)
    · rw [decide_eq_false (show ¬ (l.length ≤ 100 ∧ (l.map List.length).sum ≤ 6000) from fun h => c2 h.2)]
      refine decide_eq_false ?_
      by_cases c3 : (l.map List.length).sum ≤ 32768
      · rw [h3 c3]; omega
      · have := h2 (by omega); omega
  · rw [if_neg (by omega), decide_eq_false (show ¬ (l.length ≤ 100 ∧ (l.map List.length).sum ≤ 6000) from fun h => c h.1)]
theorem hex_tab : ∀ d : Fin 16, (⟨#[48, 49, 50, 51, 52, 53, 54, 55, 56, 57, 97, 98, 99, 100, 101, 102]⟩ : ByteArray).extract d.val (d.val + 1) = B [dg d.val] := by decide +kernel
theorem hexN_small (n : Nat) (h : n < 16) : hexN n = [dg n] := by
  unfold hexN hexJ
  rw [if_pos h, hexB_zero]
theorem hexN_step (n : Nat) (h : ¬ n < 16) (hn : n < 65536) : hexN n = hexN (n / 16) ++ [dg n] := by
  have e : hexJ n = hexJ (n / 16) + 1 := by
    unfold hexJ
    repeat' split
    all_goals omega
  unfold hexN
  rw [e, hexB_succ]
theorem hex_small (k n : Nat) (h : n < 16) : lanternref10_hex.f (k + 1) (n : Int) = some (B [dg n]) := by
  have m1 : n + 1 ≤ 9223372036854775807 := by omega
  have w1 : wrap64 ((n : Int) + 1) = ((n + 1 : Nat) : Int) := wrap_nat (n + 1) rfl m1
  rw [lanternref10_hex.f, w1]
  clear w1
  rw [if_pos (by omega), if_pos (by omega), if_pos (by omega), if_pos (by omega), Int.toNat_natCast, Int.toNat_natCast, hex_tab ⟨n, h⟩]
theorem hex_f : ∀ (d k n : Nat), n < 65536 → n < 16 ^ (d + 1) → d + 1 < k → lanternref10_hex.f k (n : Int) = some (B (hexN n))
  | 0, k, n, hn, h, hk => by
    obtain ⟨k, rfl⟩ : ∃ m, k = m + 1 := ⟨k - 1, by omega⟩
    have h' : n < 16 := by simpa using h
    rw [hex_small k n h', hexN_small n h']
  | d + 1, k, n, hn, h, hk => by
    obtain ⟨k, rfl⟩ : ∃ m, k = m + 2 := ⟨k - 2, by omega⟩
    by_cases h' : n < 16
    · rw [hex_small (k + 1) n h', hexN_small n h']
    · have t1 : Int.tdiv (n : Int) 16 = ((n / 16 : Nat) : Int) := by rw [Int.tdiv_eq_ediv_of_nonneg (by omega)]; omega
      have t2 : Int.tmod (n : Int) 16 = ((n % 16 : Nat) : Int) := by rw [Int.tmod_eq_emod_of_nonneg (by omega)]; omega
      have m1 : n / 16 ≤ 9223372036854775807 := by omega
      have hh : n / 16 < 16 ^ (d + 1) := by rw [Nat.div_lt_iff_lt_mul (by decide)]; rw [Nat.pow_succ] at h; exact h
      have hl := hexN_length (n / 16)
      rw [lanternref10_hex.f, if_neg (by omega), t1, t2, wrap_nat _ rfl m1, hex_f d (k + 1) (n / 16) (by omega) hh (by omega), hex_small k (n % 16) (Nat.mod_lt _ (by decide)), Option.bind_some, Option.bind_some, size_B, size_B, if_pos (by simp only [List.length_singleton]; omega), append_B, ← dg_mod, hexN_step n h' hn]
theorem bytesOf_B (l : List UInt8) : Go.Proofs.YtgkcdnkkdhmjfaaDoorW.PrintWords.bytesOf (B l) = nums l := by
  unfold Go.Proofs.YtgkcdnkkdhmjfaaDoorW.PrintWords.bytesOf nums
  rw [show (B l).data.toList = l from L_B l]
theorem all_l0 (l : List (List UInt8)) (hl : l.length ≤ 100) : ∀ (d k i : Nat) (acc : List UInt8), i + d = l.length → d < k → acc.length + ((l.drop i).map List.length).sum ≤ 1000000 →
    lanternlaw10_all.l0 k (l.map nums) (nums acc) i = some (nums (acc ++ (l.drop i).flatten))
  | 0, k, i, acc, hd, hk, hn => by
    obtain ⟨k, rfl⟩ : ∃ m, k = m + 1 := ⟨k - 1, by omega⟩
    have hm : (l.map nums).length = l.length := List.length_map _
    rw [lanternlaw10_all.l0, if_neg (by omega), List.drop_eq_nil_of_le (by omega)]
    simp
  | d + 1, k, i, acc, hd, hk, hn => by
    obtain ⟨k, rfl⟩ : ∃ m, k = m + 1 := ⟨k - 1, by omega⟩
    have hm : (l.map nums).length = l.length := List.length_map _
    have hs := sum_drop l i (by omega)
    have m2 : i + 1 ≤ 9223372036854775807 := by omega
    rw [lanternlaw10_all.l0, if_pos (by omega), if_pos (by omega), rdL_nums, nums_length, nums_length, if_pos (by omega), wrap_nat (x := (i : Int) + 1) (i + 1) rfl m2, ← nums_append, all_l0 l hl d k (i + 1) _ (by omega) (by omega) (by rw [List.length_append]; omega), drop_getD l i (by omega)]
    simp
theorem encode_l0 (l : List (List UInt8)) (hl : l.length ≤ 100) (ht : (l.map List.length).sum ≤ 6000) : ∀ (d k i : Nat) (acc : List UInt8), i + d = l.length → d + 10 < k → acc.length + 9 * ((l.drop i).map List.length).sum ≤ 1000000 →
    lanternref10_Encode.l0 k (l.map nums) (nums acc) i = some (nums (acc ++ encL (l.drop i) ++ lastL))
  | 0, k, i, acc, hd, hk, hn => by
    obtain ⟨k, rfl⟩ : ∃ m, k = m + 1 := ⟨k - 1, by omega⟩
    have hm : (l.map nums).length = l.length := List.length_map _
    rw [lanternref10_Encode.l0, if_neg (by omega), List.drop_eq_nil_of_le (by omega), Option.bind_some, nums_length, if_pos (by simp only [List.length_cons, List.length_nil]; omega), show ([48, 13, 10, 13, 10] : List Int) = nums lastL from rfl, ← nums_append]
    simp [encL]
  | d + 1, k, i, acc, hd, hk, hn => by
    obtain ⟨k, rfl⟩ : ∃ m, k = m + 1 := ⟨k - 1, by omega⟩
    have hm : (l.map nums).length = l.length := List.length_map _
    have hs := sum_drop l i (by omega)
    have m2 : i + 1 ≤ 9223372036854775807 := by omega
    have hq : (l.getD i []).length ≤ 6000 := by
      have h0 : ∀ (j : Nat), ((l.drop j).map List.length).sum ≤ (l.map List.length).sum := by
        intro j
        conv => rhs; rw [← List.take_append_drop j l]
        rw [List.map_append, List.sum_append]
        omega
      have := h0 i
      omega
    rw [lanternref10_Encode.l0, if_pos (by omega), if_pos (by omega), rdL_nums, nums_length, wrap_nat (x := (i : Int) + 1) (i + 1) rfl m2]
    have hdr := drop_getD l i (by omega)
    generalize hc : l.getD i [] = c at *
    by_cases h0 : c = []
    · subst h0
      rw [if_pos (by rfl), encode_l0 l hl ht d k (i + 1) acc (by omega) (by omega) (by simp only [List.length_nil] at hs; omega), hdr]
      rfl
    · have hpos := List.length_pos_iff.2 h0
      have hx := hexN_length c.length
      rw [if_neg (by omega), hex_f 3 k c.length (by omega) (by simp only [Nat.reduceAdd, Nat.reducePow]; omega) (by omega), Option.bind_some, size_B, nums_length, if_pos (by omega), Option.bind_some, bytesOf_B, ← nums_append, Option.bind_some, nums_length, if_pos (by simp only [List.length_append, List.length_cons, List.length_nil]; omega), Option.bind_some, show ([13, 10] : List Int) = nums [13, 10] from rfl, ← nums_append, nums_length, if_pos (by simp only [List.length_append, List.length_cons, List.length_nil]; omega), Option.bind_some, ← nums_append, Option.bind_some, nums_length, nums_length, if_pos (by simp only [List.length_append, List.length_cons, List.length_nil]; omega), ← nums_append]
      rw [encode_l0 l hl ht d k (i + 1) _ (by omega) (by omega) (by simp only [List.length_append, List.length_cons, List.length_nil]; omega), hdr]
      congr 2
      show _ = acc ++ (encP c ++ encL (l.drop (i + 1))) ++ lastL
      unfold encP
      rw [if_neg h0]
      simp
theorem ChunkEncodes_plain (l : List (List UInt8)) (more : List UInt8) (hl : l.length ≤ 9223372036854775806) (hp : ∀ p ∈ l, p.length ≤ 4611686018427387904) : ∃ k, lanternlaw10_ChunkEncodes.f k (l.map nums) (nums more) = some true := by
  refine ⟨l.length + 2000000, ?_⟩
  obtain ⟨t, h1, h2, h3⟩ := total_f l hl hp (l.length + 2000000) (by omega)
  have hA : ∀ j, 3000 < j → lanternlaw10_awake.f j = some true := awake_f
  unfold lanternlaw10_ChunkEncodes.f
  rw [Encode_f, Option.bind_some, h1, Option.bind_some]
  by_cases c1 : 32768 < (l.map List.length).sum
  · have := h2 c1
    rw [if_pos (by omega), if_pos c1]
    dsimp only
    rw [if_pos rfl, if_pos (by rfl), hA _ (by omega)]
    rfl
  · have ht := h3 (by omega)
    rw [if_neg (by omega), if_neg c1, light_f l hl hp _ (by omega), Option.bind_some]
    have hskip : lanternlaw10_ChunkEncodes.j0 (l.length + 2000000) (l.map nums) (nums more) (nums (encL l ++ lastL)) 0 true = some true := by
      rw [show l.length + 2000000 = (l.length + 1999999) + 1 from rfl, lanternlaw10_ChunkEncodes.j0, if_pos rfl, if_pos rfl, hA _ (by omega)]
      rfl
    by_cases c2 : l.length ≤ 100 ∧ (l.map List.length).sum ≤ 6000
    · rw [decide_eq_true c2, if_pos rfl, nums_length]
      by_cases c3 : 2000 < more.length
      · rw [decide_eq_true (by omega)]
        exact hskip
      · have hple := pieces_le (l.map nums)
        rw [piecesI_nums, nums_length, totalL_nums] at hple
        have h5 : lastL.length = 5 := rfl
        have hlen : (encL l ++ lastL).length = (encL l).length + 5 := by rw [List.length_append, h5]
        have hbl : (encL l ++ lastL ++ more).length ≤ 57000 := by rw [List.length_append, hlen]; omega
        have hdec := dec_enc more (encL l ++ lastL ++ more) (by omega) l ((encL l ++ lastL ++ more).length + 1) 0 [] (by omega) (by simp) (by rw [List.length_append, hlen]; omega) (by simp only [List.length_nil]; omega)
        rw [decide_eq_false (by omega), show l.length + 2000000 = (l.length + 1999999) + 1 from rfl, lanternlaw10_ChunkEncodes.j0, if_neg (by simp), Option.bind_some, List.nil_append, nums_length, List.length_nil, if_pos (by omega), Option.bind_some, nums_length, nums_length, if_pos (by omega), ← nums_append, decode_f _ (by omega) _ (by omega), Option.bind_some, if_pos rfl]
        have henc := encode_l0 l c2.1 c2.2 l.length (l.length + 1999999) 0 [] (by omega) (by omega) (by simp only [List.length_nil, List.drop_zero]; omega)
        have hall := all_l0 l c2.1 l.length (l.length + 1999999) 0 [] (by omega) (by omega) (by simp only [List.length_nil, List.drop_zero]; omega)
        rw [show lanternref10_Encode.f (l.length + 1999999) (l.map nums) = some (nums ([] ++ encL (l.drop 0) ++ lastL)) from henc, Option.bind_some, List.drop_zero, List.nil_append, if_pos rfl, hdec]
        dsimp only
        rw [if_pos rfl, if_pos (by rw [hlen]; simp), show lanternlaw10_all.f (l.length + 1999999) (l.map nums) = some (nums ([] ++ (l.drop 0).flatten)) from hall, Option.bind_some, List.drop_zero, List.nil_append, if_pos rfl, hA _ (by omega)]
        rfl
    · rw [decide_eq_false c2, if_neg (by simp)]
      exact hskip
end Go.Proofs.YtgkcdnkkdhmjfaaDoor.Q
