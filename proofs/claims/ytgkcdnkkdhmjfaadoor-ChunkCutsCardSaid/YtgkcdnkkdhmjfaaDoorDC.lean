/- The law ChunkCuts: of a beginning more is to come. -/
import Derived.Test.YtgkcdnkkdhmjfaaDoorDR
set_option linter.unusedSimpArgs false
set_option linter.unusedVariables false
namespace Go.Proofs.YtgkcdnkkdhmjfaaDoor.Q
open Go Go.RowKit Go.Lib Go.Proofs.YtgkcdnkkdhmjfaaDoorW.PrintWords Go.Proofs.YtgkcdnkkdhmjfaaDoorB Go.Proofs.YtgkcdnkkdhmjfaaDoor.E Go.Proofs.YtgkcdnkkdhmjfaaDoor.P

theorem lineM_more (r : List UInt8) (h : ∀ b ∈ r, b ≠ 10) (hl : r.length < 258) : lineM r = .inr 10 := by
  unfold lineM
  rw [splitC_no 10 r h]
  dsimp only
  rw [if_pos hl]
theorem dec_more (bs : List UInt8) (f p : Nat) (body : List UInt8) (h : ∀ b ∈ bs.drop p, b ≠ 10) (hl : (bs.drop p).length < 258) : decM bs (f + 1) p body = ([], 0, 10) := by
  rw [decM, lineM_more _ h hl]
theorem parse_more (r : List UInt8) (h : ∀ b ∈ r, b ≠ 10) (hl : r.length < 258) (k : Nat) : parseM r (k + 1) 0 [] = ([], 0, 10) := by
  rw [parseM, List.drop_zero, splitC_no 10 r h]
  dsimp only
  rw [if_pos (by omega)]
theorem dec_cut_last (bs : List UInt8) (f p m : Nat) (body : List UInt8) (hm : m < 5) (h : bs.drop p = lastL.take m) : decM bs (f + 1) p body = ([], 0, 10) := by
  have hz : sizeL [48] = some 0 := by kernel_rfl
  have hend : ∀ r : List UInt8, (∀ b ∈ r, b ≠ 10) → r.length < 258 → bs.drop p = [48] ++ 13 :: 10 :: r → decM bs (f + 1) p body = ([], 0, 10) := by
    intro r h1 h2 h3
    rw [decM, h3, lineM_at [48] _ (by decide) (by decide)]
    dsimp only
    rw [hz]
    dsimp only
    have hd : bs.drop (p + [(48 : UInt8)].length + 2) = r := by
      rw [show p + [(48 : UInt8)].length + 2 = p + 3 from rfl, ← List.drop_drop, h3]
      rfl
    rw [if_pos rfl, hd, parse_more r h1 h2, if_neg (by decide)]
  obtain rfl | rfl | rfl | rfl | rfl : m = 0 ∨ m = 1 ∨ m = 2 ∨ m = 3 ∨ m = 4 := by omega
  · exact dec_more bs f p body (by rw [h]; decide) (by rw [h]; decide)
  · exact dec_more bs f p body (by rw [h]; decide) (by rw [h]; decide)
  · exact dec_more bs f p body (by rw [h]; decide) (by rw [h]; decide)
  · exact hend [] (by decide) (by decide) (by rw [h]; rfl)
  · exact hend [13] (by decide) (by decide) (by rw [h]; rfl)
theorem dec_cut (bs : List UInt8) (hb : bs.length ≤ 100000) : ∀ (l : List (List UInt8)) (f p m : Nat) (body : List UInt8), p ≤ bs.length → bs.drop p = (encL l ++ lastL).take m → m < (encL l ++ lastL).length → m < f → body.length + (l.map List.length).sum ≤ 32768 →
    decM bs f p body = ([], 0, 10)
  | [], f, p, m, body, hp, h, hm, hf, ht => by
    obtain ⟨f, rfl⟩ : ∃ m, f = m + 1 := ⟨f - 1, by omega⟩
    exact dec_cut_last bs f p m body hm h
  | c :: l, f, p, m, body, hp, h, hm, hf, ht => by
    by_cases hc : c = []
    · subst hc
      have e : encL ([] :: l) = encL l := rfl
      rw [e] at h hm
      exact dec_cut bs hb l f p m body hp h hm hf (by simpa using ht)
    · obtain ⟨f, rfl⟩ : ∃ m, f = m + 1 := ⟨f - 1, by omega⟩
      have hpos := List.length_pos_iff.2 hc
      simp only [List.map_cons, List.sum_cons] at ht
      have hlx := hexN_length c.length
      have e : encL (c :: l) ++ lastL = hexN c.length ++ 13 :: 10 :: (c ++ 13 :: 10 :: (encL l ++ lastL)) := by
        have : encL (c :: l) = encP c ++ encL l := rfl
        rw [this]
        unfold encP
        rw [if_neg hc]
        simp
      have hlen : (encL (c :: l) ++ lastL).length = (hexN c.length).length + 2 + c.length + 2 + (encL l ++ lastL).length := by
        rw [e]; simp only [List.length_append, List.length_cons]; omega
      have hbl : bs.length = p + m := by
        have := congrArg List.length h
        rw [List.length_drop, List.length_take] at this
        omega
      rw [hlen] at hm
      rw [e] at h
      have hne := hexN_ne c.length
      generalize hh : hexN c.length = u at *
      by_cases c1 : m ≤ u.length + 1
      · have h1 : bs.drop p = (u ++ [13]).take m := by
          rw [h, show u ++ 13 :: 10 :: (c ++ 13 :: 10 :: (encL l ++ lastL)) = (u ++ [13]) ++ 10 :: (c ++ 13 :: 10 :: (encL l ++ lastL)) by simp, List.take_append_of_le_length (by simp; omega)]
        refine dec_more bs f p body (fun b hb' => ?_) (by rw [List.length_drop]; omega)
        rw [h1] at hb'
        rcases List.mem_append.1 (List.mem_of_mem_take hb') with h2 | h2
        · exact (hne b h2).1
        · rw [List.mem_singleton.1 h2]; decide
      · obtain ⟨r, rfl⟩ : ∃ r, m = u.length + 2 + r := ⟨m - u.length - 2, by omega⟩
        have h1 : bs.drop p = u ++ 13 :: 10 :: (c ++ 13 :: 10 :: (encL l ++ lastL)).take r := by
          rw [h, Nat.add_assoc, List.take_length_add_append, Nat.add_comm 2 r]
          rfl
        have h2 : bs.drop (p + u.length + 2) = (c ++ 13 :: 10 :: (encL l ++ lastL)).take r := by
          rw [Nat.add_assoc, ← List.drop_drop, h1, ← List.drop_drop, List.drop_left]
          rfl
        rw [decM, h1, lineM_at _ _ (fun b hb' => (hne b hb').1) (by omega)]
        dsimp only
        rw [← hh, sizeL_hexN c.length (by omega)]
        dsimp only
        rw [hh, if_neg (by omega), if_neg (by omega)]
        by_cases c2 : bs.length < p + u.length + 2 + c.length
        · rw [if_pos c2]
        · obtain ⟨s, rfl⟩ : ∃ s, r = c.length + s := ⟨r - c.length, by omega⟩
          have h3 : bs.drop (p + u.length + 2 + c.length) = (13 :: 10 :: (encL l ++ lastL)).take s := by
            rw [← List.drop_drop, h2, List.take_length_add_append, List.drop_left]
          rw [if_neg c2, h3]
          match s, hm, hf, h2, h3, hbl with
          | 0, _, _, _, _, _ => rfl
          | 1, _, _, _, _, _ => rfl
          | s + 2, hm, hf, h2, h3, hbl =>
            have e2 : (13 :: 10 :: (encL l ++ lastL)).take (s + 2) = 13 :: 10 :: (encL l ++ lastL).take s := rfl
            rw [e2]
            dsimp only
            rw [if_neg (by decide), if_neg (by decide)]
            have h4 : bs.drop (p + u.length + 2 + c.length + 2) = (encL l ++ lastL).take s := by
              rw [← List.drop_drop, h3]; rfl
            exact dec_cut bs hb l f _ s _ (by omega) h4 (by omega) (by omega) (by rw [h2, List.take_take, List.length_append, List.length_take, List.length_append]; omega)
theorem ChunkCuts_plain (l : List (List UInt8)) (a : Int) (ha : 0 ≤ a ∧ a < 65536) (hl : l.length ≤ 9223372036854775806) (hp : ∀ p ∈ l, p.length ≤ 4611686018427387904) : ∃ k, lanternlaw10_ChunkCuts.f k (l.map nums) a = some true := by
  refine ⟨l.length + 2000000, ?_⟩
  have hA : ∀ j, 3000 < j → lanternlaw10_awake.f j = some true := awake_f
  unfold lanternlaw10_ChunkCuts.f
  rw [light_f l hl hp _ (by omega), Option.bind_some]
  by_cases c2 : l.length ≤ 100 ∧ (l.map List.length).sum ≤ 6000
  · have hple := pieces_le (l.map nums)
    rw [piecesI_nums, nums_length, totalL_nums] at hple
    have h5 : lastL.length = 5 := rfl
    have hlen : (encL l ++ lastL).length = (encL l).length + 5 := by rw [List.length_append, h5]
    have hc3 : ¬ (32768 < (l.map List.length).sum) := by omega
    rw [decide_eq_true c2, if_pos rfl, Encode_f, if_neg hc3, Option.bind_some, if_pos rfl]
    dsimp only
    have hz : (((nums (encL l ++ lastL)).length : Int) == 0) = false := by rw [beq_eq_false_iff_ne, nums_length]; omega
    obtain ⟨n, rfl⟩ : ∃ n : Nat, a = n := ⟨a.toNat, by omega⟩
    have ht : Int.tmod (n : Int) ((encL l ++ lastL).length : Int) = ((n % (encL l ++ lastL).length : Nat) : Int) := by rw [Int.tmod_eq_emod_of_nonneg (by omega)]; rfl
    have m1 : n ≤ 9223372036854775807 := by omega
    have hlt : n % (encL l ++ lastL).length < (encL l ++ lastL).length := Nat.mod_lt _ (by omega)
    rw [hz, show l.length + 2000000 = (l.length + 1999999) + 1 from rfl, lanternlaw10_ChunkCuts.j0, if_neg (by simp), nums_length, if_neg (by omega), wrap_nat (x := (n : Int)) n rfl m1, ht, if_pos (by omega), if_pos (by omega), Int.toNat_natCast, nums_take]
    generalize n % (encL l ++ lastL).length = m at *
    have hbl : ((encL l ++ lastL).take m).length = m := by rw [List.length_take]; omega
    have hd := dec_cut ((encL l ++ lastL).take m) (by omega) l (((encL l ++ lastL).take m).length + 1) 0 m [] (by omega) (by simp) hlt (by omega) (by simp only [List.length_nil]; omega)
    rw [decode_f _ (by omega) _ (by omega), Option.bind_some, hd]
    dsimp only
    rw [if_pos rfl, if_pos rfl, if_pos (by rfl), hA _ (by omega)]
    rfl
  · rw [decide_eq_false c2, if_neg (by simp), hA _ (by omega)]
    rfl
theorem ChunkCuts_row (l : List (List Int)) (hf : FitsP l) (a : Int) (h : (Lit.int .u16 a).wf = true) : ∃ k, lanternlaw10_ChunkCuts.f k l a = some true := by
  obtain ⟨L, rfl, h1, h2⟩ := nums_pieces l hf
  refine ChunkCuts_plain L a ?_ (by omega) (fun p hp => by have := h2 p hp; omega)
  simp [Lit.wf, IntKind.min, IntKind.max, IntKind.signed, IntKind.bits] at h
  omega
end Go.Proofs.YtgkcdnkkdhmjfaaDoor.Q
