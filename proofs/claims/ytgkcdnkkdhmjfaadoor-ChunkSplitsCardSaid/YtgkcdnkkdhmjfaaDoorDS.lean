/- The law ChunkSplits: bytes that are cut anywhere are one body: plain. -/
import Derived.Test.YtgkcdnkkdhmjfaaDoorD6
set_option linter.unusedSimpArgs false
set_option linter.unusedVariables false
namespace Go.Proofs.YtgkcdnkkdhmjfaaDoor.Q
open Go Go.RowKit Go.Lib Go.Proofs.YtgkcdnkkdhmjfaaDoorW.PrintWords Go.Proofs.YtgkcdnkkdhmjfaaDoorB Go.Proofs.YtgkcdnkkdhmjfaaDoor.E Go.Proofs.YtgkcdnkkdhmjfaaDoor.P

theorem wS {x : Int} (n : Nat) (h : x = (n : Int)) (hn : n ≤ 1000000) : wrap64 x = (n : Int) := by subst h; unfold wrap64; omega
theorem splits_end (bs : List UInt8) (hb : bs.length ≤ 4000) (at_ k i : Nat) (cs : List Int) (acc : List (List UInt8)) (hi : i = cs.length) (ha : at_ ≤ bs.length) (hl : acc.length ≤ 1000) (hf : acc.flatten = bs.take at_) (hk : 500000 < k) :
    lanternlaw10_ChunkSplits.l0 (k + 1) (nums bs) cs (acc.map nums) (at_ : Int) (i : Int) = some true := by
  have hA : ∀ j, 3000 < j → lanternlaw10_awake.f j = some true := awake_f
  have g1 : ¬ (i : Int) < (cs.length : Int) := by omega
  have g2 : (0 : Int) ≤ (at_ : Int) := by omega
  have g3 : (at_ : Int) ≤ ((nums bs).length : Int) := by rw [nums_length]; omega
  have g4 : (acc.map nums).length < 5864062014805 := by rw [List.length_map]; omega
  have e1 : acc.map nums ++ [(nums bs).drop at_] = (acc ++ [bs.drop at_]).map nums := by
    rw [List.map_append]
    congr 1
    show [(bs.map _).drop at_] = [(bs.drop at_).map _]
    rw [List.map_drop]
  have hfl : (acc ++ [bs.drop at_]).flatten = bs := by rw [List.flatten_append, hf]; simp
  generalize hL : acc ++ [bs.drop at_] = l at *
  have hsum : (l.map List.length).sum = bs.length := by rw [← flatten_length, hfl]
  have hple := pieces_le (l.map nums)
  rw [piecesI_nums, nums_length, totalL_nums, hsum] at hple
  have h5 : lastL.length = 5 := rfl
  have hlen : (encL l ++ lastL).length = (encL l).length + 5 := by rw [List.length_append, h5]
  have hbl : (encL l ++ lastL).length ≤ 57000 := by rw [hlen]; omega
  have hdec := dec_enc [] (encL l ++ lastL) (by omega) l ((encL l ++ lastL).length + 1) 0 [] (by omega) (by simp) (by rw [hlen]; omega) (by rw [hsum]; simp; omega)
  have hdf := decode_f (encL l ++ lastL) (by omega) k (by omega)
  rw [hdec] at hdf
  have haw := hA k (by omega)
  have g5 : ¬ 32768 < (l.map List.length).sum := by rw [hsum]; omega
  have g6 : ((0 + (encL l).length + 5 : Nat) : Int) = ((encL l ++ lastL).length : Int) := by rw [hlen]; omega
  rw [lanternlaw10_ChunkSplits.l0, if_neg g1, if_pos g2, if_pos g3, if_pos g4, Int.toNat_natCast, e1, Encode_f, if_neg g5, Option.bind_some]
  dsimp only
  rw [hdf, Option.bind_some]
  dsimp only
  rw [if_pos rfl, if_pos rfl, nums_length, if_pos g6, List.nil_append, hfl, if_pos rfl, haw]
  rfl
theorem splits_l0 (bs : List UInt8) (hb : bs.length ≤ 4000) (cs : List Int) (hcs : ∀ n ∈ cs, 0 ≤ n ∧ n < 65536) (hl : cs.length ≤ 100) : ∀ (d k i at_ : Nat) (acc : List (List UInt8)), i + d = cs.length → at_ ≤ bs.length → acc.length = i → acc.flatten = bs.take at_ → d + 500002 < k →
    lanternlaw10_ChunkSplits.l0 k (nums bs) cs (acc.map nums) (at_ : Int) (i : Int) = some true := by
  intro d
  induction d with
  | zero =>
    intro k i at_ acc hi ha hal hf hk
    obtain ⟨k, rfl⟩ : ∃ j, k = j + 1 := ⟨k - 1, by omega⟩
    exact splits_end bs hb at_ k i cs acc (by omega) ha (by omega) hf (by omega)
  | succ d ih =>
    intro k i at_ acc hi ha hal hf hk
    obtain ⟨k, rfl⟩ : ∃ j, k = j + 1 := ⟨k - 1, by omega⟩
    have hlt : i < cs.length := by omega
    obtain ⟨c, hc, hc2⟩ : ∃ c : Nat, rd cs (i : Int) = (c : Int) ∧ c < 65536 := by
      have e : rd cs (i : Int) = cs[i] := by
        unfold rd
        rw [Int.toNat_natCast, List.getD_eq_getElem?_getD, List.getElem?_eq_getElem hlt, Option.getD_some]
      have hm := hcs cs[i] (List.getElem_mem hlt)
      exact ⟨cs[i].toNat, by rw [e]; omega, by omega⟩
    obtain ⟨n, hn⟩ : ∃ n, n = c % (bs.length - at_ + 1) := ⟨_, rfl⟩
    have hnl : n < bs.length - at_ + 1 := by rw [hn]; exact Nat.mod_lt _ (by omega)
    have g1 : (i : Int) < (cs.length : Int) := by omega
    have g2 : (0 : Int) ≤ (i : Int) := by omega
    have g3 : ¬ ((bs.length - at_ + 1 : Nat) : Int) = 0 := by omega
    have g4 : (0 : Int) ≤ (at_ : Int) := by omega
    have g5 : (at_ : Int) ≤ ((at_ + n : Nat) : Int) := by omega
    have g6 : ((at_ + n : Nat) : Int) ≤ (bs.length : Int) := by omega
    have g7 : (acc.map nums).length < 5864062014805 := by rw [List.length_map]; omega
    have b1 : bs.length - at_ ≤ 1000000 := by omega
    have b2 : bs.length - at_ + 1 ≤ 1000000 := by omega
    have b3 : c ≤ 1000000 := by omega
    have b4 : at_ + n ≤ 1000000 := by omega
    have b5 : i + 1 ≤ 1000000 := by omega
    have s1 : (bs.length : Int) - (at_ : Int) = ((bs.length - at_ : Nat) : Int) := by omega
    have e1 : acc.map nums ++ [((nums bs).take (at_ + n)).drop at_] = (acc ++ [(bs.take (at_ + n)).drop at_]).map nums := by
      rw [List.map_append]
      congr 1
      show [((bs.map _).take (at_ + n)).drop at_] = [((bs.take (at_ + n)).drop at_).map _]
      rw [List.map_drop, List.map_take]
    have hfl : (acc ++ [(bs.take (at_ + n)).drop at_]).flatten = bs.take (at_ + n) := by
      rw [List.flatten_append, hf]
      simp only [List.flatten_cons, List.flatten_nil, List.append_nil]
      conv => rhs; rw [← List.take_append_drop at_ (bs.take (at_ + n))]
      rw [List.take_take, Nat.min_eq_left (by omega)]
    have hrec := ih k (i + 1) (at_ + n) (acc ++ [(bs.take (at_ + n)).drop at_]) (by omega) (by omega) (by rw [List.length_append, hal]; rfl) hfl (by omega)
    have w1 := wS _ s1 b1
    have w2 : wrap64 (((bs.length - at_ : Nat) : Int) + 1) = ((bs.length - at_ + 1 : Nat) : Int) := wS _ rfl b2
    have w3 := wS c rfl b3
    have w4 : Int.tmod (c : Int) ((bs.length - at_ + 1 : Nat) : Int) = (n : Int) := by rw [hn]; rfl
    have w5 : wrap64 ((at_ : Int) + (n : Int)) = ((at_ + n : Nat) : Int) := wS _ rfl b4
    have w6 : wrap64 ((i : Int) + 1) = ((i + 1 : Nat) : Int) := wS _ rfl b5
    rw [lanternlaw10_ChunkSplits.l0, if_pos g1, if_pos g2, nums_length, hc, w1, w2, w3, w4, w5, w6, if_neg g3, if_pos g4, if_pos g5, if_pos g6, if_pos g7, Int.toNat_natCast, Int.toNat_natCast, e1]
    exact hrec
theorem ChunkSplits_plain (bs : List UInt8) (cs : List Int) (hcs : ∀ n ∈ cs, 0 ≤ n ∧ n < 65536) : ∃ k, lanternlaw10_ChunkSplits.f k (nums bs) cs = some true := by
  refine ⟨600000, ?_⟩
  generalize hk : 599999 = k
  rw [show 600000 = k + 1 by omega]
  unfold lanternlaw10_ChunkSplits.f
  have hskip : lanternlaw10_ChunkSplits.j0 (k + 1) (nums bs) cs true = some true := by
    rw [lanternlaw10_ChunkSplits.j0, if_pos rfl, awake_f k (by omega)]
    rfl
  by_cases c1 : 4000 < bs.length
  · rw [if_pos (by rw [nums_length]; omega)]
    exact hskip
  · rw [if_neg (by rw [nums_length]; omega)]
    by_cases c2 : 100 < cs.length
    · rw [decide_eq_true (by omega)]
      exact hskip
    · rw [decide_eq_false (by omega), lanternlaw10_ChunkSplits.j0, if_neg (by simp)]
      exact splits_l0 bs (by omega) cs hcs (by omega) cs.length k 0 0 [] (by omega) (by omega) rfl (by simp) (by omega)
theorem ChunkSplits (l cs : List Int) (hl : ∀ n ∈ l, 0 ≤ n ∧ n < 256) (hcs : ∀ n ∈ cs, 0 ≤ n ∧ n < 65536) : ∃ k, lanternlaw10_ChunkSplits.f k l cs = some true := by
  have h := ChunkSplits_plain (Lib.bytesOf l) cs hcs
  rw [nums_of hl] at h
  exact h
end Go.Proofs.YtgkcdnkkdhmjfaaDoor.Q
