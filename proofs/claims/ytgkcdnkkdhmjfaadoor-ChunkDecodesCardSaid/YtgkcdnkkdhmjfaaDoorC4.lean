/- A body in chunks: the reference's reading is the plain function; the law ChunkDecodes. -/
import Derived.Test.YtgkcdnkkdhmjfaaDoorC3
set_option linter.unusedSimpArgs false
set_option linter.unusedVariables false
namespace Go.Proofs.YtgkcdnkkdhmjfaaDoor.Q
open Go Go.RowKit Go.Lib Go.Proofs.YtgkcdnkkdhmjfaaDoorW.PrintWords Go.Proofs.YtgkcdnkkdhmjfaaDoorB Go.Proofs.YtgkcdnkkdhmjfaaDoor.E Go.Proofs.YtgkcdnkkdhmjfaaDoor.P

theorem dec_scan (bs : List UInt8) (hb : bs.length ≤ 100000) (acc : List Int) (p c : Nat) : ∀ (d k i : Nat), i + d ≤ bs.length → p ≤ i → i + d ≤ p + 258 → (∀ j, i ≤ j → j < i + d → bs.getD j 0 ≠ 10) →
    lanternref10_Decode.l1 (k + d) (nums bs) acc p c i = lanternref10_Decode.l1 k (nums bs) acc p c ((i + d : Nat) : Int)
  | 0, k, i, h1, h2, h3, h4 => rfl
  | d + 1, k, i, h1, h2, h3, h4 => by
    have hnl := nums_length bs
    have hne : ¬ (((bs.getD i 0).toNat : Int) = 10) := fun q => h4 i (Nat.le_refl _) (by omega) (by rw [u8_eq]; exact q)
    have n1 : (i : Int) - (p : Int) = ((i - p : Nat) : Int) := by omega
    have m1 : i - p ≤ 9223372036854775807 := by omega
    have m2 : i + 1 ≤ 9223372036854775807 := by omega
    have c1 : (i : Int) < ((nums bs).length : Int) := by omega
    have c2 : ((i - p : Nat) : Int) < 258 := by omega
    have c3 : (0 : Int) ≤ (i : Int) := by omega
    rw [← Nat.add_assoc, lanternref10_Decode.l1, if_pos c1, if_pos c3, rd_nums, if_neg hne, wrap_nat _ n1 m1, if_pos c2, wrap_nat (x := (i : Int) + 1) (i + 1) rfl m2, dec_scan bs hb acc p c d k (i + 1) (by omega) (by omega) (by omega) (fun j h5 h6 => h4 j (by omega) (by omega))]
    rw [show i + 1 + d = i + (d + 1) from by omega]
/-- Where the scan for a line's end stops. -/
def endL (r : List UInt8) : Nat := match splitC 10 r with
  | none => min r.length 258
  | some x => min x.1.length 258
theorem getD_of_drop (bs : List UInt8) (p j : Nat) : (bs.drop p).getD j 0 = bs.getD (p + j) 0 := by
  simp [List.getD_eq_getElem?_getD, List.getElem?_drop]
theorem getD_mem (l : List UInt8) (j : Nat) (h : j < l.length) : l.getD j 0 ∈ l := by
  rw [List.getD_eq_getElem?_getD, List.getElem?_eq_getElem h]; exact List.getElem_mem h
theorem endL_facts (bs : List UInt8) (p : Nat) (hp : p ≤ bs.length) : p + endL (bs.drop p) ≤ bs.length ∧ endL (bs.drop p) ≤ 258 ∧ (∀ j, p ≤ j → j < p + endL (bs.drop p) → bs.getD j 0 ≠ 10) ∧ (p + endL (bs.drop p) < bs.length → bs.getD (p + endL (bs.drop p)) 0 ≠ 10 → endL (bs.drop p) = 258) := by
  have hld : (bs.drop p).length = bs.length - p := List.length_drop
  unfold endL
  cases hs : splitC 10 (bs.drop p) with
  | none =>
    dsimp only
    have hu := splitC_none 10 _ hs
    refine ⟨by omega, by omega, fun j h1 h2 => ?_, fun h1 h2 => by omega⟩
    have := getD_of_drop bs p (j - p)
    rw [show p + (j - p) = j from by omega] at this
    rw [← this]
    exact hu _ (getD_mem _ _ (by omega))
  | some x =>
    obtain ⟨u, t⟩ := x
    dsimp only
    obtain ⟨e, hu⟩ := splitC_some 10 _ _ _ hs
    have hlen := congrArg List.length e
    rw [List.length_append, List.length_cons] at hlen
    have gu : ∀ j, j < u.length → bs.getD (p + j) 0 = u.getD j 0 := fun j hj => by
      rw [← getD_of_drop, e]; simp [List.getD_eq_getElem?_getD, List.getElem?_append, hj]
    have g10 : bs.getD (p + u.length) 0 = 10 := by
      rw [← getD_of_drop, e]; simp [List.getD_eq_getElem?_getD]
    refine ⟨by omega, by omega, fun j h1 h2 => ?_, fun h1 h2 => ?_⟩
    · have := gu (j - p) (by omega)
      rw [show p + (j - p) = j from by omega] at this
      rw [this]
      exact hu _ (getD_mem _ _ (by omega))
    · rcases Nat.lt_or_ge u.length 258 with h | h
      · rw [Nat.min_eq_left (by omega)] at h2; exact absurd g10 h2
      · omega
theorem dec_line (bs : List UInt8) (hb : bs.length ≤ 100000) (acc : List Int) (p c k : Nat) (hp : p ≤ bs.length) :
    lanternref10_Decode.l1 (k + 4 + endL (bs.drop p)) (nums bs) acc p c p = match lineM (bs.drop p) with
      | .inr e => some ([], 0, e)
      | .inl u => lanternref10_Decode.j4 (k + 1) (nums bs) acc p c ((p + u.length + 1 : Nat) : Int) false := by
  obtain ⟨h1, h2, h3, h4⟩ := endL_facts bs p hp
  have hnl := nums_length bs
  have hld : (bs.drop p).length = bs.length - p := List.length_drop
  rw [dec_scan bs hb acc p c (endL (bs.drop p)) (k + 4) p h1 (Nat.le_refl _) (by omega) h3]
  have n1 : ((p + endL (bs.drop p) : Nat) : Int) - (p : Int) = ((endL (bs.drop p) : Nat) : Int) := by omega
  have m1 : endL (bs.drop p) ≤ 9223372036854775807 := by omega
  have hj2 : lanternref10_Decode.l1 (k + 4) (nums bs) acc p c ((p + endL (bs.drop p) : Nat) : Int) = lanternref10_Decode.j2 (k + 3) (nums bs) acc p c ((p + endL (bs.drop p) : Nat) : Int) := by
    rw [lanternref10_Decode.l1]
    by_cases c1 : p + endL (bs.drop p) < bs.length
    · have c3 : (0 : Int) ≤ ((p + endL (bs.drop p) : Nat) : Int) := by omega
      have c4 : ((p + endL (bs.drop p) : Nat) : Int) < ((nums bs).length : Int) := by omega
      rw [if_pos c4, if_pos c3, rd_nums]
      by_cases c2 : bs.getD (p + endL (bs.drop p)) 0 = 10
      · rw [if_pos (by rw [c2]; rfl)]
      · have h5 := h4 c1 c2
        have c5 : ¬ (((endL (bs.drop p) : Nat) : Int) < 258) := by omega
        rw [if_neg (fun q => c2 (by rw [u8_eq]; exact q)), wrap_nat _ n1 m1, if_neg c5]
    · have c4 : ¬ (((p + endL (bs.drop p) : Nat) : Int) < ((nums bs).length : Int)) := by omega
      rw [if_neg c4]
  rw [hj2]
  have e5 : ∀ b : Int, lanternref10_Decode.j4 (k + 1) (nums bs) acc p c b true = some (([] : List Int), 0, 5) := fun b => by rw [lanternref10_Decode.j4, if_pos rfl]
  have W : wrap64 (((p + endL (bs.drop p) : Nat) : Int) - (p : Int)) = ((endL (bs.drop p) : Nat) : Int) := wrap_nat _ n1 m1
  rw [lanternref10_Decode.j2, W]
  unfold endL lineM at *
  cases hs : splitC 10 (bs.drop p) with
  | none =>
    have hu := splitC_none 10 _ hs
    simp only [hs] at *
    by_cases c1 : (bs.drop p).length < 258
    · rw [Nat.min_eq_left (by omega)] at *
      rw [if_pos (by rw [hnl]; clear W; omega), decide_eq_true (by clear W; omega), lanternref10_Decode.j3, if_pos rfl, if_pos c1]
    · have hm : min (bs.drop p).length 258 = 258 := by clear W; omega
      rw [hm] at *
      rw [if_neg c1]
      by_cases c2 : p + 258 = bs.length
      · rw [if_pos (by rw [hnl]; clear W; omega), decide_eq_false (by decide), lanternref10_Decode.j3, if_neg (by simp), if_pos (by rw [hnl]; clear W; omega), e5]
      · have c3 : bs.getD (p + 258) 0 ≠ 10 := by
          rw [← getD_of_drop]; exact hu _ (getD_mem _ _ (by clear W; omega))
        rw [if_neg (by rw [hnl]; clear W; omega), lanternref10_Decode.j3, if_neg (by simp), if_neg (by rw [hnl]; clear W; omega), if_pos (by clear W; omega), if_pos (by rw [hnl]; clear W; omega), rd_nums, if_neg (fun q => c3 (by rw [u8_eq]; exact q)), e5]
  | some x =>
    obtain ⟨u, t⟩ := x
    obtain ⟨e, hu⟩ := splitC_some 10 _ _ _ hs
    simp only [hs] at *
    have hlen := congrArg List.length e
    rw [List.length_append, List.length_cons] at hlen
    have gu : ∀ j, j < u.length → bs.getD (p + j) 0 = u.getD j 0 := fun j hj => by
      rw [← getD_of_drop, e]; simp [List.getD_eq_getElem?_getD, List.getElem?_append, hj]
    have g10 : bs.getD (p + u.length) 0 = 10 := by
      rw [← getD_of_drop, e]; simp [List.getD_eq_getElem?_getD]
    rw [if_neg (by rw [hnl]; clear W; omega), lanternref10_Decode.j3, if_neg (by simp), if_neg (by rw [hnl]; clear W; omega), if_pos (by clear W; omega), if_pos (by rw [hnl]; clear W; omega), rd_nums]
    by_cases c1 : 257 < u.length
    · rw [if_pos (Or.inr (Or.inl c1))]
      have hm : min u.length 258 = 258 := by clear W; omega
      rw [hm] at W ⊢
      rw [W, if_pos (show ((258 : Nat) : Int) ≥ 258 by decide), e5, ite_self]
    · have hm : min u.length 258 = u.length := by clear W; omega
      rw [hm] at W ⊢
      rw [W, if_pos (by rw [g10]; rfl), if_neg (by clear W; omega)]
      by_cases c2 : u = []
      · rw [if_pos (by rw [c2]; rfl), if_pos (Or.inl c2), e5]
      · have hpos := List.length_pos_iff.2 c2
        have n6 : ((p + u.length : Nat) : Int) - 1 = ((p + u.length - 1 : Nat) : Int) := by clear W; omega
        have m6 : p + u.length - 1 ≤ 9223372036854775807 := by clear W; omega
        have c6 : ((p + u.length - 1 : Nat) : Int) < ((nums bs).length : Int) := by rw [hnl]; clear W; omega
        have c7 : ¬ (((p + u.length : Nat) : Int) = (p : Int)) := by clear W; omega
        have c8 : (0 : Int) ≤ ((p + u.length - 1 : Nat) : Int) := Int.natCast_nonneg _
        have g := gu (u.length - 1) (by clear W; omega)
        rw [show p + (u.length - 1) = p + u.length - 1 from by clear W; omega] at g
        rw [if_neg c7, wrap_nat _ n6 m6, if_pos c8, if_pos c6, rd_nums, g]
        by_cases c3 : u.getD (u.length - 1) 0 = 13
        · rw [if_neg (by rintro (h | h | h); exact c2 h; exact c1 h; exact h c3)]
          have c9 : (((u.getD (u.length - 1) 0).toNat : Int) != 13) = false := by rw [c3]; decide
          rw [c9]
          have hl : p + (u.take (u.length - 1)).length + 1 = p + u.length := by rw [List.length_take]; clear W; omega
          dsimp only
          rw [hl]
        · rw [if_pos (Or.inr (Or.inr c3))]
          have c9 : (((u.getD (u.length - 1) 0).toNat : Int) != 13) = true := by
            rw [bne_iff_ne]; exact fun q => c3 (by rw [u8_eq]; exact q)
          rw [c9, e5]

theorem nums_snoc (l : List UInt8) (c : UInt8) : nums l ++ [(c.toNat : Int)] = nums (l ++ [c]) := by simp [nums]
theorem dec_push (bs : List UInt8) (hb : bs.length ≤ 100000) (q c sz : Nat) (hq : q + sz ≤ bs.length) : ∀ (d k j : Nat) (body : List UInt8), j + d = sz → body.length + d ≤ 100000 →
    lanternref10_Decode.l2 (k + d) (nums bs) (nums body) q c sz j = lanternref10_Decode.l2 k (nums bs) (nums (body ++ (bs.drop (q + j)).take d)) q c sz sz
  | 0, k, j, body, h1, h2 => by
    rw [List.take_zero, List.append_nil]
    have : j = sz := by omega
    subst this
    rfl
  | d + 1, k, j, body, h1, h2 => by
    have hnl := nums_length bs
    have hnb := nums_length body
    have n1 : (q : Int) + (j : Int) = ((q + j : Nat) : Int) := by omega
    have m1 : q + j ≤ 9223372036854775807 := by omega
    have m2 : sz + 2 ≤ 9223372036854775807 := by omega
    have m3 : j + 1 ≤ 9223372036854775807 := by omega
    have c1 : (j : Int) < ((sz + 2 : Nat) : Int) := by omega
    have c2 : ¬ (((q + j : Nat) : Int) ≥ ((nums bs).length : Int)) := by omega
    have c3 : (j : Int) < (sz : Int) := by omega
    have c4 : (0 : Int) ≤ ((q + j : Nat) : Int) := by omega
    have c5 : ((q + j : Nat) : Int) < ((nums bs).length : Int) := by omega
    have c6 : (nums body).length < 140737488355328 := by omega
    have ih := dec_push bs hb q c sz hq d k (j + 1) (body ++ [bs.getD (q + j) 0]) (by omega) (by rw [List.length_append, List.length_singleton]; omega)
    rw [← Nat.add_assoc, lanternref10_Decode.l2, wrap_nat _ n1 m1, wrap_nat (x := (sz : Int) + 2) (sz + 2) rfl m2, if_pos c1, if_neg c2, if_pos c3, if_pos c4, if_pos c5, if_pos c6, rd_nums, wrap_nat (x := (j : Int) + 1) (j + 1) rfl m3, nums_snoc, ih]
    have hdr := dropD bs (q + j) (by omega)
    rw [hdr, List.take_succ_cons, List.append_assoc, List.singleton_append, show q + (j + 1) = q + j + 1 from by omega]
theorem dec_short (bs : List UInt8) (hb : bs.length ≤ 100000) (q c sz : Nat) (hsz : sz ≤ 40000) (hq : bs.length < q + sz) (hq2 : q ≤ bs.length) : ∀ (d k j : Nat) (body : List UInt8), q + j + d = bs.length → body.length + d ≤ 200000 → d < k →
    lanternref10_Decode.l2 k (nums bs) (nums body) q c sz j = some ([], 0, 10)
  | d, k, j, body, h1, h2, hk => by
    obtain ⟨k, rfl⟩ : ∃ m, k = m + 1 := ⟨k - 1, by omega⟩
    have hnl := nums_length bs
    have hnb := nums_length body
    have n1 : (q : Int) + (j : Int) = ((q + j : Nat) : Int) := by omega
    have m1 : q + j ≤ 9223372036854775807 := by omega
    have m2 : sz + 2 ≤ 9223372036854775807 := by omega
    have m3 : j + 1 ≤ 9223372036854775807 := by omega
    have c1 : (j : Int) < ((sz + 2 : Nat) : Int) := by omega
    rw [lanternref10_Decode.l2, wrap_nat _ n1 m1, wrap_nat (x := (sz : Int) + 2) (sz + 2) rfl m2, if_pos c1]
    by_cases hd : d = 0
    · have c2 : (((q + j : Nat) : Int) ≥ ((nums bs).length : Int)) := by omega
      rw [if_pos c2]
    · obtain ⟨d, rfl⟩ : ∃ m, d = m + 1 := ⟨d - 1, by omega⟩
      have c2 : ¬ (((q + j : Nat) : Int) ≥ ((nums bs).length : Int)) := by omega
      have c3 : (j : Int) < (sz : Int) := by omega
      have c4 : (0 : Int) ≤ ((q + j : Nat) : Int) := by omega
      have c5 : ((q + j : Nat) : Int) < ((nums bs).length : Int) := by omega
      have c6 : (nums body).length < 140737488355328 := by omega
      have ih := dec_short bs hb q c sz hsz hq hq2 d k (j + 1) (body ++ [bs.getD (q + j) 0]) (by omega) (by rw [List.length_append, List.length_singleton]; omega) (by omega)
      rw [if_neg c2, if_pos c3, if_pos c4, if_pos c5, if_pos c6, rd_nums, wrap_nat (x := (j : Int) + 1) (j + 1) rfl m3, nums_snoc, ih]
theorem dec_end (bs : List UInt8) (hb : bs.length ≤ 100000) (body : List Int) (q c sz k : Nat) (hsz : sz ≤ 40000) (hq : q + sz ≤ bs.length) (hc : c ≤ 100000) :
    lanternref10_Decode.l2 (k + 3) (nums bs) body q c sz sz = match bs.drop (q + sz) with
      | [] => some ([], 0, 10)
      | a :: t => if a ≠ 13 then some ([], 0, 5) else match t with
        | [] => some ([], 0, 10)
        | d :: _ => if d ≠ 10 then some ([], 0, 5) else lanternref10_Decode.l0 k (nums bs) body ((q + sz + 2 : Nat) : Int) ((c + 1 : Nat) : Int) := by
  have hnl := nums_length bs
  have hld : (bs.drop (q + sz)).length = bs.length - (q + sz) := List.length_drop
  have n1 : (q : Int) + (sz : Int) = ((q + sz : Nat) : Int) := by omega
  have m1 : q + sz ≤ 9223372036854775807 := by omega
  have n2 : (q : Int) + ((sz + 1 : Nat) : Int) = ((q + sz + 1 : Nat) : Int) := by omega
  have m2 : q + sz + 1 ≤ 9223372036854775807 := by omega
  have m3 : sz + 2 ≤ 9223372036854775807 := by omega
  have m4 : sz + 1 ≤ 9223372036854775807 := by omega
  have m5 : q + sz + 2 ≤ 9223372036854775807 := by omega
  have m6 : c + 1 ≤ 9223372036854775807 := by omega
  have n7 : ((sz + 1 : Nat) : Int) + 1 = ((sz + 2 : Nat) : Int) := by omega
  have c1 : (sz : Int) < ((sz + 2 : Nat) : Int) := by omega
  have c3 : ¬ ((sz : Int) < (sz : Int)) := by omega
  have c4 : (0 : Int) ≤ ((q + sz : Nat) : Int) := by omega
  have c7 : ¬ ((sz : Int) = ((sz + 1 : Nat) : Int)) := by omega
  have d1 : ((sz + 1 : Nat) : Int) < ((sz + 2 : Nat) : Int) := by omega
  have d3 : ¬ (((sz + 1 : Nat) : Int) < (sz : Int)) := by omega
  have d7 : ¬ (((sz + 1 : Nat) : Int) = (sz : Int)) := by omega
  have d4 : (0 : Int) ≤ ((q + sz + 1 : Nat) : Int) := by omega
  have f1 : ¬ (((sz + 2 : Nat) : Int) < ((sz + 2 : Nat) : Int)) := by omega
  rcases hz : bs.drop (q + sz) with _ | ⟨a, t⟩
  · have c2 : (((q + sz : Nat) : Int) ≥ ((nums bs).length : Int)) := by rw [hz] at hld; simp at hld; omega
    rw [lanternref10_Decode.l2, wrap_nat _ n1 m1, wrap_nat (x := (sz : Int) + 2) (sz + 2) rfl m3, if_pos c1, if_pos c2]
  · have hl2 : q + sz + 1 + t.length = bs.length := by rw [hz, List.length_cons] at hld; omega
    have c2 : ¬ (((q + sz : Nat) : Int) ≥ ((nums bs).length : Int)) := by omega
    have c5 : ((q + sz : Nat) : Int) < ((nums bs).length : Int) := by omega
    have ga : bs.getD (q + sz) 0 = a := by
      have := getD_of_drop bs (q + sz) 0
      rw [hz] at this
      exact this.symm
    rw [lanternref10_Decode.l2, wrap_nat _ n1 m1, wrap_nat (x := (sz : Int) + 2) (sz + 2) rfl m3, if_pos c1, if_neg c2, if_neg c3, if_pos rfl, if_pos c4, if_pos c5, rd_nums, ga]
    dsimp only
    by_cases h13 : a = 13
    · subst h13
      rw [if_pos (show (((13 : UInt8).toNat : Nat) : Int) = 13 from rfl), wrap_nat (x := (sz : Int) + 1) (sz + 1) rfl m4, if_neg c7, if_neg (by decide)]
      rw [lanternref10_Decode.l2, wrap_nat _ n2 m2, wrap_nat (x := (sz : Int) + 2) (sz + 2) rfl m3, if_pos d1]
      rcases t with _ | ⟨d, t⟩
      · have c8 : (((q + sz + 1 : Nat) : Int) ≥ ((nums bs).length : Int)) := by simp at hl2; omega
        rw [if_pos c8]
      · have c8 : ¬ (((q + sz + 1 : Nat) : Int) ≥ ((nums bs).length : Int)) := by rw [List.length_cons] at hl2; omega
        have c9 : ((q + sz + 1 : Nat) : Int) < ((nums bs).length : Int) := by rw [List.length_cons] at hl2; omega
        have gd : bs.getD (q + sz + 1) 0 = d := by
          have := getD_of_drop bs (q + sz) 1
          rw [hz] at this
          exact this.symm
        rw [if_neg c8, if_neg d3, if_neg d7, wrap_nat (x := (sz : Int) + 1) (sz + 1) rfl m4, if_pos rfl, if_pos d4, if_pos c9, rd_nums, gd]
        dsimp only
        by_cases h10 : d = 10
        · subst h10
          have wn : ∀ x : Int, x = ((q + sz : Nat) : Int) + 2 → wrap64 x = ((q + sz + 2 : Nat) : Int) := fun x hx => wrap_nat (q + sz + 2) (by rw [hx]; rfl) m5
          rw [if_pos (show (((10 : UInt8).toNat : Nat) : Int) = 10 from rfl), wrap_nat _ n7 m3, if_neg (by decide), lanternref10_Decode.l2, wrap_nat (x := (sz : Int) + 2) (sz + 2) rfl m3, if_neg f1, wrap_nat _ n1 m1, wn _ rfl, wrap_nat (x := (c : Int) + 1) (c + 1) rfl m6]
        · rw [if_neg (fun h => h10 (by rw [u8_eq]; exact h)), if_pos h10]
    · rw [if_neg (fun h => h13 (by rw [u8_eq]; exact h)), if_pos h13]
theorem ref_dec (bs : List UInt8) (hb : bs.length ≤ 100000) : ∀ (f k p c : Nat) (body : List UInt8), p ≤ bs.length → bs.length < p + f → c ≤ p → 3 * (bs.length - p) + 11 * bs.length + 5000 < k → body.length ≤ 32768 →
    lanternref10_Decode.l0 k (nums bs) (nums body) p c = some (decM bs f p body)
  | 0, k, p, c, body, hp, hf, hc, hk, ha => by omega
  | f + 1, k, p, c, body, hp, hf, hc, hk, ha => by
    have hnl := nums_length bs
    have hnb := nums_length body
    have hld : (bs.drop p).length = bs.length - p := List.length_drop
    obtain ⟨h1, h2, _, _⟩ := endL_facts bs p hp
    obtain ⟨m, hm⟩ : ∃ m, k = (m + 4 + endL (bs.drop p)) + 1 := ⟨k - 5 - endL (bs.drop p), by omega⟩
    subst hm
    rw [lanternref10_Decode.l0, if_pos (by omega), dec_line bs hb (nums body) p c m hp, decM]
    cases hl : lineM (bs.drop p) with
    | inr e => rfl
    | inl u =>
      obtain ⟨t, hu0, hus, hu1, hu2⟩ := lineM_inl hl
      have hend : endL (bs.drop p) ≤ u.length + 1 := by
        unfold endL
        rw [hus]
        simp only [List.length_append, List.length_singleton]
        omega
      dsimp only
      have n1 : ((p + u.length + 1 : Nat) : Int) - 1 = ((p + u.length : Nat) : Int) := by omega
      have m1 : p + u.length ≤ 9223372036854775807 := by omega
      have n2 : ((p + u.length + 1 : Nat) : Int) + 1 = ((p + u.length + 2 : Nat) : Int) := by omega
      have m2 : p + u.length + 2 ≤ 9223372036854775807 := by omega
      have c1 : (0 : Int) ≤ (p : Int) := by omega
      have c2 : (p : Int) ≤ ((p + u.length : Nat) : Int) := by omega
      have c3 : ((p + u.length : Nat) : Int) ≤ ((nums bs).length : Int) := by omega
      rw [lanternref10_Decode.j4, if_neg (by simp), wrap_nat _ n1 m1, wrap_nat _ n2 m2, if_pos c1, if_pos c2, if_pos c3, Int.toNat_natCast, Int.toNat_natCast, nums_take, nums_drop, take_drop_of bs u _ p hu0 hp, strOf_nums, refSize_f (B u) (by rw [size_B]; omega) m (by omega), Option.bind_some, L_B]
      cases hz : sizeL u with
      | none => rw [show orNeg none = -1 from rfl, if_pos (by decide)]
      | some sz =>
        have hsz := sizeL_lt _ _ hz
        rw [show orNeg (some sz) = (sz : Int) from rfl, if_neg (by omega)]
        dsimp only
        generalize hq : p + u.length + 2 = q
        have hqb : q ≤ bs.length := by omega
        have hldq : (bs.drop q).length = bs.length - q := List.length_drop
        by_cases c0 : sz = 0
        · rw [if_pos (by omega), if_pos (by omega), if_pos (by omega), Int.toNat_natCast, nums_drop, ref_parse_f (bs.drop q) (by omega) m (by omega), Option.bind_some, if_pos c0]
          by_cases ce : (parseM (bs.drop q) ((bs.drop q).length + 1) 0 []).2.2 = 0
          · rw [if_pos ce, if_pos ce]
          · rw [if_neg ce, if_neg ce]
        · have n5 : ((nums body).length : Int) + (sz : Int) = ((body.length + sz : Nat) : Int) := by omega
          have m5 : body.length + sz ≤ 9223372036854775807 := by omega
          rw [if_neg (by omega), if_neg c0, wrap_nat _ n5 m5]
          by_cases c4 : 32768 < body.length + sz
          · rw [if_pos (by omega), if_pos c4]
          · rw [if_neg (by omega), if_neg c4]
            by_cases c5 : bs.length < q + sz
            · rw [if_pos c5]
              exact dec_short bs hb q c sz (by omega) c5 hqb (bs.length - q) m 0 body (by omega) (by omega) (by omega)
            · rw [if_neg c5]
              obtain ⟨m2, rfl⟩ : ∃ m2, m = (m2 + 3) + sz := ⟨m - 3 - sz, by omega⟩
              have hpu := dec_push bs hb q c sz (by omega) sz (m2 + 3) 0 body (by omega) (by omega)
              have hen := dec_end bs hb (nums (body ++ (bs.drop (q + 0)).take sz)) q c sz m2 (by omega) (by omega) (by omega)
              have e0 : lanternref10_Decode.l2 (m2 + 3 + sz) (nums bs) (nums body) q c sz 0 = lanternref10_Decode.l2 (m2 + 3 + sz) (nums bs) (nums body) q c sz ((0 : Nat) : Int) := rfl
              rw [e0, hpu, hen, Nat.add_zero]
              have hldz : (bs.drop (q + sz)).length = bs.length - (q + sz) := List.length_drop
              rcases hz2 : bs.drop (q + sz) with _ | ⟨a, t⟩
              · rfl
              · dsimp only
                by_cases h13 : a ≠ 13
                · rw [if_pos h13, if_pos h13]
                · rw [if_neg h13, if_neg h13]
                  rcases t with _ | ⟨d, t⟩
                  · rfl
                  · dsimp only
                    by_cases h10 : d ≠ 10
                    · rw [if_pos h10, if_pos h10]
                    · rw [if_neg h10, if_neg h10]
                      rw [hz2] at hldz
                      simp only [List.length_cons] at hldz
                      have hlt : ((bs.drop q).take sz).length = sz := by rw [List.length_take]; omega
                      exact ref_dec bs hb f m2 (q + sz + 2) (c + 1) _ (by omega) (by omega) (by omega) (by omega) (by rw [List.length_append, hlt]; omega)
end Go.Proofs.YtgkcdnkkdhmjfaaDoor.Q
