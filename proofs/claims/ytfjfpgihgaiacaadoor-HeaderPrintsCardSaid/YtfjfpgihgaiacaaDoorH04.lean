/- Headers printed and cut: the law HeaderCuts. -/
import Derived.Test.YtfjfpgihgaiacaaDoorH03
import Derived.Test.YtfjfpgihgaiacaaDoorY
set_option linter.unusedSimpArgs false
set_option linter.unusedVariables false
namespace Go.Proofs.YtfjfpgihgaiacaaDoor.Q
open Go Go.RowKit Go.Lib Go.Proofs.YtfjfpgihgaiacaaDoorW.PrintWords Go.Proofs.YtfjfpgihgaiacaaDoorB Go.Proofs.YtfjfpgihgaiacaaDoor.E Go.Proofs.YtfjfpgihgaiacaaDoor.P Go.Proofs.YtfjfpgihgaiacaaDoor.U Go.Proofs.YtfjfpgihgaiacaaDoor.Y

def sz (h : S39) : Nat := h.f0.size + 2 + h.f1.size + 2
def sizeL (l : List S39) : Nat := 2 + (l.map sz).sum
/-- No text is longer than the machine's reach. -/
def Fits (l : List S39) : Prop := ∀ h ∈ l, h.f0.size ≤ 140737488355328 ∧ h.f1.size ≤ 140737488355328
theorem rd39 (l : List S39) (i : Nat) (h : i < l.length) : rd_T39 l (i : Int) = l[i] := by
  show l.getD (i : Int).toNat z39 = l[i]
  rw [Int.toNat_natCast, List.getD_eq_getElem?_getD, List.getElem?_eq_getElem h, Option.getD_some]
theorem size_loop (l : List S39) (hl : l.length ≤ 100) (hf : Fits l) : ∀ (d k i n : Nat), i + d = l.length → d < k → n ≤ 2 + i * 300000000000000 →
    lanternref09_Size.l0 k l n i = some ((n + ((l.drop i).map sz).sum : Nat) : Int)
  | d, k, i, n, hd, hk, hn => by
    obtain ⟨k, rfl⟩ : ∃ m, k = m + 1 := ⟨k - 1, by omega⟩
    rw [lanternref09_Size.l0]
    by_cases h : i < l.length
    · obtain ⟨d, rfl⟩ : ∃ m, d = m + 1 := ⟨d - 1, by omega⟩
      have hb := hf l[i] (List.getElem_mem h)
      rw [if_pos (by omega), if_pos (by omega), rd39 l i h]
      have b1 : n + l[i].f0.size ≤ 9223372036854775807 := by omega
      have b2 : n + l[i].f0.size + 2 ≤ 9223372036854775807 := by omega
      have b3 : n + l[i].f0.size + 2 + l[i].f1.size ≤ 9223372036854775807 := by omega
      have b4 : n + l[i].f0.size + 2 + l[i].f1.size + 2 ≤ 9223372036854775807 := by omega
      have b5 : i + 1 ≤ 9223372036854775807 := by omega
      rw [wrap_nat (x := (n : Int) + (l[i].f0.size : Int)) _ rfl b1, wrap_nat (x := ((n + l[i].f0.size : Nat) : Int) + 2) (n + l[i].f0.size + 2) rfl b2, wrap_nat (x := ((n + l[i].f0.size + 2 : Nat) : Int) + (l[i].f1.size : Int)) (n + l[i].f0.size + 2 + l[i].f1.size) rfl b3,
        wrap_nat (x := ((n + l[i].f0.size + 2 + l[i].f1.size : Nat) : Int) + 2) (n + l[i].f0.size + 2 + l[i].f1.size + 2) rfl b4, wrap_nat (x := (i : Int) + 1) (i + 1) rfl b5]
      rw [size_loop l hl hf d k (i + 1) _ (by omega) (by omega) (by omega), List.drop_eq_getElem_cons h, List.map_cons, List.sum_cons]
      have e : n + l[i].f0.size + 2 + l[i].f1.size + 2 + (List.map sz (List.drop (i + 1) l)).sum = n + (sz l[i] + (List.map sz (List.drop (i + 1) l)).sum) := by unfold sz; omega
      rw [e]
    · rw [if_neg (by omega), List.drop_eq_nil_of_le (by omega)]
      simp
theorem size_f (l : List S39) (hl : l.length ≤ 100) (hf : Fits l) (k : Nat) (hk : l.length < k) : lanternref09_Size.f k l = some (sizeL l : Int) := by
  unfold lanternref09_Size.f
  have := size_loop l hl hf l.length k 0 2 (by omega) hk (by omega)
  rw [List.drop_zero] at this
  exact this
def lightL (l : List S39) : Bool := decide (l.length ≤ 100) && decide (sizeL l ≤ 20000)
theorem light_f (l : List S39) (hf : Fits l) (k : Nat) (hk : 100 < k) : lanternlaw09_light.f k l = some (lightL l) := by
  unfold lanternlaw09_light.f lightL
  by_cases h : l.length ≤ 100
  · rw [if_pos (by omega), size_f l h hf k (by omega), decide_eq_true h, Bool.true_and]
    simp only [Option.bind_some]
    congr 1
    rw [Bool.eq_iff_iff, decide_eq_true_eq, decide_eq_true_eq]
    omega
  · rw [if_neg (by omega), decide_eq_false h]
    rfl
theorem sz_le (l : List S39) : ∀ h ∈ l, sz h ≤ (l.map sz).sum := by
  induction l with
  | nil => simp
  | cons a t ih =>
    intro h hm
    rw [List.map_cons, List.sum_cons]
    rcases List.mem_cons.1 hm with rfl | hm
    · omega
    · have := ih h hm
      omega
theorem light_parts {l : List S39} (h : lightL l = true) : l.length ≤ 100 ∧ sizeL l ≤ 20000 ∧ ∀ x ∈ l, x.f0.size ≤ 20000 ∧ x.f1.size ≤ 20000 := by
  unfold lightL at h
  rw [Bool.and_eq_true, decide_eq_true_eq, decide_eq_true_eq] at h
  refine ⟨h.1, h.2, fun x hx => ?_⟩
  have := sz_le l x hx
  have h2 := h.2
  unfold sizeL at h2
  have e : sz x = x.f0.size + 2 + x.f1.size + 2 := rfl
  rw [e] at this
  omega
def mayH (h : S39) : Bool := mayL (L h.f0) (L h.f1)
/-- Why headers may not be. -/
def checkV (l : List S39) : Int := if l.all mayH = true then (if l.length > 64 then 3 else if sizeL l > 8192 then 3 else 0) else 1
theorem ref_check_loop (l : List S39) (hl : lightL l = true) (hf : Fits l) (K : Nat) (hK : 50000 ≤ K) : ∀ (d k i : Nat), i + d = l.length → d + K < k →
    lanternref09_Check.l0 k l i = some (if (l.drop i).all mayH = true then (if l.length > 64 then 3 else if sizeL l > 8192 then 3 else 0) else 1)
  | d, k, i, hd, hk => by
    obtain ⟨p1, p2, p3⟩ := light_parts hl
    obtain ⟨k, rfl⟩ : ∃ m, k = m + 1 := ⟨k - 1, by omega⟩
    rw [lanternref09_Check.l0]
    by_cases h : i < l.length
    · obtain ⟨d, rfl⟩ : ∃ m, d = m + 1 := ⟨d - 1, by omega⟩
      have hb := p3 l[i] (List.getElem_mem h)
      rw [if_pos (by omega), if_pos (by omega), rd39 l i h, ref_may _ _ (by omega) (by omega) k (by omega), List.drop_eq_getElem_cons h, List.all_cons]
      simp only [Option.bind_some]
      rw [show mayL (L l[i].f0) (L l[i].f1) = mayH l[i] from rfl]
      cases hm : mayH l[i] with
      | true => rw [if_pos rfl, Bool.true_and, wrap_nat (x := (i : Int) + 1) (i + 1) rfl (by omega)]; exact ref_check_loop l hl hf K hK d k (i + 1) (by omega) (by omega)
      | false => rw [if_neg (by simp), Bool.false_and, if_neg (by simp)]
    · rw [if_neg (by omega), List.drop_eq_nil_of_le (by omega), size_f l p1 hf k (by omega)]
      simp only [Option.bind_some, List.all_nil, if_true]
      by_cases h1 : l.length > 64
      · rw [if_pos (by omega), if_pos h1]
      · rw [if_neg (by omega), if_neg h1]
        by_cases h2 : sizeL l > 8192
        · rw [if_pos (by omega), if_pos h2]
        · rw [if_neg (by omega), if_neg h2]
theorem ref_check (l : List S39) (hl : lightL l = true) (hf : Fits l) (k : Nat) (hk : 60000 < k) : lanternref09_Check.f k l = some (checkV l) := by
  have p1 := (light_parts hl).1
  unfold lanternref09_Check.f
  have := ref_check_loop l hl hf 50000 (Nat.le_refl _) l.length k 0 (by omega) (by omega)
  rw [List.drop_zero] at this
  exact this
theorem prog_check_loop (l : List S39) (hl : lightL l = true) (K : Nat) (hK : 50000 ≤ K) : ∀ (d k i n : Nat), i + d = l.length → d + K < k → n + ((l.drop i).map sz).sum = sizeL l →
    header_Check.l0 k l n l (l.length : Int) i = some (if (l.drop i).all mayH = true then (if l.length > 64 then 3 else if sizeL l > 8192 then 3 else 0) else 1)
  | d, k, i, n, hd, hk, hn => by
    obtain ⟨p1, p2, p3⟩ := light_parts hl
    obtain ⟨k, rfl⟩ : ∃ m, k = m + 1 := ⟨k - 1, by omega⟩
    rw [header_Check.l0]
    by_cases h : i < l.length
    · obtain ⟨d, rfl⟩ : ∃ m, d = m + 1 := ⟨d - 1, by omega⟩
      have hb := p3 l[i] (List.getElem_mem h)
      rw [List.drop_eq_getElem_cons h, List.map_cons, List.sum_cons] at hn
      rw [if_pos (by omega), if_pos (by omega), if_pos (by omega), rd39 l i h, may_f _ _ (by omega) (by omega) k (by omega), List.drop_eq_getElem_cons h, List.all_cons]
      simp only [Option.bind_some]
      rw [show mayL (L l[i].f0) (L l[i].f1) = mayH l[i] from rfl]
      have b1 : l[i].f0.size + l[i].f1.size ≤ 9223372036854775807 := by omega
      have b2 : l[i].f0.size + l[i].f1.size + 4 ≤ 9223372036854775807 := by omega
      have b3 : n + (l[i].f0.size + l[i].f1.size + 4) ≤ 9223372036854775807 := by omega
      have b5 : i + 1 ≤ 9223372036854775807 := by omega
      have hn' : n + (l[i].f0.size + l[i].f1.size + 4) + (List.map sz (List.drop (i + 1) l)).sum = sizeL l := by unfold sz at hn ⊢; omega
      cases hm : mayH l[i] with
      | true =>
        rw [if_pos rfl, Bool.true_and, wrap_nat (x := (l[i].f0.size : Int) + (l[i].f1.size : Int)) (l[i].f0.size + l[i].f1.size) rfl b1, wrap_nat (x := ((l[i].f0.size + l[i].f1.size : Nat) : Int) + 4) (l[i].f0.size + l[i].f1.size + 4) rfl b2,
          wrap_nat (x := (n : Int) + ((l[i].f0.size + l[i].f1.size + 4 : Nat) : Int)) (n + (l[i].f0.size + l[i].f1.size + 4)) rfl b3, wrap_nat (x := (i : Int) + 1) (i + 1) rfl b5]
        exact prog_check_loop l hl K hK d k (i + 1) _ (by omega) (by omega) hn'
      | false => rw [if_neg (by simp), Bool.false_and, if_neg (by simp)]
    · rw [List.drop_eq_nil_of_le (by omega)] at hn
      simp at hn
      rw [if_neg (by omega), List.drop_eq_nil_of_le (by omega)]
      simp only [List.all_nil, if_true]
      by_cases h1 : l.length > 64
      · rw [if_pos (by omega), if_pos h1]
      · rw [if_neg (by omega), if_neg h1]
        by_cases h2 : sizeL l > 8192
        · rw [if_pos (by omega), if_pos h2]
        · rw [if_neg (by omega), if_neg h2]
theorem prog_check (l : List S39) (hl : lightL l = true) (k : Nat) (hk : 60000 < k) : header_Check.f k l = some (checkV l) := by
  have p1 := (light_parts hl).1
  unfold header_Check.f
  have := prog_check_loop l hl 50000 (Nat.le_refl _) l.length k 0 2 (by omega) (by omega) (by rw [List.drop_zero]; rfl)
  rw [List.drop_zero] at this
  exact this
theorem headB_length (h : S39) : (headB h).length = sz h := by
  unfold headB sz
  simp only [List.length_append, data_length]
  rfl
theorem headsB_length (l : List S39) : (headsB l).length = (l.map sz).sum := by
  induction l with
  | nil => rfl
  | cons a t ih => rw [headsB, List.flatMap_cons, List.length_append, headB_length, List.map_cons, List.sum_cons, ← ih]; rfl

/-! ### what was printed is read line by line -/
theorem splitC_of (c : UInt8) : ∀ (u t : List UInt8), (∀ b ∈ u, b ≠ c) → splitC c (u ++ c :: t) = some (u, t)
  | [], t, _ => by simp [splitC]
  | b :: u, t, h => by
    rw [List.cons_append, splitC, if_neg (h b (by simp)), splitC_of c u t (fun d hd => h d (by simp [hd]))]
    rfl
theorem splitC_none_of (c : UInt8) : ∀ (l : List UInt8), (∀ b ∈ l, b ≠ c) → splitC c l = none
  | [], _ => rfl
  | b :: l, h => by
    rw [splitC, if_neg (h b (by simp)), splitC_none_of c l (fun d hd => h d (by simp [hd]))]
    rfl
theorem sign_not (c : UInt8) (h : signL.contains c = true) : c ≠ 58 ∧ c ≠ 10 := by
  have := u8_all (p := fun c => signL.contains c = true → c ≠ 58 ∧ c ≠ 10) (by decide +kernel) c
  exact this h
theorem okc_not (c : UInt8) (h : okc c = true) : c ≠ 10 := by
  have := u8_all (p := fun c => okc c = true → c ≠ 10) (by decide +kernel) c
  exact this h
theorem trim_blank (v : List UInt8) (hv : TrimmedS blL v) : Lib.trimS (32 :: v) blL = v := by
  have gd : ∀ j, (32 :: v : List UInt8).getD (j + 1) 0 = v.getD j 0 := fun j => by simp [List.getD_eq_getElem?_getD]
  have := trimS_range blL (32 :: v) 1 (v.length + 1) (by omega) (by simp) (fun j hj => by
      obtain rfl : j = 0 := by omega
      rfl) (fun j h1 h2 => by simp at h2; omega) (fun h => by
      rw [gd 0]
      cases v with
      | nil => simp at h
      | cons c t => exact hv.1 c t rfl) (fun h => by
      have hne : v ≠ [] := by intro h0; rw [h0] at h; simp at h
      have hpos := List.length_pos_iff.2 hne
      rw [show v.length + 1 - 1 = (v.length - 1) + 1 from by omega, gd]
      have e : v = v.dropLast ++ [v.getLast hne] := (List.dropLast_concat_getLast hne).symm
      have h2 := hv.2 _ _ e
      have h3 : v.getD (v.length - 1) 0 = v.getLast hne := by
        rw [List.getD_eq_getElem?_getD, List.getElem?_eq_getElem (by omega), List.getLast_eq_getElem]
        rfl
      rw [h3]
      exact h2) (fun h => by left; rw [List.length_cons]; exact h)
  rw [this]
  simp
def lineB (h : S39) : List UInt8 := L h.f0 ++ 58 :: 32 :: L h.f1
theorem headB_line (h : S39) : headB h = (lineB h ++ [13]) ++ [10] := by
  unfold headB lineB
  simp [L]
theorem may_parts {h : S39} (hm : mayH h = true) : (∀ c ∈ L h.f0, signL.contains c = true) ∧ (∀ c ∈ L h.f1, okc c = true) ∧ TrimmedS blL (L h.f1) := by
  unfold mayH mayL tokenL valueL at hm
  simp only [Bool.and_eq_true, List.all_eq_true] at hm
  exact ⟨hm.1.2, hm.2.1, (trimS_iff _ _).1 (of_decide_eq_true hm.2.2)⟩
theorem line_clean {h : S39} (hm : mayH h = true) : ∀ b ∈ lineB h ++ [13], b ≠ 10 := by
  obtain ⟨p1, p2, p3⟩ := may_parts hm
  intro b hb
  unfold lineB at hb
  simp only [List.mem_append, List.mem_cons, List.not_mem_nil, or_false] at hb
  rcases hb with (hb | rfl | rfl | hb) | rfl
  · exact (sign_not b (p1 b hb)).2
  · decide
  · decide
  · exact okc_not b (p2 b hb)
  · decide
theorem headL_line {h : S39} (hm : mayH h = true) : headL (lineB h) = some h := by
  obtain ⟨p1, p2, p3⟩ := may_parts hm
  unfold headL lineB
  rw [splitC_of 58 (L h.f0) _ (fun b hb => (sign_not b (p1 b hb)).1)]
  simp only
  rw [trim_blank _ p3, if_pos (show mayL (L h.f0) (L h.f1) = true from hm), B_L, B_L]
theorem chomp_line (u : List UInt8) : chomp (u ++ [13]) = u := by
  rw [chomp_eq, if_pos ⟨by simp, by simp⟩]
  simp
theorem heads_drop (l : List S39) (i : Nat) (h : i ≤ l.length) : (headsB l ++ [13, 10]).drop (headsB (l.take i)).length = headsB (l.drop i) ++ [13, 10] := by
  have e : headsB l = headsB (l.take i) ++ headsB (l.drop i) := by
    conv => lhs; rw [← List.take_append_drop i l]
    rw [headsB, headsB, headsB, List.flatMap_append]
  rw [e, List.append_assoc, List.drop_left]
theorem cut_parse (l : List S39) (hm : l.all mayH = true) (hl : l.length ≤ 64) (m : Nat) (hmlt : m < (headsB l ++ [13, 10]).length) (h8 : (headsB l ++ [13, 10]).length ≤ 8192) :
    ∀ (d f i : Nat) (acc : List S39), i + d = l.length → (headsB (l.take i)).length ≤ m → m < (headsB (l.take i)).length + f → acc.length = i →
      parseM ((headsB l ++ [13, 10]).take m) f (headsB (l.take i)).length acc = ([], 0, 10)
  | d, 0, i, acc, hd, hp, hf, ha => by omega
  | d, f + 1, i, acc, hd, hp, hf, ha => by
    have hbl : ((headsB l ++ [13, 10]).take m).length = m := by rw [List.length_take]; omega
    have hdrop : ((headsB l ++ [13, 10]).take m).drop (headsB (l.take i)).length = (headsB (l.drop i) ++ [13, 10]).take (m - (headsB (l.take i)).length) := by
      rw [List.drop_take, heads_drop l i (by omega)]
    rw [parseM, hdrop, hbl]
    by_cases h : i < l.length
    · obtain ⟨d, rfl⟩ : ∃ j, d = j + 1 := ⟨d - 1, by omega⟩
      have hmi : mayH l[i] = true := List.all_eq_true.1 hm _ (List.getElem_mem h)
      have hst : headsB (l.drop i) = headB l[i] ++ headsB (l.drop (i + 1)) := by
        rw [List.drop_eq_getElem_cons h, headsB, headsB, List.flatMap_cons]
      have hst2 : headsB (l.take (i + 1)) = headsB (l.take i) ++ headB l[i] := by
        have := headsB_step l i h
        rw [rd39 l i h] at this
        exact this
      have hlen2 := congrArg List.length hst2
      rw [List.length_append] at hlen2
      have hhl : (headB l[i]).length = (lineB l[i] ++ [13]).length + 1 := by rw [headB_line, List.length_append]; rfl
      rw [hst]
      by_cases hc : m - (headsB (l.take i)).length < (headB l[i]).length
      · have e : (headB l[i] ++ headsB (l.drop (i + 1)) ++ [13, 10]).take (m - (headsB (l.take i)).length) = (lineB l[i] ++ [13]).take (m - (headsB (l.take i)).length) := by
          rw [List.append_assoc, List.take_append_of_le_length (by omega), headB_line, List.take_append_of_le_length (by omega)]
        rw [e, splitC_none_of 10 _ (fun b hb => line_clean hmi b (List.mem_of_mem_take hb))]
        simp only
        rw [if_pos (by omega)]
      · obtain ⟨t, ht⟩ : ∃ t : List UInt8, List.take (m - (headsB (l.take i)).length) (headB l[i] ++ headsB (l.drop (i + 1)) ++ ([13, 10] : List UInt8)) = (lineB l[i] ++ [13]) ++ 10 :: t := by
          refine ⟨(headsB (l.drop (i + 1)) ++ [13, 10]).take (m - (headsB (l.take i)).length - (headB l[i]).length), ?_⟩
          have key : ∀ (X Y : List UInt8) (q : Nat), X.length ≤ q → (X ++ Y).take q = X ++ Y.take (q - X.length) := fun X Y q h => by rw [List.take_append, List.take_of_length_le h]
          rw [List.append_assoc (headB l[i]), key (headB l[i]) (headsB (l.drop (i + 1)) ++ [13, 10]) _ (by omega)]
          generalize List.take _ (headsB (List.drop (i + 1) l) ++ [13, 10]) = z
          rw [headB_line]
          simp
        rw [ht, splitC_of 10 _ t (line_clean hmi)]
        simp only
        rw [if_neg (by omega), chomp_line, if_neg (by unfold lineB; simp), headL_line hmi]
        simp only
        rw [if_neg (by omega)]
        have hp2 : (headsB (l.take i)).length + (lineB l[i] ++ [13]).length + 1 = (headsB (l.take (i + 1))).length := by omega
        rw [hp2]
        exact cut_parse l hm hl m hmlt h8 d f (i + 1) _ (by omega) (by omega) (by omega) (by rw [List.length_append, List.length_singleton]; omega)
    · obtain rfl : i = l.length := by omega
      rw [List.take_length] at hp hf ⊢
      rw [List.drop_length]
      have e0 : headsB ([] : List S39) = [] := rfl
      rw [e0, List.nil_append]
      rw [List.length_append] at hmlt
      have hcase : m - (headsB l).length = 0 ∨ m - (headsB l).length = 1 := by
        have : ([13, 10] : List UInt8).length = 2 := rfl
        omega
      rcases hcase with hq | hq
      · rw [hq]
        have e1 : splitC 10 (([13, 10] : List UInt8).take 0) = none := by decide
        rw [e1]
        simp only
        rw [if_pos (by rw [List.length_append] at h8; omega)]
      · rw [hq]
        have e1 : splitC 10 (([13, 10] : List UInt8).take 1) = none := by decide
        rw [e1]
        simp only
        rw [if_pos (by rw [List.length_append] at h8; omega)]
theorem print_f (l : List S39) (hl : lightL l = true) (k : Nat) (hk : 60000 < k) (hc : checkV l = 0) : header_Print.f k l = some (nums (headsB l ++ [13, 10]), 0) := by
  obtain ⟨p1, p2, p3⟩ := light_parts hl
  unfold header_Print.f
  rw [prog_check l hl k hk, hc]
  simp only [Option.bind_some, if_true]
  rw [if_pos (by rw [headsB_length]; unfold sizeL at p2; omega)]
  rfl
theorem check_zero {l : List S39} (hc : checkV l = 0) : l.all mayH = true ∧ l.length ≤ 64 ∧ sizeL l ≤ 8192 := by
  unfold checkV at hc
  by_cases h1 : l.all mayH = true
  · rw [if_pos h1] at hc
    by_cases h2 : l.length > 64
    · rw [if_pos h2] at hc; cases hc
    · rw [if_neg h2] at hc
      by_cases h3 : sizeL l > 8192
      · rw [if_pos h3] at hc; cases hc
      · exact ⟨h1, by omega, by omega⟩
  · rw [if_neg h1] at hc; cases hc
theorem HeaderCuts (l : List S39) (hf : Fits l) (a : Int) (ha : 0 ≤ a ∧ a < 65536) : ∃ k, lanternlaw09_HeaderCuts.f k l a = some true := by
  refine ⟨100002, ?_⟩
  unfold lanternlaw09_HeaderCuts.f
  rw [light_f l hf _ (by omega)]
  simp only [Option.bind_some]
  by_cases hl : lightL l = true
  · rw [if_pos hl, ref_check l hl hf _ (by omega)]
    simp only [Option.bind_some]
    rw [lanternlaw09_HeaderCuts.j0]
    by_cases hc : checkV l = 0
    · have e1 : (checkV l != 0) = false := by rw [hc]; rfl
      rw [if_neg (by rw [e1]; simp), print_f l hl _ (by omega) hc]
      simp only [Option.bind_some, if_true]
      obtain ⟨c1, c2, c3⟩ := check_zero hc
      have hlen : (headsB l ++ [13, 10]).length = sizeL l := by rw [List.length_append, headsB_length]; unfold sizeL; simp; omega
      have h2 : 2 ≤ sizeL l := by unfold sizeL; omega
      rw [lanternlaw09_HeaderCuts.j1, nums_length, hlen]
      obtain ⟨n, rfl⟩ : ∃ n : Nat, a = (n : Int) := ⟨a.toNat, by omega⟩
      rw [wrap_nat (x := (n : Int)) n rfl (by omega)]
      have et : Int.tmod (n : Int) (sizeL l : Int) = ((n % sizeL l : Nat) : Int) := rfl
      have hmod : n % sizeL l < sizeL l := Nat.mod_lt _ (by omega)
      rw [et]
      rw [if_neg (by simp; omega), if_neg (by omega), if_pos (by omega), if_pos (by omega), Int.toNat_natCast, nums_take]
      have htl : ((headsB l ++ [13, 10]).take (n % sizeL l)).length = n % sizeL l := by rw [List.length_take, hlen]; omega
      rw [parse_f _ (by omega) _ (by omega)]
      have hcp := cut_parse l c1 c2 (n % sizeL l) (by omega) (by omega) l.length (((headsB l ++ [13, 10]).take (n % sizeL l)).length + 1) 0 [] (by omega) (by rw [List.take_zero]; exact Nat.zero_le _) (by rw [htl]; omega) rfl
      rw [List.take_zero] at hcp
      rw [show (headsB ([] : List S39)).length = 0 from rfl] at hcp
      rw [hcp]
      simp only [Option.bind_some, if_true]
      rw [awake_f _ (by omega)]
      rfl
    · have e1 : (checkV l != 0) = true := by simpa using hc
      rw [if_pos e1, awake_f _ (by omega)]
      rfl
  · rw [if_neg hl, lanternlaw09_HeaderCuts.j0, if_pos rfl, awake_f _ (by omega)]
    rfl
end Go.Proofs.YtfjfpgihgaiacaaDoor.Q
