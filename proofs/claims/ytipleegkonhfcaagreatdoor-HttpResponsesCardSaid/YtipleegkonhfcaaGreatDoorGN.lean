/- Headers put together and read back, plainly. -/
import Derived.Test.YtipleegkonhfcaaGreatDoorG6
import Derived.Test.YtipleegkonhfcaaGreatDoorKQ2
set_option linter.unusedSimpArgs false
set_option linter.unusedVariables false
set_option maxRecDepth 10000
namespace Go.Proofs.YtipleegkonhfcaaGreatDoor.Q
open Go Go.RowKit Go.Lib Go.Proofs.YtipleegkonhfcaaGreatDoorW.PrintWords Go.Proofs.YtipleegkonhfcaaGreatDoorB Go.Proofs.YtipleegkonhfcaaGreatDoor.E Go.Proofs.YtipleegkonhfcaaGreatDoor.KH Go.Proofs.YtipleegkonhfcaaGreatDoor.KQ Go.Proofs.YtipleegkonhfcaaGreatDoor.P Go.Proofs.YtipleegkonhfcaaGreatDoor.U Go.Proofs.YtipleegkonhfcaaGreatDoor.KF

def sz (h : S67) : Nat := h.f0.size + 2 + h.f1.size + 2
def hsizeL (l : List S67) : Nat := 2 + (l.map sz).sum
/-- No text is longer than the machine's reach. -/
def Fits (l : List S67) : Prop := ∀ h ∈ l, h.f0.size ≤ 140737488355328 ∧ h.f1.size ≤ 140737488355328
theorem rdh_ (l : List S67) (i : Nat) (h : i < l.length) : rd_T67 l (i : Int) = l[i] := by
  show l.getD (i : Int).toNat z67 = l[i]
  rw [Int.toNat_natCast, List.getD_eq_getElem?_getD, List.getElem?_eq_getElem h, Option.getD_some]
theorem size_loop (l : List S67) (hl : l.length ≤ 101) (hf : Fits l) : ∀ (d k i n : Nat), i + d = l.length → d < k → n ≤ 2 + i * 300000000000000 →
    lanternref09_Size.l0 k l n i = some ((n + ((l.drop i).map sz).sum : Nat) : Int)
  | d, k, i, n, hd, hk, hn => by
    obtain ⟨k, rfl⟩ : ∃ m, k = m + 1 := ⟨k - 1, by omega⟩
    rw [lanternref09_Size.l0]
    by_cases h : i < l.length
    · obtain ⟨d, rfl⟩ : ∃ m, d = m + 1 := ⟨d - 1, by omega⟩
      have hb := hf l[i] (List.getElem_mem h)
      rw [if_pos (by omega), if_pos (by omega), rdh_ l i h]
      have b1 : n + l[i].f0.size ≤ 9223372036854775807 := by omega
      have b2 : n + l[i].f0.size + 2 ≤ 9223372036854775807 := by omega
      have b3 : n + l[i].f0.size + 2 + l[i].f1.size ≤ 9223372036854775807 := by omega
      have b4 : n + l[i].f0.size + 2 + l[i].f1.size + 2 ≤ 9223372036854775807 := by omega
      have b5 : i + 1 ≤ 9223372036854775807 := by omega
      rw [wrap_nat (x := (n : Int) + (l[i].f0.size : Int)) _ rfl b1, wrap_nat (x := ((n + l[i].f0.size : Nat) : Int) + 2) (n + l[i].f0.size + 2) rfl b2, wrap_nat (x := ((n + l[i].f0.size + 2 : Nat) : Int) + (l[i].f1.size : Int)) (n + l[i].f0.size + 2 + l[i].f1.size) rfl b3,
        wrap_nat (x := ((n + l[i].f0.size + 2 + l[i].f1.size : Nat) : Int) + 2) (n + l[i].f0.size + 2 + l[i].f1.size + 2) rfl b4, wrap_nat (x := (i : Int) + 1) (i + 1) rfl b5]
      rw [size_loop l hl hf d k (i + 1) _ (by omega) (by omega) (by omega), List.drop_eq_getElem_cons h, List.map_cons, List.sum_cons]
      have e : n + l[i].f0.size + 2 + l[i].f1.size + 2 + (List.map sz (List.drop (i + 1) l)).sum = n + (sz l[i] + (List.map sz (List.drop (i + 1) l)).sum) := by unfold sz; omega
      rw [e]
    · rw [if_neg (by omega), List.drop_eq_nil_of_le (by omega)]
      simp
theorem size_f (l : List S67) (hl : l.length ≤ 101) (hf : Fits l) (k : Nat) (hk : l.length < k) : lanternref09_Size.f k l = some (hsizeL l : Int) := by
  unfold lanternref09_Size.f
  have := size_loop l hl hf l.length k 0 2 (by omega) hk (by omega)
  rw [List.drop_zero] at this
  exact this
def lightL (l : List S67) : Bool := decide (l.length ≤ 101) && decide (hsizeL l ≤ 20100)
theorem sz_le (l : List S67) : ∀ h ∈ l, sz h ≤ (l.map sz).sum := by
  induction l with
  | nil => simp
  | cons a t ih =>
    intro h hm
    rw [List.map_cons, List.sum_cons]
    rcases List.mem_cons.1 hm with rfl | hm
    · omega
    · have := ih h hm
      omega
theorem light_parts {l : List S67} (h : lightL l = true) : l.length ≤ 101 ∧ hsizeL l ≤ 20100 ∧ ∀ x ∈ l, x.f0.size ≤ 20100 ∧ x.f1.size ≤ 20100 := by
  unfold lightL at h
  rw [Bool.and_eq_true, decide_eq_true_eq, decide_eq_true_eq] at h
  refine ⟨h.1, h.2, fun x hx => ?_⟩
  have := sz_le l x hx
  have h2 := h.2
  unfold hsizeL at h2
  have e : sz x = x.f0.size + 2 + x.f1.size + 2 := rfl
  rw [e] at this
  omega
def mayH (h : S67) : Bool := mayL (L h.f0) (L h.f1)
/-- Why headers may not be. -/
def checkV (l : List S67) : Int := if l.all mayH = true then (if l.length > 64 then 3 else if hsizeL l > 8192 then 3 else 0) else 1
theorem ref_check_loop (l : List S67) (hl : lightL l = true) (hf : Fits l) (K : Nat) (hK : 50000 ≤ K) : ∀ (d k i : Nat), i + d = l.length → d + K < k →
    lanternref09_Check.l0 k l i = some (if (l.drop i).all mayH = true then (if l.length > 64 then 3 else if hsizeL l > 8192 then 3 else 0) else 1)
  | d, k, i, hd, hk => by
    obtain ⟨p1, p2, p3⟩ := light_parts hl
    obtain ⟨k, rfl⟩ : ∃ m, k = m + 1 := ⟨k - 1, by omega⟩
    rw [lanternref09_Check.l0]
    by_cases h : i < l.length
    · obtain ⟨d, rfl⟩ : ∃ m, d = m + 1 := ⟨d - 1, by omega⟩
      have hb := p3 l[i] (List.getElem_mem h)
      rw [if_pos (by omega), if_pos (by omega), rdh_ l i h, ref_may _ _ (by omega) (by omega) k (by omega), List.drop_eq_getElem_cons h, List.all_cons]
      simp only [Option.bind_some]
      rw [show mayL (L l[i].f0) (L l[i].f1) = mayH l[i] from rfl]
      cases hm : mayH l[i] with
      | true => rw [if_pos rfl, Bool.true_and, wrap_nat (x := (i : Int) + 1) (i + 1) rfl (by omega)]; exact ref_check_loop l hl hf K hK d k (i + 1) (by omega) (by omega)
      | false => rw [if_neg (by simp), Bool.false_and, if_neg (by simp)]
    · rw [if_neg (by omega), List.drop_eq_nil_of_le (by omega), size_f l p1 hf k (by omega)]
      simp only [Option.bind_some, List.all_nil, if_true]
      by_cases h1 : l.length > 64
      · rw [if_pos (by omega), if_pos h1]
      · rw [if_neg (by omega), if_neg h1]
        by_cases h2 : hsizeL l > 8192
        · rw [if_pos (by omega), if_pos h2]
        · rw [if_neg (by omega), if_neg h2]
theorem ref_check (l : List S67) (hl : lightL l = true) (hf : Fits l) (k : Nat) (hk : 60000 < k) : lanternref09_Check.f k l = some (checkV l) := by
  have p1 := (light_parts hl).1
  unfold lanternref09_Check.f
  have := ref_check_loop l hl hf 50000 (Nat.le_refl _) l.length k 0 (by omega) (by omega)
  rw [List.drop_zero] at this
  exact this
theorem prog_check_loop (l : List S67) (hl : lightL l = true) (K : Nat) (hK : 50000 ≤ K) : ∀ (d k i n : Nat), i + d = l.length → d + K < k → n + ((l.drop i).map sz).sum = hsizeL l →
    header_Check.l0 k l n l (l.length : Int) i = some (if (l.drop i).all mayH = true then (if l.length > 64 then 3 else if hsizeL l > 8192 then 3 else 0) else 1)
  | d, k, i, n, hd, hk, hn => by
    obtain ⟨p1, p2, p3⟩ := light_parts hl
    obtain ⟨k, rfl⟩ : ∃ m, k = m + 1 := ⟨k - 1, by omega⟩
    rw [header_Check.l0]
    by_cases h : i < l.length
    · obtain ⟨d, rfl⟩ : ∃ m, d = m + 1 := ⟨d - 1, by omega⟩
      have hb := p3 l[i] (List.getElem_mem h)
      rw [List.drop_eq_getElem_cons h, List.map_cons, List.sum_cons] at hn
      rw [if_pos (by omega), if_pos (by omega), if_pos (by omega), rdh_ l i h, may_f _ _ (by omega) (by omega) k (by omega), List.drop_eq_getElem_cons h, List.all_cons]
      simp only [Option.bind_some]
      rw [show mayL (L l[i].f0) (L l[i].f1) = mayH l[i] from rfl]
      have b1 : l[i].f0.size + l[i].f1.size ≤ 9223372036854775807 := by omega
      have b2 : l[i].f0.size + l[i].f1.size + 4 ≤ 9223372036854775807 := by omega
      have b3 : n + (l[i].f0.size + l[i].f1.size + 4) ≤ 9223372036854775807 := by omega
      have b5 : i + 1 ≤ 9223372036854775807 := by omega
      have hn' : n + (l[i].f0.size + l[i].f1.size + 4) + (List.map sz (List.drop (i + 1) l)).sum = hsizeL l := by unfold sz at hn ⊢; omega
      cases hm : mayH l[i] with
      | true =>
        rw [if_pos rfl, Bool.true_and, wrap_nat (x := (l[i].f0.size : Int) + (l[i].f1.size : Int)) (l[i].f0.size + l[i].f1.size) rfl b1, wrap_nat (x := ((l[i].f0.size + l[i].f1.size : Nat) : Int) + 4) (l[i].f0.size + l[i].f1.size + 4) rfl b2,
          wrap_nat (x := (n : Int) + ((l[i].f0.size + l[i].f1.size + 4 : Nat) : Int)) (n + (l[i].f0.size + l[i].f1.size + 4)) rfl b3, wrap_nat (x := (i : Int) + 1) (i + 1) rfl b5]
        exact prog_check_loop l hl K hK d k (i + 1) _ (by omega) (by omega) hn'
      | false => rw [if_neg (by simp), Bool.false_and, if_neg (by simp)]
    · rw [List.drop_eq_nil_of_le (by omega)] at hn
      simp at hn
      rw [if_neg (by omega), List.drop_eq_nil_of_le (by omega)]
      simp only [List.all_nil, if_true]
      by_cases h1 : l.length > 64
      · rw [if_pos (by omega), if_pos h1]
      · rw [if_neg (by omega), if_neg h1]
        by_cases h2 : hsizeL l > 8192
        · rw [if_pos (by omega), if_pos h2]
        · rw [if_neg (by omega), if_neg h2]
theorem prog_check (l : List S67) (hl : lightL l = true) (k : Nat) (hk : 60000 < k) : header_Check.f k l = some (checkV l) := by
  have p1 := (light_parts hl).1
  unfold header_Check.f
  have := prog_check_loop l hl 50000 (Nat.le_refl _) l.length k 0 2 (by omega) (by omega) (by rw [List.drop_zero]; rfl)
  rw [List.drop_zero] at this
  exact this
theorem headB_length (h : S67) : (headB h).length = sz h := by
  unfold headB sz
  simp only [List.length_append, data_length]
  rfl
theorem headsB_length (l : List S67) : (headsB l).length = (l.map sz).sum := by
  induction l with
  | nil => rfl
  | cons a t ih => rw [headsB, List.flatMap_cons, List.length_append, headB_length, List.map_cons, List.sum_cons, ← ih]; rfl

/-! ### what was printed is read line by line -/
theorem splitC_of (c : UInt8) : ∀ (u t : List UInt8), (∀ b ∈ u, b ≠ c) → splitC c (u ++ c :: t) = some (u, t)
  | [], t, _ => by simp [splitC]
  | b :: u, t, h => by
    rw [List.cons_append, splitC, if_neg (h b (by simp)), splitC_of c u t (fun d hd => h d (by simp [hd]))]
    rfl
theorem splitC_none_of (c : UInt8) : ∀ (l : List UInt8), (∀ b ∈ l, b ≠ c) → splitC c l = none
  | [], _ => rfl
  | b :: l, h => by
    rw [splitC, if_neg (h b (by simp)), splitC_none_of c l (fun d hd => h d (by simp [hd]))]
    rfl
theorem sign_not (c : UInt8) (h : signL.contains c = true) : c ≠ 58 ∧ c ≠ 10 := by
  have := u8_all (p := fun c => signL.contains c = true → c ≠ 58 ∧ c ≠ 10) (by decide +kernel) c
  exact this h
theorem okc_not (c : UInt8) (h : okc c = true) : c ≠ 10 := by
  have := u8_all (p := fun c => okc c = true → c ≠ 10) (by decide +kernel) c
  exact this h
theorem trim_blank (v : List UInt8) (hv : TrimmedS blL v) : Lib.trimS (32 :: v) blL = v := by
  have gd : ∀ j, (32 :: v : List UInt8).getD (j + 1) 0 = v.getD j 0 := fun j => by simp [List.getD_eq_getElem?_getD]
  have := trimS_range blL (32 :: v) 1 (v.length + 1) (by omega) (by simp) (fun j hj => by
      obtain rfl : j = 0 := by omega
      rfl) (fun j h1 h2 => by simp at h2; omega) (fun h => by
      rw [gd 0]
      cases v with
      | nil => simp at h
      | cons c t => exact hv.1 c t rfl) (fun h => by
      have hne : v ≠ [] := by intro h0; rw [h0] at h; simp at h
      have hpos := List.length_pos_iff.2 hne
      rw [show v.length + 1 - 1 = (v.length - 1) + 1 from by omega, gd]
      have e : v = v.dropLast ++ [v.getLast hne] := (List.dropLast_concat_getLast hne).symm
      have h2 := hv.2 _ _ e
      have h3 : v.getD (v.length - 1) 0 = v.getLast hne := by
        rw [List.getD_eq_getElem?_getD, List.getElem?_eq_getElem (by omega), List.getLast_eq_getElem]
        rfl
      rw [h3]
      exact h2) (fun h => by left; rw [List.length_cons]; exact h)
  rw [this]
  simp
def lineB (h : S67) : List UInt8 := L h.f0 ++ 58 :: 32 :: L h.f1
theorem headB_line (h : S67) : headB h = (lineB h ++ [13]) ++ [10] := by
  unfold headB lineB
  simp [L]
theorem may_parts {h : S67} (hm : mayH h = true) : (∀ c ∈ L h.f0, signL.contains c = true) ∧ (∀ c ∈ L h.f1, okc c = true) ∧ TrimmedS blL (L h.f1) := by
  unfold mayH mayL tokenL valueL at hm
  simp only [Bool.and_eq_true, List.all_eq_true] at hm
  exact ⟨hm.1.2, hm.2.1, (trimS_iff _ _).1 (of_decide_eq_true hm.2.2)⟩
theorem line_clean {h : S67} (hm : mayH h = true) : ∀ b ∈ lineB h ++ [13], b ≠ 10 := by
  obtain ⟨p1, p2, p3⟩ := may_parts hm
  intro b hb
  unfold lineB at hb
  simp only [List.mem_append, List.mem_cons, List.not_mem_nil, or_false] at hb
  rcases hb with (hb | rfl | rfl | hb) | rfl
  · exact (sign_not b (p1 b hb)).2
  · decide
  · decide
  · exact okc_not b (p2 b hb)
  · decide
theorem headL_line {h : S67} (hm : mayH h = true) : headL (lineB h) = some h := by
  obtain ⟨p1, p2, p3⟩ := may_parts hm
  unfold headL lineB
  rw [splitC_of 58 (L h.f0) _ (fun b hb => (sign_not b (p1 b hb)).1)]
  simp only
  rw [trim_blank _ p3, if_pos (show mayL (L h.f0) (L h.f1) = true from hm), B_L, B_L]
theorem chomp_line (u : List UInt8) : chomp (u ++ [13]) = u := by
  rw [chomp_eq, if_pos ⟨by simp, by simp⟩]
  simp
theorem print_f (l : List S67) (hl : lightL l = true) (k : Nat) (hk : 60000 < k) (hc : checkV l = 0) : header_Print.f k l = some (nums (headsB l ++ [13, 10]), 0) := by
  obtain ⟨p1, p2, p3⟩ := light_parts hl
  unfold header_Print.f
  rw [prog_check l hl k hk, hc]
  simp only [Option.bind_some, if_true]
  rw [if_pos (by rw [headsB_length]; unfold hsizeL at p2; omega)]
  rfl
theorem check_zero {l : List S67} (hc : checkV l = 0) : l.all mayH = true ∧ l.length ≤ 64 ∧ hsizeL l ≤ 8192 := by
  unfold checkV at hc
  by_cases h1 : l.all mayH = true
  · rw [if_pos h1] at hc
    by_cases h2 : l.length > 64
    · rw [if_pos h2] at hc; cases hc
    · rw [if_neg h2] at hc
      by_cases h3 : hsizeL l > 8192
      · rw [if_pos h3] at hc; cases hc
      · exact ⟨h1, by omega, by omega⟩
  · rw [if_neg h1] at hc; cases hc
theorem full_parse (l : List S67) (hm : l.all mayH = true) (hl : l.length ≤ 64) (h8 : (headsB l ++ [13, 10]).length ≤ 8192) (more : List UInt8) :
    ∀ (d f i : Nat), i + d = l.length → (headsB l ++ [13, 10] ++ more).length < (headsB (l.take i)).length + f →
      parseM (headsB l ++ [13, 10] ++ more) f (headsB (l.take i)).length (l.take i) = (l, ((headsB l ++ [13, 10]).length : Int), 0)
  | d, 0, i, hd, hf => by
    have e : headsB l = headsB (l.take i) ++ headsB (l.drop i) := by
      conv => lhs; rw [← List.take_append_drop i l]
      rw [headsB, headsB, headsB, List.flatMap_append]
    have := congrArg List.length e
    rw [List.length_append] at this
    simp only [List.length_append] at hf
    omega
  | d, f + 1, i, hd, hf => by
    have hdrop : (headsB l ++ [13, 10] ++ more).drop (headsB (l.take i)).length = headsB (l.drop i) ++ [13, 10] ++ more := by
      have e : headsB l = headsB (l.take i) ++ headsB (l.drop i) := by
        conv => lhs; rw [← List.take_append_drop i l]
        rw [headsB, headsB, headsB, List.flatMap_append]
      rw [e, List.append_assoc, List.append_assoc, List.drop_left, List.append_assoc]
    rw [parseM, hdrop]
    by_cases h : i < l.length
    · obtain ⟨d, rfl⟩ : ∃ j, d = j + 1 := ⟨d - 1, by omega⟩
      have hmi : mayH l[i] = true := List.all_eq_true.1 hm _ (List.getElem_mem h)
      have hst : headsB (l.drop i) = headB l[i] ++ headsB (l.drop (i + 1)) := by
        rw [List.drop_eq_getElem_cons h, headsB, headsB, List.flatMap_cons]
      have hst2 : headsB (l.take (i + 1)) = headsB (l.take i) ++ headB l[i] := by
        have := headsB_step l i h
        rw [rdh_ l i h] at this
        exact this
      have hlen2 := congrArg List.length hst2
      rw [List.length_append] at hlen2
      have hhl : (headB l[i]).length = (lineB l[i] ++ [13]).length + 1 := by rw [headB_line, List.length_append]; rfl
      have hpl : (headsB (l.take (i + 1))).length ≤ (headsB l).length := by
        have e : headsB l = headsB (l.take (i + 1)) ++ headsB (l.drop (i + 1)) := by
          conv => lhs; rw [← List.take_append_drop (i + 1) l]
          rw [headsB, headsB, headsB, List.flatMap_append]
        have := congrArg List.length e
        rw [List.length_append] at this
        omega
      have hP : (headsB l ++ [13, 10]).length = (headsB l).length + 2 := by rw [List.length_append]; rfl
      have ht : headsB (l.drop i) ++ [13, 10] ++ more = (lineB l[i] ++ [13]) ++ 10 :: (headsB (l.drop (i + 1)) ++ [13, 10] ++ more) := by
        rw [hst, headB_line]
        simp
      rw [ht, splitC_of 10 _ _ (line_clean hmi)]
      simp only
      rw [if_neg (by omega), chomp_line, if_neg (by unfold lineB; simp), headL_line hmi]
      simp only
      have htl : (l.take i).length = i := by rw [List.length_take]; omega
      rw [if_neg (by omega)]
      have hp2 : (headsB (l.take i)).length + (lineB l[i] ++ [13]).length + 1 = (headsB (l.take (i + 1))).length := by omega
      rw [hp2, ← List.take_succ_eq_append_getElem h]
      exact full_parse l hm hl h8 more d f (i + 1) (by omega) (by omega)
    · obtain rfl : i = l.length := by omega
      rw [List.take_length, List.drop_length]
      have e0 : headsB ([] : List S67) ++ [13, 10] ++ more = [13] ++ 10 :: more := by simp [headsB]
      have hP : (headsB l ++ [13, 10]).length = (headsB l).length + 2 := by rw [List.length_append]; rfl
      rw [e0, splitC_of 10 [13] more (by decide)]
      simp only
      rw [if_neg (by simp; omega), if_pos (by decide), hP]
      rfl
theorem ref_print_loop (l : List S67) (hl : lightL l = true) : ∀ (d k i : Nat) (acc : List Int), i + d = l.length → d < k → acc.length + (headsB (l.drop i)).length ≤ 1000000 →
    lanternref09_Print.l0 k l acc i = some (acc ++ nums (headsB (l.drop i) ++ [13, 10]))
  | d, k, i, acc, hd, hk, ha => by
    obtain ⟨p1, p2, p3⟩ := light_parts hl
    obtain ⟨k, rfl⟩ : ∃ m, k = m + 1 := ⟨k - 1, by omega⟩
    rw [lanternref09_Print.l0]
    by_cases h : i < l.length
    · obtain ⟨d, rfl⟩ : ∃ m, d = m + 1 := ⟨d - 1, by omega⟩
      have hst : headsB (l.drop i) = headB l[i] ++ headsB (l.drop (i + 1)) := by
        rw [List.drop_eq_getElem_cons h, headsB, headsB, List.flatMap_cons]
      have hhl : (headB l[i]).length = l[i].f0.size + 2 + l[i].f1.size + 2 := headB_length l[i]
      rw [hst, List.length_append, hhl] at ha
      have z0 : (Go.Proofs.YtipleegkonhfcaaGreatDoorW.PrintWords.bytesOf l[i].f0).length = l[i].f0.size := bytesOf_length _
      have z1 : (Go.Proofs.YtipleegkonhfcaaGreatDoorW.PrintWords.bytesOf l[i].f1).length = l[i].f1.size := bytesOf_length _
      rw [if_pos (by omega), if_pos (by omega), rdh_ l i h, if_pos (by omega)]
      simp only [Option.bind_some]
      rw [if_pos (by simp only [List.length_append, z0, List.length_cons, List.length_nil]; omega), if_pos (by simp only [List.length_append, z0, List.length_cons, List.length_nil]; omega), if_pos (by simp only [List.length_append, z0, z1, List.length_cons, List.length_nil]; omega), wrap_nat (x := (i : Int) + 1) (i + 1) rfl (by omega)]
      rw [ref_print_loop l hl d k (i + 1) _ (by omega) (by omega) (by simp only [List.length_append, z0, z1, List.length_cons, List.length_nil]; omega), hst]
      have en : nums (headB l[i]) = Go.Proofs.YtipleegkonhfcaaGreatDoorW.PrintWords.bytesOf l[i].f0 ++ [58, 32] ++ Go.Proofs.YtipleegkonhfcaaGreatDoorW.PrintWords.bytesOf l[i].f1 ++ [13, 10] := by
        unfold nums headB Go.Proofs.YtipleegkonhfcaaGreatDoorW.PrintWords.bytesOf
        simp
      have e2 : nums (headB l[i] ++ headsB (List.drop (i + 1) l) ++ [13, 10]) = nums (headB l[i]) ++ nums (headsB (List.drop (i + 1) l) ++ [13, 10]) := by simp [nums]
      rw [e2, en]
      simp [List.append_assoc]
    · rw [List.drop_eq_nil_of_le (by omega)] at ha ⊢
      rw [if_neg (by omega)]
      simp only [Option.bind_some]
      rw [if_pos (by simp only [List.length_cons, List.length_nil]; omega)]
      rfl
end Go.Proofs.YtipleegkonhfcaaGreatDoor.Q
set_option linter.unusedSimpArgs false
set_option linter.unusedVariables false
set_option maxRecDepth 10000
namespace Go.Proofs.YtipleegkonhfcaaGreatDoor.Q
open Go Go.RowKit Go.Lib Go.Proofs.YtipleegkonhfcaaGreatDoorW.PrintWords Go.Proofs.YtipleegkonhfcaaGreatDoorB Go.Proofs.YtipleegkonhfcaaGreatDoor.E Go.Proofs.YtipleegkonhfcaaGreatDoor.KH Go.Proofs.YtipleegkonhfcaaGreatDoor.KN Go.Proofs.YtipleegkonhfcaaGreatDoor.KA Go.Proofs.YtipleegkonhfcaaGreatDoor.KQ Go.Proofs.YtipleegkonhfcaaGreatDoor.P Go.Proofs.YtipleegkonhfcaaGreatDoor.U Go.Proofs.YtipleegkonhfcaaGreatDoor.KF

/-! ### numerals -/
def dgt (n : Nat) : UInt8 := UInt8.ofNat (48 + n)
theorem dd1 (u : Nat) (h : u < 10) : Lib.decDigits u = [dgt u] := by rw [Lib.decDigits, dif_pos h]; rfl
theorem dd2 (u : Nat) (h : ¬ u < 10) : Lib.decDigits u = Lib.decDigits (u / 10) ++ [dgt (u % 10)] := by
  conv => lhs; rw [Lib.decDigits, dif_neg h]
  rfl
theorem dgt_in (n : Nat) (h : n < 10) : inR 48 57 (dgt n) = true ∧ (dgt n).toNat = 48 + n := by
  have : ∀ m : Fin 10, inR 48 57 (dgt m.val) = true ∧ (dgt m.val).toNat = 48 + m.val := by decide +kernel
  exact this ⟨n, h⟩
theorem numV_append : ∀ (l r : List UInt8) (n : Nat), numV (l ++ r) n = numV r (numV l n)
  | [], r, n => rfl
  | c :: l, r, n => by
    rw [List.cons_append, numV, numV]
    exact numV_append l r _
theorem dec_facts : ∀ (d u : Nat), u < 10 ^ (d + 1) → (Lib.decDigits u).all (inR 48 57) = true ∧ numV (Lib.decDigits u) 0 = u ∧ 1 ≤ (Lib.decDigits u).length ∧ (Lib.decDigits u).length ≤ d + 1
  | 0, u, h => by
    have h' : u < 10 := by simpa using h
    rw [dd1 u h']
    have := dgt_in u h'
    refine ⟨by simp [this.1], ?_, by simp, by simp⟩
    rw [numV, numV, this.2]
    omega
  | d + 1, u, h => by
    by_cases h' : u < 10
    · rw [dd1 u h']
      have := dgt_in u h'
      refine ⟨by simp [this.1], ?_, by simp, by simp⟩
      rw [numV, numV, this.2]
      omega
    · have hd : u / 10 < 10 ^ (d + 1) := by
        rw [Nat.div_lt_iff_lt_mul (by decide)]
        rw [Nat.pow_succ] at h
        exact h
      obtain ⟨i1, i2, i3, i4⟩ := dec_facts d (u / 10) hd
      have := dgt_in (u % 10) (Nat.mod_lt _ (by decide))
      rw [dd2 u h']
      refine ⟨by rw [List.all_append, i1]; simp [this.1], ?_, by simp, by rw [List.length_append, List.length_singleton]; omega⟩
      rw [numV_append, i2, numV, numV, this.2]
      omega
theorem itoa_f (n : Nat) (h : n ≤ 1000000) : strconv_Itoa.f (n : Int) = some (B (Lib.decDigits n)) := by
  unfold strconv_Itoa.f
  rw [if_pos (by omega)]
  unfold Lib.itoa
  rw [if_neg (by omega), Int.toNat_natCast]
  rfl
theorem appB (l m : List UInt8) : B l ++ B m = B (l ++ m) := by
  apply L_inj
  rw [L_append, L_B, L_B, L_B]
theorem rdig1 (u k : Nat) (h : u < 10) : lanternref06_Digits.f (k + 1) (u : Int) = some (B [dgt u]) := by
  have hw : wrap64 ((u : Int) + 1) = ((u + 1 : Nat) : Int) := wrap_nat (u + 1) rfl (by omega)
  rw [lanternref06_Digits.f, if_pos (by omega), if_pos (by omega), hw, if_pos (by omega), if_pos (by omega), Int.toNat_natCast, Int.toNat_natCast]
  have : ∀ m : Fin 10, (⟨#[48, 49, 50, 51, 52, 53, 54, 55, 56, 57]⟩ : ByteArray).extract m.val (m.val + 1) = B [dgt m.val] := by decide +kernel
  exact congrArg some (this ⟨u, h⟩)
theorem rdig (k : Nat) : ∀ (d u : Nat), u < 10 ^ (d + 1) → u ≤ 1000000 → lanternref06_Digits.f (k + d + 2) (u : Int) = some (B (Lib.decDigits u))
  | 0, u, h, hu => by
    have h' : u < 10 := by simpa using h
    rw [dd1 u h']
    exact rdig1 u (k + 1) h'
  | d + 1, u, h, hu => by
    by_cases h' : u < 10
    · rw [dd1 u h']
      exact rdig1 u (k + d + 2) h'
    · have hd : u / 10 < 10 ^ (d + 1) := by
        rw [Nat.div_lt_iff_lt_mul (by decide)]
        rw [Nat.pow_succ] at h
        exact h
      have ih := rdig k d (u / 10) hd (by omega)
      have hl := (dec_facts d (u / 10) hd).2.2.2
      have e1 : Int.tdiv (u : Int) 10 = ((u / 10 : Nat) : Int) := by rw [Int.tdiv_eq_ediv_of_nonneg (by omega)]; omega
      have e2 : Int.tmod (u : Int) 10 = ((u % 10 : Nat) : Int) := by rw [Int.tmod_eq_emod_of_nonneg (by omega)]; omega
      have hw : wrap64 ((u / 10 : Nat) : Int) = ((u / 10 : Nat) : Int) := wrap_nat (u / 10) rfl (by omega)
      have hdl : (Lib.decDigits (u / 10)).length ≤ 1000000000 := by
        have := (dec_facts 7 (u / 10) (by omega)).2.2.2
        omega
      rw [show k + (d + 1) + 2 = (k + d + 2) + 1 from by omega, lanternref06_Digits.f, if_neg (by omega), e1, hw, ih, Option.bind_some, e2, rdig1 (u % 10) (k + d + 1) (Nat.mod_lt _ (by decide)), Option.bind_some, if_pos (by rw [size_B, size_B, List.length_singleton]; omega), appB, dd2 u h']
theorem rdig_f (n : Nat) (h : n ≤ 1000000) (k : Nat) (hk : 20 < k) : lanternref06_Digits.f k (n : Int) = some (B (Lib.decDigits n)) := by
  obtain ⟨k, rfl⟩ : ∃ m, k = m + 7 + 2 := ⟨k - 9, by omega⟩
  exact rdig k 7 n (by omega) h
/-! ### headers with the body's length -/
def clN : ByteArray := ⟨#[67, 111, 110, 116, 101, 110, 116, 45, 76, 101, 110, 103, 116, 104]⟩
def clH (n : Nat) : S67 := ⟨clN, B (Lib.decDigits n)⟩
def withH (l : List S67) (n : Nat) : List S67 := if n = 0 then l else l ++ [clH n]
theorem hsized_f (l : List S67) (hl : l.length ≤ 100) (n : Nat) (h : n ≤ 1000000) : http_sized.f l (n : Int) = some (l ++ [clH n]) := by
  unfold http_sized.f api_Header.f
  rw [if_pos (by omega), Option.bind_some, itoa_f n h, Option.bind_some, if_pos (by omega)]
  rfl
theorem hwith_f (l : List S67) (hl : l.length ≤ 100) (n : Nat) (h : n ≤ 1000000) (k : Nat) (hk : 20 < k) : lanternref11_With.f k l (n : Int) = some (l ++ [clH n]) := by
  unfold lanternref11_With.f
  rw [Option.bind_some, if_pos (by rw [List.length_nil]; omega), Option.bind_some, rdig_f n h k hk, Option.bind_some, List.nil_append, if_pos (by omega)]
  rfl
theorem light_with {l : List S67} (h1 : l.length ≤ 100) (h2 : hsizeL l ≤ 20000) (n : Nat) (h : n ≤ 1000000) : lightL (l ++ [clH n]) = true := by
  have hd := (dec_facts 7 n (by omega)).2.2.2
  unfold lightL
  rw [decide_eq_true (by rw [List.length_append, List.length_singleton]; omega), decide_eq_true]
  · rfl
  · unfold hsizeL at h2 ⊢
    rw [List.map_append, List.sum_append]
    have : ([clH n].map sz).sum = 14 + 2 + (B (Lib.decDigits n)).size + 2 := by
      show (clH n).f0.size + 2 + (clH n).f1.size + 2 + 0 = _
      rfl
    rw [this, size_B]
    omega
theorem light_of {l : List S67} (h1 : l.length ≤ 100) (h2 : hsizeL l ≤ 20000) : lightL l = true := by
  unfold lightL
  rw [decide_eq_true (by omega), decide_eq_true (by omega)]
  rfl
theorem hlight_f (l : List S67) (hf : Fits l) (b : List Int) (k : Nat) (hk : 200 < k) : lanternlaw11_light.f k l b = some (decide (l.length ≤ 100) && (decide (hsizeL l ≤ 20000) && decide (b.length ≤ 40000))) := by
  unfold lanternlaw11_light.f
  by_cases h1 : l.length ≤ 100
  · rw [if_pos (by omega), size_f l (by omega) hf k (by omega), Option.bind_some, decide_eq_true h1]
    by_cases h2 : hsizeL l ≤ 20000
    · rw [if_pos (by omega), decide_eq_true h2, Bool.true_and, Bool.true_and]
      exact congrArg some (decide_eq_decide.2 (by omega))
    · rw [if_neg (by omega), decide_eq_false h2]
      rfl
  · rw [if_neg (by omega), decide_eq_false h1]
    rfl
theorem fits_of {l : List S67} (h : lightL l = true) : Fits l := by
  intro x hx
  have := (light_parts h).2.2 x hx
  omega
/-! ### which may be -/
def fitsM (l : List S67) (n : Nat) : Bool := decide (allV clB l = [] ∧ allV teB l = [] ∧ n ≤ 32768) && decide (checkV (withH l n) = 0)
theorem small_of {l : List S67} (h1 : l.length ≤ 100) (h2 : hsizeL l ≤ 20000) : Small l := by
  refine ⟨h1, fun x hx => ?_⟩
  have := (light_parts (light_of h1 h2)).2.2 x hx
  omega
def mayR (m t : ByteArray) (l : List S67) (n : Nat) : Bool := tokenL (L m) && (targetL (L t) && fitsM l n)
end Go.Proofs.YtipleegkonhfcaaGreatDoor.Q
namespace Go.Proofs.YtipleegkonhfcaaGreatDoor.KQ
open Go.Proofs.YtipleegkonhfcaaGreatDoorZ
open Go.Proofs.YtipleegkonhfcaaGreatDoor.E Go.Proofs.YtipleegkonhfcaaGreatDoorV
open Go.Proofs.YtipleegkonhfcaaGreatDoor.U
open Go.Proofs.YtipleegkonhfcaaGreatDoor.KF
open Go.Proofs.YtipleegkonhfcaaGreatDoor.P
open Go.Proofs.YtipleegkonhfcaaGreatDoor.KH
open Go.Proofs.YtipleegkonhfcaaGreatDoor.KA
open Go.RowKit Go.Proofs.YtipleegkonhfcaaGreatDoorW.PrintWords Go.Proofs.YtipleegkonhfcaaGreatDoorW.PrintLast Go.Proofs.YtipleegkonhfcaaGreatDoorW.PrintMore
attribute [local go_sem] max2_int min2_int max_two min_two max_three min_three max_four min_four   -- for this text's walks alone
set_option linter.unusedVariables false
set_option linter.unusedSimpArgs false

def lanternlaw11_HttpRequests.j0 : Nat → List Int → Bool → ByteArray → ByteArray → List (S67) → List Int → Option (Bool)
 | 0, _, _, _, _, _, _ => none
 | k + 1, x1, x32, x178000, x178001, x178002, x178003 => if x32 = true then ((lanternlaw11_awake.f k).bind fun t179 => (some t179)) else ((http_PrintRequest.f k x178000 x178001 x178002 x178003).bind fun bt180 => ((lanternref11_MayRequest.f k x178000 x178001 x178002 x178003).bind fun t184 => (if t184 = true then ((lanternref11_Request.f k x178000 x178001 x178002 x178003).bind fun t187 => ((http_CheckRequest.f k x178000 x178001 x178002 x178003).bind fun t190 => (if t190 = 0 then (if bt180.2 = 0 then (if (strOfNums bt180.1).toList = (strOfNums t187).toList then ((some (([] : List Int) : List Int)).bind fun y191 => (if y191.length + bt180.1.length < 140737488355328 then ((some (y191 ++ bt180.1 : List Int)).bind fun y194 => (if y194.length + x1.length < 140737488355328 then ((http_ParseRequest.f k (y194 ++ x1)).bind fun bt200 => (if (wrap64 ((x178000.size : Int) + (x178001.size : Int))) > 4084 then (if bt200.2.2.2.2.2 = 3 then ((lanternlaw11_awake.f k).bind fun t211 => (some t211)) else (none)) else (if (x178003.length : Int) > 0 then ((lanternref11_With.f k x178002 (x178003.length : Int)).bind fun t212 => (if bt200.2.2.2.2.2 = 0 then (if bt200.2.2.2.2.1 = (bt180.1.length : Int) then ((lanternref11_SameRequest.f k bt200.1 bt200.2.1 bt200.2.2.1 bt200.2.2.2.1 x178000 x178001 t212 x178003).bind fun t215 => (if t215 = true then ((lanternlaw11_awake.f k).bind fun t216 => (some t216)) else (none))) else (none)) else (none))) else (if bt200.2.2.2.2.2 = 0 then (if bt200.2.2.2.2.1 = (bt180.1.length : Int) then ((lanternref11_SameRequest.f k bt200.1 bt200.2.1 bt200.2.2.1 bt200.2.2.2.1 x178000 x178001 x178002 x178003).bind fun t217 => (if t217 = true then ((lanternlaw11_awake.f k).bind fun t218 => (some t218)) else (none))) else (none)) else (none))))) else (none))) else (none))) else (none)) else (none)) else (none)))) else ((http_CheckRequest.f k x178000 x178001 x178002 x178003).bind fun t185 => (if t185 = 1 then (if bt180.2 = 1 then (if (bt180.1.length : Int) = 0 then ((lanternlaw11_awake.f k).bind fun t186 => (some t186)) else (none)) else (none)) else (none))))))
def lanternlaw11_HttpRequests.f (k : Nat) (a0_0 : ByteArray) (a0_1 : ByteArray) (l0_2 : List (S67)) (l0_3 : List Int) (l1 : List Int) : Option (Bool) := (lanternlaw11_light.f k l0_2 l0_3).bind fun t178 => (if t178 = true then (if (a0_0.size : Int) > 5000 then (lanternlaw11_HttpRequests.j0 k l1 true a0_0 a0_1 l0_2 l0_3) else (if (a0_1.size : Int) > 5000 then (lanternlaw11_HttpRequests.j0 k l1 true a0_0 a0_1 l0_2 l0_3) else (lanternlaw11_HttpRequests.j0 k l1 (decide ((l1.length : Int) > 1000)) a0_0 a0_1 l0_2 l0_3))) else (lanternlaw11_HttpRequests.j0 k l1 true a0_0 a0_1 l0_2 l0_3))
theorem lanternlaw11_HttpRequests.mono_l : ∀ k, (∀ y0 y1 y2 y3 y4 y5, LeO (lanternlaw11_HttpRequests.j0 k y0 y1 y2 y3 y4 y5) (lanternlaw11_HttpRequests.j0 (k + 1) y0 y1 y2 y3 y4 y5))
 | 0 => fun _ _ _ _ _ _ r h => by simp [lanternlaw11_HttpRequests.j0] at h
 | k + 1 => by
  have ih0 := lanternlaw11_HttpRequests.mono_l k
  ·intro y0 y1 y2 y3 y4 y5
   unfold lanternlaw11_HttpRequests.j0
   repeat' first
   | (with_reducible exact ih0 _ _ _ _ _ _)
   | (with_reducible exact http_CheckRequest.mono _ _ _ _ _)
   | (with_reducible exact http_ParseRequest.mono _ _)
   | (with_reducible exact http_PrintRequest.mono _ _ _ _ _)
   | (with_reducible exact lanternlaw11_awake.mono _)
   | (with_reducible exact lanternlaw11_light.mono _ _ _)
   | (with_reducible exact lanternref11_MayRequest.mono _ _ _ _ _)
   | (with_reducible exact lanternref11_Request.mono _ _ _ _ _)
   | (with_reducible exact lanternref11_SameRequest.mono _ _ _ _ _ _ _ _ _)
   | (with_reducible exact lanternref11_With.mono _ _ _)
   | (with_reducible exact LeO.refl _)
   | (with_reducible exact LeO.none _)
   | (with_reducible refine LeO.ite ?_ ?_)
   | (with_reducible refine LeO.bind ?_ (fun _ => ?_))
   | exact ih0 _ _ _ _ _ _
   | exact http_CheckRequest.mono _ _ _ _ _
   | exact http_ParseRequest.mono _ _
   | exact http_PrintRequest.mono _ _ _ _ _
   | exact lanternlaw11_awake.mono _
   | exact lanternlaw11_light.mono _ _ _
   | exact lanternref11_MayRequest.mono _ _ _ _ _
   | exact lanternref11_Request.mono _ _ _ _ _
   | exact lanternref11_SameRequest.mono _ _ _ _ _ _ _ _ _
   | exact lanternref11_With.mono _ _ _
   | exact LeO.none _
   | refine LeO.ite ?_ ?_
   | refine LeO.bind ?_ (fun _ => ?_)
theorem lanternlaw11_HttpRequests.mono : ∀ a0 a1 a2 a3 a4 k, LeO (lanternlaw11_HttpRequests.f k a0 a1 a2 a3 a4) (lanternlaw11_HttpRequests.f (k + 1) a0 a1 a2 a3 a4) := by
 intro a0 a1 a2 a3 a4 k
 have ih0 := lanternlaw11_HttpRequests.mono_l k
 unfold lanternlaw11_HttpRequests.f
 repeat' first
   | (with_reducible exact ih0 _ _ _ _ _ _)
   | (with_reducible exact http_CheckRequest.mono _ _ _ _ _)
   | (with_reducible exact http_ParseRequest.mono _ _)
   | (with_reducible exact http_PrintRequest.mono _ _ _ _ _)
   | (with_reducible exact lanternlaw11_awake.mono _)
   | (with_reducible exact lanternlaw11_light.mono _ _ _)
   | (with_reducible exact lanternref11_MayRequest.mono _ _ _ _ _)
   | (with_reducible exact lanternref11_Request.mono _ _ _ _ _)
   | (with_reducible exact lanternref11_SameRequest.mono _ _ _ _ _ _ _ _ _)
   | (with_reducible exact lanternref11_With.mono _ _ _)
   | (with_reducible exact LeO.refl _)
   | (with_reducible exact LeO.none _)
   | (with_reducible refine LeO.ite ?_ ?_)
   | (with_reducible refine LeO.bind ?_ (fun _ => ?_))
   | exact ih0 _ _ _ _ _ _
   | exact http_CheckRequest.mono _ _ _ _ _
   | exact http_ParseRequest.mono _ _
   | exact http_PrintRequest.mono _ _ _ _ _
   | exact lanternlaw11_awake.mono _
   | exact lanternlaw11_light.mono _ _ _
   | exact lanternref11_MayRequest.mono _ _ _ _ _
   | exact lanternref11_Request.mono _ _ _ _ _
   | exact lanternref11_SameRequest.mono _ _ _ _ _ _ _ _ _
   | exact lanternref11_With.mono _ _ _
   | exact LeO.none _
   | refine LeO.ite ?_ ?_
   | refine LeO.bind ?_ (fun _ => ?_)
end Go.Proofs.YtipleegkonhfcaaGreatDoor.KQ
set_option linter.unusedSimpArgs false
set_option linter.unusedVariables false
set_option maxRecDepth 10000
namespace Go.Proofs.YtipleegkonhfcaaGreatDoor.Q
open Go Go.RowKit Go.Lib Go.Proofs.YtipleegkonhfcaaGreatDoorW.PrintWords Go.Proofs.YtipleegkonhfcaaGreatDoorB Go.Proofs.YtipleegkonhfcaaGreatDoor.E Go.Proofs.YtipleegkonhfcaaGreatDoor.KH Go.Proofs.YtipleegkonhfcaaGreatDoor.KN Go.Proofs.YtipleegkonhfcaaGreatDoor.KA Go.Proofs.YtipleegkonhfcaaGreatDoor.KQ Go.Proofs.YtipleegkonhfcaaGreatDoor.P Go.Proofs.YtipleegkonhfcaaGreatDoor.U Go.Proofs.YtipleegkonhfcaaGreatDoor.KF

/-! ### slices.Concat of three -/
theorem concat_f (x y z : List Int) (h : x.length + y.length + z.length ≤ 1000000) (k : Nat) (hk : 20 < k) : slices_Concat_byte_byte.f k [x, y, z] = some (x ++ y ++ z) := by
  obtain ⟨k, rfl⟩ : ∃ m, k = m + 8 := ⟨k - 8, by omega⟩
  have w0 : wrap64 ((0 : Int) + (x.length : Int)) = ((x.length : Nat) : Int) := wrap_nat x.length (by omega) (by omega)
  have w1 : wrap64 (((x.length : Nat) : Int) + (y.length : Int)) = ((x.length + y.length : Nat) : Int) := wrap_nat _ (by omega) (by omega)
  have w2 : wrap64 (((x.length + y.length : Nat) : Int) + (z.length : Int)) = ((x.length + y.length + z.length : Nat) : Int) := wrap_nat _ (by omega) (by omega)
  have i0 : wrap64 ((0 : Int) + 1) = 1 := wrap_nat 1 rfl (by decide)
  have i1 : wrap64 ((1 : Int) + 1) = 2 := wrap_nat 2 rfl (by decide)
  have i2 : wrap64 ((2 : Int) + 1) = 3 := wrap_nat 3 rfl (by decide)
  have hl3 : (([x, y, z] : List (List Int)).length : Int) = 3 := rfl
  have r0 : rd_L1 [x, y, z] 0 = x := rfl
  have r1 : rd_L1 [x, y, z] 1 = y := rfl
  have r2 : rd_L1 [x, y, z] 2 = z := rfl
  have n0 : ¬ ((x.length : Nat) : Int) < 0 := by omega
  have n1 : ¬ ((x.length + y.length : Nat) : Int) < 0 := by omega
  have n2 : ¬ ((x.length + y.length + z.length : Nat) : Int) < 0 := by omega
  have hg : slices_Grow_byte_byte.f ([] : List Int) ((x.length + y.length + z.length : Nat) : Int) = some [] := by
    unfold slices_Grow_byte_byte.f
    rw [if_pos ⟨rfl, by omega, by omega⟩]
  have c0 : ([] : List Int).length + x.length < 140737488355328 := by rw [List.length_nil]; omega
  have c1 : (([] : List Int) ++ x).length + y.length < 140737488355328 := by rw [List.nil_append]; omega
  have c2 : (([] : List Int) ++ x ++ y).length + z.length < 140737488355328 := by rw [List.nil_append, List.length_append]; omega
  unfold slices_Concat_byte_byte.f
  rw [hl3]
  rw [slices_Concat_byte_byte.l0, if_pos (by decide), if_pos (by decide), hl3, if_pos (by decide), r0, w0, if_neg n0, i0]
  rw [slices_Concat_byte_byte.l0, if_pos (by decide), if_pos (by decide), hl3, if_pos (by decide), r1, w1, if_neg n1, i1]
  rw [slices_Concat_byte_byte.l0, if_pos (by decide), if_pos (by decide), hl3, if_pos (by decide), r2, w2, if_neg n2, i2]
  rw [slices_Concat_byte_byte.l0, if_neg (by decide), hg, Option.bind_some, hl3]
  rw [slices_Concat_byte_byte.l1, if_pos (by decide), if_pos (by decide), hl3, if_pos (by decide), r0, if_pos c0, i0]
  rw [slices_Concat_byte_byte.l1, if_pos (by decide), if_pos (by decide), hl3, if_pos (by decide), r1, if_pos c1, i1]
  rw [slices_Concat_byte_byte.l1, if_pos (by decide), if_pos (by decide), hl3, if_pos (by decide), r2, if_pos c2, i2]
  rw [slices_Concat_byte_byte.l1, if_neg (by decide), List.nil_append]
/-! ### a message put together -/
theorem bytesOf_L (s : ByteArray) : Go.Proofs.YtipleegkonhfcaaGreatDoorW.PrintWords.bytesOf s = nums (L s) := rfl
def msgB (line : List UInt8) (l : List S67) (bs : List UInt8) : List UInt8 := line ++ [13, 10] ++ (headsB l ++ [13, 10]) ++ bs
theorem nums_append (a b : List UInt8) : nums (a ++ b) = nums a ++ nums b := by simp [nums]
theorem heads_le {l : List S67} (hl : lightL l = true) : (headsB l).length ≤ 20100 := by
  have := (light_parts hl).2.1
  rw [headsB_length]
  unfold hsizeL at this
  omega
theorem join_f (s : ByteArray) (hs : s.size ≤ 20000) (l : List S67) (hl : lightL l = true) (hc : checkV l = 0) (bs : List UInt8) (hb : bs.length ≤ 40000) (k : Nat) (hk : 70000 < k) : http_join.f k s l (nums bs) = some (nums (msgB (L s) l bs)) := by
  have hh := heads_le hl
  have hz := size_L s
  unfold http_join.f
  rw [print_f l hl k (by omega) hc, Option.bind_some]
  rw [if_pos (by omega), bytesOf_L, L_append, show L (⟨#[13, 10]⟩ : ByteArray) = [13, 10] from rfl]
  rw [concat_f _ _ _ (by rw [nums_length, nums_length, nums_length, List.length_append, List.length_append]; simp only [List.length_cons, List.length_nil]; omega) k (by omega)]
  unfold msgB
  rw [nums_append (L s ++ [13, 10] ++ (headsB l ++ [13, 10])), nums_append (L s ++ [13, 10])]
theorem rjoin_f (s : ByteArray) (hs : s.size ≤ 20000) (l : List S67) (hl : lightL l = true) (bs : List UInt8) (hb : bs.length ≤ 40000) (k : Nat) (hk : 70000 < k) : lanternref11_join.f k s l (nums bs) = some (nums (msgB (L s) l bs)) := by
  have hh := heads_le hl
  have hp := (light_parts hl).1
  have hp1 : lanternref09_Print.f k l = some (nums (headsB l ++ [13, 10])) := by
    have := ref_print_loop l hl l.length k 0 [] (by omega) (by omega) (by rw [List.drop_zero, List.length_nil]; omega)
    rw [List.drop_zero, List.nil_append] at this
    unfold lanternref09_Print.f
    exact this
  unfold lanternref11_join.f
  rw [hp1, Option.bind_some, if_pos (by rw [nums_length, nums_length, List.length_append]; simp only [List.length_cons, List.length_nil]; omega), bytesOf_L]
  unfold msgB
  rw [nums_append (L s ++ [13, 10] ++ (headsB l ++ [13, 10])), nums_append (L s ++ [13, 10]), nums_append (L s) [13, 10]]
  rfl
def lineL (m t : ByteArray) : List UInt8 := L m ++ 32 :: (L t ++ 32 :: versionL)
def reqB (m t : ByteArray) (l : List S67) (bs : List UInt8) : List UInt8 := msgB (lineL m t) (withH l bs.length) bs
theorem size_app (a b : ByteArray) : (a ++ b).size = a.size + b.size := ByteArray.size_append
theorem may_fits {m t : ByteArray} {l : List S67} {n : Nat} (h : mayR m t l n = true) : tokenL (L m) = true ∧ targetL (L t) = true ∧ allV clB l = [] ∧ allV teB l = [] ∧ n ≤ 32768 ∧ checkV (withH l n) = 0 := by
  unfold mayR fitsM at h
  rw [Bool.and_eq_true, Bool.and_eq_true, Bool.and_eq_true, decide_eq_true_eq, decide_eq_true_eq] at h
  exact ⟨h.1, h.2.1, h.2.2.1.1, h.2.2.1.2.1, h.2.2.1.2.2, h.2.2.2⟩
end Go.Proofs.YtipleegkonhfcaaGreatDoor.Q
set_option linter.unusedSimpArgs false
set_option linter.unusedVariables false
set_option maxRecDepth 10000
namespace Go.Proofs.YtipleegkonhfcaaGreatDoor.Q
open Go Go.RowKit Go.Lib Go.Proofs.YtipleegkonhfcaaGreatDoorW.PrintWords Go.Proofs.YtipleegkonhfcaaGreatDoorB Go.Proofs.YtipleegkonhfcaaGreatDoor.E Go.Proofs.YtipleegkonhfcaaGreatDoor.KH Go.Proofs.YtipleegkonhfcaaGreatDoor.KN Go.Proofs.YtipleegkonhfcaaGreatDoor.KA Go.Proofs.YtipleegkonhfcaaGreatDoor.KQ Go.Proofs.YtipleegkonhfcaaGreatDoor.P Go.Proofs.YtipleegkonhfcaaGreatDoor.U Go.Proofs.YtipleegkonhfcaaGreatDoor.KF

theorem sign_no (c : UInt8) (h : signL.contains c = true) : c ≠ 32 ∧ c ≠ 10 := by
  have : ∀ n : Fin 256, signL.contains (UInt8.ofNat n.val) = true → UInt8.ofNat n.val ≠ 32 ∧ UInt8.ofNat n.val ≠ 10 := by decide +kernel
  exact u8_all (p := fun c => signL.contains c = true → c ≠ 32 ∧ c ≠ 10) this c h
theorem inR_no (c : UInt8) (h : inR 33 126 c = true) : c ≠ 32 ∧ c ≠ 10 := by
  unfold inR at h
  rw [Bool.and_eq_true] at h
  have h1 := of_decide_eq_true h.1
  refine ⟨?_, ?_⟩ <;> · rintro rfl; revert h1; decide
theorem token_no {l : List UInt8} (h : tokenL l = true) : ∀ c ∈ l, c ≠ 32 ∧ c ≠ 10 := by
  unfold tokenL at h
  rw [Bool.and_eq_true] at h
  exact fun c hc => sign_no c (List.all_eq_true.1 h.2 c hc)
theorem target_no {l : List UInt8} (h : targetL l = true) : ∀ c ∈ l, c ≠ 32 ∧ c ≠ 10 := by
  unfold targetL at h
  rw [Bool.and_eq_true] at h
  exact fun c hc => inR_no c (List.all_eq_true.1 h.2 c hc)
theorem version_no : ∀ c ∈ versionL, c ≠ 32 ∧ c ≠ 10 := by decide
theorem line_parts {m t : ByteArray} (h1 : tokenL (L m) = true) (h2 : targetL (L t) = true) : splitS 32 (lineL m t) = [L m, L t, versionL] := by
  unfold lineL
  rw [splitS_hit 32 _ _ (fun b hb => (token_no h1 b hb).1), splitS_hit 32 _ _ (fun b hb => (target_no h2 b hb).1), splitS_miss 32 _ (fun b hb => (version_no b hb).1)]
theorem line_ten {m t : ByteArray} (h1 : tokenL (L m) = true) (h2 : targetL (L t) = true) : ∀ b ∈ lineL m t ++ [13], b ≠ 10 := by
  intro b hb
  unfold lineL at hb
  rcases List.mem_append.1 hb with hb | hb
  · rcases List.mem_append.1 hb with hb | hb
    · exact (token_no h1 b hb).2
    · rcases List.mem_cons.1 hb with rfl | hb
      · decide
      · rcases List.mem_append.1 hb with hb | hb
        · exact (target_no h2 b hb).2
        · rcases List.mem_cons.1 hb with rfl | hb
          · decide
          · exact (version_no b hb).2
  · rw [List.mem_singleton.1 hb]
    decide
theorem line_len (m t : ByteArray) : (lineL m t).length = m.size + t.size + 10 := by
  unfold lineL
  rw [List.length_append, List.length_cons, List.length_append, List.length_cons, ← size_L, ← size_L, show versionL.length = 8 from rfl]
  omega
/-- The first line of what begins so. -/
theorem firstM_line (u rest : List UInt8) (hu : ∀ b ∈ u ++ [13], b ≠ 10) : firstM ((u ++ [13]) ++ 10 :: rest) = if u.length + 1 < 4096 then (B u, ((u.length + 2 : Nat) : Int), 0) else ((⟨#[]⟩ : ByteArray), 0, 3) := by
  have hl : (u ++ [13]).length = u.length + 1 := by simp
  unfold firstM
  by_cases h : u.length + 1 < 4096
  · have ht : ((u ++ [13]) ++ 10 :: rest).take 4096 = (u ++ [13]) ++ 10 :: rest.take (4096 - (u.length + 1) - 1) := by
      rw [List.take_append, List.take_of_length_le (by rw [hl]; omega), hl]
      obtain ⟨q, hq⟩ : ∃ q, 4096 - (u.length + 1) = q + 1 := ⟨4096 - (u.length + 1) - 1, by omega⟩
      rw [hq, List.take_succ_cons, Nat.add_sub_cancel]
    rw [ht, splitC_of 10 _ _ hu, if_pos h]
    simp only
    rw [chomp_line, hl]
  · have ht : ((u ++ [13]) ++ 10 :: rest).take 4096 = (u ++ [13]).take 4096 := by
      rw [List.take_append_of_le_length (by rw [hl]; omega)]
    rw [ht, splitC_none_of 10 _ (fun b hb => hu b (List.mem_of_mem_take hb)), if_neg h]
    simp only
    rw [if_pos (by rw [List.length_append, hl, List.length_cons]; omega)]
theorem allV_snoc (nm : ByteArray) (l : List S67) (h : S67) : allV nm (l ++ [h]) = allV nm l ++ (if sameB h.f0 nm = true then [h.f1] else []) := by
  unfold allV
  rw [List.filter_append, List.map_append, List.filter_cons]
  split <;> rfl
theorem body_back (l : List S67) (bs more : List UInt8) (h1 : allV clB l = []) (h2 : allV teB l = []) (hn : bs.length ≤ 32768) : bodyM (bs ++ more) (allV teB (withH l bs.length)) (allV clB (withH l bs.length)) false = (nums bs, (bs.length : Int), 0) := by
  have hte : sameB clN teB = false := by kernel_rfl
  have hcl : sameB clN clB = true := by kernel_rfl
  unfold withH bodyM
  by_cases h0 : bs.length = 0
  · have hb : bs = [] := List.eq_nil_of_length_eq_zero h0
    rw [if_pos h0, h1, h2, hb]
    rfl
  · rw [if_neg h0, allV_snoc, allV_snoc, h1, h2]
    have e1 : sameB (clH bs.length).f0 teB = false := hte
    have e2 : sameB (clH bs.length).f0 clB = true := hcl
    rw [e1, e2, if_neg (by decide), if_pos rfl, List.append_nil, List.nil_append]
    obtain ⟨d1, d2, d3, d4⟩ := dec_facts 7 bs.length (by omega)
    have hL : L (clH bs.length).f1 = Lib.decDigits bs.length := L_B _
    have hz : (clH bs.length).f1.size = (Lib.decDigits bs.length).length := size_B _
    have hok : [(clH bs.length).f1].all (okY (clH bs.length).f1) = true := by
      rw [List.all_cons, List.all_nil, Bool.and_true]
      unfold okY
      rw [hL, hz, beq_self_eq_true, decide_eq_true d3, decide_eq_true d4, d1]
      rfl
    unfold kindM
    simp only [hok, if_true]
    rw [hL, d2, if_neg (by decide), if_neg (by decide), if_neg (by rintro ⟨h, _⟩; exact absurd h (by decide)), Int.toNat_natCast]
    unfold sizedM
    rw [if_neg (by omega), if_neg (by rw [List.length_append]; omega), List.take_left]
theorem partsM_three (bs : List UInt8) (n : Nat) (a b c : List UInt8) : partsM bs n [a, b, c] = if tokenL a = true ∧ targetL b = true ∧ c = versionL then restM bs n (B a) (B b) else none6 5 := rfl
theorem round (m t : ByteArray) (l : List S67) (bs more : List UInt8) (hm : m.size ≤ 5000) (ht : t.size ≤ 5000) (hb : bs.length ≤ 40000) (h : mayR m t l bs.length = true) :
    reqM (reqB m t l bs ++ more) = if 4084 < m.size + t.size then none6 3 else (m, t, withH l bs.length, nums bs, ((reqB m t l bs).length : Int), 0) := by
  obtain ⟨f1, f2, f3, f4, f5, f6⟩ := may_fits h
  obtain ⟨g1, g2, g3⟩ := check_zero f6
  have hlen := line_len m t
  obtain ⟨l', hl'⟩ : ∃ l', l' = withH l bs.length := ⟨_, rfl⟩
  have hbk := body_back l bs more f3 f4 f5
  rw [← hl'] at g1 g2 g3 f6 hbk ⊢
  have hsz : (headsB l' ++ [13, 10]).length ≤ 8192 := by
    rw [List.length_append, headsB_length]
    unfold hsizeL at g3
    simp only [List.length_cons, List.length_nil]
    omega
  obtain ⟨rest, hrest⟩ : ∃ rest, rest = headsB l' ++ [13, 10] ++ (bs ++ more) := ⟨_, rfl⟩
  have hall : reqB m t l bs ++ more = (lineL m t ++ [13]) ++ 10 :: rest := by
    unfold reqB msgB
    rw [← hl', hrest]
    simp only [List.append_assoc, List.cons_append, List.nil_append]
  have hrl : (reqB m t l bs).length = (lineL m t).length + 2 + (headsB l' ++ [13, 10]).length + bs.length := by
    unfold reqB msgB
    rw [← hl', List.length_append, List.length_append, List.length_append]
    rfl
  unfold reqM
  rw [hall, firstM_line _ _ (line_ten f1 f2), hlen, hrl]
  by_cases hbig : 4084 < m.size + t.size
  · rw [if_neg (show ¬ (m.size + t.size + 10 + 1 < 4096) by omega), if_pos hbig]
    rfl
  · rw [if_pos (show m.size + t.size + 10 + 1 < 4096 by omega), if_neg hbig]
    simp only [if_true]
    rw [L_B, line_parts f1 f2, Int.toNat_natCast]
    rw [partsM_three, if_pos ⟨f1, f2, rfl⟩, B_L, B_L]
    have hdrop : ((lineL m t ++ [13]) ++ 10 :: rest).drop (m.size + t.size + 10 + 2) = rest := by
      have e : (lineL m t ++ [13] ++ [10]).length = m.size + t.size + 10 + 2 := by
        rw [List.length_append, List.length_append, hlen]
        rfl
      rw [show (lineL m t ++ [13]) ++ 10 :: rest = (lineL m t ++ [13] ++ [10]) ++ rest from by simp, ← e, List.drop_left]
    have hdrop2 : ((lineL m t ++ [13]) ++ 10 :: rest).drop (m.size + t.size + 10 + 2 + (headsB l' ++ [13, 10]).length) = bs ++ more := by
      rw [← List.drop_drop, hdrop, hrest, List.drop_left]
    have hfp := full_parse l' g1 g2 hsz (bs ++ more) l'.length (rest.length + 1) 0 (by omega) (by rw [hrest, List.take_zero]; show _ < 0 + _; omega)
    rw [List.take_zero, show (headsB ([] : List S67)).length = 0 from rfl, ← hrest] at hfp
    unfold restM
    rw [hdrop, hfp]
    simp only [if_true]
    rw [Int.toNat_natCast, hdrop2, hbk]
    simp only [if_true]
    rw [wrap_nat (m.size + t.size + 10 + 2 + (headsB l' ++ [13, 10]).length + bs.length) (by omega) (by omega), hlen]
theorem awake_K (k : Nat) (hk : 12000 < k) : lanternlaw11_awake.f k = some true := awake_f k hk
end Go.Proofs.YtipleegkonhfcaaGreatDoor.Q
