/- Headers read: the program's reader and the reference's are one plain function; the law HeaderParses. -/
import Derived.Test.YtfjfpgihgaiacaaDoorH01
set_option linter.unusedSimpArgs false
set_option linter.unusedVariables false
namespace Go.Proofs.YtfjfpgihgaiacaaDoor.Q
open Go Go.RowKit Go.Lib Go.Proofs.YtfjfpgihgaiacaaDoorW.PrintWords Go.Proofs.YtfjfpgihgaiacaaDoorB Go.Proofs.YtfjfpgihgaiacaaDoor.E Go.Proofs.YtfjfpgihgaiacaaDoor.P

/-! ### cut at a byte -/
def splitC (c : UInt8) : List UInt8 → Option (List UInt8 × List UInt8)
  | [] => none
  | b :: t => if b = c then some ([], t) else (splitC c t).map fun x => (b :: x.1, x.2)
theorem splitC_some (c : UInt8) : ∀ (l u t : List UInt8), splitC c l = some (u, t) → l = u ++ c :: t ∧ ∀ b ∈ u, b ≠ c
  | [], u, t, h => by simp [splitC] at h
  | b :: l, u, t, h => by
    rw [splitC] at h
    split at h
    · next hb =>
      simp only [Option.some.injEq, Prod.mk.injEq] at h
      obtain ⟨rfl, rfl⟩ := h
      subst hb
      simp
    · next hb =>
      obtain ⟨⟨u', t'⟩, h1, h2⟩ := Option.map_eq_some_iff.1 h
      simp only [Prod.mk.injEq] at h2
      obtain ⟨rfl, rfl⟩ := h2
      obtain ⟨e, g⟩ := splitC_some c l u' t' h1
      refine ⟨by rw [e]; rfl, fun d hd => ?_⟩
      rcases List.mem_cons.1 hd with rfl | hd
      · exact hb
      · exact g d hd
theorem splitC_none (c : UInt8) : ∀ (l : List UInt8), splitC c l = none → ∀ b ∈ l, b ≠ c
  | [], _, b, hb => by simp at hb
  | d :: l, h, b, hb => by
    rw [splitC] at h
    split at h
    · cases h
    · next hd =>
      have h' : splitC c l = none := by
        cases hs : splitC c l with
        | none => rfl
        | some x => rw [hs] at h; cases h
      rcases List.mem_cons.1 hb with rfl | hb
      · exact hd
      · exact splitC_none c l h' b hb
theorem indexByte_split (c : UInt8) : ∀ l : List UInt8, Lib.indexByte l c = match splitC c l with | some x => (x.1.length : Int) | none => -1
  | [] => rfl
  | b :: l => by
    have ih := indexByte_split c l
    rw [Lib.indexByte, splitC]
    by_cases h : b = c
    · rw [if_pos (by simpa using h), if_pos h]; rfl
    · rw [if_neg (by simpa using h), if_neg h, ih]
      cases hs : splitC c l with
      | none => rfl
      | some x =>
        simp only [Option.map_some, beq_iff_eq]
        rw [if_neg (by omega), List.length_cons]
        show ((x.1.length : Nat) : Int) + 1 = ((x.1.length + 1 : Nat) : Int)
        omega
theorem index_split (c : UInt8) : ∀ l : List UInt8, Lib.index l [c] = match splitC c l with | some x => (x.1.length : Int) | none => -1
  | [] => rfl
  | b :: l => by
    have ih := index_split c l
    rw [Lib.index, splitC]
    have e : ([c] : List UInt8).isPrefixOf (b :: l) = (c == b) := by simp [List.isPrefixOf]
    rw [e]
    by_cases h : b = c
    · rw [if_pos (by simpa using h.symm), if_pos h]; rfl
    · rw [if_neg (by simpa using fun q => h q.symm), if_neg h, ih]
      cases hs : splitC c l with
      | none => rfl
      | some x =>
        simp only [Option.map_some, beq_iff_eq]
        rw [if_neg (by omega), List.length_cons]
        show ((x.1.length : Nat) : Int) + 1 = ((x.1.length + 1 : Nat) : Int)
        omega
theorem cut_split (c : UInt8) (l : List UInt8) : Lib.cut l [c] = match splitC c l with | some x => (x.1, x.2, true) | none => (l, [], false) := by
  unfold Lib.cut
  rw [index_split]
  cases hs : splitC c l with
  | none => rfl
  | some x =>
    obtain ⟨u, t⟩ := x
    obtain ⟨e, _⟩ := splitC_some c l u t hs
    simp only
    rw [if_pos (by omega), e]
    simp

/-! ### a line -/
def chomp (u : List UInt8) : List UInt8 := Lib.trimSuffix u [13]
theorem chomp_eq (u : List UInt8) : chomp u = if u ≠ [] ∧ u.getD (u.length - 1) 0 = 13 then u.take (u.length - 1) else u := by
  unfold chomp Lib.trimSuffix Lib.hasSuffix
  have e : ([13] : List UInt8).isSuffixOf u = true ↔ (u ≠ [] ∧ u.getD (u.length - 1) 0 = 13) := by
    rw [List.isSuffixOf_iff_suffix]
    constructor
    · rintro ⟨t, rfl⟩
      simp
    · rintro ⟨h1, h2⟩
      refine ⟨u.dropLast, ?_⟩
      have hl : u.length - 1 < u.length := by have := List.length_pos_iff.2 h1; omega
      have e2 : u.getLast h1 = 13 := by
        rw [List.getLast_eq_getElem]
        rw [List.getD_eq_getElem?_getD, List.getElem?_eq_getElem hl] at h2
        exact h2
      rw [← e2]
      exact List.dropLast_concat_getLast h1
  by_cases h : ([13] : List UInt8).isSuffixOf u = true
  · rw [if_pos h, if_pos (e.1 h)]; rfl
  · rw [if_neg h, if_neg (fun q => h (e.2 q))]
theorem chomp_length (u : List UInt8) : (chomp u).length ≤ u.length := by
  rw [chomp_eq]
  split
  · rw [List.length_take]; omega
  · exact Nat.le_refl _
def headL (l : List UInt8) : Option S39 :=
  match splitC 58 l with
  | none => none
  | some x => if mayL x.1 (Lib.trimS x.2 blL) = true then some ⟨B x.1, B (Lib.trimS x.2 blL)⟩ else none
theorem trimS_length (l cs : List UInt8) : (Lib.trimS l cs).length ≤ l.length := by
  have h1 : (Lib.trimS l cs).length ≤ (Lib.trimRightS l cs).length := (List.dropWhile_suffix _).length_le
  have h2 : (Lib.trimRightS l cs).length ≤ l.length := by
    unfold Lib.trimRightS
    rw [List.length_reverse]
    have := (List.dropWhile_suffix (l := l.reverse) (cs.contains ·)).length_le
    rw [List.length_reverse] at this
    exact this
  omega

/-! ### the whole -/
def parseM (bs : List UInt8) : Nat → Nat → List S39 → List S39 × Int × Int
  | 0, _, _ => ([], 0, 0)
  | f + 1, p, acc =>
    match splitC 10 (bs.drop p) with
    | none => if bs.length ≤ 8192 then ([], 0, 10) else ([], 0, 3)
    | some x =>
      if p + x.1.length + 1 > 8192 then ([], 0, 3)
      else if chomp x.1 = [] then (acc, ((p + x.1.length + 1 : Nat) : Int), 0)
      else match headL (chomp x.1) with
        | none => ([], 0, 5)
        | some h => if acc.length ≥ 64 then ([], 0, 3) else parseM bs f (p + x.1.length + 1) (acc ++ [h])
theorem take_drop_of (l u t : List UInt8) (p : Nat) (h : l.drop p = u ++ t) (hp : p ≤ l.length) : (l.take (p + u.length)).drop p = u := by
  rw [List.drop_take]
  rw [h]
  simp
theorem prog_parse (bs : List UInt8) (hb : bs.length ≤ 1000000) : ∀ (f k p : Nat) (acc : List S39), p ≤ bs.length → bs.length < p + f → 3 * f + bs.length + 100 < k → acc.length ≤ 64 →
    header_Parse.l0 k (nums bs) acc p = some (parseM bs f p acc)
  | 0, k, p, acc, hp, hf, hk, ha => by omega
  | f + 1, k, p, acc, hp, hf, hk, ha => by
    obtain ⟨k, rfl⟩ : ∃ m, k = m + 1 + 1 + 1 := ⟨k - 3, by omega⟩
    have hnl := nums_length bs
    have c1 : 0 ≤ (p : Int) := by omega
    have c2 : (p : Int) ≤ ((nums bs).length : Int) := by omega
    rw [header_Parse.l0, if_pos c1, if_pos c2, Int.toNat_natCast, nums_drop]
    unfold bytes_IndexByte.f
    rw [bytesOf_nums]
    have e10 : (10 : Int).toNat.toUInt8 = 10 := rfl
    rw [e10, indexByte_split, parseM]
    simp only [Option.bind_some]
    cases hs : splitC 10 (bs.drop p) with
    | none =>
      simp only
      rw [if_pos (by omega), header_Parse.j1]
      by_cases h : bs.length ≤ 8192
      · rw [if_pos (by rw [hnl]; exact decide_eq_true (by omega)), if_pos h]
      · rw [if_neg (by rw [hnl]; simp; omega), if_pos (by omega), if_neg h]
    | some x =>
      obtain ⟨u, t⟩ := x
      simp only
      obtain ⟨e, hu⟩ := splitC_some 10 _ _ _ hs
      have hlen : p + u.length + 1 + t.length = bs.length := by
        have := congrArg List.length e
        rw [List.length_drop, List.length_append, List.length_cons] at this
        omega
      have hneg : ¬ ((u.length : Int) < 0) := by omega
      have n1 : p + u.length ≤ 9223372036854775807 := by omega
      have n2 : p + u.length + 1 ≤ 9223372036854775807 := by omega
      have n3 : u.length + 1 ≤ 9223372036854775807 := by omega
      have n4 : (p : Int) + ((u.length + 1 : Nat) : Int) = ((p + u.length + 1 : Nat) : Int) := by omega
      have w1 : wrap64 ((p : Int) + (u.length : Int)) = ((p + u.length : Nat) : Int) := wrap_nat (p + u.length) rfl n1
      have w2 : wrap64 (((p + u.length : Nat) : Int) + 1) = ((p + u.length + 1 : Nat) : Int) := wrap_nat (p + u.length + 1) rfl n2
      have w3 : wrap64 ((u.length : Int) + 1) = ((u.length + 1 : Nat) : Int) := wrap_nat (u.length + 1) rfl n3
      have w4 : wrap64 ((p : Int) + ((u.length + 1 : Nat) : Int)) = ((p + u.length + 1 : Nat) : Int) := wrap_nat (p + u.length + 1) n4 n2
      rw [if_neg hneg, header_Parse.j1, if_neg (by simp), if_neg hneg, w1, w2, w3, w4]
      clear w1 w2 w3 w4
      by_cases h1 : p + u.length + 1 > 8192
      · rw [if_pos (by omega), if_pos h1]
      · have hcl := chomp_length u
        have c3 : ((p + u.length : Nat) : Int) ≤ ((nums bs).length : Int) := by omega
        rw [if_neg (by omega), if_neg h1, if_pos c1, if_pos (by omega), if_pos c3, Int.toNat_natCast, Int.toNat_natCast, nums_take, nums_drop, strOf_nums, take_drop_of bs u (10 :: t) p e hp]
        unfold strings_TrimSuffix.f
        rw [if_pos (by rw [size_B]; omega)]
        simp only [Option.bind_some]
        rw [show (⟨(Lib.trimSuffix (B u).data.toList [13]).toArray⟩ : ByteArray) = B (chomp u) from by rw [show (B u).data.toList = u from L_B u]; rfl]
        rw [toList_L, L_B]
        by_cases h2 : chomp u = []
        · rw [if_pos h2, if_pos h2]
        · rw [if_neg h2, if_neg h2]
          unfold strings_Cut.f cutOf
          rw [if_pos (by rw [size_B]; omega)]
          simp only [Option.bind_some]
          rw [show (B (chomp u)).data.toList = chomp u from L_B _, cut_split]
          unfold headL
          cases hc : splitC 58 (chomp u) with
          | none =>
            simp only
            unfold strings_Trim.f
            rw [if_pos ⟨by decide, by decide, by decide⟩]
            simp only [Option.bind_some]
            rw [if_neg (by simp), header_Parse.j2, if_pos rfl]
          | some y =>
            obtain ⟨a, r⟩ := y
            obtain ⟨e2, _⟩ := splitC_some 58 _ _ _ hc
            have hl2 : a.length + (r.length + 1) = (chomp u).length := by rw [e2]; simp
            simp only
            unfold strings_Trim.f
            rw [if_pos ⟨by show (B r).size ≤ _; rw [size_B]; omega, by decide, by decide⟩]
            simp only [Option.bind_some, if_true]
            have ht := trimS_length r blL
            rw [show (⟨a.toArray⟩ : ByteArray) = B a from rfl, show (⟨(Lib.trimS r [32, 9]).toArray⟩ : ByteArray) = B (Lib.trimS r blL) from rfl]
            rw [may_f (B a) (B (Lib.trimS r blL)) (by rw [size_B]; omega) (by rw [size_B]; omega) _ (by rw [size_B]; omega), L_B, L_B]
            simp only [Option.bind_some]
            cases hm : mayL a (Lib.trimS r blL) with
            | false => rw [header_Parse.j2, if_pos (by rfl), if_neg (by simp)]
            | true =>
              rw [header_Parse.j2, if_neg (by simp), if_pos rfl]
              simp only
              by_cases h3 : acc.length ≥ 64
              · rw [if_pos (by omega), if_pos h3]
              · rw [if_neg (by omega), if_neg h3, if_pos (by omega)]
                exact prog_parse bs hb f k (p + u.length + 1) _ (by omega) (by omega) (by omega) (by rw [List.length_append, List.length_singleton]; omega)

/-! ### the reference's line -/
theorem one_right (s : ByteArray) (hs : s.size ≤ 1000000) (q a : Nat) (hq : q ≤ s.size) : ∀ (d k b : Nat), a ≤ b → b ≤ s.size → b - a = d → d + 2 * s.size + 40 < k →
    ∃ b' : Nat, a ≤ b' ∧ b' ≤ b ∧ (∀ j, b' ≤ j → j < b → blL.contains ((L s).getD j 0) = true) ∧ (a < b' → blL.contains ((L s).getD (b' - 1) 0) = false) ∧
      lanternref09_one.l2 k s q a b = some (s.extract 0 q, s.extract a b', mayL (L (s.extract 0 q)) (L (s.extract a b')))
  | d, k, b, h1, h2, h3, h4 => by
    obtain ⟨k, rfl⟩ : ∃ m, k = m + 1 := ⟨k - 1, by omega⟩
    have hz : ∀ x y : Nat, (s.extract x y).size ≤ s.size := fun x y => by rw [size_L, L_extract, List.length_drop, List.length_take, size_L]; omega
    have hmay : ∀ b' : Nat, lanternref09_May.f k (s.extract 0 q) (s.extract a b') = some (mayL (L (s.extract 0 q)) (L (s.extract a b'))) := fun b' => by
      have z1 := hz 0 q
      have z2 := hz a b'
      exact ref_may _ _ (by omega) (by omega) k (by omega)
    rw [lanternref09_one.l2]
    by_cases h : b > a
    · obtain ⟨d, rfl⟩ : ∃ m, d = m + 1 := ⟨d - 1, by omega⟩
      rw [if_pos (by omega), wrap_nat (x := (b : Int) - 1) (b - 1) (by omega) (by omega), if_pos (by omega), if_pos (by omega), bt_L, Int.toNat_natCast, blank_f]
      simp only [Option.bind_some]
      cases hw : blL.contains ((L s).getD (b - 1) 0) with
      | true =>
        obtain ⟨b', g1, g2, g3, g4, g5⟩ := one_right s hs q a hq d k (b - 1) (by omega) (by omega) (by omega) (by omega)
        refine ⟨b', g1, by omega, fun j hj hj2 => ?_, g4, ?_⟩
        · by_cases hjb : j = b - 1
          · rw [hjb]; exact hw
          · exact g3 j hj (by omega)
        · rw [if_pos rfl]; exact g5
      | false =>
        refine ⟨b, h1, Nat.le_refl _, fun j hj hj2 => by omega, fun _ => hw, ?_⟩
        rw [if_neg (by simp), if_pos (by omega), if_pos (by omega), if_pos (by omega), if_pos (by omega), if_pos (by omega), Int.toNat_natCast, Int.toNat_natCast, Int.toNat_natCast, hmay b]
        rfl
    · refine ⟨b, h1, Nat.le_refl _, fun j hj hj2 => by omega, fun h => by omega, ?_⟩
      rw [if_neg (by omega), if_pos (by omega), if_pos (by omega), if_pos (by omega), if_pos (by omega), if_pos (by omega), Int.toNat_natCast, Int.toNat_natCast, Int.toNat_natCast, hmay b]
      rfl
theorem one_left (s : ByteArray) (hs : s.size ≤ 1000000) (q : Nat) (hq : q ≤ s.size) : ∀ (d k a : Nat), a ≤ s.size → s.size - a = d → d + 3 * s.size + 50 < k →
    ∃ a' b' : Nat, a ≤ a' ∧ a' ≤ b' ∧ b' ≤ s.size ∧ (∀ j, a ≤ j → j < a' → blL.contains ((L s).getD j 0) = true) ∧ (a' < s.size → blL.contains ((L s).getD a' 0) = false) ∧
      (∀ j, b' ≤ j → j < s.size → blL.contains ((L s).getD j 0) = true) ∧ (a' < b' → blL.contains ((L s).getD (b' - 1) 0) = false) ∧
      lanternref09_one.l1 k s q a s.size = some (s.extract 0 q, s.extract a' b', mayL (L (s.extract 0 q)) (L (s.extract a' b')))
  | d, k, a, h1, h2, h3 => by
    obtain ⟨k, rfl⟩ : ∃ m, k = m + 1 + 1 := ⟨k - 2, by omega⟩
    rw [lanternref09_one.l1]
    have out : ∀ (_ : a < s.size → blL.contains ((L s).getD a 0) = false), ∃ a' b' : Nat, a ≤ a' ∧ a' ≤ b' ∧ b' ≤ s.size ∧ (∀ j, a ≤ j → j < a' → blL.contains ((L s).getD j 0) = true) ∧ (a' < s.size → blL.contains ((L s).getD a' 0) = false) ∧
      (∀ j, b' ≤ j → j < s.size → blL.contains ((L s).getD j 0) = true) ∧ (a' < b' → blL.contains ((L s).getD (b' - 1) 0) = false) ∧
      lanternref09_one.j3 (k + 1) s q a s.size = some (s.extract 0 q, s.extract a' b', mayL (L (s.extract 0 q)) (L (s.extract a' b'))) := fun hw => by
      obtain ⟨b', g1, g2, g3, g4, g5⟩ := one_right s hs q a hq (s.size - a) k s.size h1 (Nat.le_refl _) rfl (by omega)
      exact ⟨a, b', Nat.le_refl _, g1, g2, fun j hj hj2 => by omega, hw, g3, g4, by rw [lanternref09_one.j3]; exact g5⟩
    by_cases h : a < s.size
    · obtain ⟨d, rfl⟩ : ∃ m, d = m + 1 := ⟨d - 1, by omega⟩
      rw [if_pos (by omega), if_pos (by omega), if_pos (by omega), bt_L, Int.toNat_natCast, blank_f]
      simp only [Option.bind_some]
      cases hw : blL.contains ((L s).getD a 0) with
      | true =>
        obtain ⟨a', b', g1, g2, g3, g4, g5, g6, g7, g8⟩ := one_left s hs q hq d (k + 1) (a + 1) (by omega) (by omega) (by omega)
        refine ⟨a', b', by omega, g2, g3, fun j hj hj2 => ?_, g5, g6, g7, ?_⟩
        · by_cases hja : j = a
          · rw [hja]; exact hw
          · exact g4 j (by omega) hj2
        · rw [if_pos rfl, wrap_nat (x := (a : Int) + 1) (a + 1) rfl (by omega)]
          exact g8
      | false =>
        rw [if_neg (by simp)]
        exact out (fun _ => hw)
    · rw [if_neg (by omega)]
      exact out (fun h' => absurd h' h)
theorem one_colon (s : ByteArray) (hs : s.size ≤ 1000000) : ∀ (d k i : Nat) , i + d = s.size → d + 5 * s.size + 100 < k →
    lanternref09_one.l0 k s i = some (match splitC 58 ((L s).drop i) with
      | none => (⟨#[]⟩, ⟨#[]⟩, false)
      | some x => (B ((L s).take i ++ x.1), B (Lib.trimS x.2 blL), mayL ((L s).take i ++ x.1) (Lib.trimS x.2 blL)))
  | d, k, i, hd, hk => by
    have hl : (L s).length = s.size := (size_L s).symm
    obtain ⟨k, rfl⟩ : ∃ m, k = m + 1 := ⟨k - 1, by omega⟩
    rw [lanternref09_one.l0]
    by_cases h : i < s.size
    · obtain ⟨d, rfl⟩ : ∃ m, d = m + 1 := ⟨d - 1, by omega⟩
      rw [if_pos (by omega), if_pos (by omega), bt_L, Int.toNat_natCast, dropD _ i (by omega), splitC]
      by_cases hc : (L s).getD i 0 = 58
      · rw [if_pos (by rw [hc]; rfl), if_pos hc]
        obtain ⟨k, rfl⟩ : ∃ m, k = m + 1 := ⟨k - 1, by omega⟩
        rw [lanternref09_one.j1, if_neg (by omega), wrap_nat (x := (i : Int) + 1) (i + 1) rfl (by omega)]
        obtain ⟨a', b', g1, g2, g3, g4, g5, g6, g7, g8⟩ := one_left s hs i (by omega) (s.size - (i + 1)) k (i + 1) (by omega) rfl (by omega)
        rw [g8]
        have e1 : s.extract 0 i = B ((L s).take i) := by
          apply L_inj
          rw [L_extract, L_B, List.drop_zero]
        have gd : ∀ j, ((L s).drop (i + 1)).getD j 0 = (L s).getD (i + 1 + j) 0 := fun j => by simp [List.getD_eq_getElem?_getD, List.getElem?_drop]
        have hlr : ((L s).drop (i + 1)).length = s.size - (i + 1) := by rw [List.length_drop, hl]
        have tr : Lib.trimS ((L s).drop (i + 1)) blL = ((((L s).drop (i + 1)).take (b' - (i + 1))).drop (a' - (i + 1))) := by
          refine trimS_range blL _ (a' - (i + 1)) (b' - (i + 1)) (by omega) (by rw [hlr]; omega) (fun j hj => ?_) (fun j hj hj2 => ?_) (fun hj => ?_) (fun hj => ?_) (fun hj => ?_)
          · rw [gd]; exact g4 _ (by omega) (by omega)
          · rw [gd]; rw [hlr] at hj2; exact g6 _ (by omega) (by omega)
          · rw [gd, show i + 1 + (a' - (i + 1)) = a' from by omega]; exact g5 (by omega)
          · rw [gd, show i + 1 + (b' - (i + 1) - 1) = b' - 1 from by omega]; exact g7 (by omega)
          · rw [hlr]
            by_cases hb : b' = s.size
            · left; omega
            · right
              have x1 := g6 b' (Nat.le_refl _) (by omega)
              have x2 := g5 (by omega)
              have : a' = b' := by omega
              rw [this] at x2
              rw [x1] at x2
              cases x2
        have e2 : s.extract a' b' = B (Lib.trimS ((L s).drop (i + 1)) blL) := by
          apply L_inj
          rw [L_extract, L_B, tr, List.take_drop, List.drop_drop]
          rw [show i + 1 + (b' - (i + 1)) = b' from by omega, show i + 1 + (a' - (i + 1)) = a' from by omega]
        rw [e1, e2, L_B, L_B]
        simp
      · rw [if_neg (by rw [u8_eq] at hc; exact hc), if_neg hc, wrap_nat (x := (i : Int) + 1) (i + 1) rfl (by omega), one_colon s hs d k (i + 1) (by omega) (by omega)]
        cases hs2 : splitC 58 ((L s).drop (i + 1)) with
        | none => rfl
        | some x =>
          simp only [Option.map_some]
          rw [take_getD _ i (by omega)]
          simp [List.append_assoc]
    · rw [if_neg (by omega), List.drop_eq_nil_of_le (by omega)]
      obtain ⟨k, rfl⟩ : ∃ m, k = m + 1 := ⟨k - 1, by omega⟩
      rw [lanternref09_one.j1, if_pos (by omega)]
      rfl
theorem one_f (s : ByteArray) (hs : s.size ≤ 1000000) (k : Nat) (hk : 6 * s.size + 100 < k) :
    lanternref09_one.f k s = some (match splitC 58 (L s) with
      | none => (⟨#[]⟩, ⟨#[]⟩, false)
      | some x => (B x.1, B (Lib.trimS x.2 blL), mayL x.1 (Lib.trimS x.2 blL))) := by
  unfold lanternref09_one.f
  have := one_colon s hs s.size k 0 (by omega) (by omega)
  rw [List.drop_zero, List.take_zero] at this
  simpa using this

/-! ### the reference's reader -/
theorem ref_scan (bs : List UInt8) (hb : bs.length ≤ 1000000) (acc : List S39) (p : Nat) : ∀ (u : List UInt8) (k i : Nat) (t : List UInt8), bs.drop i = u ++ t → (∀ b ∈ u, b ≠ 10) → u.length < k →
    lanternref09_Parse.l0 k (nums bs) acc p i = lanternref09_Parse.l0 (k - u.length) (nums bs) acc p (i + u.length : Nat)
  | [], k, i, t, h, hu, hk => by simp
  | b :: u, k, i, t, h, hu, hk => by
    have hnl := nums_length bs
    obtain ⟨k, rfl⟩ : ∃ m, k = m + 1 := ⟨k - 1, by omega⟩
    have hlen := congrArg List.length h
    rw [List.length_drop, List.length_append, List.length_cons] at hlen
    have hi : i < bs.length := by omega
    rw [dropD bs i hi] at h
    simp only [List.cons_append, List.cons.injEq] at h
    have hne : bs.getD i 0 ≠ 10 := by rw [h.1]; exact hu b (by simp)
    have c1 : (i : Int) < ((nums bs).length : Int) := by omega
    have c2 : 0 ≤ (i : Int) := by omega
    have c3 : ¬ (((bs.getD i 0).toNat : Int) = 10) := fun q => hne (by rw [u8_eq]; exact q)
    conv => lhs; rw [lanternref09_Parse.l0]
    rw [if_pos c1, if_pos c2, rd_nums, if_neg c3, wrap_nat (x := (i : Int) + 1) (i + 1) rfl (by omega), ref_scan bs hb acc p u k (i + 1) t h.2 (fun d hd => hu d (by simp [hd])) (by simp at hk; omega)]
    rw [List.length_cons, show k + 1 - (u.length + 1) = k - u.length from by omega, show i + 1 + u.length = i + (u.length + 1) from by omega]
theorem ref_parse (bs : List UInt8) (hb : bs.length ≤ 1000000) : ∀ (f k p : Nat) (acc : List S39), p ≤ bs.length → bs.length < p + f → 3 * f + (bs.length - p) + 7 * bs.length + 300 < k → acc.length ≤ 64 →
    lanternref09_Parse.l0 k (nums bs) acc p p = some (parseM bs f p acc)
  | 0, k, p, acc, hp, hf, hk, ha => by omega
  | f + 1, k, p, acc, hp, hf, hk, ha => by
    have hnl := nums_length bs
    rw [parseM]
    cases hs : splitC 10 (bs.drop p) with
    | none =>
      simp only
      have hu := splitC_none 10 _ hs
      have hl2 : (bs.drop p).length = bs.length - p := List.length_drop
      rw [ref_scan bs hb acc p (bs.drop p) k p [] (by simp) hu (by omega)]
      obtain ⟨m, hm⟩ : ∃ m, k - (bs.drop p).length = m + 1 := ⟨k - (bs.drop p).length - 1, by omega⟩
      have c1 : ¬ (((p + (bs.drop p).length : Nat) : Int) < ((nums bs).length : Int)) := by omega
      rw [hm, lanternref09_Parse.l0, if_neg c1]
      by_cases h : bs.length ≤ 8192
      · rw [if_neg (by omega), if_pos h]
      · rw [if_pos (by omega), if_neg h]
    | some x =>
      obtain ⟨u, t⟩ := x
      simp only
      obtain ⟨e, hu⟩ := splitC_some 10 _ _ _ hs
      have hlen : p + u.length + 1 + t.length = bs.length := by
        have := congrArg List.length e
        rw [List.length_drop, List.length_append, List.length_cons] at this
        omega
      rw [ref_scan bs hb acc p u k p (10 :: t) e hu (by omega)]
      obtain ⟨m, hm⟩ : ∃ m, k - u.length = m + 1 + 1 + 1 := ⟨k - u.length - 3, by omega⟩
      have c1 : ((p + u.length : Nat) : Int) < ((nums bs).length : Int) := by omega
      have c2 : 0 ≤ ((p + u.length : Nat) : Int) := by omega
      have g10 : bs.getD (p + u.length) 0 = 10 := by
        have h1 : (bs.drop p).getD u.length 0 = 10 := by rw [e]; simp [List.getD_eq_getElem?_getD]
        rw [← h1]
        simp [List.getD_eq_getElem?_getD, List.getElem?_drop]
      have c3 : ((bs.getD (p + u.length) 0).toNat : Int) = 10 := by rw [g10]; rfl
      have gu : ∀ j, j < u.length → bs.getD (p + j) 0 = u.getD j 0 := fun j hj => by
        have h1 : (bs.drop p).getD j 0 = u.getD j 0 := by rw [e]; simp [List.getD_eq_getElem?_getD, List.getElem?_append, hj]
        rw [← h1]
        simp [List.getD_eq_getElem?_getD, List.getElem?_drop]
      rw [hm, lanternref09_Parse.l0, if_pos c1, if_pos c2, rd_nums, if_pos c3, wrap_nat (x := ((p + u.length : Nat) : Int) + 1) (p + u.length + 1) rfl (by omega)]
      by_cases h1 : p + u.length + 1 > 8192
      · rw [if_pos (by omega), if_pos h1]
      · rw [if_neg (by omega), if_neg h1]
        have hcl := chomp_length u
        have rest : ∀ (x8 : Nat), x8 = p + (chomp u).length → (bs.take x8).drop p = chomp u →
            lanternref09_Parse.j2 (m + 1) (nums bs) acc p (p + u.length : Nat) x8 = some (if chomp u = [] then (acc, ((p + u.length + 1 : Nat) : Int), 0) else match headL (chomp u) with
              | none => ([], 0, 5)
              | some h => if acc.length ≥ 64 then ([], 0, 3) else parseM bs f (p + u.length + 1) (acc ++ [h])) := fun x8 h8 ht => by
          rw [lanternref09_Parse.j2, wrap_nat (x := ((p + u.length : Nat) : Int) + 1) (p + u.length + 1) rfl (by omega)]
          by_cases h2 : chomp u = []
          · rw [h2] at h8
            rw [if_pos (by simp at h8; omega), if_pos h2]
          · have hpos := List.length_pos_iff.2 h2
            have c4 : (x8 : Int) ≤ ((nums bs).length : Int) := by omega
            rw [if_neg (by omega), if_neg h2, if_pos (by omega), if_pos (by omega), if_pos c4, Int.toNat_natCast, Int.toNat_natCast, nums_take, nums_drop, ht, strOf_nums, one_f (B (chomp u)) (by rw [size_B]; omega) m (by rw [size_B]; omega), L_B]
            unfold headL
            simp only [Option.bind_some]
            cases hc : splitC 58 (chomp u) with
            | none =>
              simp only
              rw [if_neg (by simp)]
            | some y =>
              obtain ⟨a, r⟩ := y
              simp only
              cases hmay : mayL a (Lib.trimS r blL) with
              | false => rw [if_neg (by simp), if_neg (by simp)]
              | true =>
                rw [if_pos rfl, if_pos rfl]
                simp only
                by_cases h3 : acc.length ≥ 64
                · rw [if_pos (by omega), if_pos h3]
                · rw [if_neg (by omega), if_neg h3, if_pos (by omega)]
                  exact ref_parse bs hb f m (p + u.length + 1) _ (by omega) (by omega) (by omega) (by rw [List.length_append, List.length_singleton]; omega)
        by_cases h2 : u = []
        · have hcu : chomp u = [] := by rw [h2]; rfl
          have hul : u.length = 0 := by rw [h2]; rfl
          rw [if_neg (by omega), lanternref09_Parse.j1, if_neg (by simp)]
          exact rest (p + u.length) (by rw [hcu]; simp; omega) (by rw [hcu, hul]; simp)
        · have hpos := List.length_pos_iff.2 h2
          have c5 : ((p + u.length - 1 : Nat) : Int) < ((nums bs).length : Int) := by omega
          rw [if_pos (by omega), wrap_nat (x := ((p + u.length : Nat) : Int) - 1) (p + u.length - 1) (by omega) (by omega), if_pos (by omega), if_pos c5, rd_nums, lanternref09_Parse.j1]
          have g13 := gu (u.length - 1) (by omega)
          rw [show p + (u.length - 1) = p + u.length - 1 from by omega] at g13
          rw [g13]
          by_cases h13 : u.getD (u.length - 1) 0 = 13
          · have hce : chomp u = u.take (u.length - 1) := by rw [chomp_eq, if_pos ⟨h2, h13⟩]
            have hcl2 : (chomp u).length = u.length - 1 := by rw [hce, List.length_take]; omega
            rw [if_pos (by rw [h13]; rfl), wrap_nat (x := ((p + u.length : Nat) : Int) - 1) (p + u.length - 1) (by omega) (by omega)]
            refine rest (p + u.length - 1) (by omega) ?_
            have := take_drop_of bs (u.take (u.length - 1)) (u.drop (u.length - 1) ++ 10 :: t) p (by rw [e, ← List.append_assoc, List.take_append_drop]) hp
            rw [List.length_take, show p + min (u.length - 1) u.length = p + u.length - 1 from by omega] at this
            rw [this, hce]
          · have hce : chomp u = u := by rw [chomp_eq, if_neg (fun q => h13 q.2)]
            have c6 : ¬ ((((u.getD (u.length - 1) 0).toNat : Int) == 13) = true) := fun q => h13 (by rw [u8_eq]; simpa using q)
            rw [if_neg c6]
            refine rest (p + u.length) (by rw [hce]) ?_
            rw [take_drop_of bs u (10 :: t) p e hp, hce]
theorem same_self (l : List S39) (hl : l.length ≤ 1000000) : ∀ (d k i : Nat), i + d = l.length → d < k → lanternref09_Same.l0 k l l i = some true
  | d, k, i, hd, hk => by
    obtain ⟨k, rfl⟩ : ∃ m, k = m + 1 := ⟨k - 1, by omega⟩
    rw [lanternref09_Same.l0]
    by_cases h : i < l.length
    · obtain ⟨d, rfl⟩ : ∃ m, d = m + 1 := ⟨d - 1, by omega⟩
      rw [if_pos (by omega), if_pos (by omega), if_pos (by omega), if_neg (by simp), wrap_nat (x := (i : Int) + 1) (i + 1) rfl (by omega)]
      exact same_self l hl d k (i + 1) (by omega) (by omega)
    · rw [if_neg (by omega)]
theorem same_f (l : List S39) (hl : l.length ≤ 1000000) (k : Nat) (hk : l.length < k) : lanternref09_Same.f k l l = some true := by
  unfold lanternref09_Same.f
  rw [if_pos rfl]
  exact same_self l hl l.length k 0 (by omega) hk
theorem parseM_acc (bs : List UInt8) : ∀ (f p : Nat) (acc : List S39), acc.length ≤ 64 → (parseM bs f p acc).1.length ≤ 64
  | 0, p, acc, h => by simp [parseM]
  | f + 1, p, acc, h => by
    rw [parseM]
    split
    · split <;> simp
    · split
      · simp
      · split
        · exact h
        · split
          · simp
          · split
            · simp
            · exact parseM_acc bs f _ _ (by rw [List.length_append, List.length_singleton]; omega)
end Go.Proofs.YtfjfpgihgaiacaaDoor.Q
