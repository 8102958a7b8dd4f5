/- The law HttpResponses, plainly: what was put together is read back, whatever follows. -/
import Derived.Test.YtipleegkonhfcaaGreatDoorSL
import Derived.Test.YtipleegkonhfcaaGreatDoorKT6
set_option linter.unusedSimpArgs false
set_option linter.unusedVariables false
set_option maxRecDepth 10000
namespace Go.Proofs.YtipleegkonhfcaaGreatDoor.Q
open Go Go.RowKit Go.Lib Go.Proofs.YtipleegkonhfcaaGreatDoorW.PrintWords Go.Proofs.YtipleegkonhfcaaGreatDoorB Go.Proofs.YtipleegkonhfcaaGreatDoor.E Go.Proofs.YtipleegkonhfcaaGreatDoor.KH Go.Proofs.YtipleegkonhfcaaGreatDoor.KN Go.Proofs.YtipleegkonhfcaaGreatDoor.KA Go.Proofs.YtipleegkonhfcaaGreatDoor.KQ Go.Proofs.YtipleegkonhfcaaGreatDoor.KT Go.Proofs.YtipleegkonhfcaaGreatDoor.P Go.Proofs.YtipleegkonhfcaaGreatDoor.U Go.Proofs.YtipleegkonhfcaaGreatDoor.KF

theorem dig_no (c : UInt8) (h : inR 48 57 c = true) : c ≠ 32 ∧ c ≠ 10 := by
  unfold inR at h
  rw [Bool.and_eq_true] at h
  have h1 := of_decide_eq_true h.1
  refine ⟨?_, ?_⟩ <;> · rintro rfl; revert h1; decide
theorem rsn_no (c : UInt8) (h : inR 32 126 c = true) : c ≠ 10 := by
  unfold inR at h
  rw [Bool.and_eq_true] at h
  have h1 := of_decide_eq_true h.1
  rintro rfl
  revert h1
  decide
theorem sline_ten {m : Nat} {rs : ByteArray} (m2 : m ≤ 599) (hrs : (L rs).all (inR 32 126) = true) : ∀ b ∈ slineL m rs ++ [13], b ≠ 10 := by
  obtain ⟨d1, _⟩ := dec_facts 2 m (by omega)
  intro b hb
  unfold slineL at hb
  rcases List.mem_append.1 hb with hb | hb
  · rcases List.mem_append.1 hb with hb | hb
    · exact (version_no b hb).2
    · rcases List.mem_cons.1 hb with rfl | hb
      · decide
      · rcases List.mem_append.1 hb with hb | hb
        · exact (dig_no b (List.all_eq_true.1 d1 b hb)).2
        · rcases List.mem_cons.1 hb with rfl | hb
          · decide
          · exact rsn_no b (List.all_eq_true.1 hrs b hb)
  · rw [List.mem_singleton.1 hb]
    decide
theorem sline_len (m : Nat) (m1 : 200 ≤ m) (m2 : m ≤ 599) (rs : ByteArray) : (slineL m rs).length = 13 + rs.size := by
  unfold slineL
  rw [List.length_append, List.length_cons, List.length_append, List.length_cons, ← size_L, dec3 m (by omega) (by omega), show versionL.length = 8 from rfl]
  omega
theorem cut_blank (u t : List UInt8) (hu : ∀ b ∈ u, b ≠ 32) (hl : u.length + t.length ≤ 1000000) : strings_Cut.f (B (u ++ 32 :: t)) (⟨#[32]⟩ : ByteArray) = some (B u, B t, true) := by
  unfold strings_Cut.f
  rw [if_pos (by rw [size_B, List.length_append, List.length_cons]; omega)]
  unfold cutOf
  rw [show (⟨#[32]⟩ : ByteArray).data.toList = [32] from rfl, show (B (u ++ 32 :: t)).data.toList = u ++ 32 :: t from L_B _, cut_split, splitC_of 32 u t hu]
  rfl
theorem status_f (m : Nat) (m1 : 200 ≤ m) (m2 : m ≤ 599) (rs : ByteArray) (h128 : rs.size ≤ 128) (hrs : (L rs).all (inR 32 126) = true) (k : Nat) (hk : 1000 < k) : http_status.f k (B (slineL m rs)) = some ((m : Int), rs) := by
  obtain ⟨d1, d2, d3, d4⟩ := dec_facts 2 m (by omega)
  have hd := dec3 m (by omega) (by omega)
  have hz := size_L rs
  have zd : (B (Lib.decDigits m)).size = 3 := by rw [size_B, hd]
  have c1 := cut_blank versionL (Lib.decDigits m ++ 32 :: L rs) (fun b hb => (version_no b hb).1) (by rw [List.length_append, List.length_cons, hd, show versionL.length = 8 from rfl]; omega)
  have c2 := cut_blank (Lib.decDigits m) (L rs) (fun b hb => (dig_no b (List.all_eq_true.1 d1 b hb)).1) (by omega)
  have ha : strconv_Atoi.f (B (Lib.decDigits m)) = some ((m : Int), none) := by
    have hne : Lib.decDigits m ≠ [] := by
      intro h
      rw [h] at hd
      cases hd
    unfold strconv_Atoi.f
    rw [if_pos (by omega), show (B (Lib.decDigits m)).data.toList = Lib.decDigits m from L_B _, atoi_num _ hne d1, d2]
    rfl
  have w1 : http_within.f k (B (Lib.decDigits m)) 48 57 = some true := by
    have := hwithin_f (B (Lib.decDigits m)) (by omega) 48 57 k (by omega)
    rw [L_B, d1] at this
    exact this
  have w2 : http_within.f k rs 32 126 = some true := by
    have := hwithin_f rs (by omega) 32 126 k (by omega)
    rw [hrs] at this
    exact this
  have hv : (B versionL).toList = ([72, 84, 84, 80, 47, 49, 46, 49] : List UInt8) := by
    rw [toList_L, L_B]
    rfl
  unfold http_status.f slineL
  rw [c1, Option.bind_some]
  show ((strings_Cut.f (B (Lib.decDigits m ++ 32 :: L rs)) _).bind _) = _
  rw [c2, Option.bind_some]
  show ((strconv_Atoi.f (B (Lib.decDigits m))).bind _) = _
  rw [ha, Option.bind_some, if_pos rfl, if_pos hv]
  show (if (none : Option Int).isNone = true then (if (((B (Lib.decDigits m)).size : Nat) : Int) = 3 then _ else _) else _) = _
  rw [if_pos (show (none : Option Int).isNone = true from rfl), if_pos (show (((B (Lib.decDigits m)).size : Nat) : Int) = 3 by omega)]
  show ((http_within.f k (B (Lib.decDigits m)) 48 57).bind _) = _
  rw [w1, Option.bind_some, if_pos rfl]
  show (if (m : Int) < 100 then _ else (if (m : Int) > 599 then _ else (if ((B (L rs)).size : Int) > 128 then _ else ((http_within.f k (B (L rs)) 32 126).bind _)))) = _
  rw [if_neg (show ¬ (m : Int) < 100 by omega), if_neg (show ¬ (m : Int) > 599 by omega), B_L, if_neg (show ¬ (rs.size : Int) > 128 by omega)]
  show ((http_within.f k rs 32 126).bind _) = _
  rw [w2, Option.bind_some, if_pos rfl]
theorem body_backS (l : List S67) (bs more : List UInt8) (h1 : allV clB l = []) (h2 : allV teB l = []) (hn : bs.length ≤ 32768) (rest : Bool) : bodyM (bs ++ more) (allV teB (l ++ [clH bs.length])) (allV clB (l ++ [clH bs.length])) rest = (nums bs, (bs.length : Int), 0) := by
  have hte : sameB clN teB = false := by kernel_rfl
  have hcl : sameB clN clB = true := by kernel_rfl
  unfold bodyM
  rw [allV_snoc, allV_snoc, h1, h2]
  have e1 : sameB (clH bs.length).f0 teB = false := hte
  have e2 : sameB (clH bs.length).f0 clB = true := hcl
  rw [e1, e2, if_neg (by decide), if_pos rfl, List.append_nil, List.nil_append]
  obtain ⟨d1, d2, d3, d4⟩ := dec_facts 7 bs.length (by omega)
  have hL : L (clH bs.length).f1 = Lib.decDigits bs.length := L_B _
  have hz : (clH bs.length).f1.size = (Lib.decDigits bs.length).length := size_B _
  have hok : [(clH bs.length).f1].all (okY (clH bs.length).f1) = true := by
    rw [List.all_cons, List.all_nil, Bool.and_true]
    unfold okY
    rw [hL, hz, beq_self_eq_true, decide_eq_true d3, decide_eq_true d4, d1]
    rfl
  unfold kindM
  simp only [hok, if_true]
  rw [hL, d2, if_neg (by decide), if_neg (by decide), if_neg (by rintro ⟨h, _⟩; exact absurd h (by decide)), Int.toNat_natCast]
  unfold sizedM
  rw [if_neg (by omega), if_neg (by rw [List.length_append]; omega), List.take_left]
theorem parseS_f (A : List UInt8) (n hn : Nat) (s : ByteArray) (st : Int) (rs : ByteArray) (l' : List S67) (k : Nat) (hst : st ≠ 0) (hA : A.length ≤ 100000) (h1 : n + hn ≤ A.length)
    (hfi : http_first.f k (nums A) = some (s, (n : Int), 0)) (hs : http_status.f k s = some (st, rs)) (hp : header_Parse.f k (nums (A.drop n)) = some (l', (hn : Int), 0)) (x1 : List Int) (x2 : Int)
    (hbd : bareM st = false → http_body.f k (nums (A.drop (n + hn))) l' true = some (x1, x2, 0)) :
    http_ParseResponse.f k (nums A) = some (st, rs, l', if bareM st = true then [] else x1, if bareM st = true then ((n + hn : Nat) : Int) else wrap64 (((n + hn : Nat) : Int) + x2), 0) := by
  have hnl := nums_length A
  have hw : wrap64 ((n : Int) + (hn : Int)) = ((n + hn : Nat) : Int) := wrap_nat (n + hn) (by omega) (by omega)
  unfold http_ParseResponse.f
  rw [hfi, Option.bind_some, if_pos rfl]
  show ((http_status.f k s).bind _) = _
  rw [hs, Option.bind_some, if_neg hst, if_pos (show (0 : Int) ≤ (n : Int) by omega), if_pos (show (n : Int) ≤ (((nums A).length : Nat) : Int) by omega), Int.toNat_natCast, nums_drop, hp, Option.bind_some, if_pos rfl]
  show ((http_bare.f st).bind _) = _
  rw [hbare_f, Option.bind_some]
  simp only [hw]
  cases hbr : bareM st with
  | true =>
    simp only [if_true]
  | false =>
    simp only [Bool.false_eq_true, if_false]
    rw [if_pos (show (0 : Int) ≤ ((n + hn : Nat) : Int) by omega), if_pos (show ((n + hn : Nat) : Int) ≤ (((nums A).length : Nat) : Int) by omega), Int.toNat_natCast, nums_drop, hbd hbr, Option.bind_some, if_pos rfl]
theorem roundS (m : Nat) (m1 : 200 ≤ m) (m2 : m ≤ 599) (rs : ByteArray) (h128 : rs.size ≤ 128) (hrs : (L rs).all (inR 32 126) = true) (l : List S67) (bs more : List UInt8) (hb : bs.length ≤ 32768) (hm : more.length ≤ 1000) (h0 : bareM (m : Int) = true → bs.length = 0) (f3 : allV clB l = []) (f4 : allV teB l = []) (f6 : checkV (withS l bs.length (!bareM (m : Int))) = 0) (k : Nat) (hk : 1000000 < k) :
    http_ParseResponse.f k (nums (respB m rs l bs ++ more)) = some ((m : Int), rs, withS l bs.length (!bareM (m : Int)), nums bs, ((respB m rs l bs).length : Int), 0) := by
  obtain ⟨g1, g2, g3⟩ := check_zero f6
  have hlen := sline_len m m1 m2 rs
  have hbk := body_backS l bs more f3 f4 hb true
  obtain ⟨l', hl'⟩ : ∃ l', l' = withS l bs.length (!bareM (m : Int)) := ⟨_, rfl⟩
  rw [← hl'] at g1 g2 g3 f6 ⊢
  have hsz : (headsB l' ++ [13, 10]).length ≤ 8192 := by
    rw [List.length_append, headsB_length]
    unfold hsizeL at g3
    simp only [List.length_cons, List.length_nil]
    omega
  obtain ⟨rest, hrest⟩ : ∃ rest, rest = headsB l' ++ [13, 10] ++ (bs ++ more) := ⟨_, rfl⟩
  have hall : respB m rs l bs ++ more = (slineL m rs ++ [13]) ++ 10 :: rest := by
    unfold respB msgB
    rw [← hl', hrest]
    simp only [List.append_assoc, List.cons_append, List.nil_append]
  have hrl : (respB m rs l bs).length = (slineL m rs).length + 2 + (headsB l' ++ [13, 10]).length + bs.length := by
    unfold respB msgB
    rw [← hl', List.length_append, List.length_append, List.length_append]
    rfl
  have hbm : (bs ++ more).length = bs.length + more.length := List.length_append
  have hr2 : rest.length = (headsB l' ++ [13, 10]).length + (bs ++ more).length := by rw [hrest, List.length_append]
  have hal : ((slineL m rs ++ [13]) ++ 10 :: rest).length = 13 + rs.size + 2 + (headsB l' ++ [13, 10]).length + (bs ++ more).length := by
    rw [List.length_append, List.length_append, List.length_singleton, List.length_cons, hlen, hr2]
    omega
  have hfi := first_f ((slineL m rs ++ [13]) ++ 10 :: rest) (by omega) k (by omega)
  rw [firstM_line _ _ (sline_ten m2 hrs), hlen, if_pos (show 13 + rs.size + 1 < 4096 by omega)] at hfi
  have hdrop : ((slineL m rs ++ [13]) ++ 10 :: rest).drop (13 + rs.size + 2) = rest := by
    have e : (slineL m rs ++ [13] ++ [10]).length = 13 + rs.size + 2 := by
      rw [List.length_append, List.length_append, hlen]
      rfl
    rw [show (slineL m rs ++ [13]) ++ 10 :: rest = (slineL m rs ++ [13] ++ [10]) ++ rest from by simp, ← e, List.drop_left]
  have hdrop2 : ((slineL m rs ++ [13]) ++ 10 :: rest).drop (13 + rs.size + 2 + (headsB l' ++ [13, 10]).length) = bs ++ more := by
    rw [← List.drop_drop, hdrop, hrest, List.drop_left]
  have hfp := full_parse l' g1 g2 hsz (bs ++ more) l'.length (rest.length + 1) 0 (by omega) (by rw [hrest, List.take_zero]; show _ < 0 + _; omega)
  rw [List.take_zero, show (headsB ([] : List S67)).length = 0 from rfl, ← hrest] at hfp
  have hp := parse_f rest (by omega) k (by omega)
  have hsm := small_parsed rest (by omega)
  rw [hfp] at hp hsm
  have hbd : bareM (m : Int) = false → http_body.f k (nums (((slineL m rs ++ [13]) ++ 10 :: rest).drop (13 + rs.size + 2 + (headsB l' ++ [13, 10]).length))) l' true = some (nums bs, (bs.length : Int), 0) := by
    intro hbr
    rw [hbr, Bool.not_false, withS_t] at hl'
    rw [← hl'] at hbk
    have hbd := body_f (bs ++ more) (by omega) l' hsm true k (by omega)
    rw [hbk] at hbd
    rw [hdrop2]
    exact hbd
  have hps := parseS_f _ _ _ _ (m : Int) rs l' k (by omega) (by omega) (by omega) hfi (status_f m m1 m2 rs h128 hrs k (by omega)) (by rw [hdrop]; exact hp) _ _ hbd
  rw [hall, hps, hrl, hlen]
  cases hbr : bareM (m : Int) with
  | true =>
    have hbs : bs = [] := List.eq_nil_of_length_eq_zero (h0 hbr)
    rw [if_pos rfl, if_pos rfl, hbs, List.length_nil, show nums ([] : List UInt8) = [] from rfl]
    rfl
  | false =>
    rw [if_neg (by decide), if_neg (by decide), wrap_nat (13 + rs.size + 2 + (headsB l' ++ [13, 10]).length + bs.length) (by omega) (by omega)]
theorem sameS_f (st : Int) (rs : ByteArray) (l : List S67) (hl : l.length ≤ 1000000) (b : List Int) (k : Nat) (hk : l.length < k) : lanternref11_SameResponse.f k st rs l b st rs l b = some true := by
  unfold lanternref11_SameResponse.f
  rw [if_pos rfl, if_pos rfl, same_f _ (by omega) _ (by omega), Option.bind_some, if_pos rfl, beq_self_eq_true]
theorem lawS_j0 (st : Int) (rs : ByteArray) (l : List S67) (bs more : List UInt8) (hr : rs.size ≤ 5000) (h1 : l.length ≤ 100) (h2 : hsizeL l ≤ 20000) (hb : bs.length ≤ 40000) (hmo : more.length ≤ 1000) (k : Nat) (hk : 2000000 < k) :
    lanternlaw11_HttpResponses.j0 k (nums more) false st rs l (nums bs) = some true := by
  obtain ⟨k, rfl⟩ : ∃ m, k = m + 1 := ⟨k - 1, by omega⟩
  have hc := checkS_f st rs hr l h1 h2 (nums bs) (by rw [nums_length]; exact hb) k (by omega)
  have hmy := mayS_f st rs hr l h1 h2 (nums bs) (by rw [nums_length]; exact hb) k (by omega)
  rw [nums_length] at hc hmy
  rw [lanternlaw11_HttpResponses.j0, if_neg (by decide), printS_f st rs hr l h1 h2 bs hb k (by omega), Option.bind_some, hmy, Option.bind_some]
  by_cases hmay : mayS st rs l bs.length = true
  · obtain ⟨m, rfl, m1, m2, h128, hrs, h0, f3, f4, f5, f6⟩ := mayS_parts hmay
    have hrd := roundS m m1 m2 rs h128 hrs l bs more f5 hmo h0 f3 f4 f6 k (by omega)
    have hlt := withS_light h1 h2 bs.length (by omega) (!bareM (m : Int))
    have hwl := (light_parts hlt).1
    have hh := heads_le hlt
    have hrl : (respB m rs l bs).length ≤ 75000 := by
      unfold respB msgB
      rw [List.length_append, List.length_append, List.length_append, List.length_append, sline_len m m1 m2]
      simp only [List.length_cons, List.length_nil]
      omega
    have hs := sameS_f (m : Int) rs (withS l bs.length (!bareM (m : Int))) (by omega) (nums bs) k (by omega)
    rw [Int.toNat_natCast, if_pos hmay, responseS_f m m1 m2 rs h128 l h1 h2 bs hb k (by omega), Option.bind_some, hc, Option.bind_some, if_pos hmay]
    simp only [hmay, if_true]
    rw [Option.bind_some, List.length_nil, nums_length, if_pos (by omega), Option.bind_some, List.nil_append, nums_length, nums_length, if_pos (by omega), ← nums_append]
    rw [hrd, Option.bind_some, rbare_f, Option.bind_some]
    cases hbr : bareM (m : Int) with
    | true =>
      rw [hbr, Bool.not_true, withS_f] at hs
      simp only [Bool.not_true, withS_f, if_true, hs, Option.bind_some]
      rw [awake_K k (by omega)]
      rfl
    | false =>
      rw [hbr, Bool.not_false, withS_t] at hs
      rw [if_neg (by decide), nums_length, hwith_f l h1 bs.length (by omega) k (by omega), Option.bind_some]
      simp only [Bool.not_false, withS_t, if_true, hs, Option.bind_some]
      rw [awake_K k (by omega)]
      rfl
  · rw [if_neg hmay, hc, Option.bind_some, if_neg hmay, if_pos rfl, if_neg hmay]
    rw [if_pos rfl, if_pos (show ((([] : List Int).length : Nat) : Int) = 0 from rfl), awake_K k (by omega)]
    rfl
theorem lawS_j0t (st : Int) (rs : ByteArray) (l : List S67) (b more : List Int) (k : Nat) (hk : 20000 < k) : lanternlaw11_HttpResponses.j0 k more true st rs l b = some true := by
  obtain ⟨k, rfl⟩ : ∃ m, k = m + 1 := ⟨k - 1, by omega⟩
  rw [lanternlaw11_HttpResponses.j0, if_pos rfl, awake_K k (by omega)]
  rfl
theorem HttpResponses (st : Int) (rs : ByteArray) (l : List S67) (b more : List Int) (hf : Fits l) (hb : ∀ n ∈ b, 0 ≤ n ∧ n < 256) (hmo : ∀ n ∈ more, 0 ≤ n ∧ n < 256) : ∃ k, lanternlaw11_HttpResponses.f k st rs l b more = some true := by
  refine ⟨3000000, ?_⟩
  unfold lanternlaw11_HttpResponses.f
  rw [hlight_f l hf b _ (by decide), Option.bind_some]
  by_cases h1 : l.length ≤ 100
  · by_cases h2 : hsizeL l ≤ 20000
    · by_cases h3 : b.length ≤ 40000
      · rw [decide_eq_true h1, decide_eq_true h2, decide_eq_true h3, if_pos (show (true && (true && true)) = true from rfl)]
        by_cases h4 : rs.size ≤ 5000
        · rw [if_neg (by omega)]
          by_cases h6 : more.length ≤ 1000
          · rw [decide_eq_false (show ¬ ((more.length : Int) > 1000) by omega)]
            obtain ⟨bs, rfl⟩ : ∃ bs, b = nums bs := ⟨Lib.bytesOf b, (nums_of hb).symm⟩
            obtain ⟨ms, rfl⟩ : ∃ ms, more = nums ms := ⟨Lib.bytesOf more, (nums_of hmo).symm⟩
            rw [nums_length] at h3 h6
            exact lawS_j0 st rs l bs ms h4 h1 h2 h3 h6 _ (by decide)
          · rw [decide_eq_true (show (more.length : Int) > 1000 by omega)]
            exact lawS_j0t st rs l b more _ (by decide)
        · rw [if_pos (by omega)]
          exact lawS_j0t st rs l b more _ (by decide)
      · rw [decide_eq_false h3, Bool.and_false, Bool.and_false, if_neg (by decide)]
        exact lawS_j0t st rs l b more _ (by decide)
    · rw [decide_eq_false h2, Bool.false_and, Bool.and_false, if_neg (by decide)]
      exact lawS_j0t st rs l b more _ (by decide)
  · rw [decide_eq_false h1, Bool.false_and, if_neg (by decide)]
    exact lawS_j0t st rs l b more _ (by decide)
end Go.Proofs.YtipleegkonhfcaaGreatDoor.Q
