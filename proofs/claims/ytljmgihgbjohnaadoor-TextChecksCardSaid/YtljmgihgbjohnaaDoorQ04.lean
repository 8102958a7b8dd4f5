/- The laws on heads and on checks. -/
import Derived.Test.YtljmgihgbjohnaaDoorQ03
set_option linter.unusedSimpArgs false
set_option linter.unusedVariables false
namespace Go.Proofs.YtljmgihgbjohnaaDoor.Q
open Go Go.RowKit Go.Lib Go.Proofs.YtljmgihgbjohnaaDoorW.PrintWords Go.Proofs.YtljmgihgbjohnaaDoorB Go.Proofs.YtljmgihgbjohnaaDoor.E Go.Proofs.YtljmgihgbjohnaaDoor.P

abbrev dec (s : ByteArray) (p : Nat) : Nat × Nat := Utf8.decode s p
theorem dec_width (s : ByteArray) (p : Nat) (h : p < s.size) : 1 ≤ (dec s p).2 ∧ p + (dec s p).2 ≤ s.size := by
  unfold dec
  rw [decode_gb]
  rcases decodeN_shape (s.size - p) (gb s p) (gb s (p + 1)) (gb s (p + 2)) (gb s (p + 3)) with ⟨c, e⟩ | ⟨c1, c2, c3, cv, e⟩ | ⟨c1, c2, c3, c4, cv, cs, e⟩ | ⟨c1, c2, c3, c4, c5, cv, cw, e⟩ | e
  all_goals (rw [e]; dsimp only; omega)
theorem dec_range (s : ByteArray) (p : Nat) : (dec s p).1 < 55296 ∨ 57344 ≤ (dec s p).1 := by
  unfold dec
  rw [decode_gb]
  have g := gb_lt s p
  rcases decodeN_shape (s.size - p) (gb s p) (gb s (p + 1)) (gb s (p + 2)) (gb s (p + 3)) with ⟨c, e⟩ | ⟨c1, c2, c3, cv, e⟩ | ⟨c1, c2, c3, c4, cv, cs, e⟩ | ⟨c1, c2, c3, c4, c5, cv, cw, e⟩ | e
  all_goals (rw [e]; dsimp only; omega)
theorem decodeN_cut (n m b0 b1 b2 b3 d1 d2 d3 : Nat) (hv : ¬ ((decodeN n b0 b1 b2 b3).1 = 65533 ∧ (decodeN n b0 b1 b2 b3).2 = 1)) (hm : (decodeN n b0 b1 b2 b3).2 ≤ m)
    (h1 : 1 < m → d1 = b1) (h2 : 2 < m → d2 = b2) (h3 : 3 < m → d3 = b3) : decodeN m b0 d1 d2 d3 = decodeN n b0 b1 b2 b3 := by
  rcases decodeN_shape n b0 b1 b2 b3 with ⟨c, e⟩ | ⟨c1, c2, c3, cv, e⟩ | ⟨c1, c2, c3, c4, cv, cs, e⟩ | ⟨c1, c2, c3, c4, c5, cv, cw, e⟩ | e
  · rw [e]
    unfold decodeN
    rw [if_pos c]
  · rw [e] at hm ⊢
    dsimp only at hm
    obtain rfl := h1 (by omega)
    unfold decodeN
    rw [if_neg (by omega), if_pos ⟨by omega, by omega, by omega⟩, if_pos (by omega)]
  · rw [e] at hm ⊢
    dsimp only at hm
    obtain rfl := h1 (by omega)
    obtain rfl := h2 (by omega)
    unfold decodeN
    rw [if_neg (by omega), if_neg (by omega), if_pos ⟨by omega, ⟨by omega, by omega⟩, by omega, by omega⟩, if_pos ⟨by omega, by omega⟩]
  · rw [e] at hm ⊢
    dsimp only at hm
    obtain rfl := h1 (by omega)
    obtain rfl := h2 (by omega)
    obtain rfl := h3 (by omega)
    unfold decodeN
    rw [if_neg (by omega), if_neg (by omega), if_neg (by omega), if_pos ⟨by omega, ⟨by omega, by omega⟩, ⟨by omega, by omega⟩, by omega, by omega⟩, if_pos ⟨by omega, by omega⟩]
  · exact absurd ⟨by rw [e], by rw [e]⟩ hv
/-- A text cut behind a rune that stands well begins with that rune. -/
theorem dec_cut (s : ByteArray) (q p : Nat) (hq : q ≤ s.size) (hp : p < q) (hv : ¬ ((dec s p).1 = 65533 ∧ (dec s p).2 = 1)) (hw : p + (dec s p).2 ≤ q) : dec (s.extract 0 q) p = dec s p := by
  have hsz : (s.extract 0 q).size = q := by rw [size_L, L_extract]; simp; omega
  have hg : ∀ j, j < q → gb (s.extract 0 q) j = gb s j := fun j hj => by
    unfold gb
    rw [L_extract, List.drop_zero]
    simp [List.getD_eq_getElem?_getD, List.getElem?_take, hj]
  unfold dec at *
  rw [decode_gb s] at hv hw
  rw [decode_gb, decode_gb, hsz, hg p hp]
  exact decodeN_cut (s.size - p) (q - p) _ _ _ _ _ _ _ hv (by omega) (fun h => hg _ (by omega)) (fun h => hg _ (by omega)) (fun h => hg _ (by omega))

def runesFrom (s : ByteArray) : Nat → Nat → List Int
  | 0, _ => []
  | b + 1, p => if p < s.size then ((dec s p).1 : Int) :: runesFrom s b (p + (dec s p).2) else []
theorem runesFrom_end (s : ByteArray) (b p : Nat) (h : ¬ p < s.size) : runesFrom s b p = [] := by
  cases b <;> simp [runesFrom, h]
theorem runesFrom_length (s : ByteArray) : ∀ b p, (runesFrom s b p).length = runeCountFrom s b p
  | 0, _ => rfl
  | b + 1, p => by
    rw [runesFrom, runeCountFrom]
    split
    · have e : dec s p = Utf8.decode s p := rfl
      rw [List.length_cons, runesFrom_length s b, e]; omega
    · rfl
theorem runesFrom_le (s : ByteArray) (b p : Nat) : (runesFrom s b p).length ≤ b := by rw [runesFrom_length]; exact runeCountFrom_le s b p
theorem valid_step (s : ByteArray) (p : Nat) (h : p < s.size) : validD ((L s).drop p) = if (dec s p).1 = 65533 ∧ (dec s p).2 = 1 then false else validD ((L s).drop (p + (dec s p).2)) := by
  have hne : (L s).drop p ≠ [] := by
    intro h0
    have := congrArg List.length h0
    rw [List.length_drop, ← size_L] at this
    simp at this
    omega
  have e : decodeL ((L s).drop p) = dec s p := decodeL_drop s p
  rw [validD_step _ hne, e, List.drop_drop]
theorem valid_end (s : ByteArray) (p : Nat) (h : ¬ p < s.size) : validD ((L s).drop p) = true := by
  rw [List.drop_eq_nil_of_le (by rw [← size_L]; omega)]
  rfl
theorem says_of (d : Nat × Nat) (h : ¬ (d.1 = 65533 ∧ d.2 = 1)) : says d = ((d.1 : Int), (d.2 : Int)) := by unfold says; rw [if_neg h]
theorem runes_loop (s : ByteArray) (hs : s.size ≤ 1000000) : ∀ (b k p : Nat) (acc : List Int), p ≤ s.size → s.size ≤ p + b → b + 20 < k → acc.length + b ≤ 4000000 →
    lanternref01_Runes.l0 k s acc p = some (if validD ((L s).drop p) = true then (acc ++ runesFrom s b p, true) else ([], false))
  | b, k, p, acc, hp, hb, hk, ha => by
    obtain ⟨k, rfl⟩ : ∃ m, k = m + 1 := ⟨k - 1, by omega⟩
    rw [lanternref01_Runes.l0]
    by_cases h : p < s.size
    · rw [if_pos (by omega), rune_f s (by omega) p h k (by omega), valid_step s p h]
      simp only [Option.bind_some]
      by_cases hv : (dec s p).1 = 65533 ∧ (dec s p).2 = 1
      · have e : says (dec s p) = (0, 0) := by unfold says; rw [if_pos hv]
        rw [e, if_pos rfl, if_pos hv]
        rfl
      · have hw := dec_width s p h
        obtain ⟨b, rfl⟩ : ∃ m, b = m + 1 := ⟨b - 1, by omega⟩
        rw [says_of _ hv, if_neg (by dsimp only; omega), if_neg hv, if_pos (by omega), runesFrom, if_pos h]
        dsimp only
        rw [wrap_nat (x := (p : Int) + ((dec s p).2 : Int)) (p + (dec s p).2) rfl (by omega), runes_loop s hs b k (p + (dec s p).2) (acc ++ [((dec s p).1 : Int)]) (by omega) (by omega) (by omega) (by rw [List.length_append, List.length_singleton]; omega)]
        simp
    · rw [if_neg (by omega), valid_end s p h, runesFrom_end s b p h]
      simp
theorem runes_f (s : ByteArray) (hs : s.size ≤ 1000000) (k : Nat) (hk : s.size + 20 < k) :
    lanternref01_Runes.f k s = some (if validD (L s) = true then (runesFrom s s.size 0, true) else ([], false)) := by
  have := runes_loop s hs s.size k 0 [] (by omega) (by omega) hk (by simp; omega)
  rw [List.drop_zero] at this
  unfold lanternref01_Runes.f
  exact this

/-! ### heads -/
theorem headPos_le (s : ByteArray) : ∀ (b p : Nat) (m : Int), p ≤ s.size → p ≤ headPos s b p m ∧ headPos s b p m ≤ s.size
  | 0, p, m, h => ⟨h, Nat.le_refl _⟩
  | b + 1, p, m, h => by
    rw [headPos]
    by_cases hp : p < s.size
    · have hw := dec_width s p hp
      rw [if_pos hp]
      split
      · exact ⟨Nat.le_refl _, h⟩
      · have ih := headPos_le s b (p + (Utf8.decode s p).2) (m - 1) (by unfold dec at hw; omega)
        exact ⟨by omega, ih.2⟩
    · rw [if_neg hp]; exact ⟨h, Nat.le_refl _⟩
theorem head_loop (s : ByteArray) (hs : s.size ≤ 1000000) (n : Int) (hn : n ≤ 9223372036854775807) : ∀ (b k p i : Nat), p ≤ s.size → s.size ≤ p + b → b + 20 < k → (i : Int) ≤ n → i + b ≤ 4000000 → validD ((L s).drop p) = true →
    lanternref01_Head.l0 k s n p i = some (s.extract 0 (headPos s b p (n - i)))
  | b, k, p, i, hp, hb, hk, hi, hib, hv => by
    obtain ⟨k, rfl⟩ : ∃ m, k = m + 1 := ⟨k - 1, by omega⟩
    rw [lanternref01_Head.l0]
    by_cases h : (i : Int) < n
    · rw [if_pos h]
      by_cases h1 : p < s.size
      · rw [if_pos (by omega), rune_f s (by omega) p h1 k (by omega)]
        simp only [Option.bind_some]
        rw [valid_step s p h1] at hv
        have hg : ¬ ((dec s p).1 = 65533 ∧ (dec s p).2 = 1) := fun hc => by rw [if_pos hc] at hv; cases hv
        rw [if_neg hg] at hv
        have hw := dec_width s p h1
        obtain ⟨b, rfl⟩ : ∃ m, b = m + 1 := ⟨b - 1, by omega⟩
        rw [says_of _ hg]
        dsimp only
        rw [wrap_nat (x := (p : Int) + ((dec s p).2 : Int)) (p + (dec s p).2) rfl (by omega), wrap_nat (x := (i : Int) + 1) (i + 1) rfl (by omega), head_loop s hs n hn b k (p + (dec s p).2) (i + 1) (by omega) (by omega) (by omega) (by omega) (by omega) hv, headPos, if_pos h1, if_neg (by omega)]
        have e : n - ((i + 1 : Nat) : Int) = n - (i : Int) - 1 := by omega
        rw [e]
      · have e : p = s.size := by omega
        rw [if_neg (by omega), if_pos (by omega), if_pos (by omega), Int.toNat_natCast, headPos_end s b p _ h1, e]
    · have e : n - (i : Int) = 0 := by omega
      rw [if_neg h, if_pos (by omega), if_pos (by omega), Int.toNat_natCast, e]
      by_cases h1 : p < s.size
      · obtain ⟨b, rfl⟩ : ∃ m, b = m + 1 := ⟨b - 1, by omega⟩
        rw [headPos, if_pos h1, if_pos rfl]
      · have e2 : p = s.size := by omega
        rw [headPos_end s b p _ h1, e2]
theorem extract_zero (s : ByteArray) : s.extract 0 0 = ⟨#[]⟩ := by
  apply L_inj
  rw [L_extract]
  rfl
theorem heads_same (s : ByteArray) (hs : s.size ≤ 1000000) (n : Int) (hn0 : -9223372036854775808 ≤ n) (hn : n ≤ 9223372036854775807) (k : Nat) (hk : s.size + 20 < k) :
    lanternref01_Head.f k s n = text_Head.f s n := by
  unfold lanternref01_Head.f text_Head.f
  rw [runes_f s hs k hk, if_pos (show s.size < 9223372036854775807 ∧ n ≤ 9223372036854775807 from ⟨by omega, hn⟩)]
  simp only [Option.bind_some]
  by_cases hv : validD (L s) = true
  · simp only [if_pos hv, if_true]
    by_cases h1 : n < 1
    · rw [if_pos h1]
      obtain ⟨k, rfl⟩ : ∃ m, k = m + 1 := ⟨k - 1, by omega⟩
      rw [lanternref01_Head.l0, if_neg (by omega), if_pos (by omega), if_pos (by omega)]
      exact congrArg some (extract_zero s)
    · rw [if_neg h1]
      have := head_loop s hs n hn s.size k 0 0 (by omega) (by omega) hk (by omega) (by omega) (by rw [List.drop_zero]; exact hv)
      rw [show n - ((0 : Nat) : Int) = n from by omega] at this
      exact this
  · simp only [if_neg hv, Bool.false_eq_true, if_false]
    by_cases h1 : n < 1
    · rw [if_pos h1]
    · rw [if_neg h1]
theorem head_count (s : ByteArray) (q : Nat) : ∀ (b p : Nat) (m : Nat), p ≤ s.size → s.size ≤ p + b → validD ((L s).drop p) = true → m ≤ (runesFrom s b p).length → headPos s b p m = q →
    validD ((L (s.extract 0 q)).drop p) = true ∧ ∀ b', q ≤ p + b' → runeCountFrom (s.extract 0 q) b' p = m
  | b, p, m, hp, hb, hv, hm, hq => by
    have hle := headPos_le s b p m hp
    rw [hq] at hle
    have hsz : (s.extract 0 q).size = q := by rw [size_L, L_extract]; simp; omega
    by_cases h : p < s.size
    · obtain ⟨b, rfl⟩ : ∃ j, b = j + 1 := ⟨b - 1, by omega⟩
      rw [headPos, if_pos h] at hq
      by_cases h0 : m = 0
      · subst h0
        rw [if_pos (show ((0 : Nat) : Int) = 0 from Int.natCast_zero)] at hq
        subst hq
        exact ⟨valid_end _ _ (by omega), fun b' _ => runeCountFrom_end _ _ _ (by omega)⟩
      · rw [if_neg (by omega)] at hq
        rw [runesFrom, if_pos h, List.length_cons] at hm
        rw [valid_step s p h] at hv
        have hg : ¬ ((dec s p).1 = 65533 ∧ (dec s p).2 = 1) := fun hc => by rw [if_pos hc] at hv; cases hv
        rw [if_neg hg] at hv
        have hw := dec_width s p h
        obtain ⟨m, rfl⟩ : ∃ j, m = j + 1 := ⟨m - 1, by omega⟩
        rw [show ((m + 1 : Nat) : Int) - 1 = (m : Int) from by omega] at hq
        have hle2 := headPos_le s b (p + (dec s p).2) m (by omega)
        have hqq : headPos s b (p + (dec s p).2) m = q := hq
        rw [hqq] at hle2
        obtain ⟨i1, i2⟩ := head_count s q b (p + (dec s p).2) m (by omega) (by omega) hv (by omega) hqq
        have hc := dec_cut s q p hle.2 (by omega) hg (by omega)
        refine ⟨?_, fun b' hb' => ?_⟩
        · rw [valid_step _ p (by omega), hc, if_neg hg]
          exact i1
        · obtain ⟨b', rfl⟩ : ∃ j, b' = j + 1 := ⟨b' - 1, by omega⟩
          have hc' : Utf8.decode (s.extract 0 q) p = dec s p := hc
          rw [runeCountFrom, if_pos (by omega), hc', i2 b' (by omega)]
          omega
    · rw [headPos_end s b p _ h] at hq
      rw [runesFrom_end s b p h] at hm
      have h0 : m = 0 := by simpa using hm
      subst h0
      exact ⟨valid_end _ _ (by omega), fun b' _ => runeCountFrom_end _ _ _ (by omega)⟩
theorem TextHeads (s : ByteArray) (n : Int) (hn : (Lit.int .i64 n).wf = true) : ∃ k, lanternlaw01_TextHeads.f k s n = some true := by
  have hn2 : -9223372036854775808 ≤ n ∧ n ≤ 9223372036854775807 := by
    have := hn
    simp [Lit.wf, IntKind.min, IntKind.max, IntKind.signed, IntKind.bits] at this
    omega
  refine ⟨s.size + 100, ?_⟩
  unfold lanternlaw01_TextHeads.f
  rw [light_f]
  simp only [Option.bind_some]
  by_cases h : (s.size : Int) ≤ 4000
  · rw [if_pos (by simpa using h), heads_same s (by omega) n hn2.1 hn2.2 _ (by omega)]
    have hf : text_Head.f s n = some (if n < 1 then ⟨#[]⟩ else if validD (L s) = true then s.extract 0 (headPos s s.size 0 n) else ⟨#[]⟩) := by
      unfold text_Head.f
      rw [if_pos ⟨by omega, hn2.2⟩]
      split
      · rfl
      · split <;> rfl
    rw [hf]
    simp only [Option.bind_some]
    rw [if_pos trivial, runes_f s (by omega) _ (by omega)]
    simp only [Option.bind_some]
    by_cases hv : validD (L s) = true
    · rw [if_pos hv]
      simp only [if_true]
      by_cases h1 : n < 0
      · rw [if_pos h1, awake_f _ (by omega)]
        rfl
      · rw [if_neg h1]
        by_cases h2 : n > ((runesFrom s s.size 0).length : Int)
        · rw [if_pos h2, awake_f _ (by omega)]
          rfl
        · rw [if_neg h2]
          have hc : text_Count.f (if n < 1 then ⟨#[]⟩ else if validD (L s) = true then s.extract 0 (headPos s s.size 0 n) else ⟨#[]⟩) = some n := by
            by_cases h3 : n < 1
            · rw [if_pos h3, show n = 0 from by omega]
              decide +kernel
            · rw [if_neg h3, if_pos hv]
              obtain ⟨m, rfl⟩ : ∃ m : Nat, n = (m : Int) := ⟨n.toNat, by omega⟩
              have hle := headPos_le s s.size 0 m (by omega)
              have hsz : (s.extract 0 (headPos s s.size 0 m)).size = headPos s s.size 0 m := by rw [size_L, L_extract]; simp; omega
              obtain ⟨i1, i2⟩ := head_count s _ s.size 0 m (by omega) (by omega) (by rw [List.drop_zero]; exact hv) (by omega) rfl
              rw [List.drop_zero] at i1
              unfold text_Count.f
              rw [if_pos (by omega), if_pos i1]
              unfold runeCount
              rw [i2 _ (by omega)]
          rw [hc]
          simp only [Option.bind_some]
          rw [if_pos trivial, awake_f _ (by omega)]
          rfl
    · rw [if_neg hv]
      simp only [Bool.false_eq_true, if_false]
      rw [awake_f _ (by omega)]
      rfl
  · rw [if_neg (by simpa using h), awake_f _ (by omega)]
    rfl

/-! ### checks -/
theorem xml_loop (l : List Int) (hl : l.length ≤ 1000000) (hr : ∀ c ∈ l, 0 ≤ c ∧ (c < 55296 ∨ 57344 ≤ c)) : ∀ (d k i : Nat), i + d = l.length → d < k →
    lanternref01_Xml.l0 k l i = some ((l.drop i).all standsB)
  | d, k, i, hd, hk => by
    obtain ⟨k, rfl⟩ : ∃ m, k = m + 1 := ⟨k - 1, by omega⟩
    by_cases h : i < l.length
    · obtain ⟨d, rfl⟩ : ∃ m, d = m + 1 := ⟨d - 1, by omega⟩
      have ih := xml_loop l hl hr d k (i + 1) (by omega) (by omega)
      have hrd : rd l (i : Int) = l[i] := by
        unfold rd
        rw [Int.toNat_natCast, List.getD_eq_getElem?_getD, List.getElem?_eq_getElem h, Option.getD_some]
      have hc := hr l[i] (List.getElem_mem h)
      rw [List.drop_eq_getElem_cons h, List.all_cons]
      have hlt : ((i : Nat) : Int) < ((l.length : Nat) : Int) := by omega
      have h0 : 0 ≤ ((i : Nat) : Int) := by omega
      have hw : wrap64 ((i : Int) + 1) = ((i + 1 : Nat) : Int) := wrap_nat (i + 1) rfl (by omega)
      rw [lanternref01_Xml.l0, if_pos hlt, if_pos h0, hrd, hw, ih]
      clear hw ih hrd hlt h0
      generalize l[i] = c at *
      generalize (List.drop (i + 1) l).all standsB = z
      unfold standsB
      by_cases a1 : c = 9
      · subst a1; simp
      · by_cases a2 : c = 10
        · subst a2; simp
        · by_cases a3 : c = 13
          · subst a3; simp
          · rw [if_neg a1, if_neg a2, if_neg a3]
            by_cases a4 : c ≥ 32
            · rw [if_pos a4, if_neg (show ¬ c < 32 by omega)]
              by_cases a5 : c ≤ 55295
              · rw [if_pos a5]
                have b1 : (c != 65534) = true := by simp; omega
                have b2 : (c != 65535) = true := by simp; omega
                rw [b1, b2]; rfl
              · rw [if_neg a5, if_pos (show c ≥ 57344 by omega)]
                by_cases a6 : c ≤ 65533
                · rw [if_pos a6]
                  have b1 : (c != 65534) = true := by simp; omega
                  have b2 : (c != 65535) = true := by simp; omega
                  rw [b1, b2]; rfl
                · rw [if_neg a6]
                  by_cases a7 : c ≥ 65536
                  · rw [if_pos a7]
                    have b1 : (c != 65534) = true := by simp; omega
                    have b2 : (c != 65535) = true := by simp; omega
                    rw [b1, b2]; rfl
                  · rw [if_neg a7]
                    have b : c = 65534 ∨ c = 65535 := by omega
                    rcases b with rfl | rfl <;> simp
            · rw [if_neg a4, if_neg (show ¬ c ≥ 57344 by omega), if_neg (show ¬ c ≥ 65536 by omega), if_pos (show c < 32 by omega)]
              have b1 : (c == 9) = false := by simpa using a1
              have b2 : (c == 10) = false := by simpa using a2
              have b3 : (c == 13) = false := by simpa using a3
              rw [b1, b2, b3]; rfl
    · have hlt : ¬ ((i : Nat) : Int) < ((l.length : Nat) : Int) := by omega
      rw [lanternref01_Xml.l0, if_neg hlt, List.drop_eq_nil_of_le (by omega)]
      rfl
theorem runes_range (s : ByteArray) : ∀ b p, ∀ c ∈ runesFrom s b p, 0 ≤ c ∧ (c < 55296 ∨ 57344 ≤ c)
  | 0, _, c, h => by simp [runesFrom] at h
  | b + 1, p, c, h => by
    rw [runesFrom] at h
    split at h
    · rcases List.mem_cons.1 h with rfl | h
      · have := dec_range s p
        omega
      · exact runes_range s b _ c h
    · simp at h
theorem runes_xml (s : ByteArray) : ∀ b p, (runesFrom s b p).all standsB = xmlFrom s b p
  | 0, _ => rfl
  | b + 1, p => by
    rw [runesFrom, xmlFrom]
    split
    · rw [List.all_cons, runes_xml s b]
      by_cases h : standsB ((dec s p).1 : Int) = true
      · rw [if_pos h, h]; rfl
      · rw [if_neg h]
        have h' : standsB ((dec s p).1 : Int) = false := by simpa using h
        rw [h']; rfl
    · rfl
theorem xml_same (s : ByteArray) (hs : s.size ≤ 1000000) (k : Nat) (hk : s.size + 20 < k) : lanternref01_Check.f k s = text_Xml.f s := by
  unfold lanternref01_Check.f text_Xml.f lanternref01_Xml.f
  rw [runes_f s hs k hk, if_pos (show s.size < 9223372036854775807 by omega)]
  simp only [Option.bind_some]
  by_cases hv : validD (L s) = true
  · have hl := runesFrom_le s s.size 0
    have e := xml_loop (runesFrom s s.size 0) (by omega) (runes_range s _ _) (runesFrom s s.size 0).length k 0 (by omega) (by omega)
    rw [List.drop_zero, runes_xml] at e
    simp only [if_pos hv, if_true]
    have e' : lanternref01_Xml.l0 k (runesFrom s s.size 0) 0 = some (xmlFrom s s.size 0) := e
    rw [e']
    simp only [Option.bind_some]
  · simp only [if_neg hv, Bool.false_eq_true, if_false]
theorem TextChecks (s : ByteArray) : ∃ k, lanternlaw01_TextChecks.f k s = some true := by
  refine ⟨s.size + 100, ?_⟩
  unfold lanternlaw01_TextChecks.f
  rw [light_f]
  simp only [Option.bind_some]
  by_cases h : (s.size : Int) ≤ 4000
  · rw [if_pos (by simpa using h), runes_f s (by omega) _ (by omega), xml_same s (by omega) _ (by omega)]
    simp only [Option.bind_some]
    by_cases hv : validD (L s) = true
    · have hx : text_Xml.f s = some (xmlSays (xmlFrom s s.size 0)) := by
        unfold text_Xml.f xmlSays
        rw [if_pos (by omega), if_pos hv]
        split <;> rfl
      have hc : text_Count.f s = some ((runesFrom s s.size 0).length : Int) := by
        unfold text_Count.f
        rw [if_pos (by omega), if_pos hv, runesFrom_length]
        rfl
      rw [check_of (by omega) true hv, if_pos hv]
      simp only [Option.bind_some, if_true]
      rw [hx]
      simp only [Option.bind_some]
      rw [if_pos trivial, hc]
      simp only [Option.bind_some]
      rw [if_pos trivial, awake_f _ (by omega)]
      rfl
    · have hx : text_Xml.f s = some 5 := by
        unfold text_Xml.f
        rw [if_pos (by omega), if_neg hv]
      have hc : text_Count.f s = some 0 := by
        unfold text_Count.f
        rw [if_pos (by omega), if_neg hv]
      rw [check_of (by omega) false (by simpa using hv), if_neg hv]
      simp only [Option.bind_some, Bool.false_eq_true, if_false, if_true]
      rw [hx]
      simp only [Option.bind_some]
      rw [if_pos trivial, hc]
      simp only [Option.bind_some]
      rw [if_pos trivial, awake_f _ (by omega)]
      rfl
  · rw [if_neg (by simpa using h), awake_f _ (by omega)]
    rfl
end Go.Proofs.YtljmgihgbjohnaaDoor.Q
