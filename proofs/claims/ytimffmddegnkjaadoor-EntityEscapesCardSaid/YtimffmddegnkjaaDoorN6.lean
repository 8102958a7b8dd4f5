/- The law EntityEscapes: a text with signs, and back. -/
import Derived.Test.YtimffmddegnkjaaDoorN4
import Derived.Lib.ReplaceLaws
set_option linter.unusedSimpArgs false
set_option linter.unusedVariables false
namespace Go.Proofs.YtimffmddegnkjaaDoor.Q
open Go Go.RowKit Go.Lib Go.Proofs.YtimffmddegnkjaaDoorW.PrintWords Go.Proofs.YtimffmddegnkjaaDoorB Go.Proofs.YtimffmddegnkjaaDoor.E Go.Proofs.YtimffmddegnkjaaDoor.I Go.Proofs.YtimffmddegnkjaaDoor.J Go.Proofs.YtimffmddegnkjaaDoor.P

def escB (c : UInt8) : List UInt8 := if c = 38 then [38, 97, 109, 112, 59] else if c = 60 then [38, 108, 116, 59] else if c = 62 then [38, 103, 116, 59] else if c = 34 then [38, 113, 117, 111, 116, 59] else if c = 39 then [38, 97, 112, 111, 115, 59] else if c = 13 then [38, 35, 49, 51, 59] else [c]
def escL (l : List UInt8) : List UInt8 := l.flatMap escB
theorem escL_cons (c : UInt8) (t : List UInt8) : escL (c :: t) = escB c ++ escL t := rfl
theorem escL_append (a b : List UInt8) : escL (a ++ b) = escL a ++ escL b := List.flatMap_append
theorem u8_int (c d : UInt8) : c = d ↔ (c.toNat : Int) = (d.toNat : Int) := ⟨by rintro rfl; rfl, fun h => UInt8.toNat_inj.mp (by omega)⟩
theorem esc_sign (c : UInt8) : (if (signOf (c.toNat : Int)).toList = [] then [c] else (signOf (c.toNat : Int)).data.toList) = escB c := by
  unfold signOf escB
  by_cases h1 : c = 38
  · subst h1; decide +kernel
  · by_cases h2 : c = 60
    · subst h2; decide +kernel
    · by_cases h3 : c = 62
      · subst h3; decide +kernel
      · by_cases h4 : c = 34
        · subst h4; decide +kernel
        · by_cases h5 : c = 39
          · subst h5; decide +kernel
          · by_cases h6 : c = 13
            · subst h6; decide +kernel
            · have n1 : ¬ (c.toNat : Int) = 38 := fun h => h1 ((u8_int c 38).2 h)
              have n2 : ¬ (c.toNat : Int) = 60 := fun h => h2 ((u8_int c 60).2 h)
              have n3 : ¬ (c.toNat : Int) = 62 := fun h => h3 ((u8_int c 62).2 h)
              have n4 : ¬ (c.toNat : Int) = 34 := fun h => h4 ((u8_int c 34).2 h)
              have n5 : ¬ (c.toNat : Int) = 39 := fun h => h5 ((u8_int c 39).2 h)
              have n6 : ¬ (c.toNat : Int) = 13 := fun h => h6 ((u8_int c 13).2 h)
              rw [if_neg n1, if_neg n2, if_neg n3, if_neg n4, if_neg n5, if_neg n6, if_neg h1, if_neg h2, if_neg h3, if_neg h4, if_neg h5, if_neg h6, if_pos (show ({ data := #[] } : ByteArray).toList = [] from toList_L _)]
theorem escB_high (c : UInt8) (h : 128 ≤ c.toNat) : escB c = [c] := by
  have hne : ∀ d : UInt8, d.toNat < 128 → ¬ c = d := by rintro d hd rfl; omega
  unfold escB
  rw [if_neg (hne _ (by decide)), if_neg (hne _ (by decide)), if_neg (hne _ (by decide)), if_neg (hne _ (by decide)), if_neg (hne _ (by decide)), if_neg (hne _ (by decide))]
theorem escL_high : ∀ u : List UInt8, (∀ b ∈ u, 128 ≤ b.toNat) → escL u = u
  | [], _ => rfl
  | b :: u, h => by rw [escL_cons, escB_high b (h b (by simp)), escL_high u (fun x hx => h x (by simp [hx]))]; rfl
theorem escB_low (c : UInt8) (h : c.toNat < 128) : ∀ b ∈ escB c, b.toNat < 128 := by
  unfold escB
  repeat' split
  all_goals first | decide | (intro b hb; obtain rfl := List.mem_singleton.1 hb; exact h)
theorem escB_len (c : UInt8) : 1 ≤ (escB c).length ∧ (escB c).length ≤ 6 := by
  unfold escB
  repeat' split
  all_goals simp
theorem escL_len : ∀ l : List UInt8, (escL l).length ≤ 6 * l.length
  | [] => by simp [escL]
  | c :: t => by
    have := escB_len c
    have := escL_len t
    rw [escL_cons, List.length_append, List.length_cons]
    omega
theorem escL_no13 : ∀ l : List UInt8, ∀ b ∈ escL l, b ≠ 13
  | [], b, h => by simp [escL] at h
  | c :: t, b, h => by
    rw [escL_cons] at h
    rcases List.mem_append.1 h with h | h
    · unfold escB at h
      repeat' split at h
      all_goals first | (rintro rfl; revert h; decide) | (obtain rfl := List.mem_singleton.1 h; assumption)
    · exact escL_no13 t b h

/-! ### a rune of more than one byte -/
theorem ofZ (n : Nat) (b : UInt8) (h : n = b.toNat) : ((n : Int)).toNat.toUInt8 = b := by
  subst h
  simp
theorem chunk (b0 : UInt8) (t : List UInt8) (h128 : 128 ≤ b0.toNat) (hv : validD (b0 :: t) = true) :
    ∃ u r, b0 :: t = u ++ r ∧ 2 ≤ u.length ∧ (∀ b ∈ u, 128 ≤ b.toNat) ∧ (decodeL (b0 :: t)).2 = u.length ∧ 128 ≤ (decodeL (b0 :: t)).1 ∧ Lib.encodeRune ((decodeL (b0 :: t)).1 : Int) = u ∧ ∀ x, validD (u ++ x) = validD x := by
  rw [validD_step _ (by simp)] at hv
  have g1 := (((b0 :: t).getD 1 0).toNat_lt)
  have g2 := (((b0 :: t).getD 2 0).toNat_lt)
  have g3 := (((b0 :: t).getD 3 0).toNat_lt)
  have g0 := b0.toNat_lt
  have hN := decodeL_N (b0 :: t)
  have e0 : (b0 :: t).getD 0 0 = b0 := rfl
  rw [e0] at hN
  rcases decodeN_shape (b0 :: t).length b0.toNat ((b0 :: t).getD 1 0).toNat ((b0 :: t).getD 2 0).toNat ((b0 :: t).getD 3 0).toNat with ⟨c, e⟩ | ⟨c1, c2, c3, cv, e⟩ | ⟨c1, c2, c3, c4, cv, cs, e⟩ | ⟨c1, c2, c3, c4, c5, cv, cw, e⟩ | e
  · omega
  · cases t with
    | nil => simp at c2
    | cons b1 t =>
      have x1 : (b0 :: b1 :: t).getD 1 0 = b1 := rfl
      rw [x1] at c3 cv e hN g1
      rw [hN, e]
      refine ⟨[b0, b1], t, rfl, by simp, ?_, rfl, cv, ?_, ?_⟩
      · intro b hb
        simp only [List.mem_cons, List.mem_nil_iff, or_false] at hb
        rcases hb with rfl | rfl <;> omega
      · have hz := encodeRuneZ_two (r := ((b0.toNat % 32 * 64 + b1.toNat % 64 : Nat) : Int)) (by omega) (by omega)
        show (encodeRuneZ ((b0.toNat % 32 * 64 + b1.toNat % 64 : Nat) : Int)).map (fun x => x.toNat.toUInt8) = _
        rw [hz]
        have y0 := ofZ (192 + (b0.toNat % 32 * 64 + b1.toNat % 64) / 64) b0 (by omega)
        have y1 := ofZ (128 + (b0.toNat % 32 * 64 + b1.toNat % 64) % 64) b1 (by omega)
        exact congr (congrArg List.cons y0) (congr (congrArg List.cons y1) rfl)
      · intro x
        rw [validD_step _ (by simp), decodeL_N]
        have hd : decodeN ([b0, b1] ++ x).length (([b0, b1] ++ x).getD 0 0).toNat (([b0, b1] ++ x).getD 1 0).toNat (([b0, b1] ++ x).getD 2 0).toNat (([b0, b1] ++ x).getD 3 0).toNat = (b0.toNat % 32 * 64 + b1.toNat % 64, 2) := by
          have z0 : ([b0, b1] ++ x).getD 0 0 = b0 := rfl
          have z1 : ([b0, b1] ++ x).getD 1 0 = b1 := rfl
          rw [z0, z1]
          unfold decodeN
          rw [if_neg (by omega), if_pos ⟨c1, by simp, c3⟩, if_pos cv]
        rw [hd, if_neg (by simp)]
        rfl
  · cases t with
    | nil => simp at c2
    | cons b1 t =>
      cases t with
      | nil => simp at c2
      | cons b2 t =>
        have x1 : (b0 :: b1 :: b2 :: t).getD 1 0 = b1 := rfl
        have x2 : (b0 :: b1 :: b2 :: t).getD 2 0 = b2 := rfl
        rw [x1, x2] at hN
        rw [x1] at c3 g1
        rw [x2] at c4 g2
        rw [x1, x2] at cv cs e
        rw [hN, e]
        refine ⟨[b0, b1, b2], t, rfl, by simp, ?_, rfl, by show 128 ≤ b0.toNat % 16 * 4096 + b1.toNat % 64 * 64 + b2.toNat % 64; omega, ?_, ?_⟩
        · intro b hb
          simp only [List.mem_cons, List.mem_nil_iff, or_false] at hb
          rcases hb with rfl | rfl | rfl <;> omega
        · have hz := encodeRuneZ_three (r := ((b0.toNat % 16 * 4096 + b1.toNat % 64 * 64 + b2.toNat % 64 : Nat) : Int)) (by omega)
          show (encodeRuneZ ((b0.toNat % 16 * 4096 + b1.toNat % 64 * 64 + b2.toNat % 64 : Nat) : Int)).map (fun x => x.toNat.toUInt8) = _
          rw [hz]
          have y0 := ofZ (224 + (b0.toNat % 16 * 4096 + b1.toNat % 64 * 64 + b2.toNat % 64) / 4096) b0 (by omega)
          have y1 := ofZ (128 + (b0.toNat % 16 * 4096 + b1.toNat % 64 * 64 + b2.toNat % 64) / 64 % 64) b1 (by omega)
          have y2 := ofZ (128 + (b0.toNat % 16 * 4096 + b1.toNat % 64 * 64 + b2.toNat % 64) % 64) b2 (by omega)
          exact congr (congrArg List.cons y0) (congr (congrArg List.cons y1) (congr (congrArg List.cons y2) rfl))
        · intro x
          rw [validD_step _ (by simp), decodeL_N]
          have hd : decodeN ([b0, b1, b2] ++ x).length (([b0, b1, b2] ++ x).getD 0 0).toNat (([b0, b1, b2] ++ x).getD 1 0).toNat (([b0, b1, b2] ++ x).getD 2 0).toNat (([b0, b1, b2] ++ x).getD 3 0).toNat = (b0.toNat % 16 * 4096 + b1.toNat % 64 * 64 + b2.toNat % 64, 3) := by
            have z0 : ([b0, b1, b2] ++ x).getD 0 0 = b0 := rfl
            have z1 : ([b0, b1, b2] ++ x).getD 1 0 = b1 := rfl
            have z2 : ([b0, b1, b2] ++ x).getD 2 0 = b2 := rfl
            rw [z0, z1, z2]
            unfold decodeN
            rw [if_neg (by omega), if_neg (by omega), if_pos ⟨c1, ⟨by simp, c3⟩, by simp, c4⟩, if_pos ⟨cv, by omega⟩]
          rw [hd, if_neg (by simp)]
          rfl
  · cases t with
    | nil => simp at c2
    | cons b1 t =>
      cases t with
      | nil => simp at c2
      | cons b2 t =>
        cases t with
        | nil => simp at c2
        | cons b3 t =>
          have x1 : (b0 :: b1 :: b2 :: b3 :: t).getD 1 0 = b1 := rfl
          have x2 : (b0 :: b1 :: b2 :: b3 :: t).getD 2 0 = b2 := rfl
          have x3 : (b0 :: b1 :: b2 :: b3 :: t).getD 3 0 = b3 := rfl
          rw [x1, x2, x3] at hN
          rw [x1] at c3 g1
          rw [x2] at c4 g2
          rw [x3] at c5 g3
          rw [x1, x2, x3] at cv cw e
          rw [hN, e]
          refine ⟨[b0, b1, b2, b3], t, rfl, by simp, ?_, rfl, by show 128 ≤ b0.toNat % 8 * 262144 + b1.toNat % 64 * 4096 + b2.toNat % 64 * 64 + b3.toNat % 64; omega, ?_, ?_⟩
          · intro b hb
            simp only [List.mem_cons, List.mem_nil_iff, or_false] at hb
            rcases hb with rfl | rfl | rfl | rfl <;> omega
          · have hz := encodeRuneZ_four (r := ((b0.toNat % 8 * 262144 + b1.toNat % 64 * 4096 + b2.toNat % 64 * 64 + b3.toNat % 64 : Nat) : Int)) (by omega) (by omega)
            show (encodeRuneZ ((b0.toNat % 8 * 262144 + b1.toNat % 64 * 4096 + b2.toNat % 64 * 64 + b3.toNat % 64 : Nat) : Int)).map (fun x => x.toNat.toUInt8) = _
            rw [hz]
            have y0 := ofZ (240 + (b0.toNat % 8 * 262144 + b1.toNat % 64 * 4096 + b2.toNat % 64 * 64 + b3.toNat % 64) / 262144) b0 (by omega)
            have y1 := ofZ (128 + (b0.toNat % 8 * 262144 + b1.toNat % 64 * 4096 + b2.toNat % 64 * 64 + b3.toNat % 64) / 4096 % 64) b1 (by omega)
            have y2 := ofZ (128 + (b0.toNat % 8 * 262144 + b1.toNat % 64 * 4096 + b2.toNat % 64 * 64 + b3.toNat % 64) / 64 % 64) b2 (by omega)
            have y3 := ofZ (128 + (b0.toNat % 8 * 262144 + b1.toNat % 64 * 4096 + b2.toNat % 64 * 64 + b3.toNat % 64) % 64) b3 (by omega)
            exact congr (congrArg List.cons y0) (congr (congrArg List.cons y1) (congr (congrArg List.cons y2) (congr (congrArg List.cons y3) rfl)))
          · intro x
            rw [validD_step _ (by simp), decodeL_N]
            have hd : decodeN ([b0, b1, b2, b3] ++ x).length (([b0, b1, b2, b3] ++ x).getD 0 0).toNat (([b0, b1, b2, b3] ++ x).getD 1 0).toNat (([b0, b1, b2, b3] ++ x).getD 2 0).toNat (([b0, b1, b2, b3] ++ x).getD 3 0).toNat = (b0.toNat % 8 * 262144 + b1.toNat % 64 * 4096 + b2.toNat % 64 * 64 + b3.toNat % 64, 4) := by
              have z0 : ([b0, b1, b2, b3] ++ x).getD 0 0 = b0 := rfl
              have z1 : ([b0, b1, b2, b3] ++ x).getD 1 0 = b1 := rfl
              have z2 : ([b0, b1, b2, b3] ++ x).getD 2 0 = b2 := rfl
              have z3 : ([b0, b1, b2, b3] ++ x).getD 3 0 = b3 := rfl
              rw [z0, z1, z2, z3]
              unfold decodeN
              rw [if_neg (by omega), if_neg (by omega), if_neg (by omega), if_pos ⟨c1, ⟨by simp, c3⟩, ⟨by simp, c4⟩, by simp, c5⟩, if_pos ⟨cv, by omega⟩]
            rw [hd, if_neg (by simp)]
            rfl
  · rw [hN, e] at hv
    simp at hv

/-! ### the program's -/
theorem esc_from (s : ByteArray) (n : Nat) : ∀ (b p : Nat), p ≤ s.size → s.size - p = n → n ≤ b → validD ((L s).drop p) = true → escFrom s b p = escL ((L s).drop p) := by
  induction n using Nat.strongRecOn with
  | ind n ih =>
    intro b p hp hn hb hv
    have hsz : s.size = (L s).length := size_L s
    by_cases hlt : p < s.size
    · obtain ⟨b, rfl⟩ : ∃ m, b = m + 1 := ⟨b - 1, by omega⟩
      have hd := getD_drop (L s) p (by omega)
      have hdec : Utf8.decode s p = decodeL ((L s).drop p) := (decodeL_drop s p).symm
      rw [escFrom, if_pos hlt, hdec]
      by_cases h1 : ((L s).getD p 0).toNat < 128
      · rw [hd] at hv ⊢
        rw [decodeL_ascii _ _ h1]
        have hv' := (validD_cons _ _ h1).symm.trans hv
        rw [escL_cons]
        have hen : Lib.encodeRune (((L s).getD p 0).toNat : Int) = [(L s).getD p 0] := by
          show (encodeRuneZ _).map _ = _
          rw [encodeRuneZ_one (by omega) (by omega)]
          exact congr (congrArg List.cons (ofZ _ _ rfl)) rfl
        dsimp only
        rw [hen, esc_sign, ih (s.size - (p + 1)) (by omega) b (p + 1) (by omega) rfl (by omega) hv']
      · rw [hd] at hv
        obtain ⟨u, r, e, h2, hh, hw, hc, hen, hx⟩ := chunk _ _ (by omega) hv
        have hv' : validD r = true := by rw [e, hx] at hv; exact hv
        rw [hd, hw, hen]
        generalize (decodeL ((L s).getD p 0 :: (L s).drop (p + 1))).1 = c at hc
        have hdr : (L s).drop (p + u.length) = r := by
          rw [← List.drop_drop, hd, e]
          exact List.drop_left' rfl
        have hlen : (L s).length - p = u.length + r.length := by
          have := congrArg List.length (hd.trans e)
          rw [List.length_drop, List.length_append] at this
          exact this
        have hsg : (signOf (c : Int)).toList = [] := by
          unfold signOf
          rw [if_neg (by omega), if_neg (by omega), if_neg (by omega), if_neg (by omega), if_neg (by omega), if_neg (by omega)]
          exact toList_L _
        rw [if_pos hsg, ih (s.size - (p + u.length)) (by omega) b (p + u.length) (by omega) rfl (by omega) (by rw [hdr]; exact hv'), hdr, e, escL_append, escL_high u hh]
    · rw [escFrom_end s b p hlt, List.drop_eq_nil_of_le (by omega)]
      rfl
theorem valid_esc (n : Nat) : ∀ l : List UInt8, l.length = n → validD l = true → validD (escL l) = true := by
  induction n using Nat.strongRecOn with
  | ind n ih =>
    intro l hn hv
    cases l with
    | nil => rfl
    | cons c t =>
      rw [List.length_cons] at hn
      by_cases h1 : c.toNat < 128
      · rw [escL_cons, validD_ascii (escB c).length _ (by rw [List.take_left' rfl]; exact escB_low c h1), List.drop_left' rfl]
        exact ih t.length (by omega) t rfl (by rw [validD_cons c t h1] at hv; exact hv)
      · obtain ⟨u, r, e, h2, hh, hw, hc, hen, hx⟩ := chunk c t (by omega) hv
        have hl := congrArg List.length e
        rw [List.length_append, List.length_cons] at hl
        have hv' : validD r = true := by rw [e, hx] at hv; exact hv
        rw [e, escL_append, escL_high u hh, hx]
        exact ih r.length (by omega) r rfl hv'
theorem splitC_at' (c : UInt8) : ∀ (u t : List UInt8), (∀ b ∈ u, b ≠ c) → splitC c (u ++ c :: t) = some (u, t)
  | [], t, _ => by rw [List.nil_append, splitC, if_pos rfl]
  | b :: u, t, h => by
    rw [List.cons_append, splitC, if_neg (h b (by simp)), splitC_at' c u t (fun x hx => h x (by simp [hx]))]
    rfl
theorem uns_sign (m : Nat) (nm X : List UInt8) (c : UInt8) (h : ∀ b ∈ nm, b ≠ 59) (hr : refOf nm = [c]) : unsL (m + 1) (38 :: (nm ++ 59 :: X)) = (unsL m X).map (c :: ·) := by
  rw [unsL_amp, splitC_at' 59 nm X h]
  dsimp only
  rw [hr, if_neg (by simp)]
  rfl
theorem uns_esc : ∀ (l : List UInt8) (m : Nat), (escL l).length < m → unsL m (escL l) = some l
  | [], m, h => by
    obtain ⟨m, rfl⟩ : ∃ q, m = q + 1 := ⟨m - 1, by omega⟩
    rw [unsL]
    rfl
  | c :: t, m, h => by
    obtain ⟨m, rfl⟩ : ∃ q, m = q + 1 := ⟨m - 1, by omega⟩
    have hb := (escB_len c).1
    rw [escL_cons] at h ⊢
    rw [List.length_append] at h
    have sg : ∀ nm : List UInt8, escB c = 38 :: (nm ++ [59]) → (∀ b ∈ nm, b ≠ 59) → refOf nm = [c] → unsL (m + 1) (escB c ++ escL t) = some (c :: t) := by
      intro nm e1 e2 e3
      have : escB c ++ escL t = 38 :: (nm ++ 59 :: escL t) := by rw [e1]; simp
      rw [this, uns_sign m nm (escL t) c e2 e3, uns_esc t m (by omega)]
      rfl
    by_cases h1 : c = 38
    · subst h1; exact sg [97, 109, 112] rfl (by decide) (by decide +kernel)
    · by_cases h2 : c = 60
      · subst h2; exact sg [108, 116] rfl (by decide) (by decide +kernel)
      · by_cases h3 : c = 62
        · subst h3; exact sg [103, 116] rfl (by decide) (by decide +kernel)
        · by_cases h4 : c = 34
          · subst h4; exact sg [113, 117, 111, 116] rfl (by decide) (by decide +kernel)
          · by_cases h5 : c = 39
            · subst h5; exact sg [97, 112, 111, 115] rfl (by decide) (by decide +kernel)
            · by_cases h6 : c = 13
              · subst h6; exact sg [35, 49, 51] rfl (by decide) (by decide +kernel)
              · have e : escB c = [c] := by unfold escB; rw [if_neg h1, if_neg h2, if_neg h3, if_neg h4, if_neg h5, if_neg h6]
                rw [e] at h ⊢
                rw [List.singleton_append, unsL_cons m c _ h1, uns_esc t (m + 1) (by simp at h; omega)]
                rfl
theorem unescOf_esc (l : List UInt8) (hv : validD l = true) : unescOf (B (escL l)) = some l := by
  unfold unescOf
  rw [L_B, if_pos (valid_esc l.length l rfl hv)]
  exact uns_esc l _ (by rw [size_B]; omega)

/-! ### the reference's -/
theorem one_byte_of (s : ByteArray) (i : Nat) (h : i < s.size) : s.extract i (i + 1) = B [(L s).getD i 0] := by
  apply L_inj
  rw [L_extract, L_B, take_getD (L s) i (by rw [← size_L]; exact h), List.drop_append_of_le_length (by rw [List.length_take, ← size_L]; omega), List.drop_take_self]
  rfl
theorem refEsc_loop (s : ByteArray) (hs : s.size ≤ 100000) : ∀ (d k i : Nat) (acc : List UInt8), i + d = s.size → d < k → acc.length ≤ 6 * i → lanternref12_Escape.l0 k s (B acc) i = some (B (acc ++ escL ((L s).drop i)))
  | 0, k, i, acc, hd, hk, ha => by
    obtain ⟨k, rfl⟩ : ∃ m, k = m + 1 := ⟨k - 1, by omega⟩
    rw [lanternref12_Escape.l0, if_neg (by omega), List.drop_eq_nil_of_le (by rw [← size_L]; omega)]
    simp [escL]
  | d + 1, k, i, acc, hd, hk, ha => by
    obtain ⟨k, rfl⟩ : ∃ m, k = m + 1 := ⟨k - 1, by omega⟩
    have hi : i < s.size := by omega
    have hdr := getD_drop (L s) i (by rw [← size_L]; exact hi)
    have hb := one_byte_of s i hi
    rw [lanternref12_Escape.l0, hdr, escL_cons]
    generalize (L s).getD i 0 = c at *
    have go : ∀ u : List UInt8, escB c = u → u.length ≤ 6 → (if (B acc).size + u.length ≤ 9223372036854775807 then (lanternref12_Escape.l0 k s (B acc ++ B u) ((i + 1 : Nat) : Int)) else none) = some (B (acc ++ (escB c ++ escL ((L s).drop (i + 1))))) := by
      intro u hu hul
      rw [if_pos (by rw [size_B]; omega), append_B, refEsc_loop s hs d k (i + 1) _ (by omega) (by omega) (by rw [List.length_append]; omega), hu, List.append_assoc]
    have w1 := wrap_nat (x := (i : Int) + 1) (i + 1) rfl (by omega)
    rw [w1]
    clear w1
    rw [if_pos (by omega), if_pos (by omega), if_pos (by omega), if_pos (by omega)]
    simp only [Int.toNat_natCast]
    rw [hb]
    have tl : (B [c]).toList = [c] := by rw [toList_L, L_B]
    rw [tl]
    by_cases h1 : c = 38
    · subst h1
      rw [if_pos rfl]
      exact go [38, 97, 109, 112, 59] rfl (by decide)
    · rw [if_neg (by simpa using h1)]
      by_cases h2 : c = 60
      · subst h2
        rw [if_pos rfl]
        exact go [38, 108, 116, 59] rfl (by decide)
      · rw [if_neg (by simpa using h2)]
        by_cases h3 : c = 62
        · subst h3
          rw [if_pos rfl]
          exact go [38, 103, 116, 59] rfl (by decide)
        · rw [if_neg (by simpa using h3)]
          by_cases h4 : c = 34
          · subst h4
            rw [if_pos rfl]
            exact go [38, 113, 117, 111, 116, 59] rfl (by decide)
          · rw [if_neg (by simpa using h4)]
            by_cases h5 : c = 39
            · subst h5
              rw [if_pos rfl]
              exact go [38, 97, 112, 111, 115, 59] rfl (by decide)
            · rw [if_neg (by simpa using h5)]
              by_cases h6 : c = 13
              · subst h6
                rw [if_pos rfl]
                exact go [38, 35, 49, 51, 59] rfl (by decide)
              · rw [if_neg (by simpa using h6)]
                have e : escB c = [c] := by unfold escB; rw [if_neg h1, if_neg h2, if_neg h3, if_neg h4, if_neg h5, if_neg h6]
                have := go [c] e (by simp)
                rw [size_B, size_B] at *
                exact this
theorem refEsc_f (s : ByteArray) (hs : s.size ≤ 100000) (k : Nat) (hk : s.size < k) : lanternref12_Escape.f k s = some (B (escL (L s))) := by
  have := refEsc_loop s hs s.size k 0 [] (by omega) hk (by simp)
  rw [List.drop_zero] at this
  exact this

/-! ### no line feeds to turn -/
theorem index_no (old : List UInt8) (c : UInt8) (t : List UInt8) (ho : old = c :: t) : ∀ l : List UInt8, (∀ b ∈ l, b ≠ c) → Lib.index l old = -1
  | [], _ => by rw [ho]; rfl
  | b :: l, h => by
    have hp : old.isPrefixOf (b :: l) = false := by
      rw [ho]
      have : (c == b) = false := by simpa using fun e => h b (by simp) e.symm
      simp [List.isPrefixOf, this]
    rw [Lib.index, hp, index_no old c t ho l (fun x hx => h x (by simp [hx]))]
    rfl
theorem replaceK_no (old new : List UInt8) (k : Nat) (s : List UInt8) (h : Lib.index s old = -1) : Lib.replaceK old new k s = s := by
  cases k with
  | zero => rfl
  | succ k => rw [Lib.replaceK, h]; rfl
theorem replaceAll_no (old new : List UInt8) (s : List UInt8) (h : Lib.index s old = -1) : Lib.replaceAll s old new = s := by
  unfold Lib.replaceAll Lib.replace
  split
  · rfl
  · exact replaceK_no old new _ s h
theorem lines_no (l : List UInt8) (hl : l.length ≤ 1000000) (h : ∀ b ∈ l, b ≠ 13) : entity_Lines.f (B l) = some (B l) := by
  unfold entity_Lines.f strings_ReplaceAll.f
  have s1 : (⟨#[13, 10]⟩ : ByteArray).size = 2 := rfl
  have s2 : (⟨#[10]⟩ : ByteArray).size = 1 := rfl
  have s3 : (⟨#[13]⟩ : ByteArray).size = 1 := rfl
  rw [s1, s2, s3, size_B, if_pos ⟨by omega, by omega, by omega⟩, Option.bind_some]
  have e1 : (B l).data.toList = l := L_B l
  rw [e1, replaceAll_no _ _ l (index_no [13, 10] 13 [10] rfl l h), show (⟨l.toArray⟩ : ByteArray) = B l from rfl, size_B, if_pos ⟨by omega, by omega, by omega⟩, Option.bind_some, e1, replaceAll_no _ _ l (index_no [13] 13 [] rfl l h)]
  rfl
theorem Escape_f (s : ByteArray) (hs : s.size ≤ 100000) : entity_Escape.f s = (text_Xml.f s).bind fun e => if e = 0 then some (B (escL (L s)), 0) else some (B [], e) := by
  unfold entity_Escape.f
  rw [if_pos (by omega)]
  unfold text_Xml.f
  rw [if_pos (by omega)]
  by_cases hv : validD s.data.toList = true
  · rw [if_pos hv]
    have := esc_from s s.size s.size 0 (by omega) (by omega) (Nat.le_refl _) (by rw [List.drop_zero]; exact hv)
    rw [List.drop_zero] at this
    rw [this]
    rfl
  · rw [if_neg hv]
    rfl
theorem escapes_k (s : ByteArray) (k : Nat) (hk : 11 * s.size + 100000 ≤ k) : lanternlaw12_EntityEscapes.f k s = some true := by
  unfold lanternlaw12_EntityEscapes.f
  by_cases h : (s.size : Int) > 3000
  · rw [if_pos h, awake_f _ (by omega)]
    rfl
  · have haw := awake_f k (by omega)
    rw [if_neg h, Escape_f s (by omega), xml_same s (by omega) k (by omega)]
    have hx : ∃ e, text_Xml.f s = some e ∧ (e = 0 → validD (L s) = true) := by
      unfold text_Xml.f
      rw [if_pos (by omega)]
      by_cases hv : validD s.data.toList = true
      · rw [if_pos hv]
        split
        · exact ⟨_, rfl, fun _ => hv⟩
        · exact ⟨_, rfl, fun _ => hv⟩
      · rw [if_neg hv]
        exact ⟨_, rfl, fun h => absurd h (by decide)⟩
    obtain ⟨e, he, hev⟩ := hx
    rw [he, Option.bind_some]
    by_cases h0 : e = 0
    · subst h0
      have hv := hev rfl
      have hl := escL_len (L s)
      rw [← size_L] at hl
      have hu := unescOf_esc (L s) hv
      have u1 := Unescape_f (B (escL (L s))) (by rw [size_B]; omega) k (by rw [size_B]; omega)
      rw [hu] at u1
      have l1 := lines_no (escL (L s)) (by omega) (escL_no13 (L s))
      have r1 := refEsc_f s (by omega) k (by omega)
      rw [if_pos rfl, Option.bind_some, Option.bind_some, if_pos rfl]
      dsimp only
      rw [u1, Option.bind_some, l1, Option.bind_some, u1, Option.bind_some, if_pos rfl, r1, Option.bind_some, if_pos rfl]
      have e5 : (unescSays (some (L s))).1 = s := B_L s
      have e6 : (unescSays (some (L s))).2 = 0 := rfl
      rw [e5, e6, if_pos rfl, if_pos rfl, if_pos rfl, if_pos rfl, haw]
      rfl
    · rw [if_neg h0, Option.bind_some, Option.bind_some, if_neg h0]
      dsimp only
      rw [if_pos rfl, if_pos (show (B []).toList = [] from (toList_L _).trans (L_B _)), haw]
      rfl
theorem EntityEscapes (s : ByteArray) : ∃ k, lanternlaw12_EntityEscapes.f k s = some true := ⟨_, escapes_k s _ (Nat.le_refl _)⟩
end Go.Proofs.YtimffmddegnkjaaDoor.Q
