/- Runes of a text, by the reference and by the model: the same; which may stand in XML. -/
import Derived.Test.YtimffmddegnkjaaDoorB
import Derived.Test.YtimffmddegnkjaaDoorP
import Derived.Test.YtimffmddegnkjaaDoorE2
import Derived.Lib.ValidLaws
import Derived.Lib.TrimUEq
/- Rune by rune: the reference's decoder is the model's own. -/
set_option linter.unusedSimpArgs false
set_option linter.unusedVariables false
namespace Go.Proofs.YtimffmddegnkjaaDoor.Q
open Go Go.RowKit Go.Lib Go.Proofs.YtimffmddegnkjaaDoorW.PrintWords Go.Proofs.YtimffmddegnkjaaDoorB Go.Proofs.YtimffmddegnkjaaDoor.E Go.Proofs.YtimffmddegnkjaaDoor.P

/-- What the reference says of a rune of the model's decoder. -/
def says (d : Nat × Nat) : Int × Int := if d.1 = 65533 ∧ d.2 = 1 then (0, 0) else ((d.1 : Int), (d.2 : Int))
def fin (mn c n : Int) : Int × Int := if c < mn then (0, 0) else if c > 1114111 then (0, 0) else if c ≥ 55296 then (if c < 57344 then (0, 0) else (c, n)) else (c, n)
def gb (s : ByteArray) (i : Nat) : Nat := ((L s).getD i 0).toNat
theorem gb_lt (s : ByteArray) (i : Nat) : gb s i < 256 := ((L s).getD i 0).toNat_lt
theorem bt_gb (s : ByteArray) (i : Nat) : bt s (i : Int) = (gb s i : Int) := by rw [bt_L, Int.toNat_natCast]; rfl
theorem decode_gb (s : ByteArray) (p : Nat) : Utf8.decode s p = decodeN (s.size - p) (gb s p) (gb s (p + 1)) (gb s (p + 2)) (gb s (p + 3)) := by
  rw [decode_N, ← size_L]; rfl
theorem tmod_nat (a b : Nat) : Int.tmod (a : Int) (b : Int) = ((a % b : Nat) : Int) := rfl
def step (b : Nat) (x : Option (Int × Int)) : Option (Int × Int) := if b < 128 then some (0, 0) else if b ≥ 192 then some (0, 0) else x
theorem wrap_nat {x : Int} (n : Nat) (h : x = (n : Int)) (hn : n ≤ 9223372036854775807) : wrap64 x = (n : Int) := by subst h; exact wrap_id (by omega) (by omega)
theorem step_int (b : Nat) (x : Option (Int × Int)) : (if (b : Int) < 128 then some (0, 0) else if (b : Int) ≥ 192 then some (0, 0) else x) = step b x := by
  unfold step
  by_cases h1 : b < 128
  · rw [if_pos h1, if_pos (by omega)]
  · rw [if_neg h1, if_neg (by omega)]
    by_cases h2 : b ≥ 192
    · rw [if_pos h2, if_pos (by omega)]
    · rw [if_neg h2, if_neg (by omega)]
theorem rune_l0_step (k : Nat) (s : ByteArray) (p n c i b : Nat) (mn : Int) (hb : gb s (p + i) = b) (hi : i < n) (hp : p + i < s.size) (hs : s.size ≤ 1000000000) (hc : c ≤ 1000000) (hi' : i ≤ 4) :
    lanternref01_Rune.l0 (k + 1) s p n mn c i = step b (lanternref01_Rune.l0 k s p n mn (c * 64 + b % 64 : Nat) (i + 1 : Nat)) := by
  have g := gb_lt s (p + i)
  rw [hb] at g
  have h0 : (i : Int) < (n : Int) := by omega
  have h1 : 0 ≤ ((p + i : Nat) : Int) := by omega
  have h2 : ((p + i : Nat) : Int) < (s.size : Int) := by omega
  have n1 : p + i ≤ 9223372036854775807 := by omega
  have n2 : b ≤ 9223372036854775807 := by omega
  have n3 : c * 64 ≤ 9223372036854775807 := by omega
  have n4 : c * 64 + b % 64 ≤ 9223372036854775807 := by omega
  have n5 : i + 1 ≤ 9223372036854775807 := by omega
  have e2 : bt s ((p + i : Nat) : Int) = (b : Int) := by rw [bt_gb, hb]
  have e1 : wrap64 ((p : Int) + (i : Int)) = ((p + i : Nat) : Int) := wrap_nat (p + i) rfl n1
  have e3 : wrap64 (b : Int) = (b : Int) := wrap_nat b rfl n2
  have e4 : wrap64 ((c : Int) * 64) = ((c * 64 : Nat) : Int) := wrap_nat (c * 64) (Int.natCast_mul c 64).symm n3
  have e5 : Int.tmod (b : Int) 64 = ((b % 64 : Nat) : Int) := tmod_nat b 64
  have e6 : wrap64 (((c * 64 : Nat) : Int) + ((b % 64 : Nat) : Int)) = ((c * 64 + b % 64 : Nat) : Int) := wrap_nat _ rfl n4
  have e7 : wrap64 ((i : Int) + 1) = ((i + 1 : Nat) : Int) := wrap_nat (i + 1) rfl n5
  rw [← step_int]
  simp only [lanternref01_Rune.l0]
  rw [if_pos h0, e1, if_pos h1, if_pos h2, e2, e3, e4, e5, e6, e7]
theorem rune_l0_end (k : Nat) (s : ByteArray) (p n mn c : Int) : lanternref01_Rune.l0 (k + 1) s p n mn c n = some (fin mn c n) := by
  rw [lanternref01_Rune.l0]
  unfold fin
  rw [if_neg (by omega)]
  by_cases h1 : c < mn
  · rw [if_pos h1, if_pos h1]
  · rw [if_neg h1, if_neg h1]
    by_cases h2 : c > 1114111
    · rw [if_pos h2, if_pos h2]
    · rw [if_neg h2, if_neg h2]
      by_cases h3 : c ≥ 55296
      · rw [if_pos h3, if_pos h3]
        by_cases h4 : c < 57344
        · rw [if_pos h4, if_pos h4]
        · rw [if_neg h4, if_neg h4]
      · rw [if_neg h3, if_neg h3]
theorem j2_short (k : Nat) (s : ByteArray) (p n : Nat) (mn c : Int) (hs : s.size ≤ 1000000000) (hp : p < s.size) (hn : n ≤ 4) (h : s.size < p + n) : lanternref01_Rune.j2 (k + 1) s p n mn c = some (0, 0) := by
  rw [lanternref01_Rune.j2, wrap_id (by omega) (by omega), if_pos (by omega)]
theorem j2_long (k : Nat) (s : ByteArray) (p n : Nat) (mn c : Int) (hs : s.size ≤ 1000000000) (hp : p < s.size) (hn : n ≤ 4) (h : p + n ≤ s.size) : lanternref01_Rune.j2 (k + 1) s p n mn c = lanternref01_Rune.l0 k s p n mn c 1 := by
  rw [lanternref01_Rune.j2, wrap_id (by omega) (by omega), if_neg (by omega)]
/-- What comes of the code point V of w bytes, if the decoder asks that it be at least mn. -/
theorem says_fin (V w mn : Nat) (hw : 2 ≤ w) : says (if mn ≤ V ∧ (V < 55296 ∨ (57344 ≤ V ∧ V ≤ 1114111)) then (V, w) else (65533, 1)) = fin mn V w := by
  have bad : says (65533, 1) = (0, 0) := rfl
  by_cases hc : mn ≤ V ∧ (V < 55296 ∨ (57344 ≤ V ∧ V ≤ 1114111))
  · rw [if_pos hc]
    unfold says fin
    rw [if_neg (show ¬ ((V, w).1 = 65533 ∧ (V, w).2 = 1) from fun h => by have : w = 1 := h.2; omega), if_neg (show ¬ ((V : Int) < (mn : Int)) by omega), if_neg (show ¬ ((V : Int) > 1114111) by omega)]
    by_cases h3 : V ≥ 55296
    · rw [if_pos (show ((V : Int) ≥ 55296) by omega), if_neg (show ¬ ((V : Int) < 57344) by omega)]
    · rw [if_neg (show ¬ ((V : Int) ≥ 55296) by omega)]
  · rw [if_neg hc, bad]
    unfold fin
    by_cases h1 : V < mn
    · rw [if_pos (show ((V : Int) < (mn : Int)) by omega)]
    · rw [if_neg (show ¬ ((V : Int) < (mn : Int)) by omega)]
      by_cases h2 : V > 1114111
      · rw [if_pos (show ((V : Int) > 1114111) by omega)]
      · rw [if_neg (show ¬ ((V : Int) > 1114111) by omega), if_pos (show ((V : Int) ≥ 55296) by omega), if_pos (show ((V : Int) < 57344) by omega)]
theorem says_bad : says (65533, 1) = (0, 0) := rfl
theorem two (b0 b1 b2 b3 n : Nat) (h0 : 194 ≤ b0) (h0' : b0 < 224) (h1 : b1 < 256) (hn : 2 ≤ n) :
    some (says (decodeN n b0 b1 b2 b3)) = step b1 (some (fin 128 ((b0 % 32 * 64 + b1 % 64 : Nat) : Int) 2)) := by
  unfold decodeN step
  rw [if_neg (by omega : ¬ b0 < 128)]
  by_cases q : b1 / 64 = 2
  · have hV : b0 % 32 * 64 + b1 % 64 ≥ 128 := by omega
    rw [if_pos ⟨by omega, by omega, q⟩, if_neg (by omega : ¬ b1 < 128), if_neg (by omega : ¬ b1 ≥ 192), if_pos hV]
    have f := says_fin (b0 % 32 * 64 + b1 % 64) 2 128 (by omega)
    rw [if_pos ⟨hV, by omega⟩] at f
    exact congrArg some f
  · rw [if_neg (fun h => q h.2.2), if_neg (by omega), if_neg (by omega), says_bad]
    by_cases r : b1 < 128
    · rw [if_pos r]
    · rw [if_neg r, if_pos (by omega)]
theorem short2 (b0 b1 b2 b3 n : Nat) (h0 : 194 ≤ b0) (h0' : b0 < 224) (hn : n < 2) : says (decodeN n b0 b1 b2 b3) = (0, 0) := by
  unfold decodeN
  rw [if_neg (by omega), if_neg (by omega), if_neg (by omega), if_neg (by omega), says_bad]
theorem three (b0 b1 b2 b3 n : Nat) (h0 : 224 ≤ b0) (h0' : b0 < 240) (h1 : b1 < 256) (h2 : b2 < 256) (hn : 3 ≤ n) :
    some (says (decodeN n b0 b1 b2 b3)) = step b1 (step b2 (some (fin 2048 (((b0 % 16 * 64 + b1 % 64) * 64 + b2 % 64 : Nat) : Int) 3))) := by
  unfold decodeN step
  have e : (b0 % 16 * 64 + b1 % 64) * 64 + b2 % 64 = b0 % 16 * 4096 + b1 % 64 * 64 + b2 % 64 := by omega
  rw [e, if_neg (by omega : ¬ b0 < 128), if_neg (by omega)]
  by_cases q : b1 / 64 = 2
  · rw [if_neg (by omega : ¬ b1 < 128), if_neg (by omega : ¬ b1 ≥ 192)]
    by_cases q2 : b2 / 64 = 2
    · rw [if_pos ⟨by omega, ⟨by omega, q⟩, by omega, q2⟩, if_neg (by omega : ¬ b2 < 128), if_neg (by omega : ¬ b2 ≥ 192)]
      exact congrArg some (says_fin _ 3 2048 (by omega))
    · rw [if_neg (fun h => q2 h.2.2.2), if_neg (by omega), says_bad]
      by_cases r : b2 < 128
      · rw [if_pos r]
      · rw [if_neg r, if_pos (by omega)]
  · rw [if_neg (fun h => q h.2.1.2), if_neg (by omega), says_bad]
    by_cases r : b1 < 128
    · rw [if_pos r]
    · rw [if_neg r, if_pos (by omega)]
theorem short3 (b0 b1 b2 b3 n : Nat) (h0 : 224 ≤ b0) (h0' : b0 < 240) (hn : n < 3) : says (decodeN n b0 b1 b2 b3) = (0, 0) := by
  unfold decodeN
  rw [if_neg (by omega), if_neg (by omega), if_neg (by omega), if_neg (by omega), says_bad]
theorem four (b0 b1 b2 b3 n : Nat) (h0 : 240 ≤ b0) (h0' : b0 < 245) (h1 : b1 < 256) (h2 : b2 < 256) (h3 : b3 < 256) (hn : 4 ≤ n) :
    some (says (decodeN n b0 b1 b2 b3)) = step b1 (step b2 (step b3 (some (fin 65536 ((((b0 % 8 * 64 + b1 % 64) * 64 + b2 % 64) * 64 + b3 % 64 : Nat) : Int) 4)))) := by
  unfold decodeN step
  have e : ((b0 % 8 * 64 + b1 % 64) * 64 + b2 % 64) * 64 + b3 % 64 = b0 % 8 * 262144 + b1 % 64 * 4096 + b2 % 64 * 64 + b3 % 64 := by omega
  rw [e, if_neg (by omega : ¬ b0 < 128), if_neg (by omega), if_neg (by omega)]
  by_cases q : b1 / 64 = 2
  · rw [if_neg (by omega : ¬ b1 < 128), if_neg (by omega : ¬ b1 ≥ 192)]
    by_cases q2 : b2 / 64 = 2
    · rw [if_neg (by omega : ¬ b2 < 128), if_neg (by omega : ¬ b2 ≥ 192)]
      by_cases q3 : b3 / 64 = 2
      · rw [if_pos ⟨by omega, ⟨by omega, q⟩, ⟨by omega, q2⟩, by omega, q3⟩, if_neg (by omega : ¬ b3 < 128), if_neg (by omega : ¬ b3 ≥ 192)]
        exact congrArg some (says_fin _ 4 65536 (by omega))
      · rw [if_neg (fun h => q3 h.2.2.2.2), says_bad]
        by_cases r : b3 < 128
        · rw [if_pos r]
        · rw [if_neg r, if_pos (by omega)]
    · rw [if_neg (fun h => q2 h.2.2.1.2), says_bad]
      by_cases r : b2 < 128
      · rw [if_pos r]
      · rw [if_neg r, if_pos (by omega)]
  · rw [if_neg (fun h => q h.2.1.2), says_bad]
    by_cases r : b1 < 128
    · rw [if_pos r]
    · rw [if_neg r, if_pos (by omega)]
theorem short4 (b0 b1 b2 b3 n : Nat) (h0 : 240 ≤ b0) (h0' : b0 < 245) (hn : n < 4) : says (decodeN n b0 b1 b2 b3) = (0, 0) := by
  unfold decodeN
  rw [if_neg (by omega), if_neg (by omega), if_neg (by omega), if_neg (by omega), says_bad]
theorem rune_f (s : ByteArray) (hs : s.size ≤ 1000000000) (p : Nat) (hp : p < s.size) (k : Nat) (hk : 12 < k) : lanternref01_Rune.f k s p = some (says (Utf8.decode s p)) := by
  obtain ⟨k, rfl⟩ : ∃ m, k = m + 1 + 1 + 1 + 1 + 1 + 1 + 1 + 1 := ⟨k - 8, by omega⟩
  rw [decode_gb]
  have g0 := gb_lt s p
  have g1 := gb_lt s (p + 1)
  have g2 := gb_lt s (p + 2)
  have g3 := gb_lt s (p + 3)
  generalize hb0 : gb s p = b0 at *
  generalize hb1 : gb s (p + 1) = b1 at *
  generalize hb2 : gb s (p + 2) = b2 at *
  generalize hb3 : gb s (p + 3) = b3 at *
  unfold lanternref01_Rune.f
  rw [if_pos (by omega), if_pos (by omega), bt_gb, hb0, wrap_nat b0 rfl (by omega)]
  by_cases h1 : b0 < 128
  · rw [if_pos (by omega)]
    unfold decodeN says
    rw [if_pos h1, if_neg (by dsimp only; omega)]
    rfl
  · rw [if_neg (by omega)]
    by_cases h2 : b0 < 194
    · rw [if_neg (by omega), lanternref01_Rune.j0, if_neg (by simp), if_neg (by omega), lanternref01_Rune.j1, if_neg (by simp), if_neg (by omega), decodeN_bad _ _ _ _ _ (.inl ⟨by omega, h2⟩), says_bad]
    · rw [if_pos (by omega)]
      by_cases h3 : b0 < 224
      · have et : Int.tmod (b0 : Int) 32 = ((b0 % 32 : Nat) : Int) := tmod_nat b0 32
        rw [lanternref01_Rune.j0, if_pos (by simpa using by omega), et]
        by_cases hn : s.size < p + 2
        · exact (j2_short _ s p 2 _ _ hs hp (by omega) hn).trans (congrArg some (short2 _ _ _ _ _ (by omega) h3 (by omega)).symm)
        · have e := rune_l0_step (k + 1 + 1 + 1 + 1 + 1) s p 2 (b0 % 32) 1 b1 128 hb1 (by omega) (by omega) hs (by omega) (by omega)
          have e' := rune_l0_end (k + 1 + 1 + 1 + 1) s p 2 128 ((b0 % 32 * 64 + b1 % 64 : Nat) : Int)
          rw [two _ _ _ _ _ (by omega) h3 g1 (by omega), ← e']
          exact (j2_long _ s p 2 _ _ hs hp (by omega) (by omega)).trans e
      · rw [lanternref01_Rune.j0, if_neg (by simpa using by omega), if_pos (by omega), lanternref01_Rune.j1]
        by_cases h4 : b0 < 240
        · have et : Int.tmod (b0 : Int) 16 = ((b0 % 16 : Nat) : Int) := tmod_nat b0 16
          rw [if_pos (by simpa using by omega), et]
          by_cases hn : s.size < p + 3
          · exact (j2_short _ s p 3 _ _ hs hp (by omega) hn).trans (congrArg some (short3 _ _ _ _ _ (by omega) h4 (by omega)).symm)
          · have e := rune_l0_step (k + 1 + 1 + 1 + 1) s p 3 (b0 % 16) 1 b1 2048 hb1 (by omega) (by omega) hs (by omega) (by omega)
            have f := rune_l0_step (k + 1 + 1 + 1) s p 3 (b0 % 16 * 64 + b1 % 64) 2 b2 2048 hb2 (by omega) (by omega) hs (by omega) (by omega)
            have e' := rune_l0_end (k + 1 + 1) s p 3 2048 (((b0 % 16 * 64 + b1 % 64) * 64 + b2 % 64 : Nat) : Int)
            rw [three _ _ _ _ _ (by omega) h4 g1 g2 (by omega), ← e']
            exact (j2_long _ s p 3 _ _ hs hp (by omega) (by omega)).trans (e.trans (congrArg (step b1) f))
        · rw [if_neg (by simpa using by omega), if_pos (by omega)]
          by_cases h5 : b0 < 245
          · have et : Int.tmod (b0 : Int) 8 = ((b0 % 8 : Nat) : Int) := tmod_nat b0 8
            rw [if_pos (by omega), et]
            by_cases hn : s.size < p + 4
            · exact (j2_short _ s p 4 _ _ hs hp (by omega) hn).trans (congrArg some (short4 _ _ _ _ _ (by omega) h5 (by omega)).symm)
            · have e := rune_l0_step (k + 1 + 1 + 1 + 1) s p 4 (b0 % 8) 1 b1 65536 hb1 (by omega) (by omega) hs (by omega) (by omega)
              have f := rune_l0_step (k + 1 + 1 + 1) s p 4 (b0 % 8 * 64 + b1 % 64) 2 b2 65536 hb2 (by omega) (by omega) hs (by omega) (by omega)
              have f3 := rune_l0_step (k + 1 + 1) s p 4 ((b0 % 8 * 64 + b1 % 64) * 64 + b2 % 64) 3 b3 65536 hb3 (by omega) (by omega) hs (by omega) (by omega)
              have e' := rune_l0_end (k + 1) s p 4 65536 ((((b0 % 8 * 64 + b1 % 64) * 64 + b2 % 64) * 64 + b3 % 64 : Nat) : Int)
              rw [four _ _ _ _ _ (by omega) h5 g1 g2 g3 (by omega), ← e']
              exact (j2_long _ s p 4 _ _ hs hp (by omega) (by omega)).trans (e.trans (congrArg (step b1) (f.trans (congrArg (step b2) f3))))
          · rw [if_neg (by omega), decodeN_bad _ _ _ _ _ (.inr ⟨by omega, g0⟩), says_bad]
end Go.Proofs.YtimffmddegnkjaaDoor.Q
set_option linter.unusedSimpArgs false
set_option linter.unusedVariables false
namespace Go.Proofs.YtimffmddegnkjaaDoor.Q
open Go Go.RowKit Go.Lib Go.Proofs.YtimffmddegnkjaaDoorW.PrintWords Go.Proofs.YtimffmddegnkjaaDoorB Go.Proofs.YtimffmddegnkjaaDoor.E Go.Proofs.YtimffmddegnkjaaDoor.P

abbrev dec (s : ByteArray) (p : Nat) : Nat × Nat := Utf8.decode s p
theorem dec_width (s : ByteArray) (p : Nat) (h : p < s.size) : 1 ≤ (dec s p).2 ∧ p + (dec s p).2 ≤ s.size := by
  unfold dec
  rw [decode_gb]
  rcases decodeN_shape (s.size - p) (gb s p) (gb s (p + 1)) (gb s (p + 2)) (gb s (p + 3)) with ⟨c, e⟩ | ⟨c1, c2, c3, cv, e⟩ | ⟨c1, c2, c3, c4, cv, cs, e⟩ | ⟨c1, c2, c3, c4, c5, cv, cw, e⟩ | e
  all_goals (rw [e]; dsimp only; omega)
theorem dec_range (s : ByteArray) (p : Nat) : (dec s p).1 < 55296 ∨ 57344 ≤ (dec s p).1 := by
  unfold dec
  rw [decode_gb]
  have g := gb_lt s p
  rcases decodeN_shape (s.size - p) (gb s p) (gb s (p + 1)) (gb s (p + 2)) (gb s (p + 3)) with ⟨c, e⟩ | ⟨c1, c2, c3, cv, e⟩ | ⟨c1, c2, c3, c4, cv, cs, e⟩ | ⟨c1, c2, c3, c4, c5, cv, cw, e⟩ | e
  all_goals (rw [e]; dsimp only; omega)
theorem decodeN_cut (n m b0 b1 b2 b3 d1 d2 d3 : Nat) (hv : ¬ ((decodeN n b0 b1 b2 b3).1 = 65533 ∧ (decodeN n b0 b1 b2 b3).2 = 1)) (hm : (decodeN n b0 b1 b2 b3).2 ≤ m)
    (h1 : 1 < m → d1 = b1) (h2 : 2 < m → d2 = b2) (h3 : 3 < m → d3 = b3) : decodeN m b0 d1 d2 d3 = decodeN n b0 b1 b2 b3 := by
  rcases decodeN_shape n b0 b1 b2 b3 with ⟨c, e⟩ | ⟨c1, c2, c3, cv, e⟩ | ⟨c1, c2, c3, c4, cv, cs, e⟩ | ⟨c1, c2, c3, c4, c5, cv, cw, e⟩ | e
  · rw [e]
    unfold decodeN
    rw [if_pos c]
  · rw [e] at hm ⊢
    dsimp only at hm
    obtain rfl := h1 (by omega)
    unfold decodeN
    rw [if_neg (by omega), if_pos ⟨by omega, by omega, by omega⟩, if_pos (by omega)]
  · rw [e] at hm ⊢
    dsimp only at hm
    obtain rfl := h1 (by omega)
    obtain rfl := h2 (by omega)
    unfold decodeN
    rw [if_neg (by omega), if_neg (by omega), if_pos ⟨by omega, ⟨by omega, by omega⟩, by omega, by omega⟩, if_pos ⟨by omega, by omega⟩]
  · rw [e] at hm ⊢
    dsimp only at hm
    obtain rfl := h1 (by omega)
    obtain rfl := h2 (by omega)
    obtain rfl := h3 (by omega)
    unfold decodeN
    rw [if_neg (by omega), if_neg (by omega), if_neg (by omega), if_pos ⟨by omega, ⟨by omega, by omega⟩, ⟨by omega, by omega⟩, by omega, by omega⟩, if_pos ⟨by omega, by omega⟩]
  · exact absurd ⟨by rw [e], by rw [e]⟩ hv
/-- A text cut behind a rune that stands well begins with that rune. -/
theorem dec_cut (s : ByteArray) (q p : Nat) (hq : q ≤ s.size) (hp : p < q) (hv : ¬ ((dec s p).1 = 65533 ∧ (dec s p).2 = 1)) (hw : p + (dec s p).2 ≤ q) : dec (s.extract 0 q) p = dec s p := by
  have hsz : (s.extract 0 q).size = q := by rw [size_L, L_extract]; simp; omega
  have hg : ∀ j, j < q → gb (s.extract 0 q) j = gb s j := fun j hj => by
    unfold gb
    rw [L_extract, List.drop_zero]
    simp [List.getD_eq_getElem?_getD, List.getElem?_take, hj]
  unfold dec at *
  rw [decode_gb s] at hv hw
  rw [decode_gb, decode_gb, hsz, hg p hp]
  exact decodeN_cut (s.size - p) (q - p) _ _ _ _ _ _ _ hv (by omega) (fun h => hg _ (by omega)) (fun h => hg _ (by omega)) (fun h => hg _ (by omega))

def runesFrom (s : ByteArray) : Nat → Nat → List Int
  | 0, _ => []
  | b + 1, p => if p < s.size then ((dec s p).1 : Int) :: runesFrom s b (p + (dec s p).2) else []
theorem runesFrom_end (s : ByteArray) (b p : Nat) (h : ¬ p < s.size) : runesFrom s b p = [] := by
  cases b <;> simp [runesFrom, h]
theorem runesFrom_length (s : ByteArray) : ∀ b p, (runesFrom s b p).length = runeCountFrom s b p
  | 0, _ => rfl
  | b + 1, p => by
    rw [runesFrom, runeCountFrom]
    split
    · have e : dec s p = Utf8.decode s p := rfl
      rw [List.length_cons, runesFrom_length s b, e]; omega
    · rfl
theorem runesFrom_le (s : ByteArray) (b p : Nat) : (runesFrom s b p).length ≤ b := by rw [runesFrom_length]; exact runeCountFrom_le s b p
theorem valid_step (s : ByteArray) (p : Nat) (h : p < s.size) : validD ((L s).drop p) = if (dec s p).1 = 65533 ∧ (dec s p).2 = 1 then false else validD ((L s).drop (p + (dec s p).2)) := by
  have hne : (L s).drop p ≠ [] := by
    intro h0
    have := congrArg List.length h0
    rw [List.length_drop, ← size_L] at this
    simp at this
    omega
  have e : decodeL ((L s).drop p) = dec s p := decodeL_drop s p
  rw [validD_step _ hne, e, List.drop_drop]
theorem valid_end (s : ByteArray) (p : Nat) (h : ¬ p < s.size) : validD ((L s).drop p) = true := by
  rw [List.drop_eq_nil_of_le (by rw [← size_L]; omega)]
  rfl
theorem says_of (d : Nat × Nat) (h : ¬ (d.1 = 65533 ∧ d.2 = 1)) : says d = ((d.1 : Int), (d.2 : Int)) := by unfold says; rw [if_neg h]
theorem runes_loop (s : ByteArray) (hs : s.size ≤ 1000000) : ∀ (b k p : Nat) (acc : List Int), p ≤ s.size → s.size ≤ p + b → b + 20 < k → acc.length + b ≤ 4000000 →
    lanternref01_Runes.l0 k s acc p = some (if validD ((L s).drop p) = true then (acc ++ runesFrom s b p, true) else ([], false))
  | b, k, p, acc, hp, hb, hk, ha => by
    obtain ⟨k, rfl⟩ : ∃ m, k = m + 1 := ⟨k - 1, by omega⟩
    rw [lanternref01_Runes.l0]
    by_cases h : p < s.size
    · rw [if_pos (by omega), rune_f s (by omega) p h k (by omega), valid_step s p h]
      simp only [Option.bind_some]
      by_cases hv : (dec s p).1 = 65533 ∧ (dec s p).2 = 1
      · have e : says (dec s p) = (0, 0) := by unfold says; rw [if_pos hv]
        rw [e, if_pos rfl, if_pos hv]
        rfl
      · have hw := dec_width s p h
        obtain ⟨b, rfl⟩ : ∃ m, b = m + 1 := ⟨b - 1, by omega⟩
        rw [says_of _ hv, if_neg (by dsimp only; omega), if_neg hv, if_pos (by omega), runesFrom, if_pos h]
        dsimp only
        rw [wrap_nat (x := (p : Int) + ((dec s p).2 : Int)) (p + (dec s p).2) rfl (by omega), runes_loop s hs b k (p + (dec s p).2) (acc ++ [((dec s p).1 : Int)]) (by omega) (by omega) (by omega) (by rw [List.length_append, List.length_singleton]; omega)]
        simp
    · rw [if_neg (by omega), valid_end s p h, runesFrom_end s b p h]
      simp
theorem runes_f (s : ByteArray) (hs : s.size ≤ 1000000) (k : Nat) (hk : s.size + 20 < k) :
    lanternref01_Runes.f k s = some (if validD (L s) = true then (runesFrom s s.size 0, true) else ([], false)) := by
  have := runes_loop s hs s.size k 0 [] (by omega) (by omega) hk (by simp; omega)
  rw [List.drop_zero] at this
  unfold lanternref01_Runes.f
  exact this

/-! ### checks -/
theorem xml_loop (l : List Int) (hl : l.length ≤ 1000000) (hr : ∀ c ∈ l, 0 ≤ c ∧ (c < 55296 ∨ 57344 ≤ c)) : ∀ (d k i : Nat), i + d = l.length → d < k →
    lanternref01_Xml.l0 k l i = some ((l.drop i).all standsB)
  | d, k, i, hd, hk => by
    obtain ⟨k, rfl⟩ : ∃ m, k = m + 1 := ⟨k - 1, by omega⟩
    by_cases h : i < l.length
    · obtain ⟨d, rfl⟩ : ∃ m, d = m + 1 := ⟨d - 1, by omega⟩
      have ih := xml_loop l hl hr d k (i + 1) (by omega) (by omega)
      have hrd : rd l (i : Int) = l[i] := by
        unfold rd
        rw [Int.toNat_natCast, List.getD_eq_getElem?_getD, List.getElem?_eq_getElem h, Option.getD_some]
      have hc := hr l[i] (List.getElem_mem h)
      rw [List.drop_eq_getElem_cons h, List.all_cons]
      have hlt : ((i : Nat) : Int) < ((l.length : Nat) : Int) := by omega
      have h0 : 0 ≤ ((i : Nat) : Int) := by omega
      have hw : wrap64 ((i : Int) + 1) = ((i + 1 : Nat) : Int) := wrap_nat (i + 1) rfl (by omega)
      rw [lanternref01_Xml.l0, if_pos hlt, if_pos h0, hrd, hw, ih]
      clear hw ih hrd hlt h0
      generalize l[i] = c at *
      generalize (List.drop (i + 1) l).all standsB = z
      unfold standsB
      by_cases a1 : c = 9
      · subst a1; simp
      · by_cases a2 : c = 10
        · subst a2; simp
        · by_cases a3 : c = 13
          · subst a3; simp
          · rw [if_neg a1, if_neg a2, if_neg a3]
            by_cases a4 : c ≥ 32
            · rw [if_pos a4, if_neg (show ¬ c < 32 by omega)]
              by_cases a5 : c ≤ 55295
              · rw [if_pos a5]
                have b1 : (c != 65534) = true := by simp; omega
                have b2 : (c != 65535) = true := by simp; omega
                rw [b1, b2]; rfl
              · rw [if_neg a5, if_pos (show c ≥ 57344 by omega)]
                by_cases a6 : c ≤ 65533
                · rw [if_pos a6]
                  have b1 : (c != 65534) = true := by simp; omega
                  have b2 : (c != 65535) = true := by simp; omega
                  rw [b1, b2]; rfl
                · rw [if_neg a6]
                  by_cases a7 : c ≥ 65536
                  · rw [if_pos a7]
                    have b1 : (c != 65534) = true := by simp; omega
                    have b2 : (c != 65535) = true := by simp; omega
                    rw [b1, b2]; rfl
                  · rw [if_neg a7]
                    have b : c = 65534 ∨ c = 65535 := by omega
                    rcases b with rfl | rfl <;> simp
            · rw [if_neg a4, if_neg (show ¬ c ≥ 57344 by omega), if_neg (show ¬ c ≥ 65536 by omega), if_pos (show c < 32 by omega)]
              have b1 : (c == 9) = false := by simpa using a1
              have b2 : (c == 10) = false := by simpa using a2
              have b3 : (c == 13) = false := by simpa using a3
              rw [b1, b2, b3]; rfl
    · have hlt : ¬ ((i : Nat) : Int) < ((l.length : Nat) : Int) := by omega
      rw [lanternref01_Xml.l0, if_neg hlt, List.drop_eq_nil_of_le (by omega)]
      rfl
theorem runes_range (s : ByteArray) : ∀ b p, ∀ c ∈ runesFrom s b p, 0 ≤ c ∧ (c < 55296 ∨ 57344 ≤ c)
  | 0, _, c, h => by simp [runesFrom] at h
  | b + 1, p, c, h => by
    rw [runesFrom] at h
    split at h
    · rcases List.mem_cons.1 h with rfl | h
      · have := dec_range s p
        omega
      · exact runes_range s b _ c h
    · simp at h
theorem runes_xml (s : ByteArray) : ∀ b p, (runesFrom s b p).all standsB = xmlFrom s b p
  | 0, _ => rfl
  | b + 1, p => by
    rw [runesFrom, xmlFrom]
    split
    · rw [List.all_cons, runes_xml s b]
      by_cases h : standsB ((dec s p).1 : Int) = true
      · rw [if_pos h, h]; rfl
      · rw [if_neg h]
        have h' : standsB ((dec s p).1 : Int) = false := by simpa using h
        rw [h']; rfl
    · rfl
theorem xml_same (s : ByteArray) (hs : s.size ≤ 1000000) (k : Nat) (hk : s.size + 20 < k) : lanternref01_Check.f k s = text_Xml.f s := by
  unfold lanternref01_Check.f text_Xml.f lanternref01_Xml.f
  rw [runes_f s hs k hk, if_pos (show s.size < 9223372036854775807 by omega)]
  simp only [Option.bind_some]
  by_cases hv : validD (L s) = true
  · have hl := runesFrom_le s s.size 0
    have e := xml_loop (runesFrom s s.size 0) (by omega) (runes_range s _ _) (runesFrom s s.size 0).length k 0 (by omega) (by omega)
    rw [List.drop_zero, runes_xml] at e
    simp only [if_pos hv, if_true]
    have e' : lanternref01_Xml.l0 k (runesFrom s s.size 0) 0 = some (xmlFrom s s.size 0) := e
    rw [e']
    simp only [Option.bind_some]
  · simp only [if_neg hv, Bool.false_eq_true, if_false]
end Go.Proofs.YtimffmddegnkjaaDoor.Q
