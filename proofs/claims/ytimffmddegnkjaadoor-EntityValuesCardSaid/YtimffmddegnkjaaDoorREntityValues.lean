/- The law EntityValues returns true, and its arguments read as they did, for every string. Conditions: none but those of the row (entered from a started program; the listed variables read as the program's text lays them, which the card ties to that text). (Written by a program of this session, wip/gen/mkrow.py; Lean checks it.) -/
import Derived.Test.YtimffmddegnkjaaDoorWWords
import Derived.Lib.SlTrimSet
import Derived.Lib.Join
import Derived.Lib.MapLaws
import Derived.Test.YtimffmddegnkjaaDoorP
import Derived.Test.YtimffmddegnkjaaDoorE2
import Derived.Lib.ValidLaws
import Derived.Lib.TrimUEq
import Derived.Test.YtimffmddegnkjaaDoorZ
import Derived.Lib.ReplaceLaws
import Derived.Test.YtimffmddegnkjaaDoorR0
import Derived.Test.YtimffmddegnkjaaDoorRows
import Derived.WalkKit
import Derived.ProofKit
import Derived.OpenShut
import Derived.ShutString
import Derived.ChangeOld
import Derived.Below
import Derived.SizedLaws
import Derived.JoinedOf
import Derived.Test.YtimffmddegnkjaaDoorCards
import Derived.Test.YtimffmddegnkjaaDoorTie
import Derived.SevenTiedAt
/- The law EntityValues: line feeds alone, and an attribute's value. -/
/- The program's loop is the plain function too; the law EntityUnescapes. -/
/- Runes of a text, by the reference and by the model: the same; which may stand in XML. -/
/- Plain lemmas on texts, as lists of bytes; no program in sight. -/
namespace Go.Proofs.YtimffmddegnkjaaDoorB
open Go Go.RowKit Go.Lib Go.Proofs.YtimffmddegnkjaaDoorW.PrintWords

/-! ### texts and their bytes -/
abbrev L (s : ByteArray) : List UInt8 := s.data.toList
def B (l : List UInt8) : ByteArray := ⟨l.toArray⟩
@[simp] theorem L_B (l : List UInt8) : L (B l) = l := by simp [L, B]
@[simp] theorem B_L (s : ByteArray) : B (L s) = s := by cases s; simp [L, B]
theorem L_inj {s t : ByteArray} (h : L s = L t) : s = t := by rw [← B_L s, ← B_L t, h]
theorem B_inj {l m : List UInt8} (h : B l = B m) : l = m := by rw [← L_B l, ← L_B m, h]
theorem size_L (s : ByteArray) : s.size = (L s).length := by cases s; simp [L, ByteArray.size]
theorem size_B (l : List UInt8) : (B l).size = l.length := by rw [size_L, L_B]
theorem L_extract (s : ByteArray) (a b : Nat) : L (s.extract a b) = ((L s).take b).drop a := by
  simp [L, ByteArray.extract, ByteArray.copySlice]
  try rw [List.drop_take]
theorem extract_B (l : List UInt8) (a b : Nat) : (B l).extract a b = B ((l.take b).drop a) := by
  apply L_inj; rw [L_extract, L_B, L_B]
theorem L_append (s t : ByteArray) : L (s ++ t) = L s ++ L t := by simp [L]
theorem append_B (l m : List UInt8) : B l ++ B m = B (l ++ m) := by
  apply L_inj; rw [L_append, L_B, L_B, L_B]
theorem toList_L (s : ByteArray) : s.toList = L s := Go.ByteArray.toList_eq s
theorem empty_B : (ByteArray.empty) = B [] := rfl
theorem nil_B : (⟨#[]⟩ : ByteArray) = B [] := rfl
theorem bt_L (s : ByteArray) (i : Int) : bt s i = (((L s).getD i.toNat 0).toNat : Int) := by
  unfold bt
  by_cases h : i.toNat < s.size
  · rw [dif_pos h]
    have h' : i.toNat < (L s).length := by rw [← size_L]; exact h
    rw [List.getD_eq_getElem?_getD, List.getElem?_eq_getElem h', Option.getD_some]
    rfl
  · rw [dif_neg h]
    have h' : ¬ i.toNat < (L s).length := by rw [← size_L]; exact h
    rw [List.getD_eq_getElem?_getD, List.getElem?_eq_none (by omega)]
    rfl
theorem bt_B (l : List UInt8) (i : Int) : bt (B l) i = ((l.getD i.toNat 0).toNat : Int) := by rw [bt_L, L_B]
theorem wrap_id {x : Int} (h0 : -9223372036854775808 ≤ x) (h1 : x ≤ 9223372036854775807) : wrap64 x = x := by unfold wrap64; omega
theorem getD_drop (l : List UInt8) (i : Nat) (h : i < l.length) : l.drop i = l.getD i 0 :: l.drop (i + 1) := by
  rw [List.getD_eq_getElem?_getD, List.getElem?_eq_getElem h, Option.getD_some]
  exact List.drop_eq_getElem_cons h
theorem take_getD (l : List UInt8) (i : Nat) (h : i < l.length) : l.take (i + 1) = l.take i ++ [l.getD i 0] := by
  rw [List.getD_eq_getElem?_getD, List.getElem?_eq_getElem h, Option.getD_some]
  rw [List.take_succ_eq_append_getElem h]
end Go.Proofs.YtimffmddegnkjaaDoorB
/- Rune by rune: the reference's decoder is the model's own. -/
set_option linter.unusedSimpArgs false
set_option linter.unusedVariables false
namespace Go.Proofs.YtimffmddegnkjaaDoor.Q
open Go Go.RowKit Go.Lib Go.Proofs.YtimffmddegnkjaaDoorW.PrintWords Go.Proofs.YtimffmddegnkjaaDoorB Go.Proofs.YtimffmddegnkjaaDoor.E Go.Proofs.YtimffmddegnkjaaDoor.P

/-- What the reference says of a rune of the model's decoder. -/
def says (d : Nat × Nat) : Int × Int := if d.1 = 65533 ∧ d.2 = 1 then (0, 0) else ((d.1 : Int), (d.2 : Int))
def fin (mn c n : Int) : Int × Int := if c < mn then (0, 0) else if c > 1114111 then (0, 0) else if c ≥ 55296 then (if c < 57344 then (0, 0) else (c, n)) else (c, n)
def gb (s : ByteArray) (i : Nat) : Nat := ((L s).getD i 0).toNat
theorem gb_lt (s : ByteArray) (i : Nat) : gb s i < 256 := ((L s).getD i 0).toNat_lt
theorem bt_gb (s : ByteArray) (i : Nat) : bt s (i : Int) = (gb s i : Int) := by rw [bt_L, Int.toNat_natCast]; rfl
theorem decode_gb (s : ByteArray) (p : Nat) : Utf8.decode s p = decodeN (s.size - p) (gb s p) (gb s (p + 1)) (gb s (p + 2)) (gb s (p + 3)) := by
  rw [decode_N, ← size_L]; rfl
theorem tmod_nat (a b : Nat) : Int.tmod (a : Int) (b : Int) = ((a % b : Nat) : Int) := rfl
def step (b : Nat) (x : Option (Int × Int)) : Option (Int × Int) := if b < 128 then some (0, 0) else if b ≥ 192 then some (0, 0) else x
theorem wrap_nat {x : Int} (n : Nat) (h : x = (n : Int)) (hn : n ≤ 9223372036854775807) : wrap64 x = (n : Int) := by subst h; exact wrap_id (by omega) (by omega)
theorem step_int (b : Nat) (x : Option (Int × Int)) : (if (b : Int) < 128 then some (0, 0) else if (b : Int) ≥ 192 then some (0, 0) else x) = step b x := by
  unfold step
  by_cases h1 : b < 128
  · rw [if_pos h1, if_pos (by omega)]
  · rw [if_neg h1, if_neg (by omega)]
    by_cases h2 : b ≥ 192
    · rw [if_pos h2, if_pos (by omega)]
    · rw [if_neg h2, if_neg (by omega)]
theorem rune_l0_step (k : Nat) (s : ByteArray) (p n c i b : Nat) (mn : Int) (hb : gb s (p + i) = b) (hi : i < n) (hp : p + i < s.size) (hs : s.size ≤ 1000000000) (hc : c ≤ 1000000) (hi' : i ≤ 4) :
    lanternref01_Rune.l0 (k + 1) s p n mn c i = step b (lanternref01_Rune.l0 k s p n mn (c * 64 + b % 64 : Nat) (i + 1 : Nat)) := by
  have g := gb_lt s (p + i)
  rw [hb] at g
  have h0 : (i : Int) < (n : Int) := by omega
  have h1 : 0 ≤ ((p + i : Nat) : Int) := by omega
  have h2 : ((p + i : Nat) : Int) < (s.size : Int) := by omega
  have n1 : p + i ≤ 9223372036854775807 := by omega
  have n2 : b ≤ 9223372036854775807 := by omega
  have n3 : c * 64 ≤ 9223372036854775807 := by omega
  have n4 : c * 64 + b % 64 ≤ 9223372036854775807 := by omega
  have n5 : i + 1 ≤ 9223372036854775807 := by omega
  have e2 : bt s ((p + i : Nat) : Int) = (b : Int) := by rw [bt_gb, hb]
  have e1 : wrap64 ((p : Int) + (i : Int)) = ((p + i : Nat) : Int) := wrap_nat (p + i) rfl n1
  have e3 : wrap64 (b : Int) = (b : Int) := wrap_nat b rfl n2
  have e4 : wrap64 ((c : Int) * 64) = ((c * 64 : Nat) : Int) := wrap_nat (c * 64) (Int.natCast_mul c 64).symm n3
  have e5 : Int.tmod (b : Int) 64 = ((b % 64 : Nat) : Int) := tmod_nat b 64
  have e6 : wrap64 (((c * 64 : Nat) : Int) + ((b % 64 : Nat) : Int)) = ((c * 64 + b % 64 : Nat) : Int) := wrap_nat _ rfl n4
  have e7 : wrap64 ((i : Int) + 1) = ((i + 1 : Nat) : Int) := wrap_nat (i + 1) rfl n5
  rw [← step_int]
  simp only [lanternref01_Rune.l0]
  rw [if_pos h0, e1, if_pos h1, if_pos h2, e2, e3, e4, e5, e6, e7]
theorem rune_l0_end (k : Nat) (s : ByteArray) (p n mn c : Int) : lanternref01_Rune.l0 (k + 1) s p n mn c n = some (fin mn c n) := by
  rw [lanternref01_Rune.l0]
  unfold fin
  rw [if_neg (by omega)]
  by_cases h1 : c < mn
  · rw [if_pos h1, if_pos h1]
  · rw [if_neg h1, if_neg h1]
    by_cases h2 : c > 1114111
    · rw [if_pos h2, if_pos h2]
    · rw [if_neg h2, if_neg h2]
      by_cases h3 : c ≥ 55296
      · rw [if_pos h3, if_pos h3]
        by_cases h4 : c < 57344
        · rw [if_pos h4, if_pos h4]
        · rw [if_neg h4, if_neg h4]
      · rw [if_neg h3, if_neg h3]
theorem j2_short (k : Nat) (s : ByteArray) (p n : Nat) (mn c : Int) (hs : s.size ≤ 1000000000) (hp : p < s.size) (hn : n ≤ 4) (h : s.size < p + n) : lanternref01_Rune.j2 (k + 1) s p n mn c = some (0, 0) := by
  rw [lanternref01_Rune.j2, wrap_id (by omega) (by omega), if_pos (by omega)]
theorem j2_long (k : Nat) (s : ByteArray) (p n : Nat) (mn c : Int) (hs : s.size ≤ 1000000000) (hp : p < s.size) (hn : n ≤ 4) (h : p + n ≤ s.size) : lanternref01_Rune.j2 (k + 1) s p n mn c = lanternref01_Rune.l0 k s p n mn c 1 := by
  rw [lanternref01_Rune.j2, wrap_id (by omega) (by omega), if_neg (by omega)]
/-- What comes of the code point V of w bytes, if the decoder asks that it be at least mn. -/
theorem says_fin (V w mn : Nat) (hw : 2 ≤ w) : says (if mn ≤ V ∧ (V < 55296 ∨ (57344 ≤ V ∧ V ≤ 1114111)) then (V, w) else (65533, 1)) = fin mn V w := by
  have bad : says (65533, 1) = (0, 0) := rfl
  by_cases hc : mn ≤ V ∧ (V < 55296 ∨ (57344 ≤ V ∧ V ≤ 1114111))
  · rw [if_pos hc]
    unfold says fin
    rw [if_neg (show ¬ ((V, w).1 = 65533 ∧ (V, w).2 = 1) from fun h => by have : w = 1 := h.2; omega), if_neg (show ¬ ((V : Int) < (mn : Int)) by omega), if_neg (show ¬ ((V : Int) > 1114111) by omega)]
    by_cases h3 : V ≥ 55296
    · rw [if_pos (show ((V : Int) ≥ 55296) by omega), if_neg (show ¬ ((V : Int) < 57344) by omega)]
    · rw [if_neg (show ¬ ((V : Int) ≥ 55296) by omega)]
  · rw [if_neg hc, bad]
    unfold fin
    by_cases h1 : V < mn
    · rw [if_pos (show ((V : Int) < (mn : Int)) by omega)]
    · rw [if_neg (show ¬ ((V : Int) < (mn : Int)) by omega)]
      by_cases h2 : V > 1114111
      · rw [if_pos (show ((V : Int) > 1114111) by omega)]
      · rw [if_neg (show ¬ ((V : Int) > 1114111) by omega), if_pos (show ((V : Int) ≥ 55296) by omega), if_pos (show ((V : Int) < 57344) by omega)]
theorem says_bad : says (65533, 1) = (0, 0) := rfl
theorem two (b0 b1 b2 b3 n : Nat) (h0 : 194 ≤ b0) (h0' : b0 < 224) (h1 : b1 < 256) (hn : 2 ≤ n) :
    some (says (decodeN n b0 b1 b2 b3)) = step b1 (some (fin 128 ((b0 % 32 * 64 + b1 % 64 : Nat) : Int) 2)) := by
  unfold decodeN step
  rw [if_neg (by omega : ¬ b0 < 128)]
  by_cases q : b1 / 64 = 2
  · have hV : b0 % 32 * 64 + b1 % 64 ≥ 128 := by omega
    rw [if_pos ⟨by omega, by omega, q⟩, if_neg (by omega : ¬ b1 < 128), if_neg (by omega : ¬ b1 ≥ 192), if_pos hV]
    have f := says_fin (b0 % 32 * 64 + b1 % 64) 2 128 (by omega)
    rw [if_pos ⟨hV, by omega⟩] at f
    exact congrArg some f
  · rw [if_neg (fun h => q h.2.2), if_neg (by omega), if_neg (by omega), says_bad]
    by_cases r : b1 < 128
    · rw [if_pos r]
    · rw [if_neg r, if_pos (by omega)]
theorem short2 (b0 b1 b2 b3 n : Nat) (h0 : 194 ≤ b0) (h0' : b0 < 224) (hn : n < 2) : says (decodeN n b0 b1 b2 b3) = (0, 0) := by
  unfold decodeN
  rw [if_neg (by omega), if_neg (by omega), if_neg (by omega), if_neg (by omega), says_bad]
theorem three (b0 b1 b2 b3 n : Nat) (h0 : 224 ≤ b0) (h0' : b0 < 240) (h1 : b1 < 256) (h2 : b2 < 256) (hn : 3 ≤ n) :
    some (says (decodeN n b0 b1 b2 b3)) = step b1 (step b2 (some (fin 2048 (((b0 % 16 * 64 + b1 % 64) * 64 + b2 % 64 : Nat) : Int) 3))) := by
  unfold decodeN step
  have e : (b0 % 16 * 64 + b1 % 64) * 64 + b2 % 64 = b0 % 16 * 4096 + b1 % 64 * 64 + b2 % 64 := by omega
  rw [e, if_neg (by omega : ¬ b0 < 128), if_neg (by omega)]
  by_cases q : b1 / 64 = 2
  · rw [if_neg (by omega : ¬ b1 < 128), if_neg (by omega : ¬ b1 ≥ 192)]
    by_cases q2 : b2 / 64 = 2
    · rw [if_pos ⟨by omega, ⟨by omega, q⟩, by omega, q2⟩, if_neg (by omega : ¬ b2 < 128), if_neg (by omega : ¬ b2 ≥ 192)]
      exact congrArg some (says_fin _ 3 2048 (by omega))
    · rw [if_neg (fun h => q2 h.2.2.2), if_neg (by omega), says_bad]
      by_cases r : b2 < 128
      · rw [if_pos r]
      · rw [if_neg r, if_pos (by omega)]
  · rw [if_neg (fun h => q h.2.1.2), if_neg (by omega), says_bad]
    by_cases r : b1 < 128
    · rw [if_pos r]
    · rw [if_neg r, if_pos (by omega)]
theorem short3 (b0 b1 b2 b3 n : Nat) (h0 : 224 ≤ b0) (h0' : b0 < 240) (hn : n < 3) : says (decodeN n b0 b1 b2 b3) = (0, 0) := by
  unfold decodeN
  rw [if_neg (by omega), if_neg (by omega), if_neg (by omega), if_neg (by omega), says_bad]
theorem four (b0 b1 b2 b3 n : Nat) (h0 : 240 ≤ b0) (h0' : b0 < 245) (h1 : b1 < 256) (h2 : b2 < 256) (h3 : b3 < 256) (hn : 4 ≤ n) :
    some (says (decodeN n b0 b1 b2 b3)) = step b1 (step b2 (step b3 (some (fin 65536 ((((b0 % 8 * 64 + b1 % 64) * 64 + b2 % 64) * 64 + b3 % 64 : Nat) : Int) 4)))) := by
  unfold decodeN step
  have e : ((b0 % 8 * 64 + b1 % 64) * 64 + b2 % 64) * 64 + b3 % 64 = b0 % 8 * 262144 + b1 % 64 * 4096 + b2 % 64 * 64 + b3 % 64 := by omega
  rw [e, if_neg (by omega : ¬ b0 < 128), if_neg (by omega), if_neg (by omega)]
  by_cases q : b1 / 64 = 2
  · rw [if_neg (by omega : ¬ b1 < 128), if_neg (by omega : ¬ b1 ≥ 192)]
    by_cases q2 : b2 / 64 = 2
    · rw [if_neg (by omega : ¬ b2 < 128), if_neg (by omega : ¬ b2 ≥ 192)]
      by_cases q3 : b3 / 64 = 2
      · rw [if_pos ⟨by omega, ⟨by omega, q⟩, ⟨by omega, q2⟩, by omega, q3⟩, if_neg (by omega : ¬ b3 < 128), if_neg (by omega : ¬ b3 ≥ 192)]
        exact congrArg some (says_fin _ 4 65536 (by omega))
      · rw [if_neg (fun h => q3 h.2.2.2.2), says_bad]
        by_cases r : b3 < 128
        · rw [if_pos r]
        · rw [if_neg r, if_pos (by omega)]
    · rw [if_neg (fun h => q2 h.2.2.1.2), says_bad]
      by_cases r : b2 < 128
      · rw [if_pos r]
      · rw [if_neg r, if_pos (by omega)]
  · rw [if_neg (fun h => q h.2.1.2), says_bad]
    by_cases r : b1 < 128
    · rw [if_pos r]
    · rw [if_neg r, if_pos (by omega)]
theorem short4 (b0 b1 b2 b3 n : Nat) (h0 : 240 ≤ b0) (h0' : b0 < 245) (hn : n < 4) : says (decodeN n b0 b1 b2 b3) = (0, 0) := by
  unfold decodeN
  rw [if_neg (by omega), if_neg (by omega), if_neg (by omega), if_neg (by omega), says_bad]
theorem rune_f (s : ByteArray) (hs : s.size ≤ 1000000000) (p : Nat) (hp : p < s.size) (k : Nat) (hk : 12 < k) : lanternref01_Rune.f k s p = some (says (Utf8.decode s p)) := by
  obtain ⟨k, rfl⟩ : ∃ m, k = m + 1 + 1 + 1 + 1 + 1 + 1 + 1 + 1 := ⟨k - 8, by omega⟩
  rw [decode_gb]
  have g0 := gb_lt s p
  have g1 := gb_lt s (p + 1)
  have g2 := gb_lt s (p + 2)
  have g3 := gb_lt s (p + 3)
  generalize hb0 : gb s p = b0 at *
  generalize hb1 : gb s (p + 1) = b1 at *
  generalize hb2 : gb s (p + 2) = b2 at *
  generalize hb3 : gb s (p + 3) = b3 at *
  unfold lanternref01_Rune.f
  rw [if_pos (by omega), if_pos (by omega), bt_gb, hb0, wrap_nat b0 rfl (by omega)]
  by_cases h1 : b0 < 128
  · rw [if_pos (by omega)]
    unfold decodeN says
    rw [if_pos h1, if_neg (by dsimp only; omega)]
    rfl
  · rw [if_neg (by omega)]
    by_cases h2 : b0 < 194
    · rw [if_neg (by omega), lanternref01_Rune.j0, if_neg (by simp), if_neg (by omega), lanternref01_Rune.j1, if_neg (by simp), if_neg (by omega), decodeN_bad _ _ _ _ _ (.inl ⟨by omega, h2⟩), says_bad]
    · rw [if_pos (by omega)]
      by_cases h3 : b0 < 224
      · have et : Int.tmod (b0 : Int) 32 = ((b0 % 32 : Nat) : Int) := tmod_nat b0 32
        rw [lanternref01_Rune.j0, if_pos (by simpa using by omega), et]
        by_cases hn : s.size < p + 2
        · exact (j2_short _ s p 2 _ _ hs hp (by omega) hn).trans (congrArg some (short2 _ _ _ _ _ (by omega) h3 (by omega)).symm)
        · have e := rune_l0_step (k + 1 + 1 + 1 + 1 + 1) s p 2 (b0 % 32) 1 b1 128 hb1 (by omega) (by omega) hs (by omega) (by omega)
          have e' := rune_l0_end (k + 1 + 1 + 1 + 1) s p 2 128 ((b0 % 32 * 64 + b1 % 64 : Nat) : Int)
          rw [two _ _ _ _ _ (by omega) h3 g1 (by omega), ← e']
          exact (j2_long _ s p 2 _ _ hs hp (by omega) (by omega)).trans e
      · rw [lanternref01_Rune.j0, if_neg (by simpa using by omega), if_pos (by omega), lanternref01_Rune.j1]
        by_cases h4 : b0 < 240
        · have et : Int.tmod (b0 : Int) 16 = ((b0 % 16 : Nat) : Int) := tmod_nat b0 16
          rw [if_pos (by simpa using by omega), et]
          by_cases hn : s.size < p + 3
          · exact (j2_short _ s p 3 _ _ hs hp (by omega) hn).trans (congrArg some (short3 _ _ _ _ _ (by omega) h4 (by omega)).symm)
          · have e := rune_l0_step (k + 1 + 1 + 1 + 1) s p 3 (b0 % 16) 1 b1 2048 hb1 (by omega) (by omega) hs (by omega) (by omega)
            have f := rune_l0_step (k + 1 + 1 + 1) s p 3 (b0 % 16 * 64 + b1 % 64) 2 b2 2048 hb2 (by omega) (by omega) hs (by omega) (by omega)
            have e' := rune_l0_end (k + 1 + 1) s p 3 2048 (((b0 % 16 * 64 + b1 % 64) * 64 + b2 % 64 : Nat) : Int)
            rw [three _ _ _ _ _ (by omega) h4 g1 g2 (by omega), ← e']
            exact (j2_long _ s p 3 _ _ hs hp (by omega) (by omega)).trans (e.trans (congrArg (step b1) f))
        · rw [if_neg (by simpa using by omega), if_pos (by omega)]
          by_cases h5 : b0 < 245
          · have et : Int.tmod (b0 : Int) 8 = ((b0 % 8 : Nat) : Int) := tmod_nat b0 8
            rw [if_pos (by omega), et]
            by_cases hn : s.size < p + 4
            · exact (j2_short _ s p 4 _ _ hs hp (by omega) hn).trans (congrArg some (short4 _ _ _ _ _ (by omega) h5 (by omega)).symm)
            · have e := rune_l0_step (k + 1 + 1 + 1 + 1) s p 4 (b0 % 8) 1 b1 65536 hb1 (by omega) (by omega) hs (by omega) (by omega)
              have f := rune_l0_step (k + 1 + 1 + 1) s p 4 (b0 % 8 * 64 + b1 % 64) 2 b2 65536 hb2 (by omega) (by omega) hs (by omega) (by omega)
              have f3 := rune_l0_step (k + 1 + 1) s p 4 ((b0 % 8 * 64 + b1 % 64) * 64 + b2 % 64) 3 b3 65536 hb3 (by omega) (by omega) hs (by omega) (by omega)
              have e' := rune_l0_end (k + 1) s p 4 65536 ((((b0 % 8 * 64 + b1 % 64) * 64 + b2 % 64) * 64 + b3 % 64 : Nat) : Int)
              rw [four _ _ _ _ _ (by omega) h5 g1 g2 g3 (by omega), ← e']
              exact (j2_long _ s p 4 _ _ hs hp (by omega) (by omega)).trans (e.trans (congrArg (step b1) (f.trans (congrArg (step b2) f3))))
          · rw [if_neg (by omega), decodeN_bad _ _ _ _ _ (.inr ⟨by omega, g0⟩), says_bad]
end Go.Proofs.YtimffmddegnkjaaDoor.Q
set_option linter.unusedSimpArgs false
set_option linter.unusedVariables false
namespace Go.Proofs.YtimffmddegnkjaaDoor.Q
open Go Go.RowKit Go.Lib Go.Proofs.YtimffmddegnkjaaDoorW.PrintWords Go.Proofs.YtimffmddegnkjaaDoorB Go.Proofs.YtimffmddegnkjaaDoor.E Go.Proofs.YtimffmddegnkjaaDoor.P

abbrev dec (s : ByteArray) (p : Nat) : Nat × Nat := Utf8.decode s p
theorem dec_width (s : ByteArray) (p : Nat) (h : p < s.size) : 1 ≤ (dec s p).2 ∧ p + (dec s p).2 ≤ s.size := by
  unfold dec
  rw [decode_gb]
  rcases decodeN_shape (s.size - p) (gb s p) (gb s (p + 1)) (gb s (p + 2)) (gb s (p + 3)) with ⟨c, e⟩ | ⟨c1, c2, c3, cv, e⟩ | ⟨c1, c2, c3, c4, cv, cs, e⟩ | ⟨c1, c2, c3, c4, c5, cv, cw, e⟩ | e
  all_goals (rw [e]; dsimp only; omega)
theorem dec_range (s : ByteArray) (p : Nat) : (dec s p).1 < 55296 ∨ 57344 ≤ (dec s p).1 := by
  unfold dec
  rw [decode_gb]
  have g := gb_lt s p
  rcases decodeN_shape (s.size - p) (gb s p) (gb s (p + 1)) (gb s (p + 2)) (gb s (p + 3)) with ⟨c, e⟩ | ⟨c1, c2, c3, cv, e⟩ | ⟨c1, c2, c3, c4, cv, cs, e⟩ | ⟨c1, c2, c3, c4, c5, cv, cw, e⟩ | e
  all_goals (rw [e]; dsimp only; omega)
theorem decodeN_cut (n m b0 b1 b2 b3 d1 d2 d3 : Nat) (hv : ¬ ((decodeN n b0 b1 b2 b3).1 = 65533 ∧ (decodeN n b0 b1 b2 b3).2 = 1)) (hm : (decodeN n b0 b1 b2 b3).2 ≤ m)
    (h1 : 1 < m → d1 = b1) (h2 : 2 < m → d2 = b2) (h3 : 3 < m → d3 = b3) : decodeN m b0 d1 d2 d3 = decodeN n b0 b1 b2 b3 := by
  rcases decodeN_shape n b0 b1 b2 b3 with ⟨c, e⟩ | ⟨c1, c2, c3, cv, e⟩ | ⟨c1, c2, c3, c4, cv, cs, e⟩ | ⟨c1, c2, c3, c4, c5, cv, cw, e⟩ | e
  · rw [e]
    unfold decodeN
    rw [if_pos c]
  · rw [e] at hm ⊢
    dsimp only at hm
    obtain rfl := h1 (by omega)
    unfold decodeN
    rw [if_neg (by omega), if_pos ⟨by omega, by omega, by omega⟩, if_pos (by omega)]
  · rw [e] at hm ⊢
    dsimp only at hm
    obtain rfl := h1 (by omega)
    obtain rfl := h2 (by omega)
    unfold decodeN
    rw [if_neg (by omega), if_neg (by omega), if_pos ⟨by omega, ⟨by omega, by omega⟩, by omega, by omega⟩, if_pos ⟨by omega, by omega⟩]
  · rw [e] at hm ⊢
    dsimp only at hm
    obtain rfl := h1 (by omega)
    obtain rfl := h2 (by omega)
    obtain rfl := h3 (by omega)
    unfold decodeN
    rw [if_neg (by omega), if_neg (by omega), if_neg (by omega), if_pos ⟨by omega, ⟨by omega, by omega⟩, ⟨by omega, by omega⟩, by omega, by omega⟩, if_pos ⟨by omega, by omega⟩]
  · exact absurd ⟨by rw [e], by rw [e]⟩ hv
/-- A text cut behind a rune that stands well begins with that rune. -/
theorem dec_cut (s : ByteArray) (q p : Nat) (hq : q ≤ s.size) (hp : p < q) (hv : ¬ ((dec s p).1 = 65533 ∧ (dec s p).2 = 1)) (hw : p + (dec s p).2 ≤ q) : dec (s.extract 0 q) p = dec s p := by
  have hsz : (s.extract 0 q).size = q := by rw [size_L, L_extract]; simp; omega
  have hg : ∀ j, j < q → gb (s.extract 0 q) j = gb s j := fun j hj => by
    unfold gb
    rw [L_extract, List.drop_zero]
    simp [List.getD_eq_getElem?_getD, List.getElem?_take, hj]
  unfold dec at *
  rw [decode_gb s] at hv hw
  rw [decode_gb, decode_gb, hsz, hg p hp]
  exact decodeN_cut (s.size - p) (q - p) _ _ _ _ _ _ _ hv (by omega) (fun h => hg _ (by omega)) (fun h => hg _ (by omega)) (fun h => hg _ (by omega))

def runesFrom (s : ByteArray) : Nat → Nat → List Int
  | 0, _ => []
  | b + 1, p => if p < s.size then ((dec s p).1 : Int) :: runesFrom s b (p + (dec s p).2) else []
theorem runesFrom_end (s : ByteArray) (b p : Nat) (h : ¬ p < s.size) : runesFrom s b p = [] := by
  cases b <;> simp [runesFrom, h]
theorem runesFrom_length (s : ByteArray) : ∀ b p, (runesFrom s b p).length = runeCountFrom s b p
  | 0, _ => rfl
  | b + 1, p => by
    rw [runesFrom, runeCountFrom]
    split
    · have e : dec s p = Utf8.decode s p := rfl
      rw [List.length_cons, runesFrom_length s b, e]; omega
    · rfl
theorem runesFrom_le (s : ByteArray) (b p : Nat) : (runesFrom s b p).length ≤ b := by rw [runesFrom_length]; exact runeCountFrom_le s b p
theorem valid_step (s : ByteArray) (p : Nat) (h : p < s.size) : validD ((L s).drop p) = if (dec s p).1 = 65533 ∧ (dec s p).2 = 1 then false else validD ((L s).drop (p + (dec s p).2)) := by
  have hne : (L s).drop p ≠ [] := by
    intro h0
    have := congrArg List.length h0
    rw [List.length_drop, ← size_L] at this
    simp at this
    omega
  have e : decodeL ((L s).drop p) = dec s p := decodeL_drop s p
  rw [validD_step _ hne, e, List.drop_drop]
theorem valid_end (s : ByteArray) (p : Nat) (h : ¬ p < s.size) : validD ((L s).drop p) = true := by
  rw [List.drop_eq_nil_of_le (by rw [← size_L]; omega)]
  rfl
theorem says_of (d : Nat × Nat) (h : ¬ (d.1 = 65533 ∧ d.2 = 1)) : says d = ((d.1 : Int), (d.2 : Int)) := by unfold says; rw [if_neg h]
theorem runes_loop (s : ByteArray) (hs : s.size ≤ 1000000) : ∀ (b k p : Nat) (acc : List Int), p ≤ s.size → s.size ≤ p + b → b + 20 < k → acc.length + b ≤ 4000000 →
    lanternref01_Runes.l0 k s acc p = some (if validD ((L s).drop p) = true then (acc ++ runesFrom s b p, true) else ([], false))
  | b, k, p, acc, hp, hb, hk, ha => by
    obtain ⟨k, rfl⟩ : ∃ m, k = m + 1 := ⟨k - 1, by omega⟩
    rw [lanternref01_Runes.l0]
    by_cases h : p < s.size
    · rw [if_pos (by omega), rune_f s (by omega) p h k (by omega), valid_step s p h]
      simp only [Option.bind_some]
      by_cases hv : (dec s p).1 = 65533 ∧ (dec s p).2 = 1
      · have e : says (dec s p) = (0, 0) := by unfold says; rw [if_pos hv]
        rw [e, if_pos rfl, if_pos hv]
        rfl
      · have hw := dec_width s p h
        obtain ⟨b, rfl⟩ : ∃ m, b = m + 1 := ⟨b - 1, by omega⟩
        rw [says_of _ hv, if_neg (by dsimp only; omega), if_neg hv, if_pos (by omega), runesFrom, if_pos h]
        dsimp only
        rw [wrap_nat (x := (p : Int) + ((dec s p).2 : Int)) (p + (dec s p).2) rfl (by omega), runes_loop s hs b k (p + (dec s p).2) (acc ++ [((dec s p).1 : Int)]) (by omega) (by omega) (by omega) (by rw [List.length_append, List.length_singleton]; omega)]
        simp
    · rw [if_neg (by omega), valid_end s p h, runesFrom_end s b p h]
      simp
theorem runes_f (s : ByteArray) (hs : s.size ≤ 1000000) (k : Nat) (hk : s.size + 20 < k) :
    lanternref01_Runes.f k s = some (if validD (L s) = true then (runesFrom s s.size 0, true) else ([], false)) := by
  have := runes_loop s hs s.size k 0 [] (by omega) (by omega) hk (by simp; omega)
  rw [List.drop_zero] at this
  unfold lanternref01_Runes.f
  exact this

/-! ### checks -/
theorem xml_loop (l : List Int) (hl : l.length ≤ 1000000) (hr : ∀ c ∈ l, 0 ≤ c ∧ (c < 55296 ∨ 57344 ≤ c)) : ∀ (d k i : Nat), i + d = l.length → d < k →
    lanternref01_Xml.l0 k l i = some ((l.drop i).all standsB)
  | d, k, i, hd, hk => by
    obtain ⟨k, rfl⟩ : ∃ m, k = m + 1 := ⟨k - 1, by omega⟩
    by_cases h : i < l.length
    · obtain ⟨d, rfl⟩ : ∃ m, d = m + 1 := ⟨d - 1, by omega⟩
      have ih := xml_loop l hl hr d k (i + 1) (by omega) (by omega)
      have hrd : rd l (i : Int) = l[i] := by
        unfold rd
        rw [Int.toNat_natCast, List.getD_eq_getElem?_getD, List.getElem?_eq_getElem h, Option.getD_some]
      have hc := hr l[i] (List.getElem_mem h)
      rw [List.drop_eq_getElem_cons h, List.all_cons]
      have hlt : ((i : Nat) : Int) < ((l.length : Nat) : Int) := by omega
      have h0 : 0 ≤ ((i : Nat) : Int) := by omega
      have hw : wrap64 ((i : Int) + 1) = ((i + 1 : Nat) : Int) := wrap_nat (i + 1) rfl (by omega)
      rw [lanternref01_Xml.l0, if_pos hlt, if_pos h0, hrd, hw, ih]
      clear hw ih hrd hlt h0
      generalize l[i] = c at *
      generalize (List.drop (i + 1) l).all standsB = z
      unfold standsB
      by_cases a1 : c = 9
      · subst a1; simp
      · by_cases a2 : c = 10
        · subst a2; simp
        · by_cases a3 : c = 13
          · subst a3; simp
          · rw [if_neg a1, if_neg a2, if_neg a3]
            by_cases a4 : c ≥ 32
            · rw [if_pos a4, if_neg (show ¬ c < 32 by omega)]
              by_cases a5 : c ≤ 55295
              · rw [if_pos a5]
                have b1 : (c != 65534) = true := by simp; omega
                have b2 : (c != 65535) = true := by simp; omega
                rw [b1, b2]; rfl
              · rw [if_neg a5, if_pos (show c ≥ 57344 by omega)]
                by_cases a6 : c ≤ 65533
                · rw [if_pos a6]
                  have b1 : (c != 65534) = true := by simp; omega
                  have b2 : (c != 65535) = true := by simp; omega
                  rw [b1, b2]; rfl
                · rw [if_neg a6]
                  by_cases a7 : c ≥ 65536
                  · rw [if_pos a7]
                    have b1 : (c != 65534) = true := by simp; omega
                    have b2 : (c != 65535) = true := by simp; omega
                    rw [b1, b2]; rfl
                  · rw [if_neg a7]
                    have b : c = 65534 ∨ c = 65535 := by omega
                    rcases b with rfl | rfl <;> simp
            · rw [if_neg a4, if_neg (show ¬ c ≥ 57344 by omega), if_neg (show ¬ c ≥ 65536 by omega), if_pos (show c < 32 by omega)]
              have b1 : (c == 9) = false := by simpa using a1
              have b2 : (c == 10) = false := by simpa using a2
              have b3 : (c == 13) = false := by simpa using a3
              rw [b1, b2, b3]; rfl
    · have hlt : ¬ ((i : Nat) : Int) < ((l.length : Nat) : Int) := by omega
      rw [lanternref01_Xml.l0, if_neg hlt, List.drop_eq_nil_of_le (by omega)]
      rfl
theorem runes_range (s : ByteArray) : ∀ b p, ∀ c ∈ runesFrom s b p, 0 ≤ c ∧ (c < 55296 ∨ 57344 ≤ c)
  | 0, _, c, h => by simp [runesFrom] at h
  | b + 1, p, c, h => by
    rw [runesFrom] at h
    split at h
    · rcases List.mem_cons.1 h with rfl | h
      · have := dec_range s p
        omega
      · exact runes_range s b _ c h
    · simp at h
theorem runes_xml (s : ByteArray) : ∀ b p, (runesFrom s b p).all standsB = xmlFrom s b p
  | 0, _ => rfl
  | b + 1, p => by
    rw [runesFrom, xmlFrom]
    split
    · rw [List.all_cons, runes_xml s b]
      by_cases h : standsB ((dec s p).1 : Int) = true
      · rw [if_pos h, h]; rfl
      · rw [if_neg h]
        have h' : standsB ((dec s p).1 : Int) = false := by simpa using h
        rw [h']; rfl
    · rfl
theorem xml_same (s : ByteArray) (hs : s.size ≤ 1000000) (k : Nat) (hk : s.size + 20 < k) : lanternref01_Check.f k s = text_Xml.f s := by
  unfold lanternref01_Check.f text_Xml.f lanternref01_Xml.f
  rw [runes_f s hs k hk, if_pos (show s.size < 9223372036854775807 by omega)]
  simp only [Option.bind_some]
  by_cases hv : validD (L s) = true
  · have hl := runesFrom_le s s.size 0
    have e := xml_loop (runesFrom s s.size 0) (by omega) (runes_range s _ _) (runesFrom s s.size 0).length k 0 (by omega) (by omega)
    rw [List.drop_zero, runes_xml] at e
    simp only [if_pos hv, if_true]
    have e' : lanternref01_Xml.l0 k (runesFrom s s.size 0) 0 = some (xmlFrom s s.size 0) := e
    rw [e']
    simp only [Option.bind_some]
  · simp only [if_neg hv, Bool.false_eq_true, if_false]
end Go.Proofs.YtimffmddegnkjaaDoor.Q
/- Texts with signs, turned: the program's loop and the reference's are one plain function; the law EntityUnescapes. -/
/- What stands between & and ;: the program's reading and the reference's are one plain function. -/
/- Numbers as strconv reads them, and as the reference reads them. -/
set_option linter.unusedSimpArgs false
set_option linter.unusedVariables false
namespace Go.Proofs.YtimffmddegnkjaaDoor.Q
open Go Go.RowKit Go.Lib Go.Proofs.YtimffmddegnkjaaDoorW.PrintWords Go.Proofs.YtimffmddegnkjaaDoorB Go.Proofs.YtimffmddegnkjaaDoor.E Go.Proofs.YtimffmddegnkjaaDoor.I Go.Proofs.YtimffmddegnkjaaDoor.J Go.Proofs.YtimffmddegnkjaaDoor.P

/-- A digit's value as strconv reads it; 255: it is none. -/
def puD (c : Nat) : Nat := if 48 ≤ c ∧ c ≤ 57 then c - 48 else if 97 ≤ c ∧ c ≤ 122 then c - 87 else if 65 ≤ c ∧ c ≤ 90 then c - 55 else 255
def lowI (c : Nat) : Int := Go.bits .or .u8 (c : Int) 32
theorem low_facts : ∀ c : Fin 256, (48 ≤ c.val ∧ c.val ≤ 57) ∨ (¬ (48 ≤ c.val ∧ c.val ≤ 57) ∧ 97 ≤ lowI c.val ∧ lowI c.val ≤ 122 ∧ ((lowI c.val - 97) % 256 + 10) % 256 = (puD c.val : Int)) ∨ (¬ (48 ≤ c.val ∧ c.val ≤ 57) ∧ (lowI c.val < 97 ∨ (97 ≤ lowI c.val ∧ 122 < lowI c.val)) ∧ puD c.val = 255) := by decide +kernel
theorem puD_dig {c : Nat} (h : 48 ≤ c ∧ c ≤ 57) : puD c = c - 48 := by unfold puD; rw [if_pos h]
theorem puD_le (c : Nat) (h : c < 256) : puD c ≤ 255 := by
  unfold puD
  repeat' split
  all_goals omega

theorem pu_j9 (base : Nat) (hb : base = 10 ∨ base = 16) (cut : Int) (hcut : 2147483648 ≤ cut) (k : Nat) (s : ByteArray) (n i d : Nat) (hn : n ≤ 2147483647) (hi : i < s.size) (hs : s.size ≤ 1000000) (hd : d ≤ 255) :
    strconv_ParseUint.j9 (k + 1) base false s cut 2147483647 false n d (bytesOf s) s.size i =
      if base ≤ d then some (0, some 2) else if 2147483647 < n * base + d then some (2147483647, some 1) else strconv_ParseUint.l0 k base false s cut 2147483647 false ((n * base + d : Nat) : Int) (bytesOf s) s.size ((i + 1 : Nat) : Int) := by
  have w0 : IntKind.u64.wrap ((d : Nat) : Int) = (d : Int) := by rw [IntKind.wrap_u64]; omega
  have wi : wrap64 ((i : Int) + 1) = ((i + 1 : Nat) : Int) := wrap_nat (i + 1) rfl (by omega)
  rw [strconv_ParseUint.j9]
  rcases hb with rfl | rfl
  · have w1 : IntKind.u64.wrap ((10 : Nat) : Int) = 10 := rfl
    have w2 : IntKind.u64.wrap ((n : Int) * 10) = (n : Int) * 10 := by rw [IntKind.wrap_u64]; omega
    have w3 : d < 10 → IntKind.u64.wrap ((n : Int) * 10 + (d : Int)) = ((n * 10 + d : Nat) : Int) := fun h => by rw [IntKind.wrap_u64]; omega
    by_cases c1 : 10 ≤ d
    · rw [if_pos (by omega), if_pos c1]
    · rw [if_neg (by omega), if_neg c1, if_neg (by omega), w1, w2, w0, w3 (by omega), if_neg (by omega)]
      by_cases c2 : 2147483647 < n * 10 + d
      · rw [if_pos (by omega), if_pos c2]
      · rw [if_neg (by omega), if_neg c2, wi]
  · have w1 : IntKind.u64.wrap ((16 : Nat) : Int) = 16 := rfl
    have w2 : IntKind.u64.wrap ((n : Int) * 16) = (n : Int) * 16 := by rw [IntKind.wrap_u64]; omega
    have w3 : d < 16 → IntKind.u64.wrap ((n : Int) * 16 + (d : Int)) = ((n * 16 + d : Nat) : Int) := fun h => by rw [IntKind.wrap_u64]; omega
    by_cases c1 : 16 ≤ d
    · rw [if_pos (by omega), if_pos c1]
    · rw [if_neg (by omega), if_neg c1, if_neg (by omega), w1, w2, w0, w3 (by omega), if_neg (by omega)]
      by_cases c2 : 2147483647 < n * 16 + d
      · rw [if_pos (by omega), if_pos c2]
      · rw [if_neg (by omega), if_neg c2, wi]
theorem pu_step (base : Nat) (hb : base = 10 ∨ base = 16) (cut : Int) (hcut : 2147483648 ≤ cut) (k : Nat) (s : ByteArray) (n i : Nat) (hn : n ≤ 2147483647) (hi : i < s.size) (hs : s.size ≤ 1000000) :
    strconv_ParseUint.l0 (k + 4) base false s cut 2147483647 false n (bytesOf s) s.size i =
      if base ≤ puD (gb s i) then some (0, some 2) else if 2147483647 < n * base + puD (gb s i) then some (2147483647, some 1) else strconv_ParseUint.l0 k base false s cut 2147483647 false ((n * base + puD (gb s i) : Nat) : Int) (bytesOf s) s.size ((i + 1 : Nat) : Int) := by
  have hg := gb_lt s i
  have hpd := puD_le (gb s i) hg
  rw [strconv_ParseUint.l0, if_pos (by omega), if_pos (by omega), if_pos (by rw [bytesOf_length]; omega), rd_bytesOf, bt_gb, ite_self, strconv_ParseUint.j7, if_neg (by simp)]
  rcases low_facts ⟨gb s i, hg⟩ with h1 | ⟨h0, h1, h2, h3⟩ | ⟨h0, h1, h2⟩
  · dsimp only at h1
    rw [if_pos (by omega), decide_eq_true (by omega), strconv_ParseUint.j8, if_pos rfl]
    have e : ((gb s i : Int) - 48) % 256 = ((puD (gb s i) : Nat) : Int) := by rw [puD_dig h1]; omega
    rw [e]
    exact pu_j9 base hb cut hcut k s n i _ hn hi hs hpd
  · dsimp only at h0 h1 h2 h3
    have hj : ∀ b : Bool, b = false → strconv_ParseUint.j8 (k + 2) base false s cut 2147483647 false n (gb s i) (bytesOf s) s.size i b = if base ≤ puD (gb s i) then some (0, some 2) else if 2147483647 < n * base + puD (gb s i) then some (2147483647, some 1) else strconv_ParseUint.l0 k base false s cut 2147483647 false ((n * base + puD (gb s i) : Nat) : Int) (bytesOf s) s.size ((i + 1 : Nat) : Int) := by
      rintro b rfl
      rw [strconv_ParseUint.j8, if_neg (by simp)]
      have hl : strconv_lower.f (gb s i : Int) = some (lowI (gb s i)) := rfl
      rw [hl]
      simp only [Option.bind_some]
      rw [if_pos h1, if_pos h2, h3]
      exact pu_j9 base hb cut hcut k s n i _ hn hi hs hpd
    by_cases c1 : 48 ≤ (gb s i : Int)
    · rw [if_pos c1]; exact hj _ (decide_eq_false (by omega))
    · rw [if_neg c1]; exact hj _ rfl
  · dsimp only at h0 h1 h2
    have hj : ∀ b : Bool, b = false → strconv_ParseUint.j8 (k + 2) base false s cut 2147483647 false n (gb s i) (bytesOf s) s.size i b = some (0, some 2) := by
      rintro b rfl
      rw [strconv_ParseUint.j8, if_neg (by simp)]
      have hl : strconv_lower.f (gb s i : Int) = some (lowI (gb s i)) := rfl
      rw [hl]
      simp only [Option.bind_some]
      rcases h1 with h1 | ⟨h1, h1'⟩
      · rw [if_neg (by omega)]
      · rw [if_pos h1, if_neg (by omega)]
    have hbig : base ≤ puD (gb s i) := by rw [h2]; rcases hb with rfl | rfl <;> omega
    rw [if_pos hbig]
    by_cases c1 : 48 ≤ (gb s i : Int)
    · rw [if_pos c1]; exact hj _ (decide_eq_false (by omega))
    · rw [if_neg c1]; exact hj _ rfl

/-- What strconv reads of bytes, in 31 bits. -/
def puL (base : Nat) : List UInt8 → Nat → Int × Option Int
  | [], n => ((n : Int), none)
  | c :: t, n => if base ≤ puD c.toNat then (0, some 2) else if 2147483647 < n * base + puD c.toNat then (2147483647, some 1) else puL base t (n * base + puD c.toNat)
def puR (base : Nat) (l : List UInt8) : Int × Option Int := if l = [] then (0, some 2) else puL base l 0
theorem pu_loop (base : Nat) (hb : base = 10 ∨ base = 16) (cut : Int) (hcut : 2147483648 ≤ cut) (s : ByteArray) (hs : s.size ≤ 1000000) : ∀ (d k n i : Nat), n ≤ 2147483647 → i + d = s.size → 4 * d + 1 < k →
    strconv_ParseUint.l0 k base false s cut 2147483647 false n (bytesOf s) s.size i = some (puL base ((L s).drop i) n)
  | 0, k, n, i, hn, hd, hk => by
    obtain ⟨k, rfl⟩ : ∃ m, k = m + 1 := ⟨k - 1, by omega⟩
    rw [strconv_ParseUint.l0, if_neg (by omega), if_neg (by simp), List.drop_eq_nil_of_le (by rw [← size_L]; omega)]
    rfl
  | d + 1, k, n, i, hn, hd, hk => by
    obtain ⟨k, rfl⟩ : ∃ m, k = m + 4 := ⟨k - 4, by omega⟩
    have hi : i < s.size := by omega
    rw [pu_step base hb cut hcut k s n i hn hi hs, getD_drop (L s) i (by rw [← size_L]; exact hi), puL]
    have e : ((L s).getD i 0).toNat = gb s i := rfl
    rw [e]
    split
    · rfl
    · split
      · rfl
      · exact pu_loop base hb cut hcut s hs d k _ (i + 1) (by omega) (by omega) (by omega)
theorem pu_f (base : Nat) (hb : base = 10 ∨ base = 16) (s : ByteArray) (hs : s.size ≤ 1000000) (k : Nat) (hk : 4 * s.size + 20 < k) : strconv_ParseUint.f k s base 31 = some (puR base (L s)) := by
  obtain ⟨k, rfl⟩ : ∃ m, k = m + 4 := ⟨k - 4, by omega⟩
  unfold strconv_ParseUint.f puR
  rw [toList_L]
  by_cases h0 : L s = []
  · rw [if_pos h0, if_pos h0]
  · rw [if_neg h0, if_neg h0]
    have hloop := fun cut hcut => pu_loop base hb cut hcut s hs s.size k 0 0 (by omega) (by omega) (by omega)
    rw [List.drop_zero] at hloop
    have hsh : IntKind.u64.wrap ((shl .u64 1 (IntKind.u64.wrap 31)) - 1) = 2147483647 := by decide +kernel
    have hw : (0 : Int) ≤ IntKind.u64.wrap 31 := by decide
    rcases hb with rfl | rfl
    · rw [if_pos (by omega), decide_eq_true (by omega), strconv_ParseUint.j0, if_pos rfl, strconv_ParseUint.j3, if_neg (by decide), if_neg (by decide), if_neg (by decide), strconv_ParseUint.j4, if_pos (show ((10 : Nat) : Int) = 10 from rfl), strconv_ParseUint.j5, if_pos hw, if_pos (by omega), hsh, Option.bind_some, bytesOf_length]
      exact hloop 1844674407370955162 (by decide)
    · rw [if_pos (by omega), decide_eq_true (by omega), strconv_ParseUint.j0, if_pos rfl, strconv_ParseUint.j3, if_neg (by decide), if_neg (by decide), if_neg (by decide), strconv_ParseUint.j4, if_neg (by decide), if_pos (show ((16 : Nat) : Int) = 16 from rfl), strconv_ParseUint.j5, if_pos hw, if_pos (by omega), hsh, Option.bind_some, bytesOf_length]
      exact hloop 1152921504606846976 (by decide)
theorem puL_good (base : Nat) : ∀ (l : List UInt8) (n : Nat), n ≤ 2147483647 → ((puL base l n).2 = none ∨ (puL base l n).2 = some 1 ∨ (puL base l n).2 = some 2) ∧ 0 ≤ (puL base l n).1 ∧ (puL base l n).1 ≤ 2147483647
  | [], n, h => by rw [puL]; exact ⟨Or.inl rfl, by show (0 : Int) ≤ (n : Int); omega, by show (n : Int) ≤ 2147483647; omega⟩
  | c :: t, n, h => by
    rw [puL]
    split
    · exact ⟨Or.inr (Or.inr rfl), by decide, by decide⟩
    · split
      · exact ⟨Or.inr (Or.inl rfl), by decide, by decide⟩
      · exact puL_good base t _ (by omega)
theorem number_f (base most : Nat) (hb : base = 10 ∨ base = 16) (s : ByteArray) (hs : s.size ≤ 1000000) (k : Nat) (hk : 4 * s.size + 20 < k) :
    entity_number.f k s base most = some ((puR base (L s)).1, if (puR base (L s)).2 = none then decide (s.size ≤ most) else false) := by
  unfold entity_number.f
  rw [if_pos (by omega), pu_f base hb s hs k hk]
  simp only [Option.bind_some]
  have hg : puGood s (puR base (L s)) := by
    unfold puR puGood
    split
    · exact ⟨Or.inr (Or.inr rfl), by decide, by decide, fun h => by cases h⟩
    · next h0 =>
      obtain ⟨g1, g2, g3⟩ := puL_good base (L s) 0 (by omega)
      refine ⟨g1, g2, g3, fun _ => ?_⟩
      rw [size_L]
      exact List.length_pos_iff.2 h0
  rw [if_pos hg]
  by_cases hn : (puR base (L s)).2 = none
  · rw [if_pos hn, if_pos hn]
    have h43 : bt s 0 ≠ 43 := by
      unfold puR at hn
      split at hn
      · cases hn
      · next h0 =>
        cases hL : L s with
        | nil => exact absurd hL h0
        | cons c t =>
          rw [hL, puL] at hn
          rw [bt_L, hL]
          intro h
          have hc : c.toNat = 43 := by
            have h' : ((c.toNat : Nat) : Int) = 43 := h
            omega
          rw [hc, if_pos (by rcases hb with rfl | rfl <;> decide)] at hn
          cases hn
    by_cases hm : s.size ≤ most
    · rw [if_pos (by omega), decide_eq_true hm, bne_iff_ne.mpr h43]
    · rw [if_neg (by omega), decide_eq_false hm]
  · rw [if_neg hn, if_neg hn]

/-- A number's value; none: a digit is none. -/
def valL (base : Nat) : List UInt8 → Nat → Option Nat
  | [], n => some n
  | c :: t, n => if base ≤ puD c.toNat then none else valL base t (n * base + puD c.toNat)
theorem puL_val (base : Nat) (hb : 0 < base) : ∀ (l : List UInt8) (n : Nat), (n + 1) * base ^ l.length ≤ 2147483648 →
    puL base l n = (match valL base l n with | some v => ((v : Int), none) | none => (0, some 2)) ∧ ∀ v, valL base l n = some v → v + 1 ≤ (n + 1) * base ^ l.length
  | [], n, h => by
    refine ⟨rfl, fun v hv => ?_⟩
    simp only [valL, Option.some.injEq] at hv
    subst hv
    simp
  | c :: t, n, h => by
    rw [puL, valL]
    by_cases hc : base ≤ puD c.toNat
    · rw [if_pos hc, if_pos hc]
      exact ⟨rfl, fun v hv => by cases hv⟩
    · have hle : (n * base + puD c.toNat + 1) ≤ (n + 1) * base := by rw [Nat.add_mul]; omega
      have hp : (n * base + puD c.toNat + 1) * base ^ t.length ≤ (n + 1) * base ^ (c :: t).length := by
        rw [List.length_cons, Nat.pow_succ, Nat.mul_comm (base ^ t.length) base, ← Nat.mul_assoc]
        exact Nat.mul_le_mul_right _ hle
      have hpos : 1 ≤ base ^ t.length := Nat.pow_pos hb
      have h1 : n * base + puD c.toNat + 1 ≤ 2147483648 := by
        have := Nat.le_mul_of_pos_right (n * base + puD c.toNat + 1) hpos
        omega
      obtain ⟨i1, i2⟩ := puL_val base hb t (n * base + puD c.toNat) (by omega)
      rw [if_neg hc, if_neg (by omega), if_neg hc]
      exact ⟨i1, fun v hv => Nat.le_trans (i2 v hv) hp⟩

/-! ### the reference's digits -/
theorem ref_digit : ∀ c : Fin 256, (48 ≤ c.val ∧ c.val ≤ 57 ∧ ((c.val : Int) - 48) % 256 = (puD c.val : Int)) ∨ (¬ (48 ≤ c.val ∧ c.val ≤ 57) ∧ 97 ≤ c.val ∧ c.val ≤ 102 ∧ ((c.val : Int) - 97) % 256 + 10 = (puD c.val : Int)) ∨ (¬ (48 ≤ c.val ∧ c.val ≤ 57) ∧ ¬ (97 ≤ c.val ∧ c.val ≤ 102) ∧ 65 ≤ c.val ∧ c.val ≤ 70 ∧ ((c.val : Int) - 65) % 256 + 10 = (puD c.val : Int)) ∨ (¬ (48 ≤ c.val ∧ c.val ≤ 57) ∧ ¬ (97 ≤ c.val ∧ c.val ≤ 102) ∧ ¬ (65 ≤ c.val ∧ c.val ≤ 70) ∧ 16 ≤ puD c.val) := by decide +kernel
theorem ref_step (base : Nat) (hb : base = 10 ∨ base = 16) (k : Nat) (s : ByteArray) (n i : Nat) (hn : n ≤ 100000000) (hi : i < s.size) (hs : s.size ≤ 1000000) (X : Option ByteArray)
    (hX : puD (gb s i) < base → ∀ k', k ≤ k' → lanternref12_reference.l0 k' s base ((n * base + puD (gb s i) : Nat) : Int) ((i + 1 : Nat) : Int) = X) :
    lanternref12_reference.l0 (k + 4) s base n i = if base ≤ puD (gb s i) then some (B []) else X := by
  have hg := gb_lt s i
  have wi : wrap64 ((i : Int) + 1) = ((i + 1 : Nat) : Int) := wrap_nat (i + 1) rfl (by omega)
  have wn : ∀ d : Int, d = ((puD (gb s i) : Nat) : Int) → puD (gb s i) < base → wrap64 (wrap64 ((n : Int) * (base : Int)) + d) = ((n * base + puD (gb s i) : Nat) : Int) := by
    rintro d rfl hlt
    rcases hb with rfl | rfl
    · rw [wrap_nat (x := (n : Int) * ((10 : Nat) : Int)) (n * 10) (by omega) (by omega)]
      exact wrap_nat _ (by omega) (by omega)
    · rw [wrap_nat (x := (n : Int) * ((16 : Nat) : Int)) (n * 16) (by omega) (by omega)]
      exact wrap_nat _ (by omega) (by omega)
  rw [lanternref12_reference.l0, if_pos (by omega), if_pos (by omega), bt_gb]
  have hj6 : ∀ b : Bool, (b = true ∧ ((gb s i : Int) - 65) % 256 + 10 = (puD (gb s i) : Int) ∨ b = false ∧ 16 ≤ puD (gb s i)) → lanternref12_reference.j6 (k + 1) s base n i 99 (gb s i) b = if base ≤ puD (gb s i) then some (B []) else X := by
    intro b hbb
    rw [lanternref12_reference.j6]
    rcases hbb with ⟨rfl, e⟩ | ⟨rfl, e⟩
    · rw [if_pos rfl, e]
      by_cases c : base ≤ puD (gb s i)
      · rw [if_pos (by omega), if_pos c]; rfl
      · rw [if_neg (by omega), if_neg c, wn _ rfl (by omega), wi]
        exact hX (by omega) k (by omega)
    · rw [if_neg (by simp), if_pos (by rcases hb with rfl | rfl <;> omega), if_pos (by rcases hb with rfl | rfl <;> omega)]; rfl
  have hj5 : ∀ b : Bool, (b = true ∧ ((gb s i : Int) - 97) % 256 + 10 = (puD (gb s i) : Int) ∨ b = false ∧ (65 ≤ gb s i ∧ gb s i ≤ 70 ∧ ((gb s i : Int) - 65) % 256 + 10 = (puD (gb s i) : Int) ∨ ¬ (65 ≤ gb s i ∧ gb s i ≤ 70) ∧ 16 ≤ puD (gb s i))) → lanternref12_reference.j5 (k + 2) s base n i 99 (gb s i) b = if base ≤ puD (gb s i) then some (B []) else X := by
    intro b hbb
    rw [lanternref12_reference.j5]
    rcases hbb with ⟨rfl, e⟩ | ⟨rfl, ⟨e1, e2, e⟩ | ⟨e1, e⟩⟩
    · rw [if_pos rfl, e]
      by_cases c : base ≤ puD (gb s i)
      · rw [if_pos (by omega), if_pos c]; rfl
      · rw [if_neg (by omega), if_neg c, wn _ rfl (by omega), wi]
        exact hX (by omega) (k + 1) (by omega)
    · rw [if_neg (by simp), if_pos (by omega)]
      exact hj6 _ (Or.inl ⟨decide_eq_true (by omega), e⟩)
    · rw [if_neg (by simp)]
      by_cases c : (gb s i : Int) ≥ 65
      · rw [if_pos c]
        exact hj6 _ (Or.inr ⟨decide_eq_false (by omega), e⟩)
      · rw [if_neg c]
        exact hj6 _ (Or.inr ⟨rfl, e⟩)
  have hj4 : ∀ b : Bool, (b = true ∧ ((gb s i : Int) - 48) % 256 = (puD (gb s i) : Int) ∨ b = false ∧ (97 ≤ gb s i ∧ gb s i ≤ 102 ∧ ((gb s i : Int) - 97) % 256 + 10 = (puD (gb s i) : Int) ∨ ¬ (97 ≤ gb s i ∧ gb s i ≤ 102) ∧ (65 ≤ gb s i ∧ gb s i ≤ 70 ∧ ((gb s i : Int) - 65) % 256 + 10 = (puD (gb s i) : Int) ∨ ¬ (65 ≤ gb s i ∧ gb s i ≤ 70) ∧ 16 ≤ puD (gb s i)))) → lanternref12_reference.j4 (k + 3) s base n i 99 (gb s i) b = if base ≤ puD (gb s i) then some (B []) else X := by
    intro b hbb
    rw [lanternref12_reference.j4]
    rcases hbb with ⟨rfl, e⟩ | ⟨rfl, ⟨e1, e2, e⟩ | ⟨e1, e⟩⟩
    · rw [if_pos rfl, e]
      by_cases c : base ≤ puD (gb s i)
      · rw [if_pos (by omega), if_pos c]; rfl
      · rw [if_neg (by omega), if_neg c, wn _ rfl (by omega), wi]
        exact hX (by omega) (k + 2) (by omega)
    · rw [if_neg (by simp), if_pos (by omega)]
      exact hj5 _ (Or.inl ⟨decide_eq_true (by omega), e⟩)
    · rw [if_neg (by simp)]
      by_cases c : (gb s i : Int) ≥ 97
      · rw [if_pos c]
        exact hj5 _ (Or.inr ⟨decide_eq_false (by omega), e⟩)
      · rw [if_neg c]
        exact hj5 _ (Or.inr ⟨rfl, e⟩)
  rcases ref_digit ⟨gb s i, hg⟩ with ⟨h1, h2, h3⟩ | ⟨h0, h1, h2, h3⟩ | ⟨h0, h1, h2, h3, h4⟩ | ⟨h0, h1, h2, h3⟩
  · dsimp only at h1 h2 h3
    rw [if_pos (by omega)]
    exact hj4 _ (Or.inl ⟨decide_eq_true (by omega), h3⟩)
  · dsimp only at h0 h1 h2 h3
    by_cases c : (gb s i : Int) ≥ 48
    · rw [if_pos c]
      exact hj4 _ (Or.inr ⟨decide_eq_false (by omega), Or.inl ⟨h1, h2, h3⟩⟩)
    · rw [if_neg c]
      exact hj4 _ (Or.inr ⟨rfl, Or.inl ⟨h1, h2, h3⟩⟩)
  · dsimp only at h0 h1 h2 h3 h4
    by_cases c : (gb s i : Int) ≥ 48
    · rw [if_pos c]
      exact hj4 _ (Or.inr ⟨decide_eq_false (by omega), Or.inr ⟨h1, Or.inl ⟨h2, h3, h4⟩⟩⟩)
    · rw [if_neg c]
      exact hj4 _ (Or.inr ⟨rfl, Or.inr ⟨h1, Or.inl ⟨h2, h3, h4⟩⟩⟩)
  · dsimp only at h0 h1 h2 h3
    by_cases c : (gb s i : Int) ≥ 48
    · rw [if_pos c]
      exact hj4 _ (Or.inr ⟨decide_eq_false (by omega), Or.inr ⟨h1, Or.inr ⟨h2, h3⟩⟩⟩)
    · rw [if_neg c]
      exact hj4 _ (Or.inr ⟨rfl, Or.inr ⟨h1, Or.inr ⟨h2, h3⟩⟩⟩)
end Go.Proofs.YtimffmddegnkjaaDoor.Q
set_option linter.unusedSimpArgs false
set_option linter.unusedVariables false
namespace Go.Proofs.YtimffmddegnkjaaDoor.Q
open Go Go.RowKit Go.Lib Go.Proofs.YtimffmddegnkjaaDoorW.PrintWords Go.Proofs.YtimffmddegnkjaaDoorB Go.Proofs.YtimffmddegnkjaaDoor.E Go.Proofs.YtimffmddegnkjaaDoor.I Go.Proofs.YtimffmddegnkjaaDoor.J Go.Proofs.YtimffmddegnkjaaDoor.P

/-! ### a rune's bytes -/
def okR (v : Nat) : Bool := decide (v < 55296 ∨ (57343 < v ∧ v ≤ 1114111))
theorem valid_okR (v : Nat) : Utf8.valid (v : Int) = okR v := by
  rw [validRune_eq]
  unfold validRune okR
  by_cases h : v < 55296 ∨ (57343 < v ∧ v ≤ 1114111)
  · rw [decide_eq_true (by omega), decide_eq_true h]
  · rw [decide_eq_false (by omega), decide_eq_false h]
abbrev u8 (n : Nat) : UInt8 := UInt8.ofNat n
theorem enc_shape (v : Nat) (h : okR v = true) :
    (v < 128 ∧ Utf8.encode (v : Int) = B [u8 v]) ∨ (128 ≤ v ∧ v < 2048 ∧ Utf8.encode (v : Int) = B [u8 (192 + v / 64), u8 (128 + v % 64)]) ∨
    (2048 ≤ v ∧ v < 65536 ∧ Utf8.encode (v : Int) = B [u8 (224 + v / 4096), u8 (128 + v / 64 % 64), u8 (128 + v % 64)]) ∨
    (65536 ≤ v ∧ v ≤ 1114111 ∧ Utf8.encode (v : Int) = B [u8 (240 + v / 262144), u8 (128 + v / 4096 % 64), u8 (128 + v / 64 % 64), u8 (128 + v % 64)]) := by
  have hv := (valid_okR v).trans h
  have hle : v ≤ 1114111 := by
    have := of_decide_eq_true h
    omega
  unfold Utf8.encode
  rw [hv]
  simp only [if_true, Int.toNat_natCast]
  by_cases c1 : v < 128
  · exact Or.inl ⟨c1, by rw [if_pos c1]; rfl⟩
  · by_cases c2 : v < 2048
    · exact Or.inr (Or.inl ⟨by omega, c2, by rw [if_neg c1, if_pos c2]; rfl⟩)
    · by_cases c3 : v < 65536
      · exact Or.inr (Or.inr (Or.inl ⟨by omega, c3, by rw [if_neg c1, if_neg c2, if_pos c3]; rfl⟩))
      · exact Or.inr (Or.inr (Or.inr ⟨by omega, hle, by rw [if_neg c1, if_neg c2, if_neg c3]; rfl⟩))
theorem gb_B (l : List UInt8) (i : Nat) : gb (B l) i = (l.getD i 0).toNat := by unfold gb; rw [L_B]
theorem u8_toNat (n : Nat) (h : n < 256) : (u8 n).toNat = n := by
  show (UInt8.ofNat n).toNat = n
  rw [UInt8.toNat_ofNat']
  exact Nat.mod_eq_of_lt h
theorem dec_enc (v : Nat) (h : okR v = true) : Utf8.decode (Utf8.encode (v : Int)) 0 = (v, (Utf8.encode (v : Int)).size) ∧ 1 ≤ (Utf8.encode (v : Int)).size ∧ (Utf8.encode (v : Int)).size ≤ 4 ∧ ¬ (v = 65533 ∧ (Utf8.encode (v : Int)).size = 1) := by
  have ho : v < 55296 ∨ (57343 < v ∧ v ≤ 1114111) := of_decide_eq_true h
  rcases enc_shape v h with ⟨c, e⟩ | ⟨c1, c2, e⟩ | ⟨c1, c2, e⟩ | ⟨c1, c2, e⟩
  · rw [e, decode_gb, gb_B, size_B]
    have g0 : (([u8 v] : List UInt8).getD 0 0).toNat = v := u8_toNat v (by omega)
    rw [g0]
    refine ⟨?_, by simp, by simp, by omega⟩
    unfold decodeN
    rw [if_pos (by omega)]
    rfl
  · rw [e, decode_gb, gb_B, gb_B, size_B]
    have g0 : (([u8 (192 + v / 64), u8 (128 + v % 64)] : List UInt8).getD 0 0).toNat = 192 + v / 64 := u8_toNat _ (by omega)
    have g1 : (([u8 (192 + v / 64), u8 (128 + v % 64)] : List UInt8).getD (0 + 1) 0).toNat = 128 + v % 64 := u8_toNat _ (by omega)
    rw [g0, g1]
    refine ⟨?_, by simp, by simp, by simp⟩
    unfold decodeN
    rw [if_neg (by omega), if_pos ⟨by omega, by simp, by omega⟩, if_pos (by omega)]
    exact Prod.ext (by dsimp only; omega) rfl
  · rw [e, decode_gb, gb_B, gb_B, gb_B, size_B]
    have g0 : (([u8 (224 + v / 4096), u8 (128 + v / 64 % 64), u8 (128 + v % 64)] : List UInt8).getD 0 0).toNat = 224 + v / 4096 := u8_toNat _ (by omega)
    have g1 : (([u8 (224 + v / 4096), u8 (128 + v / 64 % 64), u8 (128 + v % 64)] : List UInt8).getD (0 + 1) 0).toNat = 128 + v / 64 % 64 := u8_toNat _ (by omega)
    have g2 : (([u8 (224 + v / 4096), u8 (128 + v / 64 % 64), u8 (128 + v % 64)] : List UInt8).getD (0 + 2) 0).toNat = 128 + v % 64 := u8_toNat _ (by omega)
    rw [g0, g1, g2]
    refine ⟨?_, by simp, by simp, by simp⟩
    unfold decodeN
    rw [if_neg (by omega), if_neg (by omega), if_pos ⟨by omega, ⟨by simp, by omega⟩, by simp, by omega⟩, if_pos ⟨by omega, by omega⟩]
    exact Prod.ext (by dsimp only; omega) rfl
  · rw [e, decode_gb, gb_B, gb_B, gb_B, gb_B, size_B]
    have g0 : (([u8 (240 + v / 262144), u8 (128 + v / 4096 % 64), u8 (128 + v / 64 % 64), u8 (128 + v % 64)] : List UInt8).getD 0 0).toNat = 240 + v / 262144 := u8_toNat _ (by omega)
    have g1 : (([u8 (240 + v / 262144), u8 (128 + v / 4096 % 64), u8 (128 + v / 64 % 64), u8 (128 + v % 64)] : List UInt8).getD (0 + 1) 0).toNat = 128 + v / 4096 % 64 := u8_toNat _ (by omega)
    have g2 : (([u8 (240 + v / 262144), u8 (128 + v / 4096 % 64), u8 (128 + v / 64 % 64), u8 (128 + v % 64)] : List UInt8).getD (0 + 2) 0).toNat = 128 + v / 64 % 64 := u8_toNat _ (by omega)
    have g3 : (([u8 (240 + v / 262144), u8 (128 + v / 4096 % 64), u8 (128 + v / 64 % 64), u8 (128 + v % 64)] : List UInt8).getD (0 + 3) 0).toNat = 128 + v % 64 := u8_toNat _ (by omega)
    rw [g0, g1, g2, g3]
    refine ⟨?_, by simp, by simp, by simp⟩
    unfold decodeN
    rw [if_neg (by omega), if_neg (by omega), if_neg (by omega), if_pos ⟨by omega, ⟨by simp, by omega⟩, ⟨by simp, by omega⟩, by simp, by omega⟩, if_pos ⟨by omega, by omega⟩]
    exact Prod.ext (by dsimp only; omega) rfl
theorem valid_one (s : ByteArray) (v : Nat) (e : Utf8.decode s 0 = (v, s.size)) (h1 : 1 ≤ s.size) (hb : ¬ (v = 65533 ∧ s.size = 1)) : validD (L s) = true := by
  have hs := valid_step s 0 (by omega)
  rw [List.drop_zero] at hs
  have e' : dec s 0 = (v, s.size) := e
  rw [hs, e', if_neg hb]
  exact valid_end _ _ (by show ¬ 0 + s.size < s.size; omega)
theorem valid_enc (v : Nat) (h : okR v = true) : validD (L (Utf8.encode (v : Int))) = true := by
  obtain ⟨e, h1, h4, hb⟩ := dec_enc v h
  exact valid_one _ v e h1 hb
theorem xml_one (s : ByteArray) (v : Nat) (e : Utf8.decode s 0 = (v, s.size)) (h1 : 1 ≤ s.size) (h4 : s.size ≤ 4) (hb : ¬ (v = 65533 ∧ s.size = 1)) : text_Xml.f s = some (if standsB v = true then 0 else 1) := by
  unfold text_Xml.f
  rw [if_pos (by omega), if_pos (valid_one s v e h1 hb)]
  obtain ⟨n, hn⟩ : ∃ n, s.size = n + 1 := ⟨_, (Nat.sub_add_cancel h1).symm⟩
  have hx : xmlFrom s s.size 0 = standsB v := by
    rw [hn, xmlFrom, if_pos (by omega), e]
    show (if standsB (v : Int) = true then xmlFrom s n (0 + s.size) else false) = standsB (v : Int)
    rw [xmlFrom_end _ _ _ (by omega)]
    cases standsB v <;> rfl
  rw [hx]
  split <;> rfl
theorem xml_enc (v : Nat) (h : okR v = true) : text_Xml.f (Utf8.encode (v : Int)) = some (if standsB v = true then 0 else 1) := by
  obtain ⟨e, h1, h4, hb⟩ := dec_enc v h
  exact xml_one _ v e h1 h4 hb
theorem xml_some (s : ByteArray) (h : s.size ≤ 1000) : ∃ e, text_Xml.f s = some e := by
  unfold text_Xml.f
  rw [if_pos (by omega)]
  repeat' split
  all_goals exact ⟨_, rfl⟩
theorem valid_f (v : Nat) : entity_valid.f (v : Int) = some (okR v) := by
  unfold entity_valid.f okR
  by_cases c1 : (v : Int) ≤ 1114111
  · rw [if_pos c1]
    by_cases c2 : (v : Int) < 55296
    · rw [if_pos c2, decide_eq_true (by omega)]
    · rw [if_neg c2]
      by_cases c3 : (v : Int) > 57343
      · rw [decide_eq_true c3, decide_eq_true (by omega)]
      · rw [decide_eq_false c3, decide_eq_false (by omega)]
  · rw [if_neg c1, decide_eq_false (by omega)]
/-- The bytes of the rune that a number stands for; empty: none. -/
def runeL (v : Nat) : List UInt8 := if okR v = true then (if standsB v = true then L (Utf8.encode (v : Int)) else []) else []
theorem runeL_ne (v : Nat) (h : okR v = true) (hs : standsB v = true) : runeL v ≠ [] := by
  unfold runeL
  rw [if_pos h, if_pos hs]
  intro h0
  have := (dec_enc v h).2.1
  rw [size_L, h0] at this
  simp at this

/-! ### the reference's -/
theorem tdiv_lit (a b : Nat) (x : Int) (h : x = (b : Int)) : Int.tdiv (a : Int) x = ((a / b : Nat) : Int) := by subst h; rfl
theorem tmod_lit (a b : Nat) (x : Int) (h : x = (b : Int)) : Int.tmod (a : Int) x = ((a % b : Nat) : Int) := by subst h; rfl
theorem one_byte (a n : Nat) (c x : Int) (hc : c = (a : Int)) (hx : x = (n : Int)) (hn : n < 64) (ha : a ≤ 240) (han : a + n < 256) : (wrap64 (c + x) % 256).toNat = a + n := by
  subst hc; subst hx
  rw [wrap_id (by omega) (by omega)]
  omega
theorem strOfNums_B (xs : List Int) : strOfNums xs = B (xs.map fun n => u8 n.toNat) := rfl
theorem div_facts (v : Nat) (hle : v ≤ 1114111) : (Int.tdiv (v : Int) 64 = ((v / 64 : Nat) : Int) ∧ Int.tdiv (v : Int) 4096 = ((v / 4096 : Nat) : Int) ∧ Int.tdiv (v : Int) 262144 = ((v / 262144 : Nat) : Int)) ∧ Int.tmod (v : Int) 64 = ((v % 64 : Nat) : Int) ∧ (wrap64 ((v / 64 : Nat) : Int) = ((v / 64 : Nat) : Int) ∧ wrap64 ((v / 4096 : Nat) : Int) = ((v / 4096 : Nat) : Int) ∧ wrap64 ((v / 262144 : Nat) : Int) = ((v / 262144 : Nat) : Int)) ∧ Int.tmod ((v / 64 : Nat) : Int) 64 = ((v / 64 % 64 : Nat) : Int) ∧ Int.tmod ((v / 4096 : Nat) : Int) 64 = ((v / 4096 % 64 : Nat) : Int) :=
  ⟨⟨tdiv_lit v 64 64 rfl, tdiv_lit v 4096 4096 rfl, tdiv_lit v 262144 262144 rfl⟩, tmod_lit v 64 64 rfl, ⟨wrap_nat _ rfl (by omega), wrap_nat _ rfl (by omega), wrap_nat _ rfl (by omega)⟩, tmod_lit _ 64 64 rfl, tmod_lit _ 64 64 rfl⟩
theorem ref_utf8 (v : Nat) (h : okR v = true) : lanternref12_utf8.f (v : Int) = some (Utf8.encode (v : Int)) := by
  unfold lanternref12_utf8.f
  have hle : v ≤ 1114111 := by
    have := of_decide_eq_true h
    omega
  rcases enc_shape v h with ⟨c, e⟩ | ⟨c1, c2, e⟩ | ⟨c1, c2, e⟩ | ⟨c1, c2, e⟩
  · have o1 : ((v : Int) % 256).toNat = v := by omega
    rw [if_pos (by omega), e, strOfNums_B, List.map_cons, List.map_nil, o1]
  · rw [if_neg (by omega), if_pos (by omega), e, strOfNums_B]
    have o1 := one_byte 192 (v / 64) 192 _ rfl rfl (by omega) (by omega) (by omega)
    have o2 := one_byte 128 (v % 64) 128 _ rfl rfl (by omega) (by omega) (by omega)
    obtain ⟨⟨d1, d2, d3⟩, m1, ⟨w1, w2, w3⟩, m2, m3⟩ := div_facts v hle
    simp only [d1, m1, w1, List.map_cons, List.map_nil, o1, o2]
  · rw [if_neg (by omega), if_neg (by omega), if_pos (by omega), e, strOfNums_B]
    have o1 := one_byte 224 (v / 4096) 224 _ rfl rfl (by omega) (by omega) (by omega)
    have o2 := one_byte 128 (v / 64 % 64) 128 _ rfl rfl (by omega) (by omega) (by omega)
    have o3 := one_byte 128 (v % 64) 128 _ rfl rfl (by omega) (by omega) (by omega)
    obtain ⟨⟨d1, d2, d3⟩, m1, ⟨w1, w2, w3⟩, m2, m3⟩ := div_facts v hle
    simp only [d1, d2, m1, w1, w2, m2, List.map_cons, List.map_nil, o1, o2, o3]
  · rw [if_neg (by omega), if_neg (by omega), if_neg (by omega), e, strOfNums_B]
    have o1 := one_byte 240 (v / 262144) 240 _ rfl rfl (by omega) (by omega) (by omega)
    have o2 := one_byte 128 (v / 4096 % 64) 128 _ rfl rfl (by omega) (by omega) (by omega)
    have o3 := one_byte 128 (v / 64 % 64) 128 _ rfl rfl (by omega) (by omega) (by omega)
    have o4 := one_byte 128 (v % 64) 128 _ rfl rfl (by omega) (by omega) (by omega)
    obtain ⟨⟨d1, d2, d3⟩, m1, ⟨w1, w2, w3⟩, m2, m3⟩ := div_facts v hle
    simp only [d1, d2, d3, m1, w1, w2, w3, m2, m3, List.map_cons, List.map_nil, o1, o2, o3, o4]
theorem ref_Utf8 (v : Nat) : lanternref12_Utf8.f (v : Int) = some (if okR v = true then (Utf8.encode (v : Int), true) else (B [], false)) := by
  unfold lanternref12_Utf8.f
  rw [if_neg (by omega)]
  by_cases h : okR v = true
  · have ho : v < 55296 ∨ (57343 < v ∧ v ≤ 1114111) := of_decide_eq_true h
    rw [if_pos h, if_neg (by omega), ref_utf8 v h]
    by_cases c : (v : Int) ≥ 55296
    · rw [if_pos c, if_neg (by omega)]; rfl
    · rw [if_neg c]; rfl
  · have ho : ¬ (v < 55296 ∨ (57343 < v ∧ v ≤ 1114111)) := fun hh => h (decide_eq_true hh)
    rw [if_neg h]
    by_cases c : (v : Int) > 1114111
    · rw [if_pos c]; rfl
    · rw [if_neg c, if_pos (by omega), if_pos (by omega)]; rfl
theorem ref_end (v k : Nat) (hk : 2 < k) : ((lanternref12_Utf8.f (v : Int)).bind fun bt131 => (if bt131.2 = true then ((lanternref01_Xml.f k (([(v : Int)] : List Int))).bind fun t136 => (if t136 = true then (some bt131.1) else (some (⟨#[]⟩ : ByteArray)))) else (some (⟨#[]⟩ : ByteArray)))) = some (B (runeL v)) := by
  rw [ref_Utf8]
  simp only [Option.bind_some]
  unfold runeL
  by_cases h : okR v = true
  · have ho : v < 55296 ∨ (57343 < v ∧ v ≤ 1114111) := of_decide_eq_true h
    have hx : lanternref01_Xml.f k [(v : Int)] = some (standsB v) := by
      have := xml_loop [(v : Int)] (by simp) (by intro c hc; simp only [List.mem_singleton] at hc; subst hc; omega) 1 k 0 rfl (by omega)
      rw [List.drop_zero] at this
      unfold lanternref01_Xml.f
      exact this.trans (by simp)
    rw [if_pos h, if_pos h, hx]
    simp only [if_true, Option.bind_some]
    by_cases hs : standsB v = true
    · rw [if_pos hs, if_pos hs, B_L]
    · rw [if_neg hs, if_neg hs]; rfl
  · rw [if_neg h, if_neg h]
    simp only [Bool.false_eq_true, if_false]
    rfl
def finL (x : Option Nat) : List UInt8 := match x with | some v => runeL v | none => []
theorem ref_loop (base : Nat) (hb : base = 10 ∨ base = 16) (s : ByteArray) (hs : s.size ≤ 1000000) : ∀ (d k n i : Nat), i + d = s.size → (n + 1) * base ^ d ≤ 100000001 → 4 * d + 6 < k →
    lanternref12_reference.l0 k s base n i = some (B (finL (valL base ((L s).drop i) n)))
  | 0, k, n, i, hd, hn, hk => by
    obtain ⟨k, rfl⟩ : ∃ m, k = m + 1 := ⟨k - 1, by omega⟩
    rw [lanternref12_reference.l0, if_neg (by omega), List.drop_eq_nil_of_le (by rw [← size_L]; omega)]
    exact ref_end n k (by omega)
  | d + 1, k, n, i, hd, hn, hk => by
    obtain ⟨k, rfl⟩ : ∃ m, k = m + 4 := ⟨k - 4, by omega⟩
    have hi : i < s.size := by omega
    have hpos : 1 ≤ base ^ (d + 1) := Nat.pow_pos (by rcases hb with rfl | rfl <;> omega)
    have hn1 : n + 1 ≤ (n + 1) * base ^ (d + 1) := Nat.le_mul_of_pos_right _ hpos
    have e : ((L s).getD i 0).toNat = gb s i := rfl
    have hst := ref_step base hb k s n i (by omega) hi hs (some (B (finL (valL base ((L s).drop (i + 1)) (n * base + puD (gb s i)))))) (fun hlt k' hk' => ref_loop base hb s hs d k' _ (i + 1) (by omega) (by
      refine Nat.le_trans ?_ hn
      rw [Nat.pow_succ, Nat.mul_comm (base ^ d) base, ← Nat.mul_assoc]
      exact Nat.mul_le_mul_right _ (by rw [Nat.add_mul]; omega)) (by omega))
    rw [hst, getD_drop (L s) i (by rw [← size_L]; exact hi), valL, e]
    split <;> rfl
end Go.Proofs.YtimffmddegnkjaaDoor.Q
set_option linter.unusedSimpArgs false
set_option linter.unusedVariables false
namespace Go.Proofs.YtimffmddegnkjaaDoor.Q
open Go Go.RowKit Go.Lib Go.Proofs.YtimffmddegnkjaaDoorW.PrintWords Go.Proofs.YtimffmddegnkjaaDoorB Go.Proofs.YtimffmddegnkjaaDoor.E Go.Proofs.YtimffmddegnkjaaDoor.I Go.Proofs.YtimffmddegnkjaaDoor.J Go.Proofs.YtimffmddegnkjaaDoor.P

/-! ### cut at a byte -/
def splitC (c : UInt8) : List UInt8 → Option (List UInt8 × List UInt8)
  | [] => none
  | b :: t => if b = c then some ([], t) else (splitC c t).map fun x => (b :: x.1, x.2)
theorem splitC_some (c : UInt8) : ∀ (l u t : List UInt8), splitC c l = some (u, t) → l = u ++ c :: t ∧ ∀ b ∈ u, b ≠ c
  | [], u, t, h => by simp [splitC] at h
  | b :: l, u, t, h => by
    rw [splitC] at h
    split at h
    · next hb =>
      simp only [Option.some.injEq, Prod.mk.injEq] at h
      obtain ⟨rfl, rfl⟩ := h
      subst hb
      simp
    · next hb =>
      obtain ⟨⟨u', t'⟩, h1, h2⟩ := Option.map_eq_some_iff.1 h
      simp only [Prod.mk.injEq] at h2
      obtain ⟨rfl, rfl⟩ := h2
      obtain ⟨e, g⟩ := splitC_some c l u' t' h1
      refine ⟨by rw [e]; rfl, fun d hd => ?_⟩
      rcases List.mem_cons.1 hd with rfl | hd
      · exact hb
      · exact g d hd
theorem splitC_none (c : UInt8) : ∀ (l : List UInt8), splitC c l = none → ∀ b ∈ l, b ≠ c
  | [], _, b, hb => by simp at hb
  | d :: l, h, b, hb => by
    rw [splitC] at h
    split at h
    · cases h
    · next hd =>
      have h' : splitC c l = none := by
        cases hs : splitC c l with
        | none => rfl
        | some x => rw [hs] at h; cases h
      rcases List.mem_cons.1 hb with rfl | hb
      · exact hd
      · exact splitC_none c l h' b hb
theorem indexByte_split (c : UInt8) : ∀ l : List UInt8, Lib.indexByte l c = match splitC c l with | some x => (x.1.length : Int) | none => -1
  | [] => rfl
  | b :: l => by
    have ih := indexByte_split c l
    rw [Lib.indexByte, splitC]
    by_cases h : b = c
    · rw [if_pos (by simpa using h), if_pos h]; rfl
    · rw [if_neg (by simpa using h), if_neg h, ih]
      cases hs : splitC c l with
      | none => rfl
      | some x =>
        simp only [Option.map_some, beq_iff_eq]
        rw [if_neg (by omega), List.length_cons]
        show ((x.1.length : Nat) : Int) + 1 = ((x.1.length + 1 : Nat) : Int)
        omega
theorem index_split (c : UInt8) : ∀ l : List UInt8, Lib.index l [c] = match splitC c l with | some x => (x.1.length : Int) | none => -1
  | [] => rfl
  | b :: l => by
    have ih := index_split c l
    rw [Lib.index, splitC]
    have e : ([c] : List UInt8).isPrefixOf (b :: l) = (c == b) := by simp [List.isPrefixOf]
    rw [e]
    by_cases h : b = c
    · rw [if_pos (by simpa using h.symm), if_pos h]; rfl
    · rw [if_neg (by simpa using fun q => h q.symm), if_neg h, ih]
      cases hs : splitC c l with
      | none => rfl
      | some x =>
        simp only [Option.map_some, beq_iff_eq]
        rw [if_neg (by omega), List.length_cons]
        show ((x.1.length : Nat) : Int) + 1 = ((x.1.length + 1 : Nat) : Int)
        omega
theorem cut_split (c : UInt8) (l : List UInt8) : Lib.cut l [c] = match splitC c l with | some x => (x.1, x.2, true) | none => (l, [], false) := by
  unfold Lib.cut
  rw [index_split]
  cases hs : splitC c l with
  | none => rfl
  | some x =>
    obtain ⟨u, t⟩ := x
    obtain ⟨e, _⟩ := splitC_some c l u t hs
    simp only
    rw [if_pos (by omega), e]
    simp

/-! ### what stands between & and ; -/
def neB : List UInt8 → Bool
  | [] => false
  | _ :: _ => true
@[simp] theorem neB_nil : neB [] = false := rfl
theorem neB_ne {l : List UInt8} (h : l ≠ []) : neB l = true := by cases l with | nil => exact absurd rfl h | cons a b => rfl
theorem ne_neB {l : List UInt8} (h : neB l = true) : l ≠ [] := by rintro rfl; cases h
theorem enc_le (z : Int) : (Utf8.encode z).size ≤ 4 := by
  unfold Utf8.encode
  simp only
  repeat' split
  all_goals simp [ByteArray.size]
def refNum (base most : Nat) (l : List UInt8) : List UInt8 := if l = [] then [] else if most < l.length then [] else finL (valL base l 0)
def namesL (l : List UInt8) : List UInt8 := if l = [97, 109, 112] then [38] else if l = [108, 116] then [60] else if l = [103, 116] then [62] else if l = [113, 117, 111, 116] then [34] else if l = [97, 112, 111, 115] then [39] else []
def refOf (l : List UInt8) : List UInt8 := if Lib.hasPrefix l [35, 120] = true then refNum 16 6 (l.drop 2) else if Lib.hasPrefix l [35] = true then refNum 10 7 (l.drop 1) else namesL l
theorem named_num (base most : Nat) (hb : base = 10 ∨ base = 16) (hbm : base ^ most ≤ 100000000) (s : ByteArray) (hs : s.size ≤ 1000000) (k : Nat) (hk : 4 * s.size + 20 < k) :
    ∃ x, ((entity_number.f k s base most).bind fun bt103 => (if bt103.2 = true then (if bt103.1 > 0 then ((text_Xml.f (Utf8.encode bt103.1)).bind fun t105 => (if t105 = 0 then ((entity_valid.f bt103.1).bind fun t106 => (some (Utf8.encode bt103.1, t106))) else (some (Utf8.encode bt103.1, false)))) else (some (Utf8.encode bt103.1, false))) else (some (Utf8.encode bt103.1, false)))) = some (x, neB (refNum base most (L s))) ∧ x.size ≤ 4 ∧ (refNum base most (L s) ≠ [] → L x = refNum base most (L s)) := by
  rw [number_f base most hb s hs k hk]
  simp only [Option.bind_some]
  have hbp : 0 < base := by rcases hb with rfl | rfl <;> omega
  have hsz : ∀ z : Int, (Utf8.encode z).size ≤ 4 := fun z => enc_le z
  unfold refNum
  by_cases h0 : L s = []
  · refine ⟨Utf8.encode (puR base (L s)).1, ?_, hsz _, fun h => ?_⟩
    · rw [h0]
      simp [puR]
    · rw [if_pos h0] at h
      exact absurd rfl h
  · rw [if_neg h0]
    by_cases hm : most < (L s).length
    · refine ⟨Utf8.encode (puR base (L s)).1, ?_, hsz _, fun h => ?_⟩
      · rw [if_pos hm]
        have e1 : decide (s.size ≤ most) = false := decide_eq_false (by rw [size_L]; omega)
        rw [e1]
        simp
      · rw [if_pos hm] at h
        exact absurd rfl h
    · rw [if_neg hm]
      have e1 : decide (s.size ≤ most) = true := decide_eq_true (by rw [size_L]; omega)
      have hp : base ^ (L s).length ≤ base ^ most := Nat.pow_le_pow_right hbp (by omega)
      obtain ⟨i1, i2⟩ := puL_val base hbp (L s) 0 (by omega)
      have e2 : puR base (L s) = puL base (L s) 0 := by unfold puR; rw [if_neg h0]
      rw [e1, e2, i1]
      cases hv : valL base (L s) 0 with
      | none =>
        refine ⟨Utf8.encode 0, by simp [finL], hsz _, fun h => absurd rfl h⟩
      | some v =>
        simp only [if_true]
        refine ⟨Utf8.encode (v : Int), ?_, hsz _, fun h => ?_⟩
        · by_cases hv0 : (v : Int) > 0
          · rw [if_pos hv0]
            by_cases hok : okR v = true
            · rw [xml_enc v hok]
              simp only [Option.bind_some]
              by_cases hst : standsB v = true
              · rw [if_pos hst, if_pos rfl, valid_f, hok]
                simp only [Option.bind_some, finL]
                rw [neB_ne (runeL_ne v hok hst)]
              · rw [if_neg hst, if_neg (by decide)]
                have : runeL v = [] := by unfold runeL; rw [if_pos hok, if_neg hst]
                simp only [finL, this]
                rfl
            · have hrl : runeL v = [] := by unfold runeL; rw [if_neg hok]
              obtain ⟨e, he⟩ := xml_some (Utf8.encode (v : Int)) (by have := hsz (v : Int); omega)
              have hok' : okR v = false := by simpa using hok
              rw [he]
              simp only [Option.bind_some, finL, hrl]
              by_cases h1 : e = 0
              · rw [if_pos h1, valid_f, hok']
                rfl
              · rw [if_neg h1]
                rfl
          · rw [if_neg hv0]
            have : v = 0 := by omega
            subst this
            have : runeL 0 = [] := by
              unfold runeL
              have hst : ¬ standsB ((0 : Nat) : Int) = true := by decide
              rw [if_neg hst]
              split <;> rfl
            simp only [finL, this]
            rfl
        · simp only [finL] at h ⊢
          unfold runeL at h ⊢
          split at h
          · rename_i h1
            split at h
            · rename_i h2
              rw [if_pos h1, if_pos h2]
            · exact absurd rfl h
          · exact absurd rfl h
theorem prefix_len (l p : List UInt8) (h : Lib.hasPrefix l p = true) : p.length ≤ l.length := by
  unfold Lib.hasPrefix at h
  rw [List.isPrefixOf_iff_prefix] at h
  exact h.length_le
theorem named_f (s : ByteArray) (hs : s.size ≤ 1000000) (k : Nat) (hk : 4 * s.size + 20 < k) :
    ∃ x, entity_named.f k s = some (x, neB (refOf (L s))) ∧ x.size ≤ 4 ∧ (refOf (L s) ≠ [] → L x = refOf (L s)) := by
  unfold entity_named.f refOf strings_CutPrefix.f cutPrefixOf Lib.trimPrefix
  simp only [Option.bind_some]
  by_cases h1 : Lib.hasPrefix s.data.toList [35, 120] = true
  · rw [if_pos h1, if_pos h1, if_pos h1]
    have hL : L (⟨((L s).drop 2).toArray⟩ : ByteArray) = (L s).drop 2 := L_B _
    have hz : (⟨((L s).drop 2).toArray⟩ : ByteArray).size ≤ s.size := by rw [size_L, hL, List.length_drop, size_L]; omega
    have := named_num 16 6 (Or.inr rfl) (by decide) ⟨((L s).drop 2).toArray⟩ (by omega) k (by omega)
    rw [hL] at this
    exact this
  · rw [if_neg h1, if_neg h1]
    by_cases h2 : Lib.hasPrefix s.data.toList [35] = true
    · rw [if_pos h2, if_pos h2, if_pos h2]
      have hL : L (⟨((L s).drop 1).toArray⟩ : ByteArray) = (L s).drop 1 := L_B _
      have hz : (⟨((L s).drop 1).toArray⟩ : ByteArray).size ≤ s.size := by rw [size_L, hL, List.length_drop, size_L]; omega
      have := named_num 10 7 (Or.inl rfl) (by decide) ⟨((L s).drop 1).toArray⟩ (by omega) k (by omega)
      rw [hL] at this
      exact this
    · rw [if_neg h2, if_neg h2, toList_L]
      unfold namesL
      by_cases c1 : L s = [97, 109, 112]
      · rw [if_pos c1, if_pos c1]; exact ⟨_, rfl, by decide, fun _ => rfl⟩
      · rw [if_neg c1, if_neg c1]
        by_cases c2 : L s = [108, 116]
        · rw [if_pos c2, if_pos c2]; exact ⟨_, rfl, by decide, fun _ => rfl⟩
        · rw [if_neg c2, if_neg c2]
          by_cases c3 : L s = [103, 116]
          · rw [if_pos c3, if_pos c3]; exact ⟨_, rfl, by decide, fun _ => rfl⟩
          · rw [if_neg c3, if_neg c3]
            by_cases c4 : L s = [113, 117, 111, 116]
            · rw [if_pos c4, if_pos c4]; exact ⟨_, rfl, by decide, fun _ => rfl⟩
            · rw [if_neg c4, if_neg c4]
              by_cases c5 : L s = [97, 112, 111, 115]
              · rw [if_pos c5, if_pos c5]; exact ⟨_, rfl, by decide, fun _ => rfl⟩
              · rw [if_neg c5, if_neg c5]; exact ⟨_, rfl, by decide, fun h => absurd rfl h⟩

/-! ### the reference's -/
theorem ref_names (s : ByteArray) : lanternref12_names.f s = some (B (namesL (L s))) := by
  unfold lanternref12_names.f namesL
  rw [toList_L]
  repeat' split
  all_goals rfl
theorem ref_j1 (base at' most : Nat) (hb : base = 10 ∨ base = 16) (hbm : base ^ most ≤ 100000000) (s : ByteArray) (hs : s.size ≤ 1000000) (hat : at' ≤ s.size) (k : Nat) (hk : 4 * s.size + 30 < k) :
    lanternref12_reference.j1 k s base at' most = some (B (refNum base most ((L s).drop at'))) := by
  obtain ⟨k, rfl⟩ : ∃ m, k = m + 2 := ⟨k - 2, by omega⟩
  have hbp : 0 < base := by rcases hb with rfl | rfl <;> omega
  have hl : ((L s).drop at').length = s.size - at' := by rw [List.length_drop, size_L]
  rw [lanternref12_reference.j1]
  unfold refNum
  by_cases c : (s.size : Int) = at'
  · rw [if_pos c, lanternref12_reference.j2, if_pos rfl, if_pos (List.eq_nil_of_length_eq_zero (by omega))]
    rfl
  · rw [if_neg c, wrap_nat (x := (s.size : Int) - (at' : Int)) (s.size - at') (by omega) (by omega), lanternref12_reference.j2]
    have hne : (L s).drop at' ≠ [] := by
      intro h0
      rw [h0] at hl
      simp at hl
      omega
    rw [if_neg hne]
    by_cases c2 : most < ((L s).drop at').length
    · rw [if_pos c2, decide_eq_true (by omega), if_pos rfl]
      rfl
    · rw [if_neg c2, decide_eq_false (by omega), if_neg (by simp)]
      have hp : base ^ (s.size - at') ≤ base ^ most := Nat.pow_le_pow_right hbp (by omega)
      exact ref_loop base hb s hs (s.size - at') k 0 at' (by omega) (by omega) (by omega)
theorem ref_f (s : ByteArray) (hs : s.size ≤ 1000000) (k : Nat) (hk : 4 * s.size + 40 < k) : lanternref12_reference.f k s = some (B (refOf (L s))) := by
  obtain ⟨k, rfl⟩ : ∃ m, k = m + 1 := ⟨k - 1, by omega⟩
  unfold lanternref12_reference.f refOf
  have hlen : s.size = (L s).length := size_L s
  cases hL : L s with
  | nil =>
    rw [hL] at hlen
    rw [if_pos (by rw [hlen]; decide), lanternref12_reference.j0, if_pos rfl, ref_names, hL]
    rfl
  | cons c t =>
    cases t with
    | nil =>
      rw [hL] at hlen
      have hl1 : s.size = 1 := hlen
      rw [if_pos (by omega), lanternref12_reference.j0, if_pos rfl, ref_names, hL]
      have h1 : Lib.hasPrefix [c] [35, 120] = false := by simp [Lib.hasPrefix, List.isPrefixOf]
      rw [if_neg (by rw [h1]; simp)]
      by_cases hc : c = 35
      · subst hc; rfl
      · have h2 : Lib.hasPrefix [c] [35] = false := by simp [Lib.hasPrefix, List.isPrefixOf]; exact fun h => hc h.symm
        rw [if_neg (by rw [h2]; simp)]
        rfl
    | cons d t =>
      have hz : s.size = t.length + 2 := by rw [hlen, hL]; rfl
      have hb0 : bt s 0 = (c.toNat : Int) := by rw [bt_L, hL]; rfl
      have hb1 : bt s 1 = (d.toNat : Int) := by rw [bt_L, hL]; rfl
      rw [if_neg (by omega), if_pos (by omega), hb0, lanternref12_reference.j0]
      by_cases hc : c = 35
      · subst hc
        rw [if_neg (by decide), if_pos (by omega), hb1]
        by_cases hd : d = 120
        · subst hd
          rw [if_pos (by decide), if_pos (by simp [Lib.hasPrefix, List.isPrefixOf])]
          have := ref_j1 16 2 6 (Or.inr rfl) (by decide) s hs (by omega) k (by omega)
          rw [hL] at this
          exact this
        · have h1 : Lib.hasPrefix (35 :: d :: t) [35, 120] = false := by simp [Lib.hasPrefix, List.isPrefixOf]; exact fun h => hd h.symm
          have hd' : ¬ (d.toNat : Int) = 120 := fun h => hd (UInt8.toNat_inj.mp (by have : (120 : UInt8).toNat = 120 := rfl; omega))
          rw [if_neg hd', if_neg (by rw [h1]; simp), if_pos (by simp [Lib.hasPrefix, List.isPrefixOf])]
          have := ref_j1 10 1 7 (Or.inl rfl) (by decide) s hs (by omega) k (by omega)
          rw [hL] at this
          exact this
      · have h1 : Lib.hasPrefix (c :: d :: t) [35, 120] = false := by simp [Lib.hasPrefix, List.isPrefixOf]; exact fun h => absurd h.symm hc
        have h2 : Lib.hasPrefix (c :: d :: t) [35] = false := by simp [Lib.hasPrefix, List.isPrefixOf]; exact fun h => hc h.symm
        have hc' : ((c.toNat : Int) != 35) = true := bne_iff_ne.mpr (fun h => hc (UInt8.toNat_inj.mp (by have : (35 : UInt8).toNat = 35 := rfl; omega)))
        rw [hc', if_pos rfl, ref_names, hL, if_neg (by rw [h1]; simp), if_neg (by rw [h2]; simp)]
        rfl

/-! ### the whole text -/
/-- Signs turned, by fuel; none: it can't be. -/
def unsL : Nat → List UInt8 → Option (List UInt8)
  | 0, _ => none
  | m + 1, l => match splitC 38 l with
    | none => some l
    | some (h, t) => match splitC 59 t with
      | none => none
      | some (nm, r) => if refOf nm = [] then none else (unsL m r).map (fun x => h ++ refOf nm ++ x)
theorem splitC_len (c : UInt8) (l u t : List UInt8) (h : splitC c l = some (u, t)) : u.length + 1 + t.length = l.length := by
  have e := (splitC_some c l u t h).1
  rw [e, List.length_append, List.length_cons]
  omega
theorem unsL_fuel : ∀ (m n : Nat) (l : List UInt8), l.length < m → l.length < n → unsL m l = unsL n l
  | 0, _, _, h, _ => absurd h (Nat.not_lt_zero _)
  | _ + 1, 0, _, _, h => absurd h (Nat.not_lt_zero _)
  | m + 1, n + 1, l, hm, hn => by
    rw [unsL, unsL]
    cases h1 : splitC 38 l with
    | none => rfl
    | some x =>
      obtain ⟨h, t⟩ := x
      dsimp only
      cases h2 : splitC 59 t with
      | none => rfl
      | some y =>
        obtain ⟨nm, r⟩ := y
        dsimp only
        have e1 := splitC_len _ _ _ _ h1
        have e2 := splitC_len _ _ _ _ h2
        rw [unsL_fuel m n r (by omega) (by omega)]
theorem unsL_cons (m : Nat) (c : UInt8) (t : List UInt8) (hc : c ≠ 38) : unsL (m + 1) (c :: t) = (unsL (m + 1) t).map (c :: ·) := by
  rw [unsL, unsL, splitC, if_neg hc]
  cases h1 : splitC 38 t with
  | none => rfl
  | some x =>
    obtain ⟨h, r⟩ := x
    simp only [Option.map_some]
    cases h2 : splitC 59 r with
    | none => rfl
    | some y =>
      obtain ⟨nm, r2⟩ := y
      dsimp only
      split
      · rfl
      · cases unsL m r2 <;> rfl
theorem unsL_amp (m : Nat) (t : List UInt8) : unsL (m + 1) (38 :: t) = match splitC 59 t with
      | none => none
      | some (nm, r) => if refOf nm = [] then none else (unsL m r).map (fun x => refOf nm ++ x) := by
  rw [unsL, splitC, if_pos rfl]
  dsimp only
  cases h2 : splitC 59 t with
  | none => rfl
  | some y => rfl
theorem runeL_le (v : Nat) : (runeL v).length ≤ 4 := by
  unfold runeL
  split
  · split
    · rw [← size_L]; exact enc_le _
    · simp
  · simp
theorem refOf_le (l : List UInt8) : (refOf l).length ≤ 4 := by
  have hn : ∀ b m l, (refNum b m l).length ≤ 4 := by
    intro b m l
    unfold refNum
    split
    · simp
    · split
      · simp
      · unfold finL
        split
        · exact runeL_le _
        · simp
  unfold refOf namesL
  repeat' split
  all_goals first | exact hn _ _ _ | simp
def sayB (x : Option (List UInt8)) (acc : List UInt8) : ByteArray × Bool := match x with | some y => (B (acc ++ y), true) | none => (B [], false)
theorem ref_inner (s : ByteArray) (hs : s.size ≤ 100000) (acc : List UInt8) (i C : Nat) (Z : Nat → Option (ByteArray × Bool)) (hZ : ∀ k q, i + 1 ≤ q → q < s.size → 7 * (s.size - q) + C < k → lanternref12_Unescape.j2 k s (B acc) i q = Z q) :
    ∀ (d k j : Nat), i + 1 ≤ j → j + d = s.size → 7 * d + C + 2 < k →
      lanternref12_Unescape.l1 k s (B acc) i j = match splitC 59 ((L s).drop j) with
        | none => some (B [], false)
        | some x => Z (j + x.1.length)
  | 0, k, j, hj, hd, hk => by
    obtain ⟨k, rfl⟩ : ∃ m, k = m + 2 := ⟨k - 2, by omega⟩
    have hsz : s.size = (L s).length := size_L s
    rw [lanternref12_Unescape.l1, if_neg (by omega), lanternref12_Unescape.j2, if_pos (by omega), List.drop_eq_nil_of_le (by omega)]
    rfl
  | d + 1, k, j, hj, hd, hk => by
    obtain ⟨k, rfl⟩ : ∃ m, k = m + 1 := ⟨k - 1, by omega⟩
    have hsz : s.size = (L s).length := size_L s
    have hdr := getD_drop (L s) j (by omega)
    rw [lanternref12_Unescape.l1, if_pos (by omega), if_pos (by omega), bt_L, Int.toNat_natCast, hdr, splitC]
    by_cases hc : (L s).getD j 0 = 59
    · rw [if_pos (by rw [hc]; rfl), if_pos hc, hZ k j hj (by omega) (by omega)]
      rfl
    · have hc' : ¬ (((L s).getD j 0).toNat : Int) = 59 := fun h => hc (UInt8.toNat_inj.mp (by have : (59 : UInt8).toNat = 59 := rfl; omega))
      have w1 := wrap_nat (x := (j : Int) + 1) (j + 1) rfl (by omega)
      rw [if_neg hc', if_neg hc, w1]
      clear w1
      rw [ref_inner s hs acc i C Z hZ d k (j + 1) (by omega) (by omega) (by omega)]
      cases splitC 59 ((L s).drop (j + 1)) with
      | none => rfl
      | some x =>
        simp only [Option.map_some, List.length_cons]
        congr 1
        omega
theorem ref_uns (s : ByteArray) (hs : s.size ≤ 100000) (n : Nat) : ∀ (k i m : Nat) (acc : List UInt8), i ≤ s.size → s.size - i = n → n < m → 7 * n + 4 * s.size + 200 < k → acc.length + 4 * n ≤ 1000000 →
    lanternref12_Unescape.l0 k s (B acc) i = some (sayB (unsL m ((L s).drop i)) acc) := by
  induction n using Nat.strongRecOn with
  | ind n ih =>
    intro k i m acc hi hn hm hk ha
    obtain ⟨k, rfl⟩ : ∃ q, k = q + 1 := ⟨k - 1, by omega⟩
    obtain ⟨m, rfl⟩ : ∃ q, m = q + 1 := ⟨m - 1, by omega⟩
    have hsz : s.size = (L s).length := size_L s
    rw [lanternref12_Unescape.l0]
    by_cases hlt : i < s.size
    · have hd := getD_drop (L s) i (by omega)
      rw [if_pos (by omega), if_pos (by omega), bt_L, Int.toNat_natCast, hd]
      by_cases hc : (L s).getD i 0 = 38
      · -- a sign
        rw [if_pos (by rw [hc]; rfl), hc, unsL_amp]
        have hZ : ∀ k q, i + 1 ≤ q → q < s.size → 7 * (s.size - q) + (4 * s.size + 195) < k → lanternref12_Unescape.j2 k s (B acc) i q = some (sayB (if refOf (((L s).drop (i + 1)).take (q - (i + 1))) = [] then none else (unsL m ((L s).drop (q + 1))).map (fun x => refOf (((L s).drop (i + 1)).take (q - (i + 1))) ++ x)) acc) := by
          intro k q hq1 hq2 hk
          obtain ⟨k, rfl⟩ : ∃ q, k = q + 1 := ⟨k - 1, by omega⟩
          have w1 := wrap_nat (x := (i : Int) + 1) (i + 1) rfl (by omega)
          have w2 := wrap_nat (x := (q : Int) + 1) (q + 1) rfl (by omega)
          rw [lanternref12_Unescape.j2, w1, w2]
          clear w1 w2
          have eL : L (s.extract (i + 1) q) = ((L s).drop (i + 1)).take (q - (i + 1)) := by rw [L_extract, List.drop_take]
          have hes : (s.extract (i + 1) q).size ≤ s.size := by rw [size_L, eL, List.length_take, List.length_drop]; omega
          rw [if_neg (by omega), if_pos (by omega), if_pos (by omega), if_pos (by omega)]
          simp only [Int.toNat_natCast]
          rw [ref_f (s.extract (i + 1) q) (by omega) k (by omega), eL]
          simp only [Option.bind_some]
          rw [toList_L, L_B]
          by_cases hr : refOf (((L s).drop (i + 1)).take (q - (i + 1))) = []
          · rw [if_pos hr, if_pos hr]; rfl
          · have hle := refOf_le (((L s).drop (i + 1)).take (q - (i + 1)))
            rw [if_neg hr, if_neg hr, if_pos (by rw [size_B, size_B]; omega), append_B, ih (s.size - (q + 1)) (by omega) k (q + 1) m _ (by omega) rfl (by omega) (by omega) (by rw [List.length_append]; omega)]
            cases unsL m ((L s).drop (q + 1)) with
            | none => rfl
            | some y => simp [sayB]
        have hin := ref_inner s hs acc i _ _ hZ (s.size - (i + 1)) k (i + 1) (Nat.le_refl _) (by omega) (by omega)
        have w1 := wrap_nat (x := (i : Int) + 1) (i + 1) rfl (by omega)
        rw [w1]
        clear w1
        rw [hin]
        cases h2 : splitC 59 ((L s).drop (i + 1)) with
        | none => rfl
        | some x =>
          obtain ⟨nm, r⟩ := x
          obtain ⟨e, _⟩ := splitC_some _ _ _ _ h2
          have e1 : ((L s).drop (i + 1)).take (i + 1 + nm.length - (i + 1)) = nm := by rw [e, Nat.add_sub_cancel_left]; exact List.take_left
          have e2 : (L s).drop (i + 1 + nm.length + 1) = r := by
            have : (L s).drop (i + 1 + nm.length + 1) = ((L s).drop (i + 1)).drop (nm.length + 1) := by rw [List.drop_drop]; congr 1
            rw [this, e, show nm ++ 59 :: r = (nm ++ [59]) ++ r by simp, List.drop_left' (by simp)]
          dsimp only
          rw [e1, e2]
      · have hc' : ¬ (((L s).getD i 0).toNat : Int) = 38 := fun h => hc (UInt8.toNat_inj.mp (by have : (38 : UInt8).toNat = 38 := rfl; omega))
        have w1 := wrap_nat (x := (i : Int) + 1) (i + 1) rfl (by omega)
        rw [if_neg hc', w1]
        clear w1
        have e1 : s.extract i (i + 1) = B [(L s).getD i 0] := by
          apply L_inj
          rw [L_extract, L_B, take_getD (L s) i (by omega), List.drop_append_of_le_length (by rw [List.length_take]; omega), List.drop_take_self]
          rfl
        simp only [Int.toNat_natCast]
        rw [if_pos (by omega), if_pos (by omega), e1, if_pos (by rw [size_B, size_B]; simp; omega), append_B, unsL_cons m _ _ hc, ih (s.size - (i + 1)) (by omega) k (i + 1) (m + 1) _ (by omega) rfl (by omega) (by omega) (by rw [List.length_append, List.length_singleton]; omega)]
        cases unsL (m + 1) ((L s).drop (i + 1)) with
        | none => rfl
        | some y => simp [sayB]
    · rw [if_neg (by omega), List.drop_eq_nil_of_le (by omega)]
      simp [unsL, splitC, sayB]
end Go.Proofs.YtimffmddegnkjaaDoor.Q
set_option linter.unusedSimpArgs false
set_option linter.unusedVariables false
namespace Go.Proofs.YtimffmddegnkjaaDoor.Q
open Go Go.RowKit Go.Lib Go.Proofs.YtimffmddegnkjaaDoorW.PrintWords Go.Proofs.YtimffmddegnkjaaDoorB Go.Proofs.YtimffmddegnkjaaDoor.E Go.Proofs.YtimffmddegnkjaaDoor.I Go.Proofs.YtimffmddegnkjaaDoor.J Go.Proofs.YtimffmddegnkjaaDoor.P

theorem prog_uns (k : Nat) : ∀ (m : Nat) (l acc : List UInt8), l.length < m → l.length ≤ 100000 → acc.length + 4 * l.length ≤ 1000000 → 4 * l.length + 40 < k →
    unescF k m (B l) acc = some ((unsL m l).map (fun x => acc ++ x))
  | 0, l, acc, h, _, _, _ => absurd h (Nat.not_lt_zero _)
  | m + 1, l, acc, hm, hl, ha, hk => by
    rw [unescF, unsL]
    unfold strings_Cut.f cutOf
    rw [if_pos (by rw [size_B]; omega), show ampT.data.toList = [38] from rfl, show (B l).data.toList = l from L_B l, cut_split]
    simp only [Option.bind_some]
    cases h1 : splitC 38 l with
    | none =>
      dsimp only
      rw [if_pos (by rw [show (⟨l.toArray⟩ : ByteArray) = B l from rfl, size_B]; omega), if_neg (by simp)]
      rfl
    | some x =>
      obtain ⟨h, t⟩ := x
      dsimp only
      have e1 := splitC_len _ _ _ _ h1
      rw [show (⟨h.toArray⟩ : ByteArray) = B h from rfl, show (⟨t.toArray⟩ : ByteArray) = B t from rfl, if_pos (by rw [size_B]; omega), if_pos rfl, indexByte_split]
      cases h2 : splitC 59 t with
      | none =>
        dsimp only
        rw [if_pos (by decide)]
        rfl
      | some y =>
        obtain ⟨nm, r⟩ := y
        dsimp only
        have e2 := splitC_len _ _ _ _ h2
        obtain ⟨et, _⟩ := splitC_some _ _ _ _ h2
        rw [if_neg (by omega), if_pos (by rw [size_B]; omega), if_pos (by rw [size_B]; omega)]
        have x1 : (B t).extract 0 ((nm.length : Nat) : Int).toNat = B nm := by
          rw [Int.toNat_natCast, extract_B, List.drop_zero, et]
          congr 1
          exact List.take_left
        have x2 : (B t).extract (((nm.length : Nat) : Int) + 1).toNat (B t).size = B r := by
          have : (((nm.length : Nat) : Int) + 1).toNat = nm.length + 1 := by omega
          rw [this, size_B, extract_B, List.take_length, et, show nm ++ 59 :: r = (nm ++ [59]) ++ r by simp, List.drop_left' (by simp)]
        obtain ⟨x, hx, hx4, hxL⟩ := named_f (B nm) (by rw [size_B]; omega) k (by rw [size_B]; omega)
        rw [x1, x2, hx, L_B]
        simp only [Option.bind_some]
        by_cases hr : refOf nm = []
        · rw [hr, if_neg (by simp), if_pos rfl]
          rfl
        · have hxe := hxL (by rw [L_B]; exact hr)
          rw [L_B] at hxe
          have hle := refOf_le nm
          rw [if_pos (neB_ne hr), if_neg hr, if_pos (by rw [List.length_append]; omega), show x.data.toList = refOf nm from hxe, prog_uns k m r _ (by omega) (by omega) (by rw [List.length_append, List.length_append]; omega) (by omega)]
          cases unsL m r with
          | none => rfl
          | some y => simp
def unescOf (s : ByteArray) : Option (List UInt8) := if validD (L s) = true then unsL (s.size + 1) (L s) else none
theorem check_f (s : ByteArray) (hs : s.size ≤ 1000000) : text_Check.f s = some (if validD (L s) = true then 0 else 5) := check_of (by omega) _ rfl
theorem Unescape_f (s : ByteArray) (hs : s.size ≤ 100000) (k : Nat) (hk : 4 * s.size + 40 < k) : entity_Unescape.f k s = some (unescSays (unescOf s)) := by
  unfold entity_Unescape.f unescOf
  rw [check_f s (by omega)]
  simp only [Option.bind_some]
  by_cases hv : validD (L s) = true
  · rw [if_pos hv, if_pos hv, if_pos rfl]
    have := prog_uns k (s.size + 1) (L s) [] (by rw [← size_L]; omega) (by rw [← size_L]; omega) (by rw [← size_L]; simp; omega) (by rw [← size_L]; omega)
    rw [B_L] at this
    rw [this]
    cases unsL (s.size + 1) (L s) with
    | none => rfl
    | some y => rfl
  · rw [if_neg hv, if_neg hv, if_neg (by decide)]
    rfl
theorem refUnescape_f (s : ByteArray) (hs : s.size ≤ 100000) (k : Nat) (hk : 11 * s.size + 300 < k) : lanternref12_Unescape.f k s = some (sayB (unescOf s) []) := by
  unfold lanternref12_Unescape.f unescOf
  rw [runes_f s (by omega) k (by omega)]
  simp only [Option.bind_some]
  by_cases hv : validD (L s) = true
  · simp only [if_pos hv, if_true]
    have := ref_uns s hs s.size k 0 (s.size + 1) [] (by omega) (by omega) (by omega) (by omega) (by simp; omega)
    rw [List.drop_zero] at this
    exact this
  · simp only [if_neg hv, Bool.false_eq_true, if_false]
    rfl
theorem awake_f (k : Nat) (hk : 200 < k) : lanternlaw12_awake.f k = some true := by
  unfold lanternlaw12_awake.f
  rw [Unescape_f _ (by decide) k (by have : (⟨#[38, 35, 120, 50, 48, 65, 67, 59, 38, 108, 116, 59]⟩ : ByteArray).size = 12 := rfl; omega), Unescape_f _ (by decide) k (by have : (⟨#[38, 110, 98, 115, 112, 59]⟩ : ByteArray).size = 6 := rfl; omega)]
  have h1 : unescOf ⟨#[38, 35, 120, 50, 48, 65, 67, 59, 38, 108, 116, 59]⟩ = some [226, 130, 172, 60] := by decide +kernel
  have h2 : unescOf ⟨#[38, 110, 98, 115, 112, 59]⟩ = none := by decide +kernel
  have h3 : entity_Escape.f ⟨#[97, 60, 98]⟩ = some (⟨#[97, 38, 108, 116, 59, 98]⟩, 0) := by decide +kernel
  rw [h1, h2, h3]
  decide +kernel
theorem EntityUnescapes (s : ByteArray) : ∃ k, lanternlaw12_EntityUnescapes.f k s = some true := by
  refine ⟨11 * s.size + 500, ?_⟩
  unfold lanternlaw12_EntityUnescapes.f
  by_cases h : (s.size : Int) > 3000
  · rw [if_pos h, awake_f _ (by omega)]
    rfl
  · rw [if_neg h, Unescape_f s (by omega) _ (by omega), refUnescape_f s (by omega) _ (by omega)]
    simp only [Option.bind_some]
    cases unescOf s with
    | none =>
      rw [show sayB none [] = (B [], false) from rfl, show unescSays none = (B [], 5) from rfl]
      rw [if_neg (by simp), if_pos rfl, if_pos (show (B []).toList = [] from toList_L _ |>.trans (L_B _)), awake_f _ (by omega)]
      rfl
    | some y =>
      rw [show sayB (some y) [] = (B y, true) from rfl, show unescSays (some y) = (B y, 0) from rfl]
      rw [if_pos rfl, if_pos rfl, if_pos rfl, awake_f _ (by omega)]
      rfl
end Go.Proofs.YtimffmddegnkjaaDoor.Q
set_option linter.unusedSimpArgs false
set_option linter.unusedVariables false
namespace Go.Proofs.YtimffmddegnkjaaDoor.Q
open Go Go.RowKit Go.Lib Go.Proofs.YtimffmddegnkjaaDoorW.PrintWords Go.Proofs.YtimffmddegnkjaaDoorB Go.Proofs.YtimffmddegnkjaaDoor.E Go.Proofs.YtimffmddegnkjaaDoor.I Go.Proofs.YtimffmddegnkjaaDoor.J Go.Proofs.YtimffmddegnkjaaDoor.P Go.Proofs.YtimffmddegnkjaaDoor.Z

/-! ### replaced, from the head on -/
theorem rep_eq (s old new : List UInt8) (hne : old ≠ new) : Lib.replaceAll s old new = Lib.replaceK old new (Lib.count s old) s := by
  unfold Lib.replaceAll Lib.replace Lib.replaceNum
  rw [if_neg (by simpa using hne), if_pos (Or.inl (by decide))]
theorem rep_miss (s old new : List UInt8) (hne : old ≠ new) (h : Lib.index s old = -1) : Lib.replaceAll s old new = s := by
  rw [rep_eq s old new hne, count_miss h]
  rfl
theorem rep_hit (s old new : List UInt8) (hne : old ≠ new) (h0 : old ≠ []) (i : Nat) (h : Lib.index s old = i) : Lib.replaceAll s old new = s.take i ++ new ++ Lib.replaceAll (s.drop (i + old.length)) old new := by
  rw [rep_eq s old new hne, count_hit h0 h, Nat.add_comm 1, replaceK_hit old new _ s i h, rep_eq _ old new hne]
theorem rep_nil (old new : List UInt8) (hne : old ≠ new) (h0 : old ≠ []) : Lib.replaceAll [] old new = [] := by
  refine rep_miss [] old new hne ?_
  cases old with
  | nil => exact absurd rfl h0
  | cons a b => rfl
theorem rep_cons (b : UInt8) (l old new : List UInt8) (hne : old ≠ new) (h0 : old ≠ []) : Lib.replaceAll (b :: l) old new = if old.isPrefixOf (b :: l) = true then new ++ Lib.replaceAll ((b :: l).drop old.length) old new else b :: Lib.replaceAll l old new := by
  by_cases hp : old.isPrefixOf (b :: l) = true
  · have hi : Lib.index (b :: l) old = ((0 : Nat) : Int) := by rw [Lib.index, if_pos hp]; rfl
    rw [if_pos hp, rep_hit _ old new hne h0 0 hi, Nat.zero_add]
    rfl
  · rw [if_neg hp]
    by_cases hm : Lib.index l old = -1
    · have hi : Lib.index (b :: l) old = -1 := by rw [Lib.index, if_neg hp, hm]; rfl
      rw [rep_miss _ old new hne hi, rep_miss _ old new hne hm]
    · have hge := index_ge l old
      obtain ⟨i, hi⟩ : ∃ i : Nat, Lib.index l old = i := ⟨(Lib.index l old).toNat, by omega⟩
      have hi2 : Lib.index (b :: l) old = ((i + 1 : Nat) : Int) := by
        rw [Lib.index, if_neg hp, if_neg (by simpa using hm), hi]
        rfl
      rw [rep_hit _ old new hne h0 (i + 1) hi2, rep_hit l old new hne h0 i hi]
      have : i + 1 + old.length = (i + old.length) + 1 := by omega
      rw [this]
      rfl
def putB (c d b : UInt8) : UInt8 := if b = c then d else b
theorem rep_one (c d : UInt8) (hcd : c ≠ d) : ∀ l : List UInt8, Lib.replaceAll l [c] [d] = l.map (putB c d)
  | [] => rep_nil [c] [d] (by simpa using hcd) (by simp)
  | b :: l => by
    rw [rep_cons b l [c] [d] (by simpa using hcd) (by simp)]
    have e : ([c] : List UInt8).isPrefixOf (b :: l) = (c == b) := by simp [List.isPrefixOf]
    rw [e, List.map_cons]
    by_cases h : b = c
    · subst h
      rw [if_pos (by simp), List.length_singleton, List.drop_one, List.tail_cons, rep_one b d hcd l]
      show d :: _ = _
      unfold putB
      rw [if_pos rfl]
      rfl
    · rw [if_neg (by simpa using fun q => h q.symm), rep_one c d hcd l]
      unfold putB
      rw [if_neg h]
/-- Line feeds alone. -/
def linesL : List UInt8 → List UInt8
  | [] => []
  | c :: t => if c = 13 then (if t.head? = some 10 then linesL t else 10 :: linesL t) else c :: linesL t
theorem linesL_le : ∀ l : List UInt8, (linesL l).length ≤ l.length
  | [] => Nat.le_refl _
  | c :: t => by
    have := linesL_le t
    rw [linesL]
    split
    · split
      · rw [List.length_cons]; omega
      · rw [List.length_cons, List.length_cons]; omega
    · rw [List.length_cons, List.length_cons]; omega
theorem lines_eq (n : Nat) : ∀ l : List UInt8, l.length = n → (Lib.replaceAll l [13, 10] [10]).map (putB 13 10) = linesL l := by
  induction n using Nat.strongRecOn with
  | ind n ih =>
    intro l hn
    cases l with
    | nil => rw [rep_nil [13, 10] [10] (by decide) (by decide)]; rfl
    | cons c t =>
      rw [List.length_cons] at hn
      rw [rep_cons c t [13, 10] [10] (by decide) (by decide), linesL]
      by_cases hc : c = 13
      · subst hc
        rw [if_pos rfl]
        cases t with
        | nil =>
          rw [if_neg (by decide), rep_nil [13, 10] [10] (by decide) (by decide), if_neg (by decide)]
          rfl
        | cons d t =>
          rw [List.length_cons] at hn
          by_cases hd : d = 10
          · subst hd
            rw [if_pos (by simp [List.isPrefixOf]), if_pos (show (10 :: t).head? = some 10 from rfl)]
            have e : (13 :: 10 :: t).drop ([13, 10] : List UInt8).length = t := rfl
            rw [e, List.map_append, ih t.length (by omega) t rfl, linesL, if_neg (by decide)]
            rfl
          · have hp : ([13, 10] : List UInt8).isPrefixOf (13 :: d :: t) = false := by simp [List.isPrefixOf]; exact fun h => hd h.symm
            rw [hp, if_neg (by simp), if_neg (by simpa using hd), List.map_cons, ih (d :: t).length (by rw [List.length_cons]; omega) (d :: t) rfl]
            rfl
      · have hp : ([13, 10] : List UInt8).isPrefixOf (c :: t) = false := by
          have : ((13 : UInt8) == c) = false := by simpa using fun h => hc h.symm
          simp [List.isPrefixOf, this]
        rw [hp, if_neg (by simp), if_neg hc, List.map_cons, ih t.length (by omega) t rfl]
        unfold putB
        rw [if_neg hc]
theorem rep_len (c d : UInt8) (l : List UInt8) : (l.map (putB c d)).length = l.length := List.length_map ..
theorem rep_crlf_le (n : Nat) : ∀ l : List UInt8, l.length = n → (Lib.replaceAll l [13, 10] [10]).length ≤ l.length := by
  intro l hn
  have h1 := congrArg List.length (lines_eq n l hn)
  rw [rep_len] at h1
  have := linesL_le l
  omega
theorem Lines_f (s : ByteArray) (hs : s.size ≤ 1000000) : entity_Lines.f s = some (B (linesL (L s))) := by
  unfold entity_Lines.f strings_ReplaceAll.f
  have s1 : (⟨#[13, 10]⟩ : ByteArray).size = 2 := rfl
  have s2 : (⟨#[10]⟩ : ByteArray).size = 1 := rfl
  have s3 : (⟨#[13]⟩ : ByteArray).size = 1 := rfl
  rw [s1, s2, s3, if_pos ⟨by omega, by omega, by omega⟩, Option.bind_some]
  have hle := rep_crlf_le (L s).length (L s) rfl
  rw [← size_L] at hle
  have e1 : (⟨(Lib.replaceAll s.data.toList [13, 10] [10]).toArray⟩ : ByteArray) = B (Lib.replaceAll (L s) [13, 10] [10]) := rfl
  rw [show (⟨#[13, 10]⟩ : ByteArray).data.toList = [13, 10] from rfl, show (⟨#[10]⟩ : ByteArray).data.toList = [10] from rfl, e1, size_B, if_pos ⟨by omega, by omega, by omega⟩, Option.bind_some, show (⟨#[13]⟩ : ByteArray).data.toList = [13] from rfl, show (B (Lib.replaceAll (L s) [13, 10] [10])).data.toList = _ from L_B _, rep_one 13 10 (by decide), lines_eq (L s).length (L s) rfl]
  rfl
theorem refLines_loop (s : ByteArray) (hs : s.size ≤ 1000000) : ∀ (d k i : Nat) (acc : List Int), i + d = s.size → d < k → acc.length ≤ i →
    lanternref12_Lines.l0 k s acc i = some (strOfNums (acc ++ (linesL ((L s).drop i)).map (fun b => (b.toNat : Int))))
  | 0, k, i, acc, hd, hk, ha => by
    obtain ⟨k, rfl⟩ : ∃ m, k = m + 1 := ⟨k - 1, by omega⟩
    rw [lanternref12_Lines.l0, if_neg (by omega), List.drop_eq_nil_of_le (by rw [← size_L]; omega)]
    simp [linesL]
  | d + 1, k, i, acc, hd, hk, ha => by
    obtain ⟨k, rfl⟩ : ∃ m, k = m + 1 := ⟨k - 1, by omega⟩
    have hi : i < s.size := by omega
    have hdr := getD_drop (L s) i (by rw [← size_L]; exact hi)
    have w1 := wrap_nat (x := (i : Int) + 1) (i + 1) rfl (by omega)
    rw [lanternref12_Lines.l0, w1]
    clear w1
    rw [if_pos (by omega), if_pos (by omega), bt_L, Int.toNat_natCast, hdr, linesL]
    have h13 : (((L s).getD i 0).toNat : Int) = 13 ↔ (L s).getD i 0 = 13 := ⟨fun h => UInt8.toNat_inj.mp (by have : (13 : UInt8).toNat = 13 := rfl; omega), fun h => by rw [h]; rfl⟩
    by_cases hc : (L s).getD i 0 = 13
    · rw [if_pos (h13.2 hc), if_pos hc]
      by_cases hl : ((i + 1 : Nat) : Int) ≥ (s.size : Int)
      · have hnil : (L s).drop (i + 1) = [] := List.drop_eq_nil_of_le (by rw [← size_L]; omega)
        rw [if_pos hl, if_pos (by omega), refLines_loop s hs d k (i + 1) _ (by omega) (by omega) (by rw [List.length_append, List.length_singleton]; omega), hnil, if_neg (by simp)]
        simp
      · have hdr2 := getD_drop (L s) (i + 1) (by rw [← size_L]; omega)
        have h10 : (((L s).getD (i + 1) 0).toNat : Int) = 10 ↔ (L s).getD (i + 1) 0 = 10 := ⟨fun h => UInt8.toNat_inj.mp (by have : (10 : UInt8).toNat = 10 := rfl; omega), fun h => by rw [h]; rfl⟩
        rw [if_neg hl, if_pos (by omega), if_pos (by omega), bt_L, Int.toNat_natCast]
        by_cases hd10 : (L s).getD (i + 1) 0 = 10
        · rw [if_pos (h10.2 hd10), if_pos (by rw [hdr2, List.head?_cons, hd10]), refLines_loop s hs d k (i + 1) _ (by omega) (by omega) (by omega)]
        · rw [if_neg (fun h => hd10 (h10.1 h)), if_pos (by omega), if_neg (by rw [hdr2, List.head?_cons]; exact fun h => hd10 (Option.some.inj h)), refLines_loop s hs d k (i + 1) _ (by omega) (by omega) (by rw [List.length_append, List.length_singleton]; omega)]
          simp
    · rw [if_neg (fun h => hc (h13.1 h)), if_neg hc, if_pos (by omega), refLines_loop s hs d k (i + 1) _ (by omega) (by omega) (by rw [List.length_append, List.length_singleton]; omega)]
      simp
theorem refLines_f (s : ByteArray) (hs : s.size ≤ 1000000) (k : Nat) (hk : s.size < k) : lanternref12_Lines.f k s = some (B (linesL (L s))) := by
  have := refLines_loop s hs s.size k 0 [] (by omega) hk (by simp)
  rw [List.drop_zero, List.nil_append] at this
  unfold lanternref12_Lines.f
  refine this.trans (congrArg some ?_)
  rw [strOfNums_B, List.map_map]
  congr 1
  conv => rhs; rw [← List.map_id (linesL (L s))]
  refine List.map_congr_left fun b _ => ?_
  show UInt8.ofNat ((b.toNat : Int)).toNat = b
  simp
theorem blank_eq (l : List UInt8) : (l.map (putB 10 32)).map (putB 9 32) = l.map blankB := by
  rw [List.map_map]
  refine List.map_congr_left fun b _ => ?_
  show putB 9 32 (putB 10 32 b) = blankB b
  unfold putB blankB
  by_cases h1 : b = 10
  · subst h1; rfl
  · rw [if_neg h1]
def valueOf (s : ByteArray) : ByteArray := B ((linesL (L s)).map blankB)
theorem value_size (s : ByteArray) : (valueOf s).size ≤ s.size := by
  unfold valueOf
  rw [size_B, List.length_map, size_L]
  exact linesL_le _
theorem Value_f (s : ByteArray) (hs : s.size ≤ 100000) (k : Nat) (hk : 4 * s.size + 40 < k) : entity_Value.f k s = some (unescSays (unescOf (valueOf s))) := by
  unfold entity_Value.f
  have hl := linesL_le (L s)
  rw [← size_L] at hl
  rw [Lines_f s (by omega), Option.bind_some]
  unfold strings_ReplaceAll.f
  have s1 : (⟨#[32]⟩ : ByteArray).size = 1 := rfl
  have s2 : (⟨#[10]⟩ : ByteArray).size = 1 := rfl
  have s3 : (⟨#[9]⟩ : ByteArray).size = 1 := rfl
  rw [s1, s2, s3, size_B, if_pos ⟨by omega, by omega, by omega⟩, Option.bind_some]
  rw [show (⟨#[10]⟩ : ByteArray).data.toList = [10] from rfl, show (⟨#[32]⟩ : ByteArray).data.toList = [32] from rfl, show (B (linesL (L s))).data.toList = _ from L_B _, rep_one 10 32 (by decide)]
  have e1 : (⟨((linesL (L s)).map (putB 10 32)).toArray⟩ : ByteArray) = B ((linesL (L s)).map (putB 10 32)) := rfl
  rw [e1, size_B, List.length_map, if_pos ⟨by omega, by omega, by omega⟩, Option.bind_some, show (⟨#[9]⟩ : ByteArray).data.toList = [9] from rfl, show (B ((linesL (L s)).map (putB 10 32))).data.toList = _ from L_B _, rep_one 9 32 (by decide), blank_eq]
  have hv := value_size s
  have hu := Unescape_f (valueOf s) (by omega) k (by omega)
  rw [show (⟨((linesL (L s)).map blankB).toArray⟩ : ByteArray) = valueOf s from rfl, hu, Option.bind_some]
theorem refValue_f (s : ByteArray) (hs : s.size ≤ 100000) (k : Nat) (hk : 11 * s.size + 300 < k) : lanternref12_Value.f k s = some (sayB (unescOf (valueOf s)) []) := by
  unfold lanternref12_Value.f
  have hl := linesL_le (L s)
  rw [← size_L] at hl
  rw [refLines_f s (by omega) k (by omega), Option.bind_some, if_pos (by rw [size_B]; omega)]
  have hv := value_size s
  have e : blankOf (B (linesL (L s))) = valueOf s := by
    unfold blankOf valueOf
    rw [show (B (linesL (L s))).data.toList = _ from L_B _]
    rfl
  rw [e]
  exact refUnescape_f (valueOf s) (by omega) k (by omega)
theorem values_k (s : ByteArray) (k : Nat) (hk : 11 * s.size + 1000 ≤ k) : lanternlaw12_EntityValues.f k s = some true := by
  unfold lanternlaw12_EntityValues.f
  have haw := awake_f k (by omega)
  by_cases h : (s.size : Int) > 3000
  · rw [if_pos h, haw]
    rfl
  · rw [if_neg h, Value_f s (by omega) k (by omega), refValue_f s (by omega) k (by omega), Lines_f s (by omega), refLines_f s (by omega) k (by omega)]
    rw [Option.bind_some, Option.bind_some, Option.bind_some, Option.bind_some, if_pos rfl]
    cases unescOf (valueOf s) with
    | none =>
      rw [show sayB none [] = (B [], false) from rfl, show unescSays none = (B [], 5) from rfl]
      dsimp only
      rw [if_neg (by simp), if_pos rfl, if_pos (show (B []).toList = [] from (toList_L _).trans (L_B _)), haw]
      rfl
    | some y =>
      rw [show sayB (some y) [] = (B y, true) from rfl, show unescSays (some y) = (B y, 0) from rfl]
      dsimp only
      rw [if_pos rfl, if_pos rfl, if_pos rfl, haw]
      rfl
theorem EntityValues (s : ByteArray) : ∃ k, lanternlaw12_EntityValues.f k s = some true := ⟨_, values_k s _ (Nat.le_refl _)⟩
end Go.Proofs.YtimffmddegnkjaaDoor.Q
namespace Go.Proofs.YtimffmddegnkjaaDoor.R
open Go Go.ChangeShapes Go.WideShapes Go.ChangeAt Go.RowKit Go.Proofs.YtimffmddegnkjaaDoor.E Go.Proofs.YtimffmddegnkjaaDoorW.PrintWords Go.Proofs.YtimffmddegnkjaaDoorW.PrintLast
open Go.ChangeMaps (open_string shut_string)
set_option linter.unusedVariables false
set_option maxRecDepth 100000
theorem entityValues_lifted (os : Os) (started : os.Started) (H : Type) (enc : TypeId × Value → H) :
    ReturnsInHanded {} Go.Proofs.Tryd.checked os 6 .any (fun w args => (Rows.entityValuesSpec.pre enc Go.Proofs.Tryd.prog Go.Proofs.Tryd.f6 Rows.entityValuesRow.domain false w args ∧ laidMetH Go.Proofs.Tryd.prog listed w) ∧ sizedMet enc Go.Proofs.Tryd.prog Go.Proofs.Tryd.f6 (OpenSpec.ofChange Rows.entityValuesSpec) false w args)
      (Rows.entityValuesSpec.post enc Go.Proofs.Tryd.prog Go.Proofs.Tryd.f6 false true false false) := by
  refine handed_and (C := Go.Proofs.Tryd.checked) (X := fun w _ => laidMetH Go.Proofs.Tryd.prog listed w) (fun _ _ _ hh h => h.of_heap hh) own started (by kernel_rfl) Go.Proofs.Tryd.func6
    (ChangeSpec.witness_at (enc := enc) (C := Go.Proofs.Tryd.checked) (os := os) (X := fun w _ => laidMetH Go.Proofs.Tryd.prog listed w) false (laidWorld os) #[.string ⟨#[]⟩] 8 rfl (by kernel_rfl) (by kernel_rfl) (by kernel_rfl) (by kernel_rfl) (by kernel_rfl) (laidH_iff.2 (laid_met os _))) ?_
  intro W base args ds gs before hval0 hW _ hsz0 hL hsh _
  have hT : LW W := lw_of_laid (laidH_iff.1 hL) hsh
  have hval : ∀ (j : Nat) t v, Go.Proofs.Tryd.f6.params[j]? = some t → args[j]? = some v → Value.okWide Go.Proofs.Tryd.prog W .any base t v := hval0
  have hW' := hW
  obtain ⟨p, q, hA0, hV0, rfl, hfz, hnd⟩ := hW
  have hA : DataW.TrodAll enc Go.Proofs.Tryd.prog W 0 (fun _ => true) true Go.Proofs.Tryd.f6.params.toList args.toList ds p := hA0
  rw [Go.Proofs.Tryd.params6] at hA hval
  obtain ⟨v0, vs0, d0, ds0, p0, q0, hargs, rfl, rfl, h0, r0⟩ := trodAll_cons hA
  obtain ⟨rfl, rfl, rfl⟩ := trodAll_nil r0
  obtain rfl : args = #[v0] := by cases args; simp_all
  obtain ⟨rfl, rfl⟩ := trodVars_none hV0
  obtain ⟨a0, rfl, rfl, rfl, y0⟩ := open_string Go.Proofs.Tryd.underlying9 (hval 0 9 v0 rfl rfl) h0
  clear hA0 hV0 hval0
  obtain ⟨k, hk⟩ := Q.EntityValues a0 
  refine (Z.lanternlaw12_EntityValues.calls k a0 true W hT hk).mono fun e W' ⟨he, bel⟩ => ?_
  subst he
  exact ⟨_, rfl, _, _, _, [], _, [], hW', trodAll_mk1 (shut_bool Go.Proofs.Tryd.underlying4 _), (trodAll_cons_mk (shut_string Go.Proofs.Tryd.underlying9 y0) trodAll_mk0), rfl, bel.frame _, fun h => by cases h⟩
theorem entityValues_holds : Rows.EntityValuesSaid :=
  OpenClaim.holds_of_wide 6 Go.Proofs.Tryd.f6 rfl rfl rfl rfl rfl rfl rfl ⟨rfl, rfl, rfl, rfl, rfl⟩ rfl rfl rfl rfl rfl (by kernel_rfl) Go.Proofs.Tryd.func6 (by kernel_rfl)
    (of_decide_eq_true (by kernel_rfl)) (by unfold Func.isWrapper; first | (rw [if_pos (by decide +kernel)]; kernel_rfl) | (rw [if_neg (by decide +kernel)]; exact ⟨rfl, rfl⟩))
    (fun os started H enc _ => entityValues_lifted os started H enc)
/-- The tied card. -/
theorem entityValues_card : Rows.EntityValuesCardSaid :=
  Claim7.holds_tied_plain_at .later [] [.data, .data, .data, .data, .sentinel, .sentinel, .pinned] true (true, "9b98638fe0e9338964ab6f58f1027bc88fca22bd79e6f0d68e15b2b1d52a10a1") true
    entityValues_holds (fun _ h => by cases h) (by kernel_rfl) (fun _ h => by cases h) entityValues_row_tie rfl ⟨rfl, rfl⟩ (by kernel_rfl) rfl
    (fun f fn hf hfn => by
      obtain rfl : f = 6 := Option.some.inj ((show Go.Proofs.Tryd.prog.funcNamed "lantern/lanternlaw12.EntityValues" = some 6 by kernel_rfl).symm.trans hf) |>.symm
      obtain rfl : fn = Go.Proofs.Tryd.f6 := (Option.some.inj (Go.Proofs.Tryd.func6.symm.trans hfn)).symm
      exact ⟨by kernel_rfl, fun j t ht => by
        rw [Go.Proofs.Tryd.params6] at ht
        have hm : t ∈ [9] := by simpa using Array.mem_of_getElem? ht
        have hall : ([9].all fun u => !Go.Proofs.Tryd.prog.wantsStandIn u) = true := by kernel_rfl
        exact (show Go.Proofs.Tryd.prog.wantsStandIn t = false by simpa using List.all_eq_true.1 hall t hm)⟩)
    (by kernel_rfl)
#print axioms entityValues_card
end Go.Proofs.YtimffmddegnkjaaDoor.R
