/- The law EntityNumbers: digits written are digits read. -/
import Derived.Test.YtimffmddegnkjaaDoorN4
set_option linter.unusedSimpArgs false
set_option linter.unusedVariables false
namespace Go.Proofs.YtimffmddegnkjaaDoor.Q
open Go Go.RowKit Go.Lib Go.Proofs.YtimffmddegnkjaaDoorW.PrintWords Go.Proofs.YtimffmddegnkjaaDoorB Go.Proofs.YtimffmddegnkjaaDoor.E Go.Proofs.YtimffmddegnkjaaDoor.I Go.Proofs.YtimffmddegnkjaaDoor.J Go.Proofs.YtimffmddegnkjaaDoor.P

def tabD : List UInt8 := [48, 49, 50, 51, 52, 53, 54, 55, 56, 57]
def tabH : List UInt8 := [48, 49, 50, 51, 52, 53, 54, 55, 56, 57, 65, 66, 67, 68, 69, 70]
theorem tabD_f : ∀ d : Fin 10, puD (tabD.getD d.val 0).toNat = d.val ∧ tabD.getD d.val 0 ≠ 59 ∧ (tabD.getD d.val 0).toNat < 128 ∧ tabD.getD d.val 0 ≠ 38 := by decide
theorem tabH_f : ∀ d : Fin 16, puD (tabH.getD d.val 0).toNat = d.val ∧ tabH.getD d.val 0 ≠ 59 ∧ (tabH.getD d.val 0).toNat < 128 ∧ tabH.getD d.val 0 ≠ 38 := by decide
def Good (base : Nat) (tab : List UInt8) : Prop := 2 ≤ base ∧ ∀ d, d < base → puD (tab.getD d 0).toNat = d ∧ tab.getD d 0 ≠ 59 ∧ (tab.getD d 0).toNat < 128 ∧ tab.getD d 0 ≠ 38
theorem goodD : Good 10 tabD := ⟨by decide, fun d h => tabD_f ⟨d, h⟩⟩
theorem goodH : Good 16 tabH := ⟨by decide, fun d h => tabH_f ⟨d, h⟩⟩
/-- What is read of digits with others behind them. -/
theorem valL_append (base : Nat) : ∀ (l t : List UInt8) (n : Nat), valL base (l ++ t) n = (valL base l n).bind (valL base t)
  | [], t, n => rfl
  | c :: l, t, n => by
    rw [List.cons_append, valL, valL]
    split
    · rfl
    · exact valL_append base l t _
/-- A number's digits, by fuel. -/
def dg (base : Nat) (tab : List UInt8) : Nat → Nat → List UInt8
  | 0, n => [tab.getD (n % base) 0]
  | f + 1, n => if n < base then [tab.getD n 0] else dg base tab f (n / base) ++ [tab.getD (n % base) 0]
theorem dg_spec (base : Nat) (tab : List UInt8) (hg : Good base tab) : ∀ (f n : Nat), n < base ^ (f + 1) →
    (∀ c ∈ dg base tab f n, puD c.toNat < base ∧ c ≠ 59 ∧ c.toNat < 128 ∧ c ≠ 38) ∧ (∀ m, valL base (dg base tab f n) m = some (m * base ^ (dg base tab f n).length + n)) ∧ dg base tab f n ≠ [] ∧ (∀ e, 0 < e → e < (dg base tab f n).length → base ^ e ≤ n)
  | f, n, hn => by
    have hb := hg.1
    by_cases hs : n < base
    · have e : dg base tab f n = [tab.getD n 0] := by
        cases f with
        | zero => rw [dg, Nat.mod_eq_of_lt hs]
        | succ f => rw [dg, if_pos hs]
      obtain ⟨d1, d2, d3, d4⟩ := hg.2 n hs
      rw [e]
      refine ⟨?_, ?_, by simp, ?_⟩
      · intro c hc
        obtain rfl := List.mem_singleton.1 hc
        exact ⟨by omega, d2, d3, d4⟩
      · intro m
        rw [valL, valL, d1, if_neg (by omega)]
        simp
      · intro e h0 h1
        simp at h1
        omega
    · cases f with
      | zero =>
        rw [Nat.pow_one] at hn
        exact absurd hn hs
      | succ f =>
        have hdiv : n / base < base ^ (f + 1) := by
          rw [Nat.pow_succ] at hn
          exact Nat.div_lt_of_lt_mul (by rw [Nat.mul_comm]; exact hn)
        obtain ⟨i1, i2, i3, i4⟩ := dg_spec base tab hg f (n / base) hdiv
        obtain ⟨d1, d2, d3, d4⟩ := hg.2 (n % base) (Nat.mod_lt _ (by omega))
        have hm := Nat.mod_lt n (show 0 < base by omega)
        rw [dg, if_neg hs]
        refine ⟨?_, ?_, by simp, ?_⟩
        · intro c hc
          rcases List.mem_append.1 hc with h | h
          · exact i1 c h
          · obtain rfl := List.mem_singleton.1 h
            exact ⟨by omega, d2, d3, d4⟩
        · intro m
          rw [valL_append, i2, Option.bind_some, valL, valL, d1, if_neg (by omega), List.length_append, List.length_singleton, Nat.pow_succ]
          congr 1
          have := Nat.div_add_mod n base
          rw [Nat.add_mul, Nat.mul_assoc, Nat.mul_comm (n / base) base]
          omega
        · intro e h0 h1
          rw [List.length_append, List.length_singleton] at h1
          obtain ⟨e, rfl⟩ : ∃ x, e = x + 1 := ⟨e - 1, by omega⟩
          by_cases he : e = 0
          · subst he
            rw [Nat.zero_add, Nat.pow_one]
            omega
          · have := i4 e (by omega) (by omega)
            rw [Nat.pow_succ]
            exact (Nat.le_div_iff_mul_le (by omega)).1 this
/-- The law's loops write a number's digits. -/
theorem one_digit (tab : List UInt8) (d : Nat) (h : d < tab.length) : (B tab).extract d (d + 1) = B [tab.getD d 0] := by
  rw [extract_B, take_getD tab d h, List.drop_append_of_le_length (by rw [List.length_take]; omega), List.drop_take_self]
  rfl
theorem tmod_lit' (a b : Nat) (x : Int) (h : x = (b : Int)) : Int.tmod (a : Int) x = ((a % b : Nat) : Int) := by subst h; rfl
theorem dec_step (k : Nat) (x0 : Int) (acc : List UInt8) (x4 : ByteArray) (n : Nat) (hn : n < 4294967296) (ha : acc.length ≤ 1000) (h : 0 < n ∨ acc = []) :
    lanternlaw12_EntityNumbers.l0 (k + 1) x0 (B acc) x4 n = lanternlaw12_EntityNumbers.l0 k x0 (B (tabD.getD (n % 10) 0 :: acc)) x4 ((n / 10 : Nat) : Int) := by
  have hd := tmod_lit' n 10 10 rfl
  have hq := tdiv_lit n 10 10 rfl
  have hm : n % 10 < 10 := Nat.mod_lt _ (by decide)
  have e0 : (⟨#[48, 49, 50, 51, 52, 53, 54, 55, 56, 57]⟩ : ByteArray) = B tabD := rfl
  have e1 := one_digit tabD (n % 10) hm
  have e2 : (((n % 10 : Nat) : Int) + 1) % 4294967296 = ((n % 10 + 1 : Nat) : Int) := by omega
  have e3 : ((n / 10 : Nat) : Int) % 4294967296 = ((n / 10 : Nat) : Int) := by omega
  have body : (if 0 ≤ (Int.tmod (n : Int) 10) then (if (Int.tmod (n : Int) 10) ≤ (((Int.tmod (n : Int) 10) + 1) % 4294967296) then (if (((Int.tmod (n : Int) 10) + 1) % 4294967296) ≤ 10 then (if ((⟨#[48, 49, 50, 51, 52, 53, 54, 55, 56, 57]⟩ : ByteArray).extract ((Int.tmod (n : Int) 10) : Int).toNat ((((Int.tmod (n : Int) 10) + 1) % 4294967296) : Int).toNat).size + (B acc).size ≤ 9223372036854775807 then (lanternlaw12_EntityNumbers.l0 k x0 (((⟨#[48, 49, 50, 51, 52, 53, 54, 55, 56, 57]⟩ : ByteArray).extract ((Int.tmod (n : Int) 10) : Int).toNat ((((Int.tmod (n : Int) 10) + 1) % 4294967296) : Int).toNat) ++ (B acc)) x4 ((Int.tdiv (n : Int) 10) % 4294967296)) else (none)) else (none)) else (none)) else (none)) = lanternlaw12_EntityNumbers.l0 k x0 (B (tabD.getD (n % 10) 0 :: acc)) x4 ((n / 10 : Nat) : Int) := by
    rw [hd, hq, e0, e2, e3]
    rw [if_pos (by omega), if_pos (by omega), if_pos (by omega)]
    simp only [Int.toNat_natCast]
    rw [e1, if_pos (by rw [size_B, size_B, List.length_singleton]; omega), append_B]
    rfl
  rw [lanternlaw12_EntityNumbers.l0]
  by_cases c : (n : Int) > 0
  · rw [if_pos c]; exact body
  · have : acc = [] := h.resolve_left (by omega)
    rw [if_neg c, if_pos (show (B acc).toList = [] by rw [toList_L, L_B]; exact this)]
    exact body
theorem dec_loop (x0 : Nat) (x4 : ByteArray) (K : Nat) (X : Option Bool) : ∀ (f n k : Nat) (acc : List UInt8), n < 10 ^ (f + 1) → n < 4294967296 → acc.length + f ≤ 500 → (0 < n ∨ acc = []) → K + f + 3 ≤ k →
    (∀ k', K ≤ k' → lanternlaw12_EntityNumbers.l1 k' x0 (B (dg 10 tabD f n ++ acc)) x4 x0 = X) → lanternlaw12_EntityNumbers.l0 k x0 (B acc) x4 n = X
  | f, n, k, acc, hn, hn2, ha, h, hk, hX => by
    obtain ⟨k, rfl⟩ : ∃ m, k = m + 2 := ⟨k - 2, by omega⟩
    rw [dec_step (k + 1) x0 acc x4 n hn2 (by omega) h]
    by_cases hs : n < 10
    · have e : dg 10 tabD f n = [tabD.getD n 0] := by
        cases f with
        | zero => rw [dg, Nat.mod_eq_of_lt hs]
        | succ f => rw [dg, if_pos hs]
      rw [e] at hX
      have h0 : n / 10 = 0 := Nat.div_eq_of_lt hs
      rw [h0, Nat.mod_eq_of_lt hs, lanternlaw12_EntityNumbers.l0, if_neg (by decide), if_neg (by rw [toList_L, L_B]; simp)]
      exact hX k (by omega)
    · cases f with
      | zero => exact absurd hn (by omega)
      | succ f =>
        rw [dg, if_neg hs] at hX
        have hdiv : n / 10 < 10 ^ (f + 1) := by
          rw [Nat.pow_succ] at hn
          exact Nat.div_lt_of_lt_mul (by rw [Nat.mul_comm]; exact hn)
        exact dec_loop x0 x4 K X f (n / 10) (k + 1) _ hdiv (by omega) (by rw [List.length_cons]; omega) (Or.inl (by omega)) (by omega) (fun k' hk' => by rw [← hX k' hk']; simp)
theorem hex_step (k : Nat) (x0 : Int) (acc : List UInt8) (x3 : ByteArray) (n : Nat) (hn : n < 4294967296) (ha : acc.length ≤ 1000) (h : 0 < n ∨ acc = []) :
    lanternlaw12_EntityNumbers.l1 (k + 1) x0 x3 (B acc) n = lanternlaw12_EntityNumbers.l1 k x0 x3 (B (tabH.getD (n % 16) 0 :: acc)) ((n / 16 : Nat) : Int) := by
  have hd := tmod_lit' n 16 16 rfl
  have hq := tdiv_lit n 16 16 rfl
  have hm : n % 16 < 16 := Nat.mod_lt _ (by decide)
  have e0 : (⟨#[48, 49, 50, 51, 52, 53, 54, 55, 56, 57, 65, 66, 67, 68, 69, 70]⟩ : ByteArray) = B tabH := rfl
  have e1 := one_digit tabH (n % 16) hm
  have e2 : (((n % 16 : Nat) : Int) + 1) % 4294967296 = ((n % 16 + 1 : Nat) : Int) := by omega
  have e3 : ((n / 16 : Nat) : Int) % 4294967296 = ((n / 16 : Nat) : Int) := by omega
  have body : (if 0 ≤ (Int.tmod (n : Int) 16) then (if (Int.tmod (n : Int) 16) ≤ (((Int.tmod (n : Int) 16) + 1) % 4294967296) then (if (((Int.tmod (n : Int) 16) + 1) % 4294967296) ≤ 16 then (if ((⟨#[48, 49, 50, 51, 52, 53, 54, 55, 56, 57, 65, 66, 67, 68, 69, 70]⟩ : ByteArray).extract ((Int.tmod (n : Int) 16) : Int).toNat ((((Int.tmod (n : Int) 16) + 1) % 4294967296) : Int).toNat).size + (B acc).size ≤ 9223372036854775807 then (lanternlaw12_EntityNumbers.l1 k x0 x3 (((⟨#[48, 49, 50, 51, 52, 53, 54, 55, 56, 57, 65, 66, 67, 68, 69, 70]⟩ : ByteArray).extract ((Int.tmod (n : Int) 16) : Int).toNat ((((Int.tmod (n : Int) 16) + 1) % 4294967296) : Int).toNat) ++ (B acc)) ((Int.tdiv (n : Int) 16) % 4294967296)) else (none)) else (none)) else (none)) else (none)) = lanternlaw12_EntityNumbers.l1 k x0 x3 (B (tabH.getD (n % 16) 0 :: acc)) ((n / 16 : Nat) : Int) := by
    rw [hd, hq, e0, e2, e3]
    rw [if_pos (by omega), if_pos (by omega), if_pos (by omega)]
    simp only [Int.toNat_natCast]
    rw [e1, if_pos (by rw [size_B, size_B, List.length_singleton]; omega), append_B]
    rfl
  rw [lanternlaw12_EntityNumbers.l1]
  by_cases c : (n : Int) > 0
  · rw [if_pos c]; exact body
  · have : acc = [] := h.resolve_left (by omega)
    rw [if_neg c, if_pos (show (B acc).toList = [] by rw [toList_L, L_B]; exact this)]
    exact body
theorem hex_loop (x0 : Nat) (x3 : ByteArray) (K : Nat) (X : Option Bool) : ∀ (f n k : Nat) (acc : List UInt8), n < 16 ^ (f + 1) → n < 4294967296 → acc.length + f ≤ 500 → (0 < n ∨ acc = []) → K + f + 3 ≤ k →
    (∀ k', K ≤ k' → lanternlaw12_EntityNumbers.l1 (k' + 1) x0 x3 (B (dg 16 tabH f n ++ acc)) 0 = X) → lanternlaw12_EntityNumbers.l1 k x0 x3 (B acc) n = X
  | f, n, k, acc, hn, hn2, ha, h, hk, hX => by
    obtain ⟨k, rfl⟩ : ∃ m, k = m + 2 := ⟨k - 2, by omega⟩
    rw [hex_step (k + 1) x0 acc x3 n hn2 (by omega) h]
    by_cases hs : n < 16
    · have e : dg 16 tabH f n = [tabH.getD n 0] := by
        cases f with
        | zero => rw [dg, Nat.mod_eq_of_lt hs]
        | succ f => rw [dg, if_pos hs]
      rw [e] at hX
      have h0 : n / 16 = 0 := Nat.div_eq_of_lt hs
      rw [h0, Nat.mod_eq_of_lt hs]
      exact hX k (by omega)
    · cases f with
      | zero => exact absurd hn (by omega)
      | succ f =>
        rw [dg, if_neg hs] at hX
        have hdiv : n / 16 < 16 ^ (f + 1) := by
          rw [Nat.pow_succ] at hn
          exact Nat.div_lt_of_lt_mul (by rw [Nat.mul_comm]; exact hn)
        exact hex_loop x0 x3 K X f (n / 16) (k + 1) _ hdiv (by omega) (by rw [List.length_cons]; omega) (Or.inl (by omega)) (by omega) (fun k' hk' => by rw [← hX k' hk']; simp)

/-! ### such a sign read -/
theorem valid_ascii (l : List UInt8) (h : ∀ b ∈ l, b.toNat < 128) : validD l = true := by
  rw [validD_ascii l.length l (by rw [List.take_length]; exact h), List.drop_length]
  rfl
theorem splitC_none_of (c : UInt8) : ∀ l : List UInt8, (∀ b ∈ l, b ≠ c) → splitC c l = none
  | [], _ => rfl
  | b :: l, h => by
    rw [splitC, if_neg (h b (by simp)), splitC_none_of c l (fun x hx => h x (by simp [hx]))]
    rfl
theorem splitC_at (c : UInt8) : ∀ (u t : List UInt8), (∀ b ∈ u, b ≠ c) → splitC c (u ++ c :: t) = some (u, t)
  | [], t, _ => by rw [List.nil_append, splitC, if_pos rfl]
  | b :: u, t, h => by
    rw [List.cons_append, splitC, if_neg (h b (by simp)), splitC_at c u t (fun x hx => h x (by simp [hx]))]
    rfl
theorem unsL_one (m : Nat) (nm : List UInt8) (h : ∀ b ∈ nm, b ≠ 59) : unsL (m + 2) (38 :: (nm ++ [59])) = if refOf nm = [] then none else some (refOf nm) := by
  rw [unsL_amp, splitC_at 59 nm [] h]
  dsimp only
  split
  · rfl
  · rw [unsL, splitC]
    simp
theorem runeL_big (n : Nat) (h : 1114111 < n) : runeL n = [] := by
  unfold runeL
  have : okR n = false := decide_eq_false (by omega)
  rw [this, if_neg (by simp)]
theorem refNum_dg (base most : Nat) (tab : List UInt8) (hg : Good base tab) (hm0 : 0 < most) (hm : 1114111 < base ^ most) (f n : Nat) (hn : n < base ^ (f + 1)) : refNum base most (dg base tab f n) = runeL n := by
  obtain ⟨i1, i2, i3, i4⟩ := dg_spec base tab hg f n hn
  unfold refNum
  rw [if_neg i3]
  by_cases hl : most < (dg base tab f n).length
  · rw [if_pos hl]
    have := i4 most hm0 hl
    exact (runeL_big n (by omega)).symm
  · rw [if_neg hl, i2 0]
    simp [finL]
theorem refOf_dec (f n : Nat) (hn : n < 10 ^ (f + 1)) : refOf (35 :: dg 10 tabD f n) = runeL n := by
  obtain ⟨i1, i2, i3, i4⟩ := dg_spec 10 tabD goodD f n hn
  unfold refOf
  cases hd : dg 10 tabD f n with
  | nil => exact absurd hd i3
  | cons c t =>
    have hc := i1 c (by rw [hd]; simp)
    have hc' : c ≠ 120 := by
      rintro rfl
      exact absurd hc.1 (by decide)
    have h1 : Lib.hasPrefix (35 :: c :: t) [35, 120] = false := by simp [Lib.hasPrefix, List.isPrefixOf]; exact fun h => hc' h.symm
    have h2 : Lib.hasPrefix (35 :: c :: t) [35] = true := by simp [Lib.hasPrefix, List.isPrefixOf]
    rw [h1, if_neg (by simp), if_pos h2, List.drop_one, List.tail_cons, ← hd]
    exact refNum_dg 10 7 tabD goodD (by decide) (by decide) f n hn
theorem refOf_hex (f n : Nat) (hn : n < 16 ^ (f + 1)) : refOf (35 :: 120 :: dg 16 tabH f n) = runeL n := by
  unfold refOf
  have h1 : Lib.hasPrefix (35 :: 120 :: dg 16 tabH f n) [35, 120] = true := by simp [Lib.hasPrefix, List.isPrefixOf]
  rw [if_pos h1]
  exact refNum_dg 16 6 tabH goodH (by decide) (by decide) f n hn
def numSays (n : Nat) : ByteArray × Int := unescSays (if runeL n = [] then none else some (runeL n))
theorem unesc_num (nm : List UInt8) (n : Nat) (hr : refOf nm = runeL n) (h : ∀ b ∈ nm, b ≠ 59 ∧ b.toNat < 128) (hl : nm.length ≤ 1000) (k : Nat) (hk : 5000 < k) : entity_Unescape.f k (B (38 :: (nm ++ [59]))) = some (numSays n) := by
  have hz : (B (38 :: (nm ++ [59]))).size = nm.length + 2 := by rw [size_B]; simp
  rw [Unescape_f _ (by omega) k (by omega)]
  unfold unescOf numSays
  rw [L_B, if_pos (valid_ascii _ (by
    intro b hb
    rcases List.mem_cons.1 hb with rfl | hb
    · decide
    · rcases List.mem_append.1 hb with hb | hb
      · exact (h b hb).2
      · obtain rfl := List.mem_singleton.1 hb
        decide)), hz, unsL_one (nm.length + 1) nm (fun b hb => (h b hb).1), hr]
theorem rune_iff (n : Nat) : (runeL n ≠ []) ↔ (okR n = true ∧ standsB n = true) := by
  constructor
  · intro h
    unfold runeL at h
    split at h
    · rename_i h1
      split at h
      · rename_i h2; exact ⟨h1, h2⟩
      · exact absurd rfl h
    · exact absurd rfl h
  · rintro ⟨h1, h2⟩
    exact runeL_ne n h1 h2
theorem num_tail (k : Nat) (hk : 300 ≤ k) (m : Nat) (hm : m < 4294967296) : ((lanternref12_Utf8.f (wrap64 (m : Int))).bind fun bt172 => (if bt172.2 = true then ((lanternref01_Check.f k bt172.1).bind fun t174 => (if ((t174 == 0) != ((numSays m).2 == 0)) = true then (some false) else (if ((t174 == 0) != ((numSays m).2 == 0)) = true then (some false) else (if t174 = 0 then (if (numSays m).1.toList = bt172.1.toList then (if (numSays m).1.toList = bt172.1.toList then ((lanternlaw12_awake.f k).bind fun t175 => (some t175)) else (some false)) else (some false)) else ((lanternlaw12_awake.f k).bind fun t176 => (some t176)))))) else (if (false != ((numSays m).2 == 0)) = true then (some false) else (if (false != ((numSays m).2 == 0)) = true then (some false) else ((lanternlaw12_awake.f k).bind fun t177 => (some t177)))))) = some true := by
  rw [wrap_nat m rfl (by omega), ref_Utf8]
  simp only [Option.bind_some]
  have haw := awake_f k (by omega)
  have hsz := enc_le (m : Int)
  have hx : okR m = true → text_Xml.f (Utf8.encode (m : Int)) = some (if standsB m = true then 0 else 1) := xml_enc m
  have hrl : okR m = true → standsB m = true → runeL m = L (Utf8.encode (m : Int)) := fun h1 h2 => by unfold runeL; rw [if_pos h1, if_pos h2]
  generalize Utf8.encode (m : Int) = E at *
  have hxs := xml_same E (by omega) k (by omega)
  have h5 : runeL m = [] → numSays m = (B [], 5) := fun h => by unfold numSays; rw [if_pos h]; rfl
  have hne0 : ¬ (okR m = true ∧ standsB m = true) → runeL m = [] := fun h => Classical.byContradiction fun h0 => h ((rune_iff m).1 h0)
  by_cases hok : okR m = true
  · by_cases hst : standsB m = true
    · have hne := (rune_iff m).2 ⟨hok, hst⟩
      have e5 : numSays m = (E, 0) := by
        unfold numSays
        rw [if_neg hne, hrl hok hst]
        exact congrArg (fun z => (z, (0 : Int))) (B_L E)
      rw [e5, if_pos hok]
      dsimp only
      rw [if_pos rfl, hxs, hx hok, if_pos hst]
      simp only [Option.bind_some, haw]
      rw [if_neg (by decide), if_neg (by decide)]
      simp
    · rw [h5 (hne0 (fun h => hst h.2)), if_pos hok]
      dsimp only
      rw [if_pos rfl, hxs, hx hok, if_neg hst]
      simp only [Option.bind_some, haw]
      rw [if_neg (by decide), if_neg (by decide), if_neg (by decide)]
  · rw [h5 (hne0 (fun h => hok h.1)), if_neg hok]
    dsimp only
    simp only [Option.bind_some, haw]
    rw [if_neg (by simp), if_neg (by decide), if_neg (by decide)]
theorem num_mid (k : Nat) (hk : 6000 ≤ k) (m : Nat) (hm : m < 4294967296) (D H : List UInt8) (hD : refOf (35 :: D) = runeL m) (hH : refOf (35 :: 120 :: H) = runeL m) (hne : H ≠ []) (dD : ∀ b ∈ D, b ≠ 59 ∧ b.toNat < 128) (dH : ∀ b ∈ H, b ≠ 59 ∧ b.toNat < 128) (lD : D.length ≤ 12) (lH : H.length ≤ 12) :
    lanternlaw12_EntityNumbers.l1 (k + 1) m (B D) (B H) 0 = some true := by
  have e1 : (((⟨#[38, 35]⟩ : ByteArray) ++ B D)) ++ (⟨#[59]⟩ : ByteArray) = B (38 :: ((35 :: D) ++ [59])) := by
    rw [show (⟨#[38, 35]⟩ : ByteArray) = B [38, 35] from rfl, show (⟨#[59]⟩ : ByteArray) = B [59] from rfl, append_B, append_B]
    rfl
  have e2 : (((⟨#[38, 35, 120]⟩ : ByteArray) ++ B H)) ++ (⟨#[59]⟩ : ByteArray) = B (38 :: ((35 :: 120 :: H) ++ [59])) := by
    rw [show (⟨#[38, 35, 120]⟩ : ByteArray) = B [38, 35, 120] from rfl, show (⟨#[59]⟩ : ByteArray) = B [59] from rfl, append_B, append_B]
    rfl
  have u1 := unesc_num (35 :: D) m hD (by
    intro b hb
    rcases List.mem_cons.1 hb with rfl | hb
    · decide
    · exact dD b hb) (by simp only [List.length_cons]; omega) k (by omega)
  have u2 := unesc_num (35 :: 120 :: H) m hH (by
    intro b hb
    rcases List.mem_cons.1 hb with rfl | hb
    · decide
    · rcases List.mem_cons.1 hb with rfl | hb
      · decide
      · exact dH b hb) (by simp only [List.length_cons]; omega) k (by omega)
  have s1 : ((⟨#[38, 35]⟩ : ByteArray) ++ B D).size = 2 + D.length := by
    rw [show (⟨#[38, 35]⟩ : ByteArray) = B [38, 35] from rfl, append_B, size_B, List.length_append]
    rfl
  have s2 : ((⟨#[38, 35, 120]⟩ : ByteArray) ++ B H).size = 3 + H.length := by
    rw [show (⟨#[38, 35, 120]⟩ : ByteArray) = B [38, 35, 120] from rfl, append_B, size_B, List.length_append]
    rfl
  rw [lanternlaw12_EntityNumbers.l1, if_neg (by decide), if_neg (by rw [toList_L, L_B]; exact hne), s1, s2, size_B, size_B, e1, e2, if_pos (by omega), if_pos (by omega), u1, Option.bind_some, if_pos (by omega), if_pos (by omega), u2, Option.bind_some]
  exact num_tail k (by omega) m hm
theorem numbers_k (n : Int) (hn : (Lit.int .u32 n).wf = true) (k0 : Nat) (hk0 : 20000 ≤ k0) : lanternlaw12_EntityNumbers.f k0 n = some true := by
  have hr : 0 ≤ n ∧ n < 4294967296 := by
    simp [Lit.wf, IntKind.min, IntKind.max, IntKind.signed, IntKind.bits] at hn
    omega
  obtain ⟨m, rfl⟩ : ∃ m : Nat, n = (m : Int) := ⟨n.toNat, by omega⟩
  have hm : m < 4294967296 := by omega
  unfold lanternlaw12_EntityNumbers.f
  have hD : m < 10 ^ (11 + 1) := Nat.lt_trans hm (by decide)
  have hH : m < 16 ^ (11 + 1) := Nat.lt_trans hm (by decide)
  obtain ⟨i1, i2, i3, i4⟩ := dg_spec 10 tabD goodD 11 m hD
  obtain ⟨j1, j2, j3, j4⟩ := dg_spec 16 tabH goodH 11 m hH
  have len : ∀ base tab f n, (dg base tab f n).length ≤ f + 1 := by
    intro base tab f
    induction f with
    | zero => intro n; simp [dg]
    | succ f ih =>
      intro n
      rw [dg]
      split
      · simp
      · rw [List.length_append, List.length_singleton]
        have := ih (n / base)
        omega
  have hD2 := refOf_dec 11 m hD
  have hH2 := refOf_hex 11 m hH
  have ld := len 10 tabD 11 m
  have lh := len 16 tabH 11 m
  refine dec_loop m (B []) 10100 (some true) 11 m k0 [] hD hm (by simp) (Or.inr rfl) (by omega) (fun k' hk' => ?_)
  refine hex_loop m _ 10000 (some true) 11 m k' [] hH hm (by simp) (Or.inr rfl) (by omega) (fun k hk => ?_)
  rw [List.append_nil, List.append_nil]
  generalize dg 10 tabD 11 m = D at *
  generalize dg 16 tabH 11 m = H at *
  exact num_mid k (by omega) m hm D H hD2 hH2 j3 (fun b hb => ⟨(i1 b hb).2.1, (i1 b hb).2.2.1⟩) (fun b hb => ⟨(j1 b hb).2.1, (j1 b hb).2.2.1⟩) ld lh
theorem EntityNumbers (n : Int) (hn : (Lit.int .u32 n).wf = true) : ∃ k, lanternlaw12_EntityNumbers.f k n = some true := ⟨20000, numbers_k n hn 20000 (Nat.le_refl _)⟩
end Go.Proofs.YtimffmddegnkjaaDoor.Q
