/- A chunk's line and its size: the program's reading and the reference's are one plain function. -/
import Derived.Test.YtipleegkonhfcaaGreatDoorCH
import Derived.Lib.Strings
set_option linter.unusedSimpArgs false
set_option linter.unusedVariables false
namespace Go.Proofs.YtipleegkonhfcaaGreatDoor.Q
open Go Go.RowKit Go.Lib Go.Proofs.YtipleegkonhfcaaGreatDoorW.PrintWords Go.Proofs.YtipleegkonhfcaaGreatDoorB Go.Proofs.YtipleegkonhfcaaGreatDoor.E Go.Proofs.YtipleegkonhfcaaGreatDoor.P Go.Proofs.YtipleegkonhfcaaGreatDoor.U Go.Proofs.YtipleegkonhfcaaGreatDoor.KF

def gb (s : ByteArray) (i : Nat) : Nat := ((L s).getD i 0).toNat
theorem gb_lt (s : ByteArray) (i : Nat) : gb s i < 256 := ((L s).getD i 0).toNat_lt
theorem bt_gb (s : ByteArray) (i : Nat) : bt s (i : Int) = (gb s i : Int) := by rw [bt_L, Int.toNat_natCast]; rfl
/-- A digit's value as strconv reads it; 255: it is none. -/
def puD (c : Nat) : Nat := if 48 ≤ c ∧ c ≤ 57 then c - 48 else if 97 ≤ c ∧ c ≤ 122 then c - 87 else if 65 ≤ c ∧ c ≤ 90 then c - 55 else 255
def lowI (c : Nat) : Int := Go.bits .or .u8 (c : Int) 32
theorem low_facts : ∀ c : Fin 256, (48 ≤ c.val ∧ c.val ≤ 57) ∨ (¬ (48 ≤ c.val ∧ c.val ≤ 57) ∧ 97 ≤ lowI c.val ∧ lowI c.val ≤ 122 ∧ ((lowI c.val - 97) % 256 + 10) % 256 = (puD c.val : Int)) ∨ (¬ (48 ≤ c.val ∧ c.val ≤ 57) ∧ (lowI c.val < 97 ∨ (97 ≤ lowI c.val ∧ 122 < lowI c.val)) ∧ puD c.val = 255) := by decide +kernel
theorem puD_dig {c : Nat} (h : 48 ≤ c ∧ c ≤ 57) : puD c = c - 48 := by unfold puD; rw [if_pos h]
/-- A number's value; none: a digit is none. -/
def valL (base : Nat) : List UInt8 → Nat → Option Nat
  | [], n => some n
  | c :: t, n => if base ≤ puD c.toNat then none else valL base t (n * base + puD c.toNat)
theorem pu_j9 (k : Nat) (s : ByteArray) (n i d : Nat) (hn : n ≤ 4294967296) (hi : i < s.size) (hs : s.size ≤ 1000000) (hd : d < 16) :
    I.strconv_ParseUint.j9 (k + 1) 16 false s 1152921504606846976 18446744073709551615 false n d (bytesOf s) s.size i = I.strconv_ParseUint.l0 k 16 false s 1152921504606846976 18446744073709551615 false ((n * 16 + d : Nat) : Int) (bytesOf s) s.size ((i + 1 : Nat) : Int) := by
  have w0 : IntKind.u64.wrap ((d : Nat) : Int) = (d : Int) := by rw [IntKind.wrap_u64]; omega
  have wi : wrap64 ((i : Int) + 1) = ((i + 1 : Nat) : Int) := wrap_nat (i + 1) rfl (by omega)
  have w1 : IntKind.u64.wrap 16 = 16 := rfl
  have w2 : IntKind.u64.wrap ((n : Int) * 16) = (n : Int) * 16 := by rw [IntKind.wrap_u64]; omega
  have w3 : IntKind.u64.wrap ((n : Int) * 16 + (d : Int)) = ((n * 16 + d : Nat) : Int) := by rw [IntKind.wrap_u64]; omega
  rw [I.strconv_ParseUint.j9, if_neg (by omega), if_neg (by omega), w1, w2, w0, w3, if_neg (by omega), if_neg (by omega), wi]
theorem pu_step (k : Nat) (s : ByteArray) (n i : Nat) (hn : n ≤ 4294967296) (hi : i < s.size) (hs : s.size ≤ 1000000) (hd : puD (gb s i) < 16) :
    I.strconv_ParseUint.l0 (k + 4) 16 false s 1152921504606846976 18446744073709551615 false n (bytesOf s) s.size i = I.strconv_ParseUint.l0 k 16 false s 1152921504606846976 18446744073709551615 false ((n * 16 + puD (gb s i) : Nat) : Int) (bytesOf s) s.size ((i + 1 : Nat) : Int) := by
  have hg := gb_lt s i
  rw [I.strconv_ParseUint.l0, if_pos (by omega), if_pos (by omega), if_pos (by rw [Go.Proofs.YtipleegkonhfcaaGreatDoorW.PrintWords.bytesOf_length]; omega), rd_bytesOf, bt_gb, ite_self, I.strconv_ParseUint.j7, if_neg (by simp)]
  rcases low_facts ⟨gb s i, hg⟩ with h1 | ⟨h0, h1, h2, h3⟩ | ⟨h0, h1, h2⟩
  · dsimp only at h1
    rw [if_pos (by omega), decide_eq_true (by omega), I.strconv_ParseUint.j8, if_pos rfl]
    have e : ((gb s i : Int) - 48) % 256 = ((puD (gb s i) : Nat) : Int) := by rw [puD_dig h1]; omega
    rw [e]
    exact pu_j9 k s n i _ hn hi hs hd
  · dsimp only at h0 h1 h2 h3
    have hj : ∀ b : Bool, b = false → I.strconv_ParseUint.j8 (k + 2) 16 false s 1152921504606846976 18446744073709551615 false n (gb s i) (bytesOf s) s.size i b = I.strconv_ParseUint.l0 k 16 false s 1152921504606846976 18446744073709551615 false ((n * 16 + puD (gb s i) : Nat) : Int) (bytesOf s) s.size ((i + 1 : Nat) : Int) := by
      rintro b rfl
      rw [I.strconv_ParseUint.j8, if_neg (by simp)]
      have hl : I.strconv_lower.f (gb s i : Int) = some (lowI (gb s i)) := rfl
      rw [hl, Option.bind_some, if_pos h1, Option.bind_some, if_pos h2, Option.bind_some, h3]
      exact pu_j9 k s n i _ hn hi hs hd
    by_cases c1 : 48 ≤ (gb s i : Int)
    · rw [if_pos c1]; exact hj _ (decide_eq_false (by omega))
    · rw [if_neg c1]; exact hj _ rfl
  · dsimp only at h2
    omega
theorem pu_loop (s : ByteArray) (hs : s.size ≤ 1000000) : ∀ (d k n i v : Nat), (n + 1) * 16 ^ d ≤ 4294967296 → i + d = s.size → 4 * d + 1 < k → valL 16 ((L s).drop i) n = some v →
    I.strconv_ParseUint.l0 k 16 false s 1152921504606846976 18446744073709551615 false n (bytesOf s) s.size i = some ((v : Int), none)
  | 0, k, n, i, v, hn, hd, hk, hv => by
    obtain ⟨k, rfl⟩ : ∃ m, k = m + 1 := ⟨k - 1, by omega⟩
    rw [List.drop_eq_nil_of_le (by rw [← size_L]; omega), valL, Option.some.injEq] at hv
    subst hv
    rw [I.strconv_ParseUint.l0, if_neg (by omega), if_neg (by simp)]
  | d + 1, k, n, i, v, hn, hd, hk, hv => by
    obtain ⟨k, rfl⟩ : ∃ m, k = m + 4 := ⟨k - 4, by omega⟩
    have hi : i < s.size := by omega
    have hpos : 1 ≤ 16 ^ (d + 1) := Nat.pow_pos (by decide)
    have hn1 : n + 1 ≤ (n + 1) * 16 ^ (d + 1) := Nat.le_mul_of_pos_right _ hpos
    rw [getD_drop (L s) i (by rw [← size_L]; exact hi), valL] at hv
    have e : ((L s).getD i 0).toNat = gb s i := rfl
    rw [e] at hv
    split at hv
    · cases hv
    · rename_i hc
      rw [pu_step k s n i (by omega) hi hs (by omega)]
      refine pu_loop s hs d k _ (i + 1) v ?_ (by omega) (by omega) hv
      refine Nat.le_trans ?_ hn
      rw [Nat.pow_succ, Nat.mul_comm (16 ^ d) 16, ← Nat.mul_assoc]
      exact Nat.mul_le_mul_right _ (by omega)
theorem pu_f (s : ByteArray) (hs : s.size ≤ 8) (h0 : L s ≠ []) (v : Nat) (hv : valL 16 (L s) 0 = some v) (k : Nat) (hk : 60 < k) : strconv_ParseUint.f k s 16 64 = some ((v : Int), none) := by
  obtain ⟨k, rfl⟩ : ∃ m, k = m + 4 := ⟨k - 4, by omega⟩
  unfold strconv_ParseUint.f I.strconv_ParseUint.f
  rw [toList_L, if_neg h0]
  have hp : 16 ^ s.size ≤ 16 ^ 8 := Nat.pow_le_pow_right (by decide) hs
  have hloop := pu_loop s (by omega) s.size k 0 0 v (by omega) (by omega) (by omega) (by rw [List.drop_zero]; exact hv)
  have hsh : IntKind.u64.wrap ((shl .u64 1 (IntKind.u64.wrap 64)) - 1) = 18446744073709551615 := by decide +kernel
  have hw : (0 : Int) ≤ IntKind.u64.wrap 64 := by decide
  rw [if_pos (by decide), decide_eq_true (by decide), I.strconv_ParseUint.j0, if_pos rfl, I.strconv_ParseUint.j3, if_neg (by decide), if_neg (by decide), if_neg (by decide), I.strconv_ParseUint.j4, if_neg (by decide), if_pos (by decide), I.strconv_ParseUint.j5, if_pos hw, if_pos (by omega), hsh, Option.bind_some, Go.Proofs.YtipleegkonhfcaaGreatDoorW.PrintWords.bytesOf_length]
  have e : I.strconv_ParseUint.l0 k 16 ((16 : Int) == 0) s 1152921504606846976 18446744073709551615 false 0 (bytesOf s) s.size 0 = some ((v : Int), none) := hloop
  rw [e, Option.bind_some, if_pos rfl]

/-! ### the size that a line says -/
theorem hex_set : ∀ c : Fin 256, (([48, 49, 50, 51, 52, 53, 54, 55, 56, 57, 97, 98, 99, 100, 101, 102, 65, 66, 67, 68, 69, 70] : List UInt8).contains (UInt8.ofNat c.val)) = decide (puD c.val < 16) := by decide +kernel
theorem hex_set' (c : UInt8) : (([48, 49, 50, 51, 52, 53, 54, 55, 56, 57, 97, 98, 99, 100, 101, 102, 65, 66, 67, 68, 69, 70] : List UInt8).contains c) = decide (puD c.toNat < 16) := by
  have := hex_set ⟨c.toNat, c.toNat_lt⟩
  simpa using this
theorem valL_all (l : List UInt8) : ∀ n, (∀ c ∈ l, puD c.toNat < 16) → ∃ v, valL 16 l n = some v := by
  induction l with
  | nil => exact fun n _ => ⟨n, rfl⟩
  | cons c t ih =>
    intro n h
    rw [valL, if_neg (by have := h c (by simp); omega)]
    exact ih _ (fun x hx => h x (by simp [hx]))
theorem valL_not (l : List UInt8) : ∀ n, ¬ (∀ c ∈ l, puD c.toNat < 16) → valL 16 l n = none := by
  induction l with
  | nil => exact fun n h => absurd (by simp) h
  | cons c t ih =>
    intro n h
    rw [valL]
    by_cases hc : 16 ≤ puD c.toNat
    · rw [if_pos hc]
    · rw [if_neg hc]
      refine ih _ (fun h2 => h (fun x hx => ?_))
      rcases List.mem_cons.1 hx with rfl | hx
      · omega
      · exact h2 x hx
def headOf (l : List UInt8) : List UInt8 := match splitC 59 l with | some x => x.1 | none => l
def sizeL (l : List UInt8) : Option Nat := if 256 < l.length then none else if splitC 13 l ≠ none then none else if headOf l = [] ∨ 8 < (headOf l).length then none else valL 16 (headOf l) 0
def sizeSays : Option Nat → Int × Int
  | some n => ((n : Int), 0)
  | none => (0, 5)
theorem valL_lt (l : List UInt8) : ∀ n v, valL 16 l n = some v → v + 1 ≤ (n + 1) * 16 ^ l.length := by
  induction l with
  | nil =>
    intro n v h
    rw [valL, Option.some.injEq] at h
    subst h
    simp
  | cons c t ih =>
    intro n v h
    rw [valL] at h
    split at h
    · cases h
    · refine Nat.le_trans (ih _ v h) ?_
      rw [List.length_cons, Nat.pow_succ, Nat.mul_comm (16 ^ t.length) 16, ← Nat.mul_assoc]
      exact Nat.mul_le_mul_right _ (by omega)
theorem sizeL_lt (l : List UInt8) (v : Nat) (h : sizeL l = some v) : v < 4294967296 := by
  unfold sizeL at h
  split at h
  · cases h
  · split at h
    · cases h
    · split at h
      · cases h
      · rename_i hc
        have h1 := valL_lt _ _ _ h
        have h2 : 16 ^ (headOf l).length ≤ 16 ^ 8 := Nat.pow_le_pow_right (by decide) (by omega)
        omega
theorem Size_f (s : ByteArray) (hs : s.size ≤ 1000000) (k : Nat) (hk : 100 < k) : chunk_Size.f k s = some (sizeSays (sizeL (L s))) := by
  obtain ⟨k, rfl⟩ : ∃ m, k = m + 2 := ⟨k - 2, by omega⟩
  unfold chunk_Size.f sizeL
  by_cases c1 : 256 < (L s).length
  · rw [if_pos (by rw [size_L]; omega), if_pos c1, chunk_Size.j0, if_pos rfl]
    rfl
  · rw [if_neg (by rw [size_L]; omega), if_neg c1]
    have hi : strings_IndexByte.f s 13 = some (Lib.indexByte (L s) 13) := rfl
    rw [hi, Option.bind_some, indexByte_split]
    cases h13 : splitC 13 (L s) with
    | some x =>
      rw [if_pos (by simp), decide_eq_true (show (0 : Int) ≤ ((x.1.length : Nat) : Int) by omega), chunk_Size.j0, if_pos rfl]
      rfl
    | none =>
      rw [if_neg (by simp), decide_eq_false (by dsimp only; omega), chunk_Size.j0, if_neg (by simp)]
      have hcut : strings_Cut.f s (⟨#[59]⟩ : ByteArray) = some (B (headOf (L s)), (cutOf s ⟨#[59]⟩).2) := by
        unfold strings_Cut.f
        rw [if_pos (by omega)]
        unfold cutOf headOf
        rw [show (⟨#[59]⟩ : ByteArray).data.toList = [59] from rfl, show s.data.toList = L s from rfl, cut_split]
        cases splitC 59 (L s) with
        | none => rfl
        | some x => rfl
      rw [hcut, Option.bind_some]
      dsimp only
      rw [toList_L, L_B, size_B]
      by_cases c2 : headOf (L s) = []
      · rw [if_pos c2, if_pos (Or.inl c2), chunk_Size.j1, if_pos rfl]
        rfl
      · rw [if_neg c2]
        by_cases c3 : 8 < (headOf (L s)).length
        · rw [if_pos (by omega), if_pos (Or.inr c3), chunk_Size.j1, if_pos rfl]
          rfl
        · rw [if_neg (by omega), if_neg (by rintro (h | h); exact c2 h; exact c3 h)]
          have htr : strings_Trim.f (B (headOf (L s))) (⟨#[48, 49, 50, 51, 52, 53, 54, 55, 56, 57, 97, 98, 99, 100, 101, 102, 65, 66, 67, 68, 69, 70]⟩ : ByteArray) = some (B (Lib.trimS (headOf (L s)) [48, 49, 50, 51, 52, 53, 54, 55, 56, 57, 97, 98, 99, 100, 101, 102, 65, 66, 67, 68, 69, 70])) := by
            unfold strings_Trim.f
            rw [if_pos ⟨by rw [size_B]; omega, by decide, by decide⟩, show (B (headOf (L s))).data.toList = headOf (L s) from L_B _]
            rfl
          rw [htr, Option.bind_some, toList_L, L_B]
          by_cases c4 : ∀ c ∈ headOf (L s), puD c.toNat < 16
          · have ht : Lib.trimS (headOf (L s)) [48, 49, 50, 51, 52, 53, 54, 55, 56, 57, 97, 98, 99, 100, 101, 102, 65, 66, 67, 68, 69, 70] = [] := (trimS_nil_iff _ _).2 (fun c hc => by rw [hex_set']; exact decide_eq_true (c4 c hc))
            obtain ⟨v, hv⟩ := valL_all (headOf (L s)) 0 c4
            have hlt := valL_lt _ _ _ hv
            have h2 : 16 ^ (headOf (L s)).length ≤ 16 ^ 8 := Nat.pow_le_pow_right (by decide) (by omega)
            rw [ht, chunk_Size.j1, if_neg (by simp), pu_f (B (headOf (L s))) (by rw [size_B]; omega) (by rw [L_B]; exact c2) v (by rw [L_B]; exact hv) k (by omega), Option.bind_some, hv]
            rw [if_pos (show (none : Option Int).isNone = true from rfl), wrap_nat v rfl (by omega)]
            rfl
          · have ht : Lib.trimS (headOf (L s)) [48, 49, 50, 51, 52, 53, 54, 55, 56, 57, 97, 98, 99, 100, 101, 102, 65, 66, 67, 68, 69, 70] ≠ [] := fun h => c4 (fun c hc => by
              have := (trimS_nil_iff _ _).1 h c hc
              rw [hex_set'] at this
              exact of_decide_eq_true this)
            have e : ∀ l : List UInt8, l ≠ [] → (l != []) = true := fun l h => bne_iff_ne.mpr h
            rw [e _ ht, chunk_Size.j1, if_pos rfl, valL_not _ _ c4]
            rfl

/-! ### the reference's -/
theorem splitC_append (c : UInt8) : ∀ u v : List UInt8, splitC c (u ++ v) = match splitC c u with | some x => some (x.1, x.2 ++ v) | none => (splitC c v).map (fun x => (u ++ x.1, x.2))
  | [], v => by
    rw [List.nil_append]
    show _ = (splitC c v).map _
    cases splitC c v <;> rfl
  | b :: u, v => by
    rw [List.cons_append, splitC, splitC]
    by_cases h : b = c
    · rw [if_pos h, if_pos h]
    · rw [if_neg h, if_neg h, splitC_append c u v]
      cases splitC c u with
      | some x => rfl
      | none =>
        cases splitC c v with
        | none => rfl
        | some y => rfl
def endOf (l : List UInt8) (e : Nat) : Nat := match splitC 59 l with | some x => x.1.length | none => e
theorem refSize_back (s : ByteArray) (hs : s.size ≤ 256) : ∀ (m k e : Nat), m ≤ s.size → e ≤ s.size → m + 1 < k →
    (∀ k', k ≤ k' + m + 1 → lanternref10_Size.l0 (k' + 1) s (endOf ((L s).take m) e : Nat) (-1) = lanternref10_Size.l0 (k' + 1) s (endOf ((L s).take m) e : Nat) (-1)) →
    lanternref10_Size.l0 k s e ((m : Int) - 1) = if splitC 13 ((L s).take m) ≠ none then some (-1) else lanternref10_Size.l0 (k - m) s (endOf ((L s).take m) e : Nat) (-1)
  | 0, k, e, hm, he, hk, _ => by
    rw [List.take_zero]
    rfl
  | m + 1, k, e, hm, he, hk, _ => by
    obtain ⟨k, rfl⟩ : ∃ q, k = q + 1 := ⟨k - 1, by omega⟩
    have ht := take_getD (L s) m (by rw [← size_L]; omega)
    have e1 : ((m + 1 : Nat) : Int) - 1 = (m : Int) := by omega
    rw [lanternref10_Size.l0, e1, if_pos (by omega), if_pos (by omega), if_pos (by omega), bt_L, Int.toNat_natCast, ht, splitC_append]
    have h13 : (((L s).getD m 0).toNat : Int) = 13 ↔ (L s).getD m 0 = 13 := ⟨fun h => UInt8.toNat_inj.mp (by have : (13 : UInt8).toNat = 13 := rfl; omega), fun h => by rw [h]; rfl⟩
    have h59 : (((L s).getD m 0).toNat : Int) = 59 ↔ (L s).getD m 0 = 59 := ⟨fun h => UInt8.toNat_inj.mp (by have : (59 : UInt8).toNat = 59 := rfl; omega), fun h => by rw [h]; rfl⟩
    generalize hc : (L s).getD m 0 = c at *
    by_cases c1 : c = 13
    · subst c1
      rw [if_pos (by decide)]
      have : splitC 13 [(13 : UInt8)] = some ([], []) := rfl
      rw [this]
      cases splitC 13 ((L s).take m) <;> simp
    · rw [if_neg (fun h => c1 (h13.1 h))]
      have hn13 : splitC 13 [c] = none := by simp [splitC, c1]
      rw [hn13]
      have w1 : wrap64 ((m : Int) - 1) = (m : Int) - 1 := wrap_id (by omega) (by omega)
      have key : ∀ e', e' ≤ s.size → endOf ((L s).take m) e' = endOf ((L s).take m ++ [c]) e → lanternref10_Size.l0 k s e' ((m : Int) - 1) = if (match splitC 13 ((L s).take m) with | some x => some (x.1, x.2 ++ [c]) | none => none (α := List UInt8 × List UInt8).map (fun x => ((L s).take m ++ x.1, x.2))) ≠ none then some (-1) else lanternref10_Size.l0 (k + 1 - (m + 1)) s (endOf ((L s).take m ++ [c]) e : Nat) (-1) := by
        intro e' he' hee
        rw [refSize_back s hs m k e' (by omega) he' (by omega) (fun _ _ => rfl), hee]
        have e2 : k + 1 - (m + 1) = k - m := by omega
        rw [e2]
        cases splitC 13 ((L s).take m) <;> simp
      by_cases c2 : c = 59
      · rw [if_pos (h59.2 c2), w1]
        refine key m (by omega) ?_
        subst c2
        unfold endOf
        rw [splitC_append]
        have hlm : ((L s).take m).length = m := by rw [List.length_take, ← size_L]; omega
        cases splitC 59 ((L s).take m) with
        | some x => rfl
        | none =>
          show m = (((L s).take m) ++ ([] : List UInt8)).length
          rw [List.append_nil, hlm]
      · rw [if_neg (fun h => c2 (h59.1 h)), w1]
        refine key e he ?_
        unfold endOf
        rw [splitC_append]
        have hn : splitC 59 [c] = none := by simp [splitC, c2]
        rw [hn]
        cases splitC 59 ((L s).take m) <;> rfl
end Go.Proofs.YtipleegkonhfcaaGreatDoor.Q
set_option linter.unusedSimpArgs false
set_option linter.unusedVariables false
namespace Go.Proofs.YtipleegkonhfcaaGreatDoor.Q
open Go Go.RowKit Go.Lib Go.Proofs.YtipleegkonhfcaaGreatDoorW.PrintWords Go.Proofs.YtipleegkonhfcaaGreatDoorB Go.Proofs.YtipleegkonhfcaaGreatDoor.E Go.Proofs.YtipleegkonhfcaaGreatDoor.P Go.Proofs.YtipleegkonhfcaaGreatDoor.U Go.Proofs.YtipleegkonhfcaaGreatDoor.KF

theorem ref_digit : ∀ c : Fin 256, (48 ≤ c.val ∧ c.val ≤ 57 ∧ ((c.val : Int) - 48) % 256 = (puD c.val : Int) ∧ puD c.val < 16) ∨ (¬ (48 ≤ c.val ∧ c.val ≤ 57) ∧ 97 ≤ c.val ∧ c.val ≤ 102 ∧ ((c.val : Int) - 97) % 256 + 10 = (puD c.val : Int) ∧ puD c.val < 16) ∨ (¬ (48 ≤ c.val ∧ c.val ≤ 57) ∧ ¬ (97 ≤ c.val ∧ c.val ≤ 102) ∧ 65 ≤ c.val ∧ c.val ≤ 70 ∧ ((c.val : Int) - 65) % 256 + 10 = (puD c.val : Int) ∧ puD c.val < 16) ∨ (¬ (48 ≤ c.val ∧ c.val ≤ 57) ∧ ¬ (97 ≤ c.val ∧ c.val ≤ 102) ∧ ¬ (65 ≤ c.val ∧ c.val ≤ 70) ∧ 16 ≤ puD c.val) := by decide +kernel
def orNeg : Option Nat → Int
  | some v => v
  | none => -1
theorem refSize_l1 (s : ByteArray) (hs : s.size ≤ 1000000) (e : Nat) (he : e ≤ s.size) : ∀ (d k n i : Nat), i + d = e → (n + 1) * 16 ^ d ≤ 4294967296 → 3 * d + 1 < k →
    lanternref10_Size.l1 k s e n i = some (orNeg (valL 16 (((L s).take e).drop i) n))
  | 0, k, n, i, hd, hn, hk => by
    obtain ⟨k, rfl⟩ : ∃ m, k = m + 1 := ⟨k - 1, by omega⟩
    rw [lanternref10_Size.l1, if_neg (by omega), List.drop_eq_nil_of_le (by rw [List.length_take]; omega)]
    rfl
  | d + 1, k, n, i, hd, hn, hk => by
    obtain ⟨k, rfl⟩ : ∃ m, k = m + 3 := ⟨k - 3, by omega⟩
    have hi : i < s.size := by omega
    have hpos : 1 ≤ 16 ^ (d + 1) := Nat.pow_pos (by decide)
    have hn1 : n + 1 ≤ (n + 1) * 16 ^ (d + 1) := Nat.le_mul_of_pos_right _ hpos
    have hlen : ((L s).take e).length = e := by rw [List.length_take, ← size_L]; omega
    have hdr := getD_drop ((L s).take e) i (by omega)
    have hge : ((L s).take e).getD i 0 = (L s).getD i 0 := by
      simp only [List.getD_eq_getElem?_getD, List.getElem?_take, if_pos (show i < e by omega)]
    rw [hge] at hdr
    have hg := gb_lt s i
    rw [lanternref10_Size.l1, if_pos (by omega), if_pos (by omega), if_pos (by omega), bt_gb, hdr, valL]
    have e0 : ((L s).getD i 0).toNat = gb s i := rfl
    rw [e0]
    have hnext : ∀ k', k ≤ k' → puD (gb s i) < 16 → lanternref10_Size.l1 k' s e ((n * 16 + puD (gb s i) : Nat) : Int) ((i + 1 : Nat) : Int) = some (orNeg (valL 16 (((L s).take e).drop (i + 1)) (n * 16 + puD (gb s i)))) := fun k' hk' hlt => refSize_l1 s hs e he d k' _ (i + 1) (by omega) (by
      refine Nat.le_trans ?_ hn
      rw [Nat.pow_succ, Nat.mul_comm (16 ^ d) 16, ← Nat.mul_assoc]
      exact Nat.mul_le_mul_right _ (by omega)) (by omega)
    have wi : wrap64 ((i : Int) + 1) = ((i + 1 : Nat) : Int) := wrap_nat (i + 1) rfl (by omega)
    have w16 : wrap64 ((n : Int) * 16) = ((n * 16 : Nat) : Int) := wrap_nat (n * 16) (by omega) (by omega)
    have wa : ∀ d : Int, d = ((puD (gb s i) : Nat) : Int) → puD (gb s i) < 16 → wrap64 (((n * 16 : Nat) : Int) + d) = ((n * 16 + puD (gb s i) : Nat) : Int) := fun d hd hlt => wrap_nat _ (by omega) (by omega)
    have wb : ∀ d : Int, d + 10 = ((puD (gb s i) : Nat) : Int) → puD (gb s i) < 16 → wrap64 (wrap64 (((n * 16 : Nat) : Int) + d) + 10) = ((n * 16 + puD (gb s i) : Nat) : Int) := by
      intro d hd hlt
      have h1 : wrap64 (((n * 16 : Nat) : Int) + d) = ((n * 16 : Nat) : Int) + d := wrap_id (by omega) (by omega)
      rw [h1]
      exact wrap_nat _ (by omega) (by omega)
    have hj4 : ∀ b : Bool, (b = true ∧ ((gb s i : Int) - 97) % 256 + 10 = (puD (gb s i) : Int) ∧ puD (gb s i) < 16 ∨ b = false ∧ (65 ≤ gb s i ∧ gb s i ≤ 70 ∧ ((gb s i : Int) - 65) % 256 + 10 = (puD (gb s i) : Int) ∧ puD (gb s i) < 16 ∨ ¬ (65 ≤ gb s i ∧ gb s i ≤ 70) ∧ 16 ≤ puD (gb s i))) → lanternref10_Size.j4 (k + 1) s e n i (gb s i) b = some (orNeg (if 16 ≤ puD (gb s i) then none else valL 16 (((L s).take e).drop (i + 1)) (n * 16 + puD (gb s i)))) := by
      intro b hb
      rw [lanternref10_Size.j4, w16, wi]
      rcases hb with ⟨rfl, h1, h2⟩ | ⟨rfl, ⟨h1, h2, h3, h4⟩ | ⟨h1, h2⟩⟩
      · rw [if_pos rfl, wb _ h1 h2, hnext k (by omega) h2, if_neg (by omega)]
      · rw [if_neg (by simp), if_pos (by omega), if_pos (by omega), wb _ h3 h4, hnext k (by omega) h4, if_neg (by omega)]
      · rw [if_neg (by simp), if_pos h2]
        by_cases c : (gb s i : Int) ≥ 65
        · rw [if_pos c, if_neg (by omega)]; rfl
        · rw [if_neg c]; rfl
    have hj3 : ∀ b : Bool, (b = true ∧ ((gb s i : Int) - 48) % 256 = (puD (gb s i) : Int) ∧ puD (gb s i) < 16 ∨ b = false ∧ (97 ≤ gb s i ∧ gb s i ≤ 102 ∧ ((gb s i : Int) - 97) % 256 + 10 = (puD (gb s i) : Int) ∧ puD (gb s i) < 16 ∨ ¬ (97 ≤ gb s i ∧ gb s i ≤ 102) ∧ (65 ≤ gb s i ∧ gb s i ≤ 70 ∧ ((gb s i : Int) - 65) % 256 + 10 = (puD (gb s i) : Int) ∧ puD (gb s i) < 16 ∨ ¬ (65 ≤ gb s i ∧ gb s i ≤ 70) ∧ 16 ≤ puD (gb s i)))) → lanternref10_Size.j3 (k + 2) s e n i (gb s i) b = some (orNeg (if 16 ≤ puD (gb s i) then none else valL 16 (((L s).take e).drop (i + 1)) (n * 16 + puD (gb s i)))) := by
      intro b hb
      rw [lanternref10_Size.j3, w16, wi]
      rcases hb with ⟨rfl, h1, h2⟩ | ⟨rfl, ⟨h1, h2, h3, h4⟩ | ⟨h1, h2⟩⟩
      · rw [if_pos rfl, wa _ h1 h2, hnext (k + 1) (by omega) h2, if_neg (by omega)]
      · rw [if_neg (by simp), if_pos (by omega)]
        exact hj4 _ (Or.inl ⟨decide_eq_true (by omega), h3, h4⟩)
      · rw [if_neg (by simp)]
        by_cases c : (gb s i : Int) ≥ 97
        · rw [if_pos c]
          exact hj4 _ (Or.inr ⟨decide_eq_false (by omega), h2⟩)
        · rw [if_neg c]
          exact hj4 _ (Or.inr ⟨rfl, h2⟩)
    rcases ref_digit ⟨gb s i, hg⟩ with ⟨h1, h2, h3, h4⟩ | ⟨h0, h1, h2, h3, h4⟩ | ⟨h0, h1, h2, h3, h4, h5⟩ | ⟨h0, h1, h2, h3⟩
    · dsimp only at h1 h2 h3 h4
      rw [if_pos (by omega)]
      exact hj3 _ (Or.inl ⟨decide_eq_true (by omega), h3, h4⟩)
    · dsimp only at h0 h1 h2 h3 h4
      by_cases c : (gb s i : Int) ≥ 48
      · rw [if_pos c]
        exact hj3 _ (Or.inr ⟨decide_eq_false (by omega), Or.inl ⟨h1, h2, h3, h4⟩⟩)
      · rw [if_neg c]
        exact hj3 _ (Or.inr ⟨rfl, Or.inl ⟨h1, h2, h3, h4⟩⟩)
    · dsimp only at h0 h1 h2 h3 h4 h5
      by_cases c : (gb s i : Int) ≥ 48
      · rw [if_pos c]
        exact hj3 _ (Or.inr ⟨decide_eq_false (by omega), Or.inr ⟨h1, Or.inl ⟨h2, h3, h4, h5⟩⟩⟩)
      · rw [if_neg c]
        exact hj3 _ (Or.inr ⟨rfl, Or.inr ⟨h1, Or.inl ⟨h2, h3, h4, h5⟩⟩⟩)
    · dsimp only at h0 h1 h2 h3
      by_cases c : (gb s i : Int) ≥ 48
      · rw [if_pos c]
        exact hj3 _ (Or.inr ⟨decide_eq_false (by omega), Or.inr ⟨h1, Or.inr ⟨h2, h3⟩⟩⟩)
      · rw [if_neg c]
        exact hj3 _ (Or.inr ⟨rfl, Or.inr ⟨h1, Or.inr ⟨h2, h3⟩⟩⟩)
theorem refSize_f (s : ByteArray) (hs : s.size ≤ 1000000) (k : Nat) (hk : 500 < k) : lanternref10_Size.f k s = some (orNeg (sizeL (L s))) := by
  unfold lanternref10_Size.f sizeL
  have hsz : s.size = (L s).length := size_L s
  by_cases c1 : 256 < (L s).length
  · rw [if_pos (by omega), if_pos c1]
    rfl
  · rw [if_neg (by omega), if_neg c1]
    have w1 : wrap64 ((s.size : Int) - 1) = (s.size : Int) - 1 := wrap_id (by omega) (by omega)
    have hb := refSize_back s (by omega) s.size k s.size (Nat.le_refl _) (Nat.le_refl _) (by omega) (fun _ _ => rfl)
    have ht : (L s).take s.size = L s := by rw [hsz, List.take_length]
    rw [w1, hb, ht]
    by_cases c2 : splitC 13 (L s) ≠ none
    · rw [if_pos c2, if_pos c2]
      rfl
    · rw [if_neg c2, if_neg c2]
      obtain ⟨q, hq⟩ : ∃ q, k - s.size = q + 2 := ⟨k - s.size - 2, by omega⟩
      have heq : headOf (L s) = (L s).take (endOf (L s) s.size) ∧ endOf (L s) s.size ≤ s.size := by
        unfold headOf endOf
        cases h : splitC 59 (L s) with
        | none => exact ⟨ht.symm, Nat.le_refl _⟩
        | some x =>
          obtain ⟨u, t⟩ := x
          obtain ⟨e, _⟩ := splitC_some 59 (L s) u t h
          refine ⟨?_, ?_⟩
          · dsimp only
            rw [e]
            exact List.take_left.symm
          · dsimp only
            rw [hsz, e, List.length_append]
            omega
      have hlen : (headOf (L s)).length = endOf (L s) s.size := by
        rw [heq.1, List.length_take]
        omega
      rw [hq, lanternref10_Size.l0, if_neg (by decide)]
      by_cases c3 : headOf (L s) = []
      · have : endOf (L s) s.size = 0 := by rw [← hlen, c3]; rfl
        rw [if_pos (by omega), lanternref10_Size.j1, if_pos rfl, if_pos (Or.inl c3)]
        rfl
      · have hpos : 0 < endOf (L s) s.size := by rw [← hlen]; exact List.length_pos_iff.2 c3
        rw [if_neg (by omega)]
        by_cases c4 : 8 < (headOf (L s)).length
        · rw [decide_eq_true (by omega), lanternref10_Size.j1, if_pos rfl, if_pos (Or.inr c4)]
          rfl
        · have hp : 16 ^ endOf (L s) s.size ≤ 16 ^ 8 := Nat.pow_le_pow_right (by decide) (by omega)
          rw [decide_eq_false (by omega), lanternref10_Size.j1, if_neg (by simp), if_neg (by rintro (h | h); exact c3 h; exact c4 h)]
          have := refSize_l1 s (by omega) (endOf (L s) s.size) heq.2 (endOf (L s) s.size) q 0 0 (by omega) (by omega) (by omega)
          rw [List.drop_zero, ← heq.1] at this
          exact this
end Go.Proofs.YtipleegkonhfcaaGreatDoor.Q
set_option linter.unusedSimpArgs false
set_option linter.unusedVariables false
namespace Go.Proofs.YtipleegkonhfcaaGreatDoor.Q
open Go Go.RowKit Go.Lib Go.Proofs.YtipleegkonhfcaaGreatDoorW.PrintWords Go.Proofs.YtipleegkonhfcaaGreatDoorB Go.Proofs.YtipleegkonhfcaaGreatDoor.E Go.Proofs.YtipleegkonhfcaaGreatDoor.P Go.Proofs.YtipleegkonhfcaaGreatDoor.U Go.Proofs.YtipleegkonhfcaaGreatDoor.KF

/-! ### a line -/
/-- A line without its end; or the mistake: 10 more is to come, 5 no line. -/
def lineM (r : List UInt8) : List UInt8 ⊕ Int := match splitC 10 r with
  | none => if r.length < 258 then .inr 10 else .inr 5
  | some x => if x.1 = [] ∨ 257 < x.1.length ∨ x.1.getD (x.1.length - 1) 0 ≠ 13 then .inr 5 else .inl (x.1.take (x.1.length - 1))
def lineSays : List UInt8 ⊕ Int → ByteArray × Int × Int
  | .inl u => (B u, ((u.length + 2 : Nat) : Int), 0)
  | .inr e => (⟨#[]⟩, 0, e)
theorem take_f (r : List UInt8) (hr : r.length ≤ 1000000) (k : Nat) (hk : 5 < k) : chunk_take.f k (nums r) = some (lineSays (lineM r)) := by
  obtain ⟨k, rfl⟩ : ∃ m, k = m + 1 := ⟨k - 1, by omega⟩
  have hnl := nums_length r
  unfold chunk_take.f bytes_IndexByte.f lineM
  rw [bytesOf_nums]
  have e10 : (10 : Int).toNat.toUInt8 = 10 := rfl
  rw [e10, indexByte_split, Option.bind_some]
  cases hs : splitC 10 r with
  | none =>
    dsimp only
    rw [if_pos (by omega), chunk_take.j0, hnl]
    by_cases h : r.length < 258
    · rw [decide_eq_true (by omega), if_pos rfl, if_pos h]; rfl
    · rw [decide_eq_false (by omega), if_neg (by simp), if_pos (by omega), if_neg h]; rfl
  | some x =>
    obtain ⟨u, t⟩ := x
    dsimp only
    obtain ⟨e, hu⟩ := splitC_some 10 _ _ _ hs
    have hlen : u.length + 1 + t.length = r.length := by
      have := congrArg List.length e
      rw [List.length_append, List.length_cons] at this
      omega
    rw [if_neg (by omega), chunk_take.j0, if_neg (by simp)]
    by_cases h1 : u = []
    · rw [if_pos (by rw [h1]; decide), if_pos (Or.inl h1)]; rfl
    · have hpos := List.length_pos_iff.2 h1
      rw [if_neg (by omega)]
      by_cases h2 : 257 < u.length
      · rw [if_pos (by omega), if_pos (Or.inr (Or.inl h2))]; rfl
      · have w1 : wrap64 ((u.length : Int) - 1) = ((u.length - 1 : Nat) : Int) := wrap_nat (u.length - 1) (by omega) (by omega)
        have w2 : wrap64 ((u.length : Int) + 1) = ((u.length + 1 : Nat) : Int) := wrap_nat (u.length + 1) rfl (by omega)
        rw [if_neg (by omega), w1, w2, if_pos (by omega), if_pos (by omega), rd_nums]
        clear w1 w2
        have g : r.getD (u.length - 1) 0 = u.getD (u.length - 1) 0 := by
          rw [e]; simp [List.getD_eq_getElem?_getD, List.getElem?_append, show u.length - 1 < u.length from by omega]
        rw [g]
        by_cases h3 : u.getD (u.length - 1) 0 = 13
        · rw [if_pos (by rw [h3]; rfl), if_pos (by omega), if_neg (by rintro (h | h | h); exact h1 h; exact h2 h; exact h h3), Int.toNat_natCast, nums_take, strOf_nums]
          have et : r.take (u.length - 1) = u.take (u.length - 1) := by
            rw [e, List.take_append_of_le_length (by omega)]
          rw [et]
          have hl : (u.take (u.length - 1)).length + 2 = u.length + 1 := by rw [List.length_take]; omega
          rw [show lineSays (.inl (u.take (u.length - 1))) = (B (u.take (u.length - 1)), (((u.take (u.length - 1)).length + 2 : Nat) : Int), 0) from rfl, hl]
        · have h3' : ¬ (((u.getD (u.length - 1) 0).toNat : Int) = 13) := fun q => h3 (by rw [u8_eq]; exact q)
          rw [if_neg h3', if_pos (Or.inr (Or.inr h3))]; rfl

/-! ### the body -/
def decM (bs : List UInt8) : Nat → Nat → List UInt8 → List Int × Int × Int
  | 0, _, _ => ([], 0, 0)
  | f + 1, p, body => match lineM (bs.drop p) with
    | .inr e => ([], 0, e)
    | .inl u => match sizeL u with
      | none => ([], 0, 5)
      | some sz => if sz = 0 then
          (if (parseM (bs.drop (p + u.length + 2)) ((bs.drop (p + u.length + 2)).length + 1) 0 []).2.2 = 0 then (nums body, wrap64 (((p + u.length + 2 : Nat) : Int) + (parseM (bs.drop (p + u.length + 2)) ((bs.drop (p + u.length + 2)).length + 1) 0 []).2.1), 0) else ([], 0, (parseM (bs.drop (p + u.length + 2)) ((bs.drop (p + u.length + 2)).length + 1) 0 []).2.2))
        else if 32768 < body.length + sz then ([], 0, 3)
        else if bs.length < p + u.length + 2 + sz then ([], 0, 10)
        else match bs.drop (p + u.length + 2 + sz) with
          | [] => ([], 0, 10)
          | c :: t => if c ≠ 13 then ([], 0, 5) else match t with
            | [] => ([], 0, 10)
            | d :: _ => if d ≠ 10 then ([], 0, 5) else decM bs f (p + u.length + 2 + sz + 2) (body ++ (bs.drop (p + u.length + 2)).take sz)
theorem lineM_inl {r u : List UInt8} (h : lineM r = .inl u) : ∃ t, r = u ++ 13 :: 10 :: t ∧ splitC 10 r = some (u ++ [13], t) ∧ u.length + 2 ≤ r.length ∧ u.length ≤ 256 := by
  unfold lineM at h
  cases hs : splitC 10 r with
  | none => rw [hs] at h; dsimp only at h; split at h <;> cases h
  | some x =>
    obtain ⟨a, t⟩ := x
    rw [hs] at h
    dsimp only at h
    obtain ⟨e, _⟩ := splitC_some 10 _ _ _ hs
    split at h
    · cases h
    · rename_i hc
      have hpos : 0 < a.length := List.length_pos_iff.2 (fun q => hc (Or.inl q))
      have h2 : ¬ 257 < a.length := fun q => hc (Or.inr (Or.inl q))
      have h3 : a.getD (a.length - 1) 0 = 13 := Decidable.byContradiction (fun q => hc (Or.inr (Or.inr q)))
      injection h with h
      have ha : a = u ++ [13] := by
        have := take_getD a (a.length - 1) (by omega)
        rw [show a.length - 1 + 1 = a.length from by omega, List.take_length, h, h3] at this
        exact this
      subst ha
      refine ⟨t, by rw [e]; simp, rfl, ?_, ?_⟩
      · rw [e]; simp
      · simp at h2; omega
theorem lineM_inr {r : List UInt8} {e : Int} (h : lineM r = .inr e) : e ≠ 0 := by
  unfold lineM at h
  cases hs : splitC 10 r with
  | none => rw [hs] at h; dsimp only at h; split at h <;> (injection h with h; omega)
  | some x =>
    rw [hs] at h; dsimp only at h; split at h
    · injection h with h; omega
    · cases h
theorem prefix_f (l : List UInt8) (hl : l.length ≤ 2) : strings_HasPrefix.f (⟨#[13, 10]⟩ : ByteArray) (B l) = some (([13, 10] : List UInt8).take l.length == l) := by
  unfold strings_HasPrefix.f stringslite_HasPrefix.f
  have hs : (⟨#[13, 10]⟩ : ByteArray).size = 2 := rfl
  rw [hs, size_B, if_pos (by omega), if_pos (by omega), if_pos (by omega), Option.bind_some, toList_L, toList_L, L_B, Int.toNat_natCast, show (⟨#[13, 10]⟩ : ByteArray) = B [13, 10] from rfl, extract_B, L_B, List.drop_zero]

theorem prog_dec (bs : List UInt8) (hb : bs.length ≤ 100000) : ∀ (f k p : Nat) (body : List UInt8), p ≤ bs.length → bs.length < p + f → 3 * f + 4 * bs.length + 1000 < k → body.length ≤ 32768 →
    chunk_Decode.l0 k (nums bs) (nums body) p = some (decM bs f p body)
  | 0, k, p, body, hp, hf, hk, ha => by omega
  | f + 1, k, p, body, hp, hf, hk, ha => by
    obtain ⟨k, rfl⟩ : ∃ m, k = m + 1 := ⟨k - 1, by omega⟩
    have hnl := nums_length bs
    have hnb := nums_length body
    have hld : (bs.drop p).length = bs.length - p := List.length_drop
    rw [chunk_Decode.l0, if_pos (by omega), if_pos (by omega), Int.toNat_natCast, nums_drop, take_f (bs.drop p) (by omega) k (by omega), Option.bind_some, decM]
    cases hl : lineM (bs.drop p) with
    | inr e =>
      rw [show lineSays (.inr e) = (⟨#[]⟩, 0, e) from rfl]
      dsimp only
      rw [if_neg (lineM_inr hl)]
    | inl u =>
      obtain ⟨_, _, _, hu1, hu2⟩ := lineM_inl hl
      rw [show lineSays (.inl u) = (B u, ((u.length + 2 : Nat) : Int), 0) from rfl]
      dsimp only
      rw [if_pos rfl, Size_f (B u) (by rw [size_B]; omega) k (by omega), Option.bind_some, L_B]
      cases hz : sizeL u with
      | none => rw [show sizeSays none = (0, 5) from rfl]; dsimp only; rw [if_neg (by decide)]
      | some sz =>
        have hsz := sizeL_lt _ _ hz
        rw [show sizeSays (some sz) = ((sz : Int), 0) from rfl]
        dsimp only
        have n1 : (p : Int) + ((u.length + 2 : Nat) : Int) = ((p + u.length + 2 : Nat) : Int) := by omega
        have m1 : p + u.length + 2 ≤ 9223372036854775807 := by omega
        have n2 : 32768 - ((nums body).length : Int) = ((32768 - body.length : Nat) : Int) := by omega
        have m2 : 32768 - body.length ≤ 9223372036854775807 := by omega
        have n3 : ((p + u.length + 2 : Nat) : Int) + (sz : Int) = ((p + u.length + 2 + sz : Nat) : Int) := by omega
        have m3 : p + u.length + 2 + sz ≤ 9223372036854775807 := by omega
        have n4 : (sz : Int) + 2 = ((sz + 2 : Nat) : Int) := by omega
        have m4 : sz + 2 ≤ 9223372036854775807 := by omega
        have n5 : ((p + u.length + 2 : Nat) : Int) + ((sz + 2 : Nat) : Int) = ((p + u.length + 2 + sz + 2 : Nat) : Int) := by omega
        have m5 : p + u.length + 2 + sz + 2 ≤ 9223372036854775807 := by omega
        have w1 := wrap_nat (p + u.length + 2) n1 m1
        have w2 := wrap_nat (32768 - body.length) n2 m2
        have w3 := wrap_nat (p + u.length + 2 + sz) n3 m3
        have w4 := wrap_nat (sz + 2) n4 m4
        have w5 := wrap_nat (p + u.length + 2 + sz + 2) n5 m5
        rw [if_pos rfl, w1, w2, w3, w4, w5]
        clear w1 w2 w3 w4 w5 n1 n2 n3 n4 n5 m1 m2 m3 m4 m5
        generalize hq : p + u.length + 2 = q
        have hqb : q ≤ bs.length := by omega
        have hqp : p < q := by omega
        have hldq : (bs.drop q).length = bs.length - q := List.length_drop
        have hnq := nums_length (bs.drop q)
        by_cases c0 : sz = 0
        · rw [if_pos (by omega), if_pos (by omega), if_pos (by omega), Int.toNat_natCast, nums_drop, parse_f (bs.drop q) (by omega) k (by omega), Option.bind_some, if_pos c0]
          by_cases ce : (parseM (bs.drop q) ((bs.drop q).length + 1) 0 []).2.2 = 0
          · rw [if_pos ce, if_pos ce]
          · rw [if_neg ce, if_neg ce]
        · rw [if_neg (by omega), if_neg c0]
          by_cases c1 : 32768 < body.length + sz
          · rw [if_pos (by omega), if_pos c1]
          · rw [if_neg (by omega), if_neg c1, if_pos (by omega), if_pos (by omega), Int.toNat_natCast, nums_drop]
            by_cases c2 : bs.length < q + sz
            · rw [if_pos (by omega), if_pos c2]
            · rw [if_neg (by omega), if_neg c2, if_pos (by omega), if_pos (by omega), Int.toNat_natCast, nums_drop, List.drop_drop, Int.toNat_natCast]
              have hldz : (bs.drop (q + sz)).length = bs.length - (q + sz) := List.length_drop
              have hnz := nums_length (bs.drop (q + sz))
              rcases hz2 : bs.drop (q + sz) with _ | ⟨c, t⟩
              · rw [show (nums ([] : List UInt8)).length = 0 from rfl, show mn 2 ((0 : Nat) : Int) = 0 from by decide, if_pos (by decide), if_pos (by decide), show (nums ([] : List UInt8)).take (0 : Int).toNat = nums [] from rfl, strOf_nums, prefix_f [] (by decide), Option.bind_some, if_pos (by decide), if_pos (by decide)]
              · rcases t with _ | ⟨d, t⟩
                · rw [show (nums [c]).length = 1 from rfl, show mn 2 ((1 : Nat) : Int) = 1 from by decide, if_pos (by decide), if_pos (by decide), show (nums [c]).take (1 : Int).toNat = nums [c] from rfl, strOf_nums, prefix_f [c] (by simp), Option.bind_some]
                  dsimp only
                  by_cases h13 : c = 13
                  · subst h13
                    rw [if_pos (by decide), if_pos (by decide), if_neg (by decide)]
                  · rw [if_neg (by simp; exact fun h => h13 h.symm), if_pos h13]
                · have hlc : (nums (c :: d :: t)).length = t.length + 2 := by rw [nums_length]; rfl
                  have hmn : mn 2 ((t.length + 2 : Nat) : Int) = 2 := by unfold mn; split <;> omega
                  rw [hlc, hmn, if_pos (by decide), if_pos (by omega), show (nums (c :: d :: t)).take (2 : Int).toNat = nums [c, d] from rfl, strOf_nums, prefix_f [c, d] (by simp), Option.bind_some]
                  dsimp only
                  by_cases h13 : c = 13
                  · subst h13
                    by_cases h10 : d = 10
                    · subst h10
                      rw [hz2] at hldz
                      simp only [List.length_cons] at hldz
                      rw [if_pos (by decide), if_neg (by omega), if_pos (by omega), if_pos (by omega), nums_take, nums_drop]
                      have htd : (bs.take (q + sz)).drop q = (bs.drop q).take sz := by
                        rw [List.drop_take, show q + sz - q = sz from by omega]
                      have hlt : ((bs.drop q).take sz).length = sz := by rw [List.length_take]; omega
                      rw [htd, if_pos (by rw [nums_length, nums_length, hlt]; omega), if_neg (by decide), if_neg (by decide)]
                      have := prog_dec bs hb f k (q + sz + 2) (body ++ (bs.drop q).take sz) (by omega) (by omega) (by omega) (by rw [List.length_append, hlt]; omega)
                      rw [show nums body ++ nums ((bs.drop q).take sz) = nums (body ++ (bs.drop q).take sz) from by simp [nums]]
                      exact this
                    · rw [if_neg (by simp; exact fun h => h10 h.symm), if_neg (by decide), if_pos h10]
                  · rw [if_neg (by simp; exact fun h => absurd h.symm h13), if_pos h13]
end Go.Proofs.YtipleegkonhfcaaGreatDoor.Q
set_option linter.unusedSimpArgs false
set_option linter.unusedVariables false
namespace Go.Proofs.YtipleegkonhfcaaGreatDoor.Q
open Go Go.RowKit Go.Lib Go.Proofs.YtipleegkonhfcaaGreatDoorW.PrintWords Go.Proofs.YtipleegkonhfcaaGreatDoorB Go.Proofs.YtipleegkonhfcaaGreatDoor.E Go.Proofs.YtipleegkonhfcaaGreatDoor.P Go.Proofs.YtipleegkonhfcaaGreatDoor.U Go.Proofs.YtipleegkonhfcaaGreatDoor.KF

theorem dec_scan (bs : List UInt8) (hb : bs.length ≤ 100000) (acc : List Int) (p c : Nat) : ∀ (d k i : Nat), i + d ≤ bs.length → p ≤ i → i + d ≤ p + 258 → (∀ j, i ≤ j → j < i + d → bs.getD j 0 ≠ 10) →
    lanternref10_Decode.l1 (k + d) (nums bs) acc p c i = lanternref10_Decode.l1 k (nums bs) acc p c ((i + d : Nat) : Int)
  | 0, k, i, h1, h2, h3, h4 => rfl
  | d + 1, k, i, h1, h2, h3, h4 => by
    have hnl := nums_length bs
    have hne : ¬ (((bs.getD i 0).toNat : Int) = 10) := fun q => h4 i (Nat.le_refl _) (by omega) (by rw [u8_eq]; exact q)
    have n1 : (i : Int) - (p : Int) = ((i - p : Nat) : Int) := by omega
    have m1 : i - p ≤ 9223372036854775807 := by omega
    have m2 : i + 1 ≤ 9223372036854775807 := by omega
    have c1 : (i : Int) < ((nums bs).length : Int) := by omega
    have c2 : ((i - p : Nat) : Int) < 258 := by omega
    have c3 : (0 : Int) ≤ (i : Int) := by omega
    rw [← Nat.add_assoc, lanternref10_Decode.l1, if_pos c1, if_pos c3, rd_nums, if_neg hne, wrap_nat _ n1 m1, if_pos c2, wrap_nat (x := (i : Int) + 1) (i + 1) rfl m2, dec_scan bs hb acc p c d k (i + 1) (by omega) (by omega) (by omega) (fun j h5 h6 => h4 j (by omega) (by omega))]
    rw [show i + 1 + d = i + (d + 1) from by omega]
/-- Where the scan for a line's end stops. -/
def endL (r : List UInt8) : Nat := match splitC 10 r with
  | none => min r.length 258
  | some x => min x.1.length 258
theorem getD_of_drop (bs : List UInt8) (p j : Nat) : (bs.drop p).getD j 0 = bs.getD (p + j) 0 := by
  simp [List.getD_eq_getElem?_getD, List.getElem?_drop]
theorem getD_mem (l : List UInt8) (j : Nat) (h : j < l.length) : l.getD j 0 ∈ l := by
  rw [List.getD_eq_getElem?_getD, List.getElem?_eq_getElem h]; exact List.getElem_mem h
theorem endL_facts (bs : List UInt8) (p : Nat) (hp : p ≤ bs.length) : p + endL (bs.drop p) ≤ bs.length ∧ endL (bs.drop p) ≤ 258 ∧ (∀ j, p ≤ j → j < p + endL (bs.drop p) → bs.getD j 0 ≠ 10) ∧ (p + endL (bs.drop p) < bs.length → bs.getD (p + endL (bs.drop p)) 0 ≠ 10 → endL (bs.drop p) = 258) := by
  have hld : (bs.drop p).length = bs.length - p := List.length_drop
  unfold endL
  cases hs : splitC 10 (bs.drop p) with
  | none =>
    dsimp only
    have hu := splitC_none 10 _ hs
    refine ⟨by omega, by omega, fun j h1 h2 => ?_, fun h1 h2 => by omega⟩
    have := getD_of_drop bs p (j - p)
    rw [show p + (j - p) = j from by omega] at this
    rw [← this]
    exact hu _ (getD_mem _ _ (by omega))
  | some x =>
    obtain ⟨u, t⟩ := x
    dsimp only
    obtain ⟨e, hu⟩ := splitC_some 10 _ _ _ hs
    have hlen := congrArg List.length e
    rw [List.length_append, List.length_cons] at hlen
    have gu : ∀ j, j < u.length → bs.getD (p + j) 0 = u.getD j 0 := fun j hj => by
      rw [← getD_of_drop, e]; simp [List.getD_eq_getElem?_getD, List.getElem?_append, hj]
    have g10 : bs.getD (p + u.length) 0 = 10 := by
      rw [← getD_of_drop, e]; simp [List.getD_eq_getElem?_getD]
    refine ⟨by omega, by omega, fun j h1 h2 => ?_, fun h1 h2 => ?_⟩
    · have := gu (j - p) (by omega)
      rw [show p + (j - p) = j from by omega] at this
      rw [this]
      exact hu _ (getD_mem _ _ (by omega))
    · rcases Nat.lt_or_ge u.length 258 with h | h
      · rw [Nat.min_eq_left (by omega)] at h2; exact absurd g10 h2
      · omega
theorem dec_line (bs : List UInt8) (hb : bs.length ≤ 100000) (acc : List Int) (p c k : Nat) (hp : p ≤ bs.length) :
    lanternref10_Decode.l1 (k + 4 + endL (bs.drop p)) (nums bs) acc p c p = match lineM (bs.drop p) with
      | .inr e => some ([], 0, e)
      | .inl u => lanternref10_Decode.j4 (k + 1) (nums bs) acc p c ((p + u.length + 1 : Nat) : Int) false := by
  obtain ⟨h1, h2, h3, h4⟩ := endL_facts bs p hp
  have hnl := nums_length bs
  have hld : (bs.drop p).length = bs.length - p := List.length_drop
  rw [dec_scan bs hb acc p c (endL (bs.drop p)) (k + 4) p h1 (Nat.le_refl _) (by omega) h3]
  have n1 : ((p + endL (bs.drop p) : Nat) : Int) - (p : Int) = ((endL (bs.drop p) : Nat) : Int) := by omega
  have m1 : endL (bs.drop p) ≤ 9223372036854775807 := by omega
  have hj2 : lanternref10_Decode.l1 (k + 4) (nums bs) acc p c ((p + endL (bs.drop p) : Nat) : Int) = lanternref10_Decode.j2 (k + 3) (nums bs) acc p c ((p + endL (bs.drop p) : Nat) : Int) := by
    rw [lanternref10_Decode.l1]
    by_cases c1 : p + endL (bs.drop p) < bs.length
    · have c3 : (0 : Int) ≤ ((p + endL (bs.drop p) : Nat) : Int) := by omega
      have c4 : ((p + endL (bs.drop p) : Nat) : Int) < ((nums bs).length : Int) := by omega
      rw [if_pos c4, if_pos c3, rd_nums]
      by_cases c2 : bs.getD (p + endL (bs.drop p)) 0 = 10
      · rw [if_pos (by rw [c2]; rfl)]
      · have h5 := h4 c1 c2
        have c5 : ¬ (((endL (bs.drop p) : Nat) : Int) < 258) := by omega
        rw [if_neg (fun q => c2 (by rw [u8_eq]; exact q)), wrap_nat _ n1 m1, if_neg c5]
    · have c4 : ¬ (((p + endL (bs.drop p) : Nat) : Int) < ((nums bs).length : Int)) := by omega
      rw [if_neg c4]
  rw [hj2]
  have e5 : ∀ b : Int, lanternref10_Decode.j4 (k + 1) (nums bs) acc p c b true = some (([] : List Int), 0, 5) := fun b => by rw [lanternref10_Decode.j4, if_pos rfl]
  have W : wrap64 (((p + endL (bs.drop p) : Nat) : Int) - (p : Int)) = ((endL (bs.drop p) : Nat) : Int) := wrap_nat _ n1 m1
  rw [lanternref10_Decode.j2, W]
  unfold endL lineM at *
  cases hs : splitC 10 (bs.drop p) with
  | none =>
    have hu := splitC_none 10 _ hs
    simp only [hs] at *
    by_cases c1 : (bs.drop p).length < 258
    · rw [Nat.min_eq_left (by omega)] at *
      rw [if_pos (by rw [hnl]; clear W; omega), decide_eq_true (by clear W; omega), lanternref10_Decode.j3, if_pos rfl, if_pos c1]
    · have hm : min (bs.drop p).length 258 = 258 := by clear W; omega
      rw [hm] at *
      rw [if_neg c1]
      by_cases c2 : p + 258 = bs.length
      · rw [if_pos (by rw [hnl]; clear W; omega), decide_eq_false (by decide), lanternref10_Decode.j3, if_neg (by simp), if_pos (by rw [hnl]; clear W; omega), e5]
      · have c3 : bs.getD (p + 258) 0 ≠ 10 := by
          rw [← getD_of_drop]; exact hu _ (getD_mem _ _ (by clear W; omega))
        rw [if_neg (by rw [hnl]; clear W; omega), lanternref10_Decode.j3, if_neg (by simp), if_neg (by rw [hnl]; clear W; omega), if_pos (by clear W; omega), if_pos (by rw [hnl]; clear W; omega), rd_nums, if_neg (fun q => c3 (by rw [u8_eq]; exact q)), e5]
  | some x =>
    obtain ⟨u, t⟩ := x
    obtain ⟨e, hu⟩ := splitC_some 10 _ _ _ hs
    simp only [hs] at *
    have hlen := congrArg List.length e
    rw [List.length_append, List.length_cons] at hlen
    have gu : ∀ j, j < u.length → bs.getD (p + j) 0 = u.getD j 0 := fun j hj => by
      rw [← getD_of_drop, e]; simp [List.getD_eq_getElem?_getD, List.getElem?_append, hj]
    have g10 : bs.getD (p + u.length) 0 = 10 := by
      rw [← getD_of_drop, e]; simp [List.getD_eq_getElem?_getD]
    rw [if_neg (by rw [hnl]; clear W; omega), lanternref10_Decode.j3, if_neg (by simp), if_neg (by rw [hnl]; clear W; omega), if_pos (by clear W; omega), if_pos (by rw [hnl]; clear W; omega), rd_nums]
    by_cases c1 : 257 < u.length
    · rw [if_pos (Or.inr (Or.inl c1))]
      have hm : min u.length 258 = 258 := by clear W; omega
      rw [hm] at W ⊢
      rw [W, if_pos (show ((258 : Nat) : Int) ≥ 258 by decide), e5, ite_self]
    · have hm : min u.length 258 = u.length := by clear W; omega
      rw [hm] at W ⊢
      rw [W, if_pos (by rw [g10]; rfl), if_neg (by clear W; omega)]
      by_cases c2 : u = []
      · rw [if_pos (by rw [c2]; rfl), if_pos (Or.inl c2), e5]
      · have hpos := List.length_pos_iff.2 c2
        have n6 : ((p + u.length : Nat) : Int) - 1 = ((p + u.length - 1 : Nat) : Int) := by clear W; omega
        have m6 : p + u.length - 1 ≤ 9223372036854775807 := by clear W; omega
        have c6 : ((p + u.length - 1 : Nat) : Int) < ((nums bs).length : Int) := by rw [hnl]; clear W; omega
        have c7 : ¬ (((p + u.length : Nat) : Int) = (p : Int)) := by clear W; omega
        have c8 : (0 : Int) ≤ ((p + u.length - 1 : Nat) : Int) := Int.natCast_nonneg _
        have g := gu (u.length - 1) (by clear W; omega)
        rw [show p + (u.length - 1) = p + u.length - 1 from by clear W; omega] at g
        rw [if_neg c7, wrap_nat _ n6 m6, if_pos c8, if_pos c6, rd_nums, g]
        by_cases c3 : u.getD (u.length - 1) 0 = 13
        · rw [if_neg (by rintro (h | h | h); exact c2 h; exact c1 h; exact h c3)]
          have c9 : (((u.getD (u.length - 1) 0).toNat : Int) != 13) = false := by rw [c3]; decide
          rw [c9]
          have hl : p + (u.take (u.length - 1)).length + 1 = p + u.length := by rw [List.length_take]; clear W; omega
          dsimp only
          rw [hl]
        · rw [if_pos (Or.inr (Or.inr c3))]
          have c9 : (((u.getD (u.length - 1) 0).toNat : Int) != 13) = true := by
            rw [bne_iff_ne]; exact fun q => c3 (by rw [u8_eq]; exact q)
          rw [c9, e5]

theorem nums_snoc (l : List UInt8) (c : UInt8) : nums l ++ [(c.toNat : Int)] = nums (l ++ [c]) := by simp [nums]
theorem dec_push (bs : List UInt8) (hb : bs.length ≤ 100000) (q c sz : Nat) (hq : q + sz ≤ bs.length) : ∀ (d k j : Nat) (body : List UInt8), j + d = sz → body.length + d ≤ 100000 →
    lanternref10_Decode.l2 (k + d) (nums bs) (nums body) q c sz j = lanternref10_Decode.l2 k (nums bs) (nums (body ++ (bs.drop (q + j)).take d)) q c sz sz
  | 0, k, j, body, h1, h2 => by
    rw [List.take_zero, List.append_nil]
    have : j = sz := by omega
    subst this
    rfl
  | d + 1, k, j, body, h1, h2 => by
    have hnl := nums_length bs
    have hnb := nums_length body
    have n1 : (q : Int) + (j : Int) = ((q + j : Nat) : Int) := by omega
    have m1 : q + j ≤ 9223372036854775807 := by omega
    have m2 : sz + 2 ≤ 9223372036854775807 := by omega
    have m3 : j + 1 ≤ 9223372036854775807 := by omega
    have c1 : (j : Int) < ((sz + 2 : Nat) : Int) := by omega
    have c2 : ¬ (((q + j : Nat) : Int) ≥ ((nums bs).length : Int)) := by omega
    have c3 : (j : Int) < (sz : Int) := by omega
    have c4 : (0 : Int) ≤ ((q + j : Nat) : Int) := by omega
    have c5 : ((q + j : Nat) : Int) < ((nums bs).length : Int) := by omega
    have c6 : (nums body).length < 140737488355328 := by omega
    have ih := dec_push bs hb q c sz hq d k (j + 1) (body ++ [bs.getD (q + j) 0]) (by omega) (by rw [List.length_append, List.length_singleton]; omega)
    rw [← Nat.add_assoc, lanternref10_Decode.l2, wrap_nat _ n1 m1, wrap_nat (x := (sz : Int) + 2) (sz + 2) rfl m2, if_pos c1, if_neg c2, if_pos c3, if_pos c4, if_pos c5, if_pos c6, rd_nums, wrap_nat (x := (j : Int) + 1) (j + 1) rfl m3, nums_snoc, ih]
    have hdr := dropD bs (q + j) (by omega)
    rw [hdr, List.take_succ_cons, List.append_assoc, List.singleton_append, show q + (j + 1) = q + j + 1 from by omega]
theorem dec_short (bs : List UInt8) (hb : bs.length ≤ 100000) (q c sz : Nat) (hsz : sz ≤ 40000) (hq : bs.length < q + sz) (hq2 : q ≤ bs.length) : ∀ (d k j : Nat) (body : List UInt8), q + j + d = bs.length → body.length + d ≤ 200000 → d < k →
    lanternref10_Decode.l2 k (nums bs) (nums body) q c sz j = some ([], 0, 10)
  | d, k, j, body, h1, h2, hk => by
    obtain ⟨k, rfl⟩ : ∃ m, k = m + 1 := ⟨k - 1, by omega⟩
    have hnl := nums_length bs
    have hnb := nums_length body
    have n1 : (q : Int) + (j : Int) = ((q + j : Nat) : Int) := by omega
    have m1 : q + j ≤ 9223372036854775807 := by omega
    have m2 : sz + 2 ≤ 9223372036854775807 := by omega
    have m3 : j + 1 ≤ 9223372036854775807 := by omega
    have c1 : (j : Int) < ((sz + 2 : Nat) : Int) := by omega
    rw [lanternref10_Decode.l2, wrap_nat _ n1 m1, wrap_nat (x := (sz : Int) + 2) (sz + 2) rfl m2, if_pos c1]
    by_cases hd : d = 0
    · have c2 : (((q + j : Nat) : Int) ≥ ((nums bs).length : Int)) := by omega
      rw [if_pos c2]
    · obtain ⟨d, rfl⟩ : ∃ m, d = m + 1 := ⟨d - 1, by omega⟩
      have c2 : ¬ (((q + j : Nat) : Int) ≥ ((nums bs).length : Int)) := by omega
      have c3 : (j : Int) < (sz : Int) := by omega
      have c4 : (0 : Int) ≤ ((q + j : Nat) : Int) := by omega
      have c5 : ((q + j : Nat) : Int) < ((nums bs).length : Int) := by omega
      have c6 : (nums body).length < 140737488355328 := by omega
      have ih := dec_short bs hb q c sz hsz hq hq2 d k (j + 1) (body ++ [bs.getD (q + j) 0]) (by omega) (by rw [List.length_append, List.length_singleton]; omega) (by omega)
      rw [if_neg c2, if_pos c3, if_pos c4, if_pos c5, if_pos c6, rd_nums, wrap_nat (x := (j : Int) + 1) (j + 1) rfl m3, nums_snoc, ih]
theorem dec_end (bs : List UInt8) (hb : bs.length ≤ 100000) (body : List Int) (q c sz k : Nat) (hsz : sz ≤ 40000) (hq : q + sz ≤ bs.length) (hc : c ≤ 100000) :
    lanternref10_Decode.l2 (k + 3) (nums bs) body q c sz sz = match bs.drop (q + sz) with
      | [] => some ([], 0, 10)
      | a :: t => if a ≠ 13 then some ([], 0, 5) else match t with
        | [] => some ([], 0, 10)
        | d :: _ => if d ≠ 10 then some ([], 0, 5) else lanternref10_Decode.l0 k (nums bs) body ((q + sz + 2 : Nat) : Int) ((c + 1 : Nat) : Int) := by
  have hnl := nums_length bs
  have hld : (bs.drop (q + sz)).length = bs.length - (q + sz) := List.length_drop
  have n1 : (q : Int) + (sz : Int) = ((q + sz : Nat) : Int) := by omega
  have m1 : q + sz ≤ 9223372036854775807 := by omega
  have n2 : (q : Int) + ((sz + 1 : Nat) : Int) = ((q + sz + 1 : Nat) : Int) := by omega
  have m2 : q + sz + 1 ≤ 9223372036854775807 := by omega
  have m3 : sz + 2 ≤ 9223372036854775807 := by omega
  have m4 : sz + 1 ≤ 9223372036854775807 := by omega
  have m5 : q + sz + 2 ≤ 9223372036854775807 := by omega
  have m6 : c + 1 ≤ 9223372036854775807 := by omega
  have n7 : ((sz + 1 : Nat) : Int) + 1 = ((sz + 2 : Nat) : Int) := by omega
  have c1 : (sz : Int) < ((sz + 2 : Nat) : Int) := by omega
  have c3 : ¬ ((sz : Int) < (sz : Int)) := by omega
  have c4 : (0 : Int) ≤ ((q + sz : Nat) : Int) := by omega
  have c7 : ¬ ((sz : Int) = ((sz + 1 : Nat) : Int)) := by omega
  have d1 : ((sz + 1 : Nat) : Int) < ((sz + 2 : Nat) : Int) := by omega
  have d3 : ¬ (((sz + 1 : Nat) : Int) < (sz : Int)) := by omega
  have d7 : ¬ (((sz + 1 : Nat) : Int) = (sz : Int)) := by omega
  have d4 : (0 : Int) ≤ ((q + sz + 1 : Nat) : Int) := by omega
  have f1 : ¬ (((sz + 2 : Nat) : Int) < ((sz + 2 : Nat) : Int)) := by omega
  rcases hz : bs.drop (q + sz) with _ | ⟨a, t⟩
  · have c2 : (((q + sz : Nat) : Int) ≥ ((nums bs).length : Int)) := by rw [hz] at hld; simp at hld; omega
    rw [lanternref10_Decode.l2, wrap_nat _ n1 m1, wrap_nat (x := (sz : Int) + 2) (sz + 2) rfl m3, if_pos c1, if_pos c2]
  · have hl2 : q + sz + 1 + t.length = bs.length := by rw [hz, List.length_cons] at hld; omega
    have c2 : ¬ (((q + sz : Nat) : Int) ≥ ((nums bs).length : Int)) := by omega
    have c5 : ((q + sz : Nat) : Int) < ((nums bs).length : Int) := by omega
    have ga : bs.getD (q + sz) 0 = a := by
      have := getD_of_drop bs (q + sz) 0
      rw [hz] at this
      exact this.symm
    rw [lanternref10_Decode.l2, wrap_nat _ n1 m1, wrap_nat (x := (sz : Int) + 2) (sz + 2) rfl m3, if_pos c1, if_neg c2, if_neg c3, if_pos rfl, if_pos c4, if_pos c5, rd_nums, ga]
    dsimp only
    by_cases h13 : a = 13
    · subst h13
      rw [if_pos (show (((13 : UInt8).toNat : Nat) : Int) = 13 from rfl), wrap_nat (x := (sz : Int) + 1) (sz + 1) rfl m4, if_neg c7, if_neg (by decide)]
      rw [lanternref10_Decode.l2, wrap_nat _ n2 m2, wrap_nat (x := (sz : Int) + 2) (sz + 2) rfl m3, if_pos d1]
      rcases t with _ | ⟨d, t⟩
      · have c8 : (((q + sz + 1 : Nat) : Int) ≥ ((nums bs).length : Int)) := by simp at hl2; omega
        rw [if_pos c8]
      · have c8 : ¬ (((q + sz + 1 : Nat) : Int) ≥ ((nums bs).length : Int)) := by rw [List.length_cons] at hl2; omega
        have c9 : ((q + sz + 1 : Nat) : Int) < ((nums bs).length : Int) := by rw [List.length_cons] at hl2; omega
        have gd : bs.getD (q + sz + 1) 0 = d := by
          have := getD_of_drop bs (q + sz) 1
          rw [hz] at this
          exact this.symm
        rw [if_neg c8, if_neg d3, if_neg d7, wrap_nat (x := (sz : Int) + 1) (sz + 1) rfl m4, if_pos rfl, if_pos d4, if_pos c9, rd_nums, gd]
        dsimp only
        by_cases h10 : d = 10
        · subst h10
          have wn : ∀ x : Int, x = ((q + sz : Nat) : Int) + 2 → wrap64 x = ((q + sz + 2 : Nat) : Int) := fun x hx => wrap_nat (q + sz + 2) (by rw [hx]; rfl) m5
          rw [if_pos (show (((10 : UInt8).toNat : Nat) : Int) = 10 from rfl), wrap_nat _ n7 m3, if_neg (by decide), lanternref10_Decode.l2, wrap_nat (x := (sz : Int) + 2) (sz + 2) rfl m3, if_neg f1, wrap_nat _ n1 m1, wn _ rfl, wrap_nat (x := (c : Int) + 1) (c + 1) rfl m6]
        · rw [if_neg (fun h => h10 (by rw [u8_eq]; exact h)), if_pos h10]
    · rw [if_neg (fun h => h13 (by rw [u8_eq]; exact h)), if_pos h13]
theorem ref_dec (bs : List UInt8) (hb : bs.length ≤ 100000) : ∀ (f k p c : Nat) (body : List UInt8), p ≤ bs.length → bs.length < p + f → c ≤ p → 3 * (bs.length - p) + 11 * bs.length + 5000 < k → body.length ≤ 32768 →
    lanternref10_Decode.l0 k (nums bs) (nums body) p c = some (decM bs f p body)
  | 0, k, p, c, body, hp, hf, hc, hk, ha => by omega
  | f + 1, k, p, c, body, hp, hf, hc, hk, ha => by
    have hnl := nums_length bs
    have hnb := nums_length body
    have hld : (bs.drop p).length = bs.length - p := List.length_drop
    obtain ⟨h1, h2, _, _⟩ := endL_facts bs p hp
    obtain ⟨m, hm⟩ : ∃ m, k = (m + 4 + endL (bs.drop p)) + 1 := ⟨k - 5 - endL (bs.drop p), by omega⟩
    subst hm
    rw [lanternref10_Decode.l0, if_pos (by omega), dec_line bs hb (nums body) p c m hp, decM]
    cases hl : lineM (bs.drop p) with
    | inr e => rfl
    | inl u =>
      obtain ⟨t, hu0, hus, hu1, hu2⟩ := lineM_inl hl
      have hend : endL (bs.drop p) ≤ u.length + 1 := by
        unfold endL
        rw [hus]
        simp only [List.length_append, List.length_singleton]
        omega
      dsimp only
      have n1 : ((p + u.length + 1 : Nat) : Int) - 1 = ((p + u.length : Nat) : Int) := by omega
      have m1 : p + u.length ≤ 9223372036854775807 := by omega
      have n2 : ((p + u.length + 1 : Nat) : Int) + 1 = ((p + u.length + 2 : Nat) : Int) := by omega
      have m2 : p + u.length + 2 ≤ 9223372036854775807 := by omega
      have c1 : (0 : Int) ≤ (p : Int) := by omega
      have c2 : (p : Int) ≤ ((p + u.length : Nat) : Int) := by omega
      have c3 : ((p + u.length : Nat) : Int) ≤ ((nums bs).length : Int) := by omega
      rw [lanternref10_Decode.j4, if_neg (by simp), wrap_nat _ n1 m1, wrap_nat _ n2 m2, if_pos c1, if_pos c2, if_pos c3, Int.toNat_natCast, Int.toNat_natCast, nums_take, nums_drop, take_drop_of bs u _ p hu0 hp, strOf_nums, refSize_f (B u) (by rw [size_B]; omega) m (by omega), Option.bind_some, L_B]
      cases hz : sizeL u with
      | none => rw [show orNeg none = -1 from rfl, if_pos (by decide)]
      | some sz =>
        have hsz := sizeL_lt _ _ hz
        rw [show orNeg (some sz) = (sz : Int) from rfl, if_neg (by omega)]
        dsimp only
        generalize hq : p + u.length + 2 = q
        have hqb : q ≤ bs.length := by omega
        have hldq : (bs.drop q).length = bs.length - q := List.length_drop
        by_cases c0 : sz = 0
        · rw [if_pos (by omega), if_pos (by omega), if_pos (by omega), Int.toNat_natCast, nums_drop, ref_parse_f (bs.drop q) (by omega) m (by omega), Option.bind_some, if_pos c0]
          by_cases ce : (parseM (bs.drop q) ((bs.drop q).length + 1) 0 []).2.2 = 0
          · rw [if_pos ce, if_pos ce]
          · rw [if_neg ce, if_neg ce]
        · have n5 : ((nums body).length : Int) + (sz : Int) = ((body.length + sz : Nat) : Int) := by omega
          have m5 : body.length + sz ≤ 9223372036854775807 := by omega
          rw [if_neg (by omega), if_neg c0, wrap_nat _ n5 m5]
          by_cases c4 : 32768 < body.length + sz
          · rw [if_pos (by omega), if_pos c4]
          · rw [if_neg (by omega), if_neg c4]
            by_cases c5 : bs.length < q + sz
            · rw [if_pos c5]
              exact dec_short bs hb q c sz (by omega) c5 hqb (bs.length - q) m 0 body (by omega) (by omega) (by omega)
            · rw [if_neg c5]
              obtain ⟨m2, rfl⟩ : ∃ m2, m = (m2 + 3) + sz := ⟨m - 3 - sz, by omega⟩
              have hpu := dec_push bs hb q c sz (by omega) sz (m2 + 3) 0 body (by omega) (by omega)
              have hen := dec_end bs hb (nums (body ++ (bs.drop (q + 0)).take sz)) q c sz m2 (by omega) (by omega) (by omega)
              have e0 : lanternref10_Decode.l2 (m2 + 3 + sz) (nums bs) (nums body) q c sz 0 = lanternref10_Decode.l2 (m2 + 3 + sz) (nums bs) (nums body) q c sz ((0 : Nat) : Int) := rfl
              rw [e0, hpu, hen, Nat.add_zero]
              have hldz : (bs.drop (q + sz)).length = bs.length - (q + sz) := List.length_drop
              rcases hz2 : bs.drop (q + sz) with _ | ⟨a, t⟩
              · rfl
              · dsimp only
                by_cases h13 : a ≠ 13
                · rw [if_pos h13, if_pos h13]
                · rw [if_neg h13, if_neg h13]
                  rcases t with _ | ⟨d, t⟩
                  · rfl
                  · dsimp only
                    by_cases h10 : d ≠ 10
                    · rw [if_pos h10, if_pos h10]
                    · rw [if_neg h10, if_neg h10]
                      rw [hz2] at hldz
                      simp only [List.length_cons] at hldz
                      have hlt : ((bs.drop q).take sz).length = sz := by rw [List.length_take]; omega
                      exact ref_dec bs hb f m2 (q + sz + 2) (c + 1) _ (by omega) (by omega) (by omega) (by omega) (by rw [List.length_append, hlt]; omega)
end Go.Proofs.YtipleegkonhfcaaGreatDoor.Q
