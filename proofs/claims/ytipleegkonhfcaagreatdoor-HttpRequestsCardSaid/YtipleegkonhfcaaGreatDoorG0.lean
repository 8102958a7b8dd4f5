/- A chunk's line and its size: the program's reading and the reference's are one plain function. -/
import Derived.Test.YtipleegkonhfcaaGreatDoorCH
import Derived.Lib.Strings
set_option linter.unusedSimpArgs false
set_option linter.unusedVariables false
namespace Go.Proofs.YtipleegkonhfcaaGreatDoor.Q
open Go Go.RowKit Go.Lib Go.Proofs.YtipleegkonhfcaaGreatDoorW.PrintWords Go.Proofs.YtipleegkonhfcaaGreatDoorB Go.Proofs.YtipleegkonhfcaaGreatDoor.E Go.Proofs.YtipleegkonhfcaaGreatDoor.P Go.Proofs.YtipleegkonhfcaaGreatDoor.U Go.Proofs.YtipleegkonhfcaaGreatDoor.KF

def gb (s : ByteArray) (i : Nat) : Nat := ((L s).getD i 0).toNat
theorem gb_lt (s : ByteArray) (i : Nat) : gb s i < 256 := ((L s).getD i 0).toNat_lt
theorem bt_gb (s : ByteArray) (i : Nat) : bt s (i : Int) = (gb s i : Int) := by rw [bt_L, Int.toNat_natCast]; rfl
/-- A digit's value as strconv reads it; 255: it is none. -/
def puD (c : Nat) : Nat := if 48 ≤ c ∧ c ≤ 57 then c - 48 else if 97 ≤ c ∧ c ≤ 122 then c - 87 else if 65 ≤ c ∧ c ≤ 90 then c - 55 else 255
def lowI (c : Nat) : Int := Go.bits .or .u8 (c : Int) 32
theorem low_facts : ∀ c : Fin 256, (48 ≤ c.val ∧ c.val ≤ 57) ∨ (¬ (48 ≤ c.val ∧ c.val ≤ 57) ∧ 97 ≤ lowI c.val ∧ lowI c.val ≤ 122 ∧ ((lowI c.val - 97) % 256 + 10) % 256 = (puD c.val : Int)) ∨ (¬ (48 ≤ c.val ∧ c.val ≤ 57) ∧ (lowI c.val < 97 ∨ (97 ≤ lowI c.val ∧ 122 < lowI c.val)) ∧ puD c.val = 255) := by decide +kernel
theorem puD_dig {c : Nat} (h : 48 ≤ c ∧ c ≤ 57) : puD c = c - 48 := by unfold puD; rw [if_pos h]
/-- A number's value; none: a digit is none. -/
def valL (base : Nat) : List UInt8 → Nat → Option Nat
  | [], n => some n
  | c :: t, n => if base ≤ puD c.toNat then none else valL base t (n * base + puD c.toNat)
theorem pu_j9 (k : Nat) (s : ByteArray) (n i d : Nat) (hn : n ≤ 4294967296) (hi : i < s.size) (hs : s.size ≤ 1000000) (hd : d < 16) :
    I.strconv_ParseUint.j9 (k + 1) 16 false s 1152921504606846976 18446744073709551615 false n d (bytesOf s) s.size i = I.strconv_ParseUint.l0 k 16 false s 1152921504606846976 18446744073709551615 false ((n * 16 + d : Nat) : Int) (bytesOf s) s.size ((i + 1 : Nat) : Int) := by
  have w0 : IntKind.u64.wrap ((d : Nat) : Int) = (d : Int) := by rw [IntKind.wrap_u64]; omega
  have wi : wrap64 ((i : Int) + 1) = ((i + 1 : Nat) : Int) := wrap_nat (i + 1) rfl (by omega)
  have w1 : IntKind.u64.wrap 16 = 16 := rfl
  have w2 : IntKind.u64.wrap ((n : Int) * 16) = (n : Int) * 16 := by rw [IntKind.wrap_u64]; omega
  have w3 : IntKind.u64.wrap ((n : Int) * 16 + (d : Int)) = ((n * 16 + d : Nat) : Int) := by rw [IntKind.wrap_u64]; omega
  rw [I.strconv_ParseUint.j9, if_neg (by omega), if_neg (by omega), w1, w2, w0, w3, if_neg (by omega), if_neg (by omega), wi]
theorem pu_step (k : Nat) (s : ByteArray) (n i : Nat) (hn : n ≤ 4294967296) (hi : i < s.size) (hs : s.size ≤ 1000000) (hd : puD (gb s i) < 16) :
    I.strconv_ParseUint.l0 (k + 4) 16 false s 1152921504606846976 18446744073709551615 false n (bytesOf s) s.size i = I.strconv_ParseUint.l0 k 16 false s 1152921504606846976 18446744073709551615 false ((n * 16 + puD (gb s i) : Nat) : Int) (bytesOf s) s.size ((i + 1 : Nat) : Int) := by
  have hg := gb_lt s i
  rw [I.strconv_ParseUint.l0, if_pos (by omega), if_pos (by omega), if_pos (by rw [Go.Proofs.YtipleegkonhfcaaGreatDoorW.PrintWords.bytesOf_length]; omega), rd_bytesOf, bt_gb, ite_self, I.strconv_ParseUint.j7, if_neg (by simp)]
  rcases low_facts ⟨gb s i, hg⟩ with h1 | ⟨h0, h1, h2, h3⟩ | ⟨h0, h1, h2⟩
  · dsimp only at h1
    rw [if_pos (by omega), decide_eq_true (by omega), I.strconv_ParseUint.j8, if_pos rfl]
    have e : ((gb s i : Int) - 48) % 256 = ((puD (gb s i) : Nat) : Int) := by rw [puD_dig h1]; omega
    rw [e]
    exact pu_j9 k s n i _ hn hi hs hd
  · dsimp only at h0 h1 h2 h3
    have hj : ∀ b : Bool, b = false → I.strconv_ParseUint.j8 (k + 2) 16 false s 1152921504606846976 18446744073709551615 false n (gb s i) (bytesOf s) s.size i b = I.strconv_ParseUint.l0 k 16 false s 1152921504606846976 18446744073709551615 false ((n * 16 + puD (gb s i) : Nat) : Int) (bytesOf s) s.size ((i + 1 : Nat) : Int) := by
      rintro b rfl
      rw [I.strconv_ParseUint.j8, if_neg (by simp)]
      have hl : I.strconv_lower.f (gb s i : Int) = some (lowI (gb s i)) := rfl
      rw [hl, Option.bind_some, if_pos h1, Option.bind_some, if_pos h2, Option.bind_some, h3]
      exact pu_j9 k s n i _ hn hi hs hd
    by_cases c1 : 48 ≤ (gb s i : Int)
    · rw [if_pos c1]; exact hj _ (decide_eq_false (by omega))
    · rw [if_neg c1]; exact hj _ rfl
  · dsimp only at h2
    omega
theorem pu_loop (s : ByteArray) (hs : s.size ≤ 1000000) : ∀ (d k n i v : Nat), (n + 1) * 16 ^ d ≤ 4294967296 → i + d = s.size → 4 * d + 1 < k → valL 16 ((L s).drop i) n = some v →
    I.strconv_ParseUint.l0 k 16 false s 1152921504606846976 18446744073709551615 false n (bytesOf s) s.size i = some ((v : Int), none)
  | 0, k, n, i, v, hn, hd, hk, hv => by
    obtain ⟨k, rfl⟩ : ∃ m, k = m + 1 := ⟨k - 1, by omega⟩
    rw [List.drop_eq_nil_of_le (by rw [← size_L]; omega), valL, Option.some.injEq] at hv
    subst hv
    rw [I.strconv_ParseUint.l0, if_neg (by omega), if_neg (by simp)]
  | d + 1, k, n, i, v, hn, hd, hk, hv => by
    obtain ⟨k, rfl⟩ : ∃ m, k = m + 4 := ⟨k - 4, by omega⟩
    have hi : i < s.size := by omega
    have hpos : 1 ≤ 16 ^ (d + 1) := Nat.pow_pos (by decide)
    have hn1 : n + 1 ≤ (n + 1) * 16 ^ (d + 1) := Nat.le_mul_of_pos_right _ hpos
    rw [getD_drop (L s) i (by rw [← size_L]; exact hi), valL] at hv
    have e : ((L s).getD i 0).toNat = gb s i := rfl
    rw [e] at hv
    split at hv
    · cases hv
    · rename_i hc
      rw [pu_step k s n i (by omega) hi hs (by omega)]
      refine pu_loop s hs d k _ (i + 1) v ?_ (by omega) (by omega) hv
      refine Nat.le_trans ?_ hn
      rw [Nat.pow_succ, Nat.mul_comm (16 ^ d) 16, ← Nat.mul_assoc]
      exact Nat.mul_le_mul_right _ (by omega)
theorem pu_f (s : ByteArray) (hs : s.size ≤ 8) (h0 : L s ≠ []) (v : Nat) (hv : valL 16 (L s) 0 = some v) (k : Nat) (hk : 60 < k) : strconv_ParseUint.f k s 16 64 = some ((v : Int), none) := by
  obtain ⟨k, rfl⟩ : ∃ m, k = m + 4 := ⟨k - 4, by omega⟩
  unfold strconv_ParseUint.f I.strconv_ParseUint.f
  rw [toList_L, if_neg h0]
  have hp : 16 ^ s.size ≤ 16 ^ 8 := Nat.pow_le_pow_right (by decide) hs
  have hloop := pu_loop s (by omega) s.size k 0 0 v (by omega) (by omega) (by omega) (by rw [List.drop_zero]; exact hv)
  have hsh : IntKind.u64.wrap ((shl .u64 1 (IntKind.u64.wrap 64)) - 1) = 18446744073709551615 := by decide +kernel
  have hw : (0 : Int) ≤ IntKind.u64.wrap 64 := by decide
  rw [if_pos (by decide), decide_eq_true (by decide), I.strconv_ParseUint.j0, if_pos rfl, I.strconv_ParseUint.j3, if_neg (by decide), if_neg (by decide), if_neg (by decide), I.strconv_ParseUint.j4, if_neg (by decide), if_pos (by decide), I.strconv_ParseUint.j5, if_pos hw, if_pos (by omega), hsh, Option.bind_some, Go.Proofs.YtipleegkonhfcaaGreatDoorW.PrintWords.bytesOf_length]
  have e : I.strconv_ParseUint.l0 k 16 ((16 : Int) == 0) s 1152921504606846976 18446744073709551615 false 0 (bytesOf s) s.size 0 = some ((v : Int), none) := hloop
  rw [e, Option.bind_some, if_pos rfl]

/-! ### the size that a line says -/
theorem hex_set : ∀ c : Fin 256, (([48, 49, 50, 51, 52, 53, 54, 55, 56, 57, 97, 98, 99, 100, 101, 102, 65, 66, 67, 68, 69, 70] : List UInt8).contains (UInt8.ofNat c.val)) = decide (puD c.val < 16) := by decide +kernel
theorem hex_set' (c : UInt8) : (([48, 49, 50, 51, 52, 53, 54, 55, 56, 57, 97, 98, 99, 100, 101, 102, 65, 66, 67, 68, 69, 70] : List UInt8).contains c) = decide (puD c.toNat < 16) := by
  have := hex_set ⟨c.toNat, c.toNat_lt⟩
  simpa using this
theorem valL_all (l : List UInt8) : ∀ n, (∀ c ∈ l, puD c.toNat < 16) → ∃ v, valL 16 l n = some v := by
  induction l with
  | nil => exact fun n _ => ⟨n, rfl⟩
  | cons c t ih =>
    intro n h
    rw [valL, if_neg (by have := h c (by simp); omega)]
    exact ih _ (fun x hx => h x (by simp [hx]))
theorem valL_not (l : List UInt8) : ∀ n, ¬ (∀ c ∈ l, puD c.toNat < 16) → valL 16 l n = none := by
  induction l with
  | nil => exact fun n h => absurd (by simp) h
  | cons c t ih =>
    intro n h
    rw [valL]
    by_cases hc : 16 ≤ puD c.toNat
    · rw [if_pos hc]
    · rw [if_neg hc]
      refine ih _ (fun h2 => h (fun x hx => ?_))
      rcases List.mem_cons.1 hx with rfl | hx
      · omega
      · exact h2 x hx
def headOf (l : List UInt8) : List UInt8 := match splitC 59 l with | some x => x.1 | none => l
def sizeL (l : List UInt8) : Option Nat := if 256 < l.length then none else if splitC 13 l ≠ none then none else if headOf l = [] ∨ 8 < (headOf l).length then none else valL 16 (headOf l) 0
def sizeSays : Option Nat → Int × Int
  | some n => ((n : Int), 0)
  | none => (0, 5)
theorem valL_lt (l : List UInt8) : ∀ n v, valL 16 l n = some v → v + 1 ≤ (n + 1) * 16 ^ l.length := by
  induction l with
  | nil =>
    intro n v h
    rw [valL, Option.some.injEq] at h
    subst h
    simp
  | cons c t ih =>
    intro n v h
    rw [valL] at h
    split at h
    · cases h
    · refine Nat.le_trans (ih _ v h) ?_
      rw [List.length_cons, Nat.pow_succ, Nat.mul_comm (16 ^ t.length) 16, ← Nat.mul_assoc]
      exact Nat.mul_le_mul_right _ (by omega)
theorem sizeL_lt (l : List UInt8) (v : Nat) (h : sizeL l = some v) : v < 4294967296 := by
  unfold sizeL at h
  split at h
  · cases h
  · split at h
    · cases h
    · split at h
      · cases h
      · rename_i hc
        have h1 := valL_lt _ _ _ h
        have h2 : 16 ^ (headOf l).length ≤ 16 ^ 8 := Nat.pow_le_pow_right (by decide) (by omega)
        omega
theorem Size_f (s : ByteArray) (hs : s.size ≤ 1000000) (k : Nat) (hk : 100 < k) : chunk_Size.f k s = some (sizeSays (sizeL (L s))) := by
  obtain ⟨k, rfl⟩ : ∃ m, k = m + 2 := ⟨k - 2, by omega⟩
  unfold chunk_Size.f sizeL
  by_cases c1 : 256 < (L s).length
  · rw [if_pos (by rw [size_L]; omega), if_pos c1, chunk_Size.j0, if_pos rfl]
    rfl
  · rw [if_neg (by rw [size_L]; omega), if_neg c1]
    have hi : strings_IndexByte.f s 13 = some (Lib.indexByte (L s) 13) := rfl
    rw [hi, Option.bind_some, indexByte_split]
    cases h13 : splitC 13 (L s) with
    | some x =>
      rw [if_pos (by simp), decide_eq_true (show (0 : Int) ≤ ((x.1.length : Nat) : Int) by omega), chunk_Size.j0, if_pos rfl]
      rfl
    | none =>
      rw [if_neg (by simp), decide_eq_false (by dsimp only; omega), chunk_Size.j0, if_neg (by simp)]
      have hcut : strings_Cut.f s (⟨#[59]⟩ : ByteArray) = some (B (headOf (L s)), (cutOf s ⟨#[59]⟩).2) := by
        unfold strings_Cut.f
        rw [if_pos (by omega)]
        unfold cutOf headOf
        rw [show (⟨#[59]⟩ : ByteArray).data.toList = [59] from rfl, show s.data.toList = L s from rfl, cut_split]
        cases splitC 59 (L s) with
        | none => rfl
        | some x => rfl
      rw [hcut, Option.bind_some]
      dsimp only
      rw [toList_L, L_B, size_B]
      by_cases c2 : headOf (L s) = []
      · rw [if_pos c2, if_pos (Or.inl c2), chunk_Size.j1, if_pos rfl]
        rfl
      · rw [if_neg c2]
        by_cases c3 : 8 < (headOf (L s)).length
        · rw [if_pos (by omega), if_pos (Or.inr c3), chunk_Size.j1, if_pos rfl]
          rfl
        · rw [if_neg (by omega), if_neg (by rintro (h | h); exact c2 h; exact c3 h)]
          have htr : strings_Trim.f (B (headOf (L s))) (⟨#[48, 49, 50, 51, 52, 53, 54, 55, 56, 57, 97, 98, 99, 100, 101, 102, 65, 66, 67, 68, 69, 70]⟩ : ByteArray) = some (B (Lib.trimS (headOf (L s)) [48, 49, 50, 51, 52, 53, 54, 55, 56, 57, 97, 98, 99, 100, 101, 102, 65, 66, 67, 68, 69, 70])) := by
            unfold strings_Trim.f
            rw [if_pos ⟨by rw [size_B]; omega, by decide, by decide⟩, show (B (headOf (L s))).data.toList = headOf (L s) from L_B _]
            rfl
          rw [htr, Option.bind_some, toList_L, L_B]
          by_cases c4 : ∀ c ∈ headOf (L s), puD c.toNat < 16
          · have ht : Lib.trimS (headOf (L s)) [48, 49, 50, 51, 52, 53, 54, 55, 56, 57, 97, 98, 99, 100, 101, 102, 65, 66, 67, 68, 69, 70] = [] := (trimS_nil_iff _ _).2 (fun c hc => by rw [hex_set']; exact decide_eq_true (c4 c hc))
            obtain ⟨v, hv⟩ := valL_all (headOf (L s)) 0 c4
            have hlt := valL_lt _ _ _ hv
            have h2 : 16 ^ (headOf (L s)).length ≤ 16 ^ 8 := Nat.pow_le_pow_right (by decide) (by omega)
            rw [ht, chunk_Size.j1, if_neg (by simp), pu_f (B (headOf (L s))) (by rw [size_B]; omega) (by rw [L_B]; exact c2) v (by rw [L_B]; exact hv) k (by omega), Option.bind_some, hv]
            rw [if_pos (show (none : Option Int).isNone = true from rfl), wrap_nat v rfl (by omega)]
            rfl
          · have ht : Lib.trimS (headOf (L s)) [48, 49, 50, 51, 52, 53, 54, 55, 56, 57, 97, 98, 99, 100, 101, 102, 65, 66, 67, 68, 69, 70] ≠ [] := fun h => c4 (fun c hc => by
              have := (trimS_nil_iff _ _).1 h c hc
              rw [hex_set'] at this
              exact of_decide_eq_true this)
            have e : ∀ l : List UInt8, l ≠ [] → (l != []) = true := fun l h => bne_iff_ne.mpr h
            rw [e _ ht, chunk_Size.j1, if_pos rfl, valL_not _ _ c4]
            rfl

/-! ### the reference's -/
end Go.Proofs.YtipleegkonhfcaaGreatDoor.Q
set_option linter.unusedSimpArgs false
set_option linter.unusedVariables false
namespace Go.Proofs.YtipleegkonhfcaaGreatDoor.Q
open Go Go.RowKit Go.Lib Go.Proofs.YtipleegkonhfcaaGreatDoorW.PrintWords Go.Proofs.YtipleegkonhfcaaGreatDoorB Go.Proofs.YtipleegkonhfcaaGreatDoor.E Go.Proofs.YtipleegkonhfcaaGreatDoor.P Go.Proofs.YtipleegkonhfcaaGreatDoor.U Go.Proofs.YtipleegkonhfcaaGreatDoor.KF

/-! ### a line -/
/-- A line without its end; or the mistake: 10 more is to come, 5 no line. -/
def lineM (r : List UInt8) : List UInt8 ⊕ Int := match splitC 10 r with
  | none => if r.length < 258 then .inr 10 else .inr 5
  | some x => if x.1 = [] ∨ 257 < x.1.length ∨ x.1.getD (x.1.length - 1) 0 ≠ 13 then .inr 5 else .inl (x.1.take (x.1.length - 1))
def lineSays : List UInt8 ⊕ Int → ByteArray × Int × Int
  | .inl u => (B u, ((u.length + 2 : Nat) : Int), 0)
  | .inr e => (⟨#[]⟩, 0, e)
theorem take_f (r : List UInt8) (hr : r.length ≤ 1000000) (k : Nat) (hk : 5 < k) : chunk_take.f k (nums r) = some (lineSays (lineM r)) := by
  obtain ⟨k, rfl⟩ : ∃ m, k = m + 1 := ⟨k - 1, by omega⟩
  have hnl := nums_length r
  unfold chunk_take.f bytes_IndexByte.f lineM
  rw [bytesOf_nums]
  have e10 : (10 : Int).toNat.toUInt8 = 10 := rfl
  rw [e10, indexByte_split, Option.bind_some]
  cases hs : splitC 10 r with
  | none =>
    dsimp only
    rw [if_pos (by omega), chunk_take.j0, hnl]
    by_cases h : r.length < 258
    · rw [decide_eq_true (by omega), if_pos rfl, if_pos h]; rfl
    · rw [decide_eq_false (by omega), if_neg (by simp), if_pos (by omega), if_neg h]; rfl
  | some x =>
    obtain ⟨u, t⟩ := x
    dsimp only
    obtain ⟨e, hu⟩ := splitC_some 10 _ _ _ hs
    have hlen : u.length + 1 + t.length = r.length := by
      have := congrArg List.length e
      rw [List.length_append, List.length_cons] at this
      omega
    rw [if_neg (by omega), chunk_take.j0, if_neg (by simp)]
    by_cases h1 : u = []
    · rw [if_pos (by rw [h1]; decide), if_pos (Or.inl h1)]; rfl
    · have hpos := List.length_pos_iff.2 h1
      rw [if_neg (by omega)]
      by_cases h2 : 257 < u.length
      · rw [if_pos (by omega), if_pos (Or.inr (Or.inl h2))]; rfl
      · have w1 : wrap64 ((u.length : Int) - 1) = ((u.length - 1 : Nat) : Int) := wrap_nat (u.length - 1) (by omega) (by omega)
        have w2 : wrap64 ((u.length : Int) + 1) = ((u.length + 1 : Nat) : Int) := wrap_nat (u.length + 1) rfl (by omega)
        rw [if_neg (by omega), w1, w2, if_pos (by omega), if_pos (by omega), rd_nums]
        clear w1 w2
        have g : r.getD (u.length - 1) 0 = u.getD (u.length - 1) 0 := by
          rw [e]; simp [List.getD_eq_getElem?_getD, List.getElem?_append, show u.length - 1 < u.length from by omega]
        rw [g]
        by_cases h3 : u.getD (u.length - 1) 0 = 13
        · rw [if_pos (by rw [h3]; rfl), if_pos (by omega), if_neg (by rintro (h | h | h); exact h1 h; exact h2 h; exact h h3), Int.toNat_natCast, nums_take, strOf_nums]
          have et : r.take (u.length - 1) = u.take (u.length - 1) := by
            rw [e, List.take_append_of_le_length (by omega)]
          rw [et]
          have hl : (u.take (u.length - 1)).length + 2 = u.length + 1 := by rw [List.length_take]; omega
          rw [show lineSays (.inl (u.take (u.length - 1))) = (B (u.take (u.length - 1)), (((u.take (u.length - 1)).length + 2 : Nat) : Int), 0) from rfl, hl]
        · have h3' : ¬ (((u.getD (u.length - 1) 0).toNat : Int) = 13) := fun q => h3 (by rw [u8_eq]; exact q)
          rw [if_neg h3', if_pos (Or.inr (Or.inr h3))]; rfl

/-! ### the body -/
def decM (bs : List UInt8) : Nat → Nat → List UInt8 → List Int × Int × Int
  | 0, _, _ => ([], 0, 0)
  | f + 1, p, body => match lineM (bs.drop p) with
    | .inr e => ([], 0, e)
    | .inl u => match sizeL u with
      | none => ([], 0, 5)
      | some sz => if sz = 0 then
          (if (parseM (bs.drop (p + u.length + 2)) ((bs.drop (p + u.length + 2)).length + 1) 0 []).2.2 = 0 then (nums body, wrap64 (((p + u.length + 2 : Nat) : Int) + (parseM (bs.drop (p + u.length + 2)) ((bs.drop (p + u.length + 2)).length + 1) 0 []).2.1), 0) else ([], 0, (parseM (bs.drop (p + u.length + 2)) ((bs.drop (p + u.length + 2)).length + 1) 0 []).2.2))
        else if 32768 < body.length + sz then ([], 0, 3)
        else if bs.length < p + u.length + 2 + sz then ([], 0, 10)
        else match bs.drop (p + u.length + 2 + sz) with
          | [] => ([], 0, 10)
          | c :: t => if c ≠ 13 then ([], 0, 5) else match t with
            | [] => ([], 0, 10)
            | d :: _ => if d ≠ 10 then ([], 0, 5) else decM bs f (p + u.length + 2 + sz + 2) (body ++ (bs.drop (p + u.length + 2)).take sz)
theorem lineM_inl {r u : List UInt8} (h : lineM r = .inl u) : ∃ t, r = u ++ 13 :: 10 :: t ∧ splitC 10 r = some (u ++ [13], t) ∧ u.length + 2 ≤ r.length ∧ u.length ≤ 256 := by
  unfold lineM at h
  cases hs : splitC 10 r with
  | none => rw [hs] at h; dsimp only at h; split at h <;> cases h
  | some x =>
    obtain ⟨a, t⟩ := x
    rw [hs] at h
    dsimp only at h
    obtain ⟨e, _⟩ := splitC_some 10 _ _ _ hs
    split at h
    · cases h
    · rename_i hc
      have hpos : 0 < a.length := List.length_pos_iff.2 (fun q => hc (Or.inl q))
      have h2 : ¬ 257 < a.length := fun q => hc (Or.inr (Or.inl q))
      have h3 : a.getD (a.length - 1) 0 = 13 := Decidable.byContradiction (fun q => hc (Or.inr (Or.inr q)))
      injection h with h
      have ha : a = u ++ [13] := by
        have := take_getD a (a.length - 1) (by omega)
        rw [show a.length - 1 + 1 = a.length from by omega, List.take_length, h, h3] at this
        exact this
      subst ha
      refine ⟨t, by rw [e]; simp, rfl, ?_, ?_⟩
      · rw [e]; simp
      · simp at h2; omega
theorem lineM_inr {r : List UInt8} {e : Int} (h : lineM r = .inr e) : e ≠ 0 := by
  unfold lineM at h
  cases hs : splitC 10 r with
  | none => rw [hs] at h; dsimp only at h; split at h <;> (injection h with h; omega)
  | some x =>
    rw [hs] at h; dsimp only at h; split at h
    · injection h with h; omega
    · cases h
theorem prefix_f (l : List UInt8) (hl : l.length ≤ 2) : strings_HasPrefix.f (⟨#[13, 10]⟩ : ByteArray) (B l) = some (([13, 10] : List UInt8).take l.length == l) := by
  unfold strings_HasPrefix.f stringslite_HasPrefix.f
  have hs : (⟨#[13, 10]⟩ : ByteArray).size = 2 := rfl
  rw [hs, size_B, if_pos (by omega), if_pos (by omega), if_pos (by omega), Option.bind_some, toList_L, toList_L, L_B, Int.toNat_natCast, show (⟨#[13, 10]⟩ : ByteArray) = B [13, 10] from rfl, extract_B, L_B, List.drop_zero]

theorem prog_dec (bs : List UInt8) (hb : bs.length ≤ 100000) : ∀ (f k p : Nat) (body : List UInt8), p ≤ bs.length → bs.length < p + f → 3 * f + 4 * bs.length + 1000 < k → body.length ≤ 32768 →
    chunk_Decode.l0 k (nums bs) (nums body) p = some (decM bs f p body)
  | 0, k, p, body, hp, hf, hk, ha => by omega
  | f + 1, k, p, body, hp, hf, hk, ha => by
    obtain ⟨k, rfl⟩ : ∃ m, k = m + 1 := ⟨k - 1, by omega⟩
    have hnl := nums_length bs
    have hnb := nums_length body
    have hld : (bs.drop p).length = bs.length - p := List.length_drop
    rw [chunk_Decode.l0, if_pos (by omega), if_pos (by omega), Int.toNat_natCast, nums_drop, take_f (bs.drop p) (by omega) k (by omega), Option.bind_some, decM]
    cases hl : lineM (bs.drop p) with
    | inr e =>
      rw [show lineSays (.inr e) = (⟨#[]⟩, 0, e) from rfl]
      dsimp only
      rw [if_neg (lineM_inr hl)]
    | inl u =>
      obtain ⟨_, _, _, hu1, hu2⟩ := lineM_inl hl
      rw [show lineSays (.inl u) = (B u, ((u.length + 2 : Nat) : Int), 0) from rfl]
      dsimp only
      rw [if_pos rfl, Size_f (B u) (by rw [size_B]; omega) k (by omega), Option.bind_some, L_B]
      cases hz : sizeL u with
      | none => rw [show sizeSays none = (0, 5) from rfl]; dsimp only; rw [if_neg (by decide)]
      | some sz =>
        have hsz := sizeL_lt _ _ hz
        rw [show sizeSays (some sz) = ((sz : Int), 0) from rfl]
        dsimp only
        have n1 : (p : Int) + ((u.length + 2 : Nat) : Int) = ((p + u.length + 2 : Nat) : Int) := by omega
        have m1 : p + u.length + 2 ≤ 9223372036854775807 := by omega
        have n2 : 32768 - ((nums body).length : Int) = ((32768 - body.length : Nat) : Int) := by omega
        have m2 : 32768 - body.length ≤ 9223372036854775807 := by omega
        have n3 : ((p + u.length + 2 : Nat) : Int) + (sz : Int) = ((p + u.length + 2 + sz : Nat) : Int) := by omega
        have m3 : p + u.length + 2 + sz ≤ 9223372036854775807 := by omega
        have n4 : (sz : Int) + 2 = ((sz + 2 : Nat) : Int) := by omega
        have m4 : sz + 2 ≤ 9223372036854775807 := by omega
        have n5 : ((p + u.length + 2 : Nat) : Int) + ((sz + 2 : Nat) : Int) = ((p + u.length + 2 + sz + 2 : Nat) : Int) := by omega
        have m5 : p + u.length + 2 + sz + 2 ≤ 9223372036854775807 := by omega
        have w1 := wrap_nat (p + u.length + 2) n1 m1
        have w2 := wrap_nat (32768 - body.length) n2 m2
        have w3 := wrap_nat (p + u.length + 2 + sz) n3 m3
        have w4 := wrap_nat (sz + 2) n4 m4
        have w5 := wrap_nat (p + u.length + 2 + sz + 2) n5 m5
        rw [if_pos rfl, w1, w2, w3, w4, w5]
        clear w1 w2 w3 w4 w5 n1 n2 n3 n4 n5 m1 m2 m3 m4 m5
        generalize hq : p + u.length + 2 = q
        have hqb : q ≤ bs.length := by omega
        have hqp : p < q := by omega
        have hldq : (bs.drop q).length = bs.length - q := List.length_drop
        have hnq := nums_length (bs.drop q)
        by_cases c0 : sz = 0
        · rw [if_pos (by omega), if_pos (by omega), if_pos (by omega), Int.toNat_natCast, nums_drop, parse_f (bs.drop q) (by omega) k (by omega), Option.bind_some, if_pos c0]
          by_cases ce : (parseM (bs.drop q) ((bs.drop q).length + 1) 0 []).2.2 = 0
          · rw [if_pos ce, if_pos ce]
          · rw [if_neg ce, if_neg ce]
        · rw [if_neg (by omega), if_neg c0]
          by_cases c1 : 32768 < body.length + sz
          · rw [if_pos (by omega), if_pos c1]
          · rw [if_neg (by omega), if_neg c1, if_pos (by omega), if_pos (by omega), Int.toNat_natCast, nums_drop]
            by_cases c2 : bs.length < q + sz
            · rw [if_pos (by omega), if_pos c2]
            · rw [if_neg (by omega), if_neg c2, if_pos (by omega), if_pos (by omega), Int.toNat_natCast, nums_drop, List.drop_drop, Int.toNat_natCast]
              have hldz : (bs.drop (q + sz)).length = bs.length - (q + sz) := List.length_drop
              have hnz := nums_length (bs.drop (q + sz))
              rcases hz2 : bs.drop (q + sz) with _ | ⟨c, t⟩
              · rw [show (nums ([] : List UInt8)).length = 0 from rfl, show mn 2 ((0 : Nat) : Int) = 0 from by decide, if_pos (by decide), if_pos (by decide), show (nums ([] : List UInt8)).take (0 : Int).toNat = nums [] from rfl, strOf_nums, prefix_f [] (by decide), Option.bind_some, if_pos (by decide), if_pos (by decide)]
              · rcases t with _ | ⟨d, t⟩
                · rw [show (nums [c]).length = 1 from rfl, show mn 2 ((1 : Nat) : Int) = 1 from by decide, if_pos (by decide), if_pos (by decide), show (nums [c]).take (1 : Int).toNat = nums [c] from rfl, strOf_nums, prefix_f [c] (by simp), Option.bind_some]
                  dsimp only
                  by_cases h13 : c = 13
                  · subst h13
                    rw [if_pos (by decide), if_pos (by decide), if_neg (by decide)]
                  · rw [if_neg (by simp; exact fun h => h13 h.symm), if_pos h13]
                · have hlc : (nums (c :: d :: t)).length = t.length + 2 := by rw [nums_length]; rfl
                  have hmn : mn 2 ((t.length + 2 : Nat) : Int) = 2 := by unfold mn; split <;> omega
                  rw [hlc, hmn, if_pos (by decide), if_pos (by omega), show (nums (c :: d :: t)).take (2 : Int).toNat = nums [c, d] from rfl, strOf_nums, prefix_f [c, d] (by simp), Option.bind_some]
                  dsimp only
                  by_cases h13 : c = 13
                  · subst h13
                    by_cases h10 : d = 10
                    · subst h10
                      rw [hz2] at hldz
                      simp only [List.length_cons] at hldz
                      rw [if_pos (by decide), if_neg (by omega), if_pos (by omega), if_pos (by omega), nums_take, nums_drop]
                      have htd : (bs.take (q + sz)).drop q = (bs.drop q).take sz := by
                        rw [List.drop_take, show q + sz - q = sz from by omega]
                      have hlt : ((bs.drop q).take sz).length = sz := by rw [List.length_take]; omega
                      rw [htd, if_pos (by rw [nums_length, nums_length, hlt]; omega), if_neg (by decide), if_neg (by decide)]
                      have := prog_dec bs hb f k (q + sz + 2) (body ++ (bs.drop q).take sz) (by omega) (by omega) (by omega) (by rw [List.length_append, hlt]; omega)
                      rw [show nums body ++ nums ((bs.drop q).take sz) = nums (body ++ (bs.drop q).take sz) from by simp [nums]]
                      exact this
                    · rw [if_neg (by simp; exact fun h => h10 h.symm), if_neg (by decide), if_pos h10]
                  · rw [if_neg (by simp; exact fun h => absurd h.symm h13), if_pos h13]
end Go.Proofs.YtipleegkonhfcaaGreatDoor.Q
