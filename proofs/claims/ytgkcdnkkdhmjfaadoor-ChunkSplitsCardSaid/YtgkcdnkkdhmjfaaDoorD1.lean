/- A chunk's line and its size: the program's reading and the reference's are one plain function. -/
import Derived.Test.YtgkcdnkkdhmjfaaDoorDH
import Derived.Lib.Strings
set_option linter.unusedSimpArgs false
set_option linter.unusedVariables false
namespace Go.Proofs.YtgkcdnkkdhmjfaaDoor.Q
open Go Go.RowKit Go.Lib Go.Proofs.YtgkcdnkkdhmjfaaDoorW.PrintWords Go.Proofs.YtgkcdnkkdhmjfaaDoorB Go.Proofs.YtgkcdnkkdhmjfaaDoor.E Go.Proofs.YtgkcdnkkdhmjfaaDoor.P

def gb (s : ByteArray) (i : Nat) : Nat := ((L s).getD i 0).toNat
theorem gb_lt (s : ByteArray) (i : Nat) : gb s i < 256 := ((L s).getD i 0).toNat_lt
theorem bt_gb (s : ByteArray) (i : Nat) : bt s (i : Int) = (gb s i : Int) := by rw [bt_L, Int.toNat_natCast]; rfl
/-- A digit's value as strconv reads it; 255: it is none. -/
def puD (c : Nat) : Nat := if 48 ≤ c ∧ c ≤ 57 then c - 48 else if 97 ≤ c ∧ c ≤ 122 then c - 87 else if 65 ≤ c ∧ c ≤ 90 then c - 55 else 255
def lowI (c : Nat) : Int := Go.bits .or .u8 (c : Int) 32
theorem low_facts : ∀ c : Fin 256, (48 ≤ c.val ∧ c.val ≤ 57) ∨ (¬ (48 ≤ c.val ∧ c.val ≤ 57) ∧ 97 ≤ lowI c.val ∧ lowI c.val ≤ 122 ∧ ((lowI c.val - 97) % 256 + 10) % 256 = (puD c.val : Int)) ∨ (¬ (48 ≤ c.val ∧ c.val ≤ 57) ∧ (lowI c.val < 97 ∨ (97 ≤ lowI c.val ∧ 122 < lowI c.val)) ∧ puD c.val = 255) := by decide +kernel
theorem puD_dig {c : Nat} (h : 48 ≤ c ∧ c ≤ 57) : puD c = c - 48 := by unfold puD; rw [if_pos h]
/-- A number's value; none: a digit is none. -/
def valL (base : Nat) : List UInt8 → Nat → Option Nat
  | [], n => some n
  | c :: t, n => if base ≤ puD c.toNat then none else valL base t (n * base + puD c.toNat)
theorem pu_j9 (k : Nat) (s : ByteArray) (n i d : Nat) (hn : n ≤ 4294967296) (hi : i < s.size) (hs : s.size ≤ 1000000) (hd : d < 16) :
    I.strconv_ParseUint.j9 (k + 1) 16 false s 1152921504606846976 18446744073709551615 false n d (bytesOf s) s.size i = I.strconv_ParseUint.l0 k 16 false s 1152921504606846976 18446744073709551615 false ((n * 16 + d : Nat) : Int) (bytesOf s) s.size ((i + 1 : Nat) : Int) := by
  have w0 : IntKind.u64.wrap ((d : Nat) : Int) = (d : Int) := by rw [IntKind.wrap_u64]; omega
  have wi : wrap64 ((i : Int) + 1) = ((i + 1 : Nat) : Int) := wrap_nat (i + 1) rfl (by omega)
  have w1 : IntKind.u64.wrap 16 = 16 := rfl
  have w2 : IntKind.u64.wrap ((n : Int) * 16) = (n : Int) * 16 := by rw [IntKind.wrap_u64]; omega
  have w3 : IntKind.u64.wrap ((n : Int) * 16 + (d : Int)) = ((n * 16 + d : Nat) : Int) := by rw [IntKind.wrap_u64]; omega
  rw [I.strconv_ParseUint.j9, if_neg (by omega), if_neg (by omega), w1, w2, w0, w3, if_neg (by omega), if_neg (by omega), wi]
theorem pu_step (k : Nat) (s : ByteArray) (n i : Nat) (hn : n ≤ 4294967296) (hi : i < s.size) (hs : s.size ≤ 1000000) (hd : puD (gb s i) < 16) :
    I.strconv_ParseUint.l0 (k + 4) 16 false s 1152921504606846976 18446744073709551615 false n (bytesOf s) s.size i = I.strconv_ParseUint.l0 k 16 false s 1152921504606846976 18446744073709551615 false ((n * 16 + puD (gb s i) : Nat) : Int) (bytesOf s) s.size ((i + 1 : Nat) : Int) := by
  have hg := gb_lt s i
  rw [I.strconv_ParseUint.l0, if_pos (by omega), if_pos (by omega), if_pos (by rw [Go.Proofs.YtgkcdnkkdhmjfaaDoorW.PrintWords.bytesOf_length]; omega), rd_bytesOf, bt_gb, ite_self, I.strconv_ParseUint.j7, if_neg (by simp)]
  rcases low_facts ⟨gb s i, hg⟩ with h1 | ⟨h0, h1, h2, h3⟩ | ⟨h0, h1, h2⟩
  · dsimp only at h1
    rw [if_pos (by omega), decide_eq_true (by omega), I.strconv_ParseUint.j8, if_pos rfl]
    have e : ((gb s i : Int) - 48) % 256 = ((puD (gb s i) : Nat) : Int) := by rw [puD_dig h1]; omega
    rw [e]
    exact pu_j9 k s n i _ hn hi hs hd
  · dsimp only at h0 h1 h2 h3
    have hj : ∀ b : Bool, b = false → I.strconv_ParseUint.j8 (k + 2) 16 false s 1152921504606846976 18446744073709551615 false n (gb s i) (bytesOf s) s.size i b = I.strconv_ParseUint.l0 k 16 false s 1152921504606846976 18446744073709551615 false ((n * 16 + puD (gb s i) : Nat) : Int) (bytesOf s) s.size ((i + 1 : Nat) : Int) := by
      rintro b rfl
      rw [I.strconv_ParseUint.j8, if_neg (by simp)]
      have hl : I.strconv_lower.f (gb s i : Int) = some (lowI (gb s i)) := rfl
      rw [hl, Option.bind_some, if_pos h1, Option.bind_some, if_pos h2, Option.bind_some, h3]
      exact pu_j9 k s n i _ hn hi hs hd
    by_cases c1 : 48 ≤ (gb s i : Int)
    · rw [if_pos c1]; exact hj _ (decide_eq_false (by omega))
    · rw [if_neg c1]; exact hj _ rfl
  · dsimp only at h2
    omega
theorem pu_loop (s : ByteArray) (hs : s.size ≤ 1000000) : ∀ (d k n i v : Nat), (n + 1) * 16 ^ d ≤ 4294967296 → i + d = s.size → 4 * d + 1 < k → valL 16 ((L s).drop i) n = some v →
    I.strconv_ParseUint.l0 k 16 false s 1152921504606846976 18446744073709551615 false n (bytesOf s) s.size i = some ((v : Int), none)
  | 0, k, n, i, v, hn, hd, hk, hv => by
    obtain ⟨k, rfl⟩ : ∃ m, k = m + 1 := ⟨k - 1, by omega⟩
    rw [List.drop_eq_nil_of_le (by rw [← size_L]; omega), valL, Option.some.injEq] at hv
    subst hv
    rw [I.strconv_ParseUint.l0, if_neg (by omega), if_neg (by simp)]
  | d + 1, k, n, i, v, hn, hd, hk, hv => by
    obtain ⟨k, rfl⟩ : ∃ m, k = m + 4 := ⟨k - 4, by omega⟩
    have hi : i < s.size := by omega
    have hpos : 1 ≤ 16 ^ (d + 1) := Nat.pow_pos (by decide)
    have hn1 : n + 1 ≤ (n + 1) * 16 ^ (d + 1) := Nat.le_mul_of_pos_right _ hpos
    rw [getD_drop (L s) i (by rw [← size_L]; exact hi), valL] at hv
    have e : ((L s).getD i 0).toNat = gb s i := rfl
    rw [e] at hv
    split at hv
    · cases hv
    · rename_i hc
      rw [pu_step k s n i (by omega) hi hs (by omega)]
      refine pu_loop s hs d k _ (i + 1) v ?_ (by omega) (by omega) hv
      refine Nat.le_trans ?_ hn
      rw [Nat.pow_succ, Nat.mul_comm (16 ^ d) 16, ← Nat.mul_assoc]
      exact Nat.mul_le_mul_right _ (by omega)
theorem pu_f (s : ByteArray) (hs : s.size ≤ 8) (h0 : L s ≠ []) (v : Nat) (hv : valL 16 (L s) 0 = some v) (k : Nat) (hk : 60 < k) : strconv_ParseUint.f k s 16 64 = some ((v : Int), none) := by
  obtain ⟨k, rfl⟩ : ∃ m, k = m + 4 := ⟨k - 4, by omega⟩
  unfold strconv_ParseUint.f I.strconv_ParseUint.f
  rw [toList_L, if_neg h0]
  have hp : 16 ^ s.size ≤ 16 ^ 8 := Nat.pow_le_pow_right (by decide) hs
  have hloop := pu_loop s (by omega) s.size k 0 0 v (by omega) (by omega) (by omega) (by rw [List.drop_zero]; exact hv)
  have hsh : IntKind.u64.wrap ((shl .u64 1 (IntKind.u64.wrap 64)) - 1) = 18446744073709551615 := by decide +kernel
  have hw : (0 : Int) ≤ IntKind.u64.wrap 64 := by decide
  rw [if_pos (by decide), decide_eq_true (by decide), I.strconv_ParseUint.j0, if_pos rfl, I.strconv_ParseUint.j3, if_neg (by decide), if_neg (by decide), if_neg (by decide), I.strconv_ParseUint.j4, if_neg (by decide), if_pos (by decide), I.strconv_ParseUint.j5, if_pos hw, if_pos (by omega), hsh, Option.bind_some, Go.Proofs.YtgkcdnkkdhmjfaaDoorW.PrintWords.bytesOf_length]
  have e : I.strconv_ParseUint.l0 k 16 ((16 : Int) == 0) s 1152921504606846976 18446744073709551615 false 0 (bytesOf s) s.size 0 = some ((v : Int), none) := hloop
  rw [e, Option.bind_some, if_pos rfl]

/-! ### the size that a line says -/
theorem hex_set : ∀ c : Fin 256, (([48, 49, 50, 51, 52, 53, 54, 55, 56, 57, 97, 98, 99, 100, 101, 102, 65, 66, 67, 68, 69, 70] : List UInt8).contains (UInt8.ofNat c.val)) = decide (puD c.val < 16) := by decide +kernel
theorem hex_set' (c : UInt8) : (([48, 49, 50, 51, 52, 53, 54, 55, 56, 57, 97, 98, 99, 100, 101, 102, 65, 66, 67, 68, 69, 70] : List UInt8).contains c) = decide (puD c.toNat < 16) := by
  have := hex_set ⟨c.toNat, c.toNat_lt⟩
  simpa using this
theorem valL_all (l : List UInt8) : ∀ n, (∀ c ∈ l, puD c.toNat < 16) → ∃ v, valL 16 l n = some v := by
  induction l with
  | nil => exact fun n _ => ⟨n, rfl⟩
  | cons c t ih =>
    intro n h
    rw [valL, if_neg (by have := h c (by simp); omega)]
    exact ih _ (fun x hx => h x (by simp [hx]))
theorem valL_not (l : List UInt8) : ∀ n, ¬ (∀ c ∈ l, puD c.toNat < 16) → valL 16 l n = none := by
  induction l with
  | nil => exact fun n h => absurd (by simp) h
  | cons c t ih =>
    intro n h
    rw [valL]
    by_cases hc : 16 ≤ puD c.toNat
    · rw [if_pos hc]
    · rw [if_neg hc]
      refine ih _ (fun h2 => h (fun x hx => ?_))
      rcases List.mem_cons.1 hx with rfl | hx
      · omega
      · exact h2 x hx
def headOf (l : List UInt8) : List UInt8 := match splitC 59 l with | some x => x.1 | none => l
def sizeL (l : List UInt8) : Option Nat := if 256 < l.length then none else if splitC 13 l ≠ none then none else if headOf l = [] ∨ 8 < (headOf l).length then none else valL 16 (headOf l) 0
def sizeSays : Option Nat → Int × Int
  | some n => ((n : Int), 0)
  | none => (0, 5)
theorem valL_lt (l : List UInt8) : ∀ n v, valL 16 l n = some v → v + 1 ≤ (n + 1) * 16 ^ l.length := by
  induction l with
  | nil =>
    intro n v h
    rw [valL, Option.some.injEq] at h
    subst h
    simp
  | cons c t ih =>
    intro n v h
    rw [valL] at h
    split at h
    · cases h
    · refine Nat.le_trans (ih _ v h) ?_
      rw [List.length_cons, Nat.pow_succ, Nat.mul_comm (16 ^ t.length) 16, ← Nat.mul_assoc]
      exact Nat.mul_le_mul_right _ (by omega)
theorem sizeL_lt (l : List UInt8) (v : Nat) (h : sizeL l = some v) : v < 4294967296 := by
  unfold sizeL at h
  split at h
  · cases h
  · split at h
    · cases h
    · split at h
      · cases h
      · rename_i hc
        have h1 := valL_lt _ _ _ h
        have h2 : 16 ^ (headOf l).length ≤ 16 ^ 8 := Nat.pow_le_pow_right (by decide) (by omega)
        omega
theorem Size_f (s : ByteArray) (hs : s.size ≤ 1000000) (k : Nat) (hk : 100 < k) : chunk_Size.f k s = some (sizeSays (sizeL (L s))) := by
  obtain ⟨k, rfl⟩ : ∃ m, k = m + 2 := ⟨k - 2, by omega⟩
  unfold chunk_Size.f sizeL
  by_cases c1 : 256 < (L s).length
  · rw [if_pos (by rw [size_L]; omega), if_pos c1, chunk_Size.j0, if_pos rfl]
    rfl
  · rw [if_neg (by rw [size_L]; omega), if_neg c1]
    have hi : strings_IndexByte.f s 13 = some (Lib.indexByte (L s) 13) := rfl
    rw [hi, Option.bind_some, indexByte_split]
    cases h13 : splitC 13 (L s) with
    | some x =>
      rw [if_pos (by simp), decide_eq_true (show (0 : Int) ≤ ((x.1.length : Nat) : Int) by omega), chunk_Size.j0, if_pos rfl]
      rfl
    | none =>
      rw [if_neg (by simp), decide_eq_false (by dsimp only; omega), chunk_Size.j0, if_neg (by simp)]
      have hcut : strings_Cut.f s (⟨#[59]⟩ : ByteArray) = some (B (headOf (L s)), (cutOf s ⟨#[59]⟩).2) := by
        unfold strings_Cut.f
        rw [if_pos (by omega)]
        unfold cutOf headOf
        rw [show (⟨#[59]⟩ : ByteArray).data.toList = [59] from rfl, show s.data.toList = L s from rfl, cut_split]
        cases splitC 59 (L s) with
        | none => rfl
        | some x => rfl
      rw [hcut, Option.bind_some]
      dsimp only
      rw [toList_L, L_B, size_B]
      by_cases c2 : headOf (L s) = []
      · rw [if_pos c2, if_pos (Or.inl c2), chunk_Size.j1, if_pos rfl]
        rfl
      · rw [if_neg c2]
        by_cases c3 : 8 < (headOf (L s)).length
        · rw [if_pos (by omega), if_pos (Or.inr c3), chunk_Size.j1, if_pos rfl]
          rfl
        · rw [if_neg (by omega), if_neg (by rintro (h | h); exact c2 h; exact c3 h)]
          have htr : strings_Trim.f (B (headOf (L s))) (⟨#[48, 49, 50, 51, 52, 53, 54, 55, 56, 57, 97, 98, 99, 100, 101, 102, 65, 66, 67, 68, 69, 70]⟩ : ByteArray) = some (B (Lib.trimS (headOf (L s)) [48, 49, 50, 51, 52, 53, 54, 55, 56, 57, 97, 98, 99, 100, 101, 102, 65, 66, 67, 68, 69, 70])) := by
            unfold strings_Trim.f
            rw [if_pos ⟨by rw [size_B]; omega, by decide, by decide⟩, show (B (headOf (L s))).data.toList = headOf (L s) from L_B _]
            rfl
          rw [htr, Option.bind_some, toList_L, L_B]
          by_cases c4 : ∀ c ∈ headOf (L s), puD c.toNat < 16
          · have ht : Lib.trimS (headOf (L s)) [48, 49, 50, 51, 52, 53, 54, 55, 56, 57, 97, 98, 99, 100, 101, 102, 65, 66, 67, 68, 69, 70] = [] := (trimS_nil_iff _ _).2 (fun c hc => by rw [hex_set']; exact decide_eq_true (c4 c hc))
            obtain ⟨v, hv⟩ := valL_all (headOf (L s)) 0 c4
            have hlt := valL_lt _ _ _ hv
            have h2 : 16 ^ (headOf (L s)).length ≤ 16 ^ 8 := Nat.pow_le_pow_right (by decide) (by omega)
            rw [ht, chunk_Size.j1, if_neg (by simp), pu_f (B (headOf (L s))) (by rw [size_B]; omega) (by rw [L_B]; exact c2) v (by rw [L_B]; exact hv) k (by omega), Option.bind_some, hv]
            rw [if_pos (show (none : Option Int).isNone = true from rfl), wrap_nat v rfl (by omega)]
            rfl
          · have ht : Lib.trimS (headOf (L s)) [48, 49, 50, 51, 52, 53, 54, 55, 56, 57, 97, 98, 99, 100, 101, 102, 65, 66, 67, 68, 69, 70] ≠ [] := fun h => c4 (fun c hc => by
              have := (trimS_nil_iff _ _).1 h c hc
              rw [hex_set'] at this
              exact of_decide_eq_true this)
            have e : ∀ l : List UInt8, l ≠ [] → (l != []) = true := fun l h => bne_iff_ne.mpr h
            rw [e _ ht, chunk_Size.j1, if_pos rfl, valL_not _ _ c4]
            rfl

/-! ### the reference's -/
end Go.Proofs.YtgkcdnkkdhmjfaaDoor.Q
