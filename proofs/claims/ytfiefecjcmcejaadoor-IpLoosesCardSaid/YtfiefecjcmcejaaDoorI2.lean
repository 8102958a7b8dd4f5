/- Addresses written loosely: the reference's parts, its text cut at a byte, an address of four bytes; both sides as one plain function. -/
import Derived.Test.YtfiefecjcmcejaaDoorI1
import Derived.Test.YtfiefecjcmcejaaDoorP3
import Derived.Test.YtfiefecjcmcejaaDoorP7
import Derived.Lib.SlTrimSet
set_option linter.unusedSimpArgs false
set_option linter.unusedVariables false
namespace Go.Proofs.YtfiefecjcmcejaaDoor.Q
open Go Go.RowKit Go.Lib Go.Proofs.YtfiefecjcmcejaaDoorW.PrintWords Go.Proofs.YtfiefecjcmcejaaDoorW.PrintMore Go.Proofs.YtfiefecjcmcejaaDoorB Go.Proofs.YtfiefecjcmcejaaDoor.E Go.Proofs.YtfiefecjcmcejaaDoorV Go.Proofs.YtfiefecjcmcejaaDoor.P

theorem up_to {α : Type} {f : Nat → Option α} (hm : ∀ k, LeO (f k) (f (k + 1))) {k0 : Nat} {r : α} (h : f k0 = some r) : ∀ k, k0 ≤ k → f k = some r := by
  intro k hk
  obtain ⟨j, rfl⟩ : ∃ j, k = k0 + j := ⟨k - k0, by omega⟩
  clear hk
  induction j with
  | zero => exact h
  | succ j ih => exact hm (k0 + j) _ ih
def refD (base c : Nat) : Int := match DN c with
  | some d => if d < base then (d : Int) else -1
  | none => -1
theorem refD_8 : ∀ c : Fin 256, lanternref05_digit.f 5 (c.val : Int) 8 = some (refD 8 c.val) := by decide +kernel
theorem refD_10 : ∀ c : Fin 256, lanternref05_digit.f 5 (c.val : Int) 10 = some (refD 10 c.val) := by decide +kernel
theorem refD_16 : ∀ c : Fin 256, lanternref05_digit.f 5 (c.val : Int) 16 = some (refD 16 c.val) := by decide +kernel
theorem refdig_f (base : Nat) (hb : base = 8 ∨ base = 10 ∨ base = 16) (c : UInt8) (k : Nat) (hk : 5 ≤ k) : lanternref05_digit.f k (c.toNat : Int) (base : Int) = some (refD base c.toNat) := by
  refine up_to (fun k => lanternref05_digit.mono _ _ k) ?_ k hk
  rcases hb with rfl | rfl | rfl
  · exact refD_8 ⟨c.toNat, c.toNat_lt⟩
  · exact refD_10 ⟨c.toNat, c.toNat_lt⟩
  · exact refD_16 ⟨c.toNat, c.toNat_lt⟩
def M32 : Nat := 4294967296
def refN : Option Nat → Int
  | some n => ((min n M32 : Nat) : Int)
  | none => -1
theorem ref_step (base acc d : Nat) (hb : 1 ≤ base) : (if M32 < min acc M32 * base + d then M32 else min acc M32 * base + d) = min (acc * base + d) M32 := by
  by_cases ha : acc ≤ M32
  · rw [Nat.min_eq_left ha]
    generalize acc * base + d = x
    split <;> omega
  · have hge : M32 * 1 ≤ M32 * base := Nat.mul_le_mul_left _ hb
    have hge2 : acc * 1 ≤ acc * base := Nat.mul_le_mul_left _ hb
    rw [Nat.min_eq_right (by omega : M32 ≤ acc)]
    generalize acc * base = x at *
    generalize M32 * base = y at *
    split <;> omega
theorem ref_m (base acc : Nat) (hb : base ≤ 16) : min acc M32 * base ≤ 68719476736 := Nat.mul_le_mul (Nat.min_le_right acc M32) hb
theorem ref_e1 (base : Nat) (hb : base ≤ 16) {acc : Nat} : wrap64 (((min acc M32 : Nat) : Int) * (base : Int)) = ((min acc M32 * base : Nat) : Int) := by
  rw [← Int.natCast_mul]
  exact wrap_nat _ rfl (Nat.le_trans (ref_m base acc hb) (by decide))
theorem ref_e2 (base d : Nat) (hb : base ≤ 16) (hd : d < 16) {acc : Nat} : wrap64 (((min acc M32 * base : Nat) : Int) + (d : Int)) = ((min acc M32 * base + d : Nat) : Int) := by
  rw [← Int.natCast_add]
  exact wrap_nat _ rfl (Nat.le_trans (Nat.add_le_add (ref_m base acc hb) (Nat.le_of_lt hd)) (by decide))
theorem refnum_loop (base : Nat) (hb : base = 8 ∨ base = 10 ∨ base = 16) (s : List UInt8) (hs : s.length ≤ 1000000) : ∀ (t : List UInt8) (i acc k : Nat), s.drop i = t → i ≤ s.length → t.length + 6 ≤ k →
    lanternref05_number.l0 k (B s) (base : Int) ((min acc M32 : Nat) : Int) (i : Int) = some (refN (numV base acc t))
  | [], i, acc, k, hd, hi, hk => by
    obtain ⟨k, rfl⟩ : ∃ m, k = m + 1 := ⟨k - 1, by simp at hk; omega⟩
    have : s.length ≤ i := List.drop_eq_nil_iff.1 hd
    rw [lanternref05_number.l0, size_B, if_neg (by omega)]
    rfl
  | c :: t, i, acc, k, hd, hi, hk => by
    obtain ⟨k, rfl⟩ : ∃ m, k = m + 1 := ⟨k - 1, by simp at hk; omega⟩
    simp only [List.length_cons] at hk
    have hlt : i < s.length := by
      rcases Nat.lt_or_ge i s.length with h | h
      · exact h
      · rw [List.drop_eq_nil_of_le h] at hd; cases hd
    rw [getD_drop s i hlt] at hd
    injection hd with h1 h2
    have hbt : bt (B s) (i : Int) = (c.toNat : Int) := by rw [bt_B, Int.toNat_natCast, h1]
    have hw : wrap64 ((i : Int) + 1) = ((i + 1 : Nat) : Int) := wrap_nat (i + 1) rfl (by omega)
    have hb16 : base ≤ 16 ∧ 1 ≤ base := by omega
    rw [lanternref05_number.l0, size_B, if_pos (by omega), if_pos (by omega), hbt, refdig_f base hb c k (by omega), Option.bind_some, numV, D_DN]
    cases hdn : DN c.toNat with
    | none =>
      have hr : refD base c.toNat = -1 := by unfold refD; rw [hdn]
      rw [hr]
      rfl
    | some d =>
      dsimp only
      by_cases g : d < base
      · have hr : refD base c.toNat = (d : Int) := by unfold refD; rw [hdn]; exact if_pos g
        rw [hr, if_pos g, if_neg (by omega), hw]
        have ih := refnum_loop base hb s hs t (i + 1) (acc * base + d) k h2 (by omega) (by omega)
        rw [ref_e1 base hb16.1, ref_e2 base d hb16.1 (by omega)]
        rw [← ref_step base acc d hb16.2] at ih
        by_cases gg : M32 < min acc M32 * base + d
        · rw [if_pos gg] at ih
          rw [if_pos (show ((min acc M32 * base + d : Nat) : Int) > 4294967296 from Int.ofNat_lt.2 gg)]
          exact ih
        · rw [if_neg gg] at ih
          rw [if_neg (show ¬ ((min acc M32 * base + d : Nat) : Int) > 4294967296 from fun h => gg (Int.ofNat_lt.1 h))]
          exact ih
      · have hr : refD base c.toNat = -1 := by unfold refD; rw [hdn]; exact if_neg g
        rw [hr, if_neg g, if_pos (by omega)]
        rfl
theorem refnumber_f (base : Nat) (hb : base = 8 ∨ base = 10 ∨ base = 16) (s : List UInt8) (hs : s.length ≤ 1000000) (k : Nat) (hk : s.length + 6 ≤ k) :
    lanternref05_number.f k (B s) (base : Int) = some (if s = [] then -1 else refN (numV base 0 s)) := by
  rw [lanternref05_number.f, toList_L, L_B]
  by_cases h : s = []
  · rw [if_pos h, if_pos h]
  · rw [if_neg h, if_neg h]
    exact refnum_loop base hb s hs s 0 0 k rfl (by omega) hk
theorem refpart_f (s : List UInt8) (hs : s.length ≤ 1000000) (k : Nat) (hk : s.length + 8 ≤ k) : lanternref05_part.f k (B s) = some (refN (partV s)) := by
  obtain ⟨k, rfl⟩ : ∃ m, k = m + 2 := ⟨k - 2, by omega⟩
  have n8 : ∀ k, s.length + 6 ≤ k → lanternref05_number.f k (B s) 8 = some (if s = [] then -1 else refN (numV 8 0 s)) := fun k hk => refnumber_f 8 (Or.inl rfl) s hs k hk
  have n10 : ∀ k, s.length + 6 ≤ k → lanternref05_number.f k (B s) 10 = some (if s = [] then -1 else refN (numV 10 0 s)) := fun k hk => refnumber_f 10 (Or.inr (Or.inl rfl)) s hs k hk
  have n16 : ∀ t : List UInt8, t.length ≤ 1000000 → ∀ k, t.length + 6 ≤ k → lanternref05_number.f k (B t) 16 = some (if t = [] then -1 else refN (numV 16 0 t)) := fun t ht k hk => refnumber_f 16 (Or.inr (Or.inr rfl)) t ht k hk
  match s, hk, hs, n8, n10 with
  | [], hk, hs, n8, n10 =>
    rw [lanternref05_part.f, size_B, if_neg (by simp), lanternref05_part.j0, if_neg (by simp), size_B, if_neg (by simp), lanternref05_part.j1, if_neg (by simp), n10 _ (by simp at hk ⊢; omega)]
    rfl
  | [a], hk, hs, n8, n10 =>
    rw [lanternref05_part.f, size_B, if_neg (by simp), lanternref05_part.j0, if_neg (by simp), size_B, if_neg (by simp), lanternref05_part.j1, if_neg (by simp), n10 _ (by simp at hk ⊢; omega)]
    have : partV [a] = numV 10 0 [a] := by unfold partV; split <;> simp_all
    rw [this]
    rfl
  | a :: c :: t, hk, hs, n8, n10 =>
    have b0 : bt (B (a :: c :: t)) 0 = (a.toNat : Int) := by rw [bt_B]; rfl
    have b1 : bt (B (a :: c :: t)) 1 = (c.toNat : Int) := by rw [bt_B]; rfl
    have hsz : (B (a :: c :: t)).size = t.length + 2 := by rw [size_B]; rfl
    simp only [List.length_cons] at hk hs
    rw [lanternref05_part.f, hsz, if_pos (by omega), if_pos (by omega), b0]
    by_cases ha : a = 48
    · subst ha
      rw [if_pos (show ((48 : UInt8).toNat : Int) = 48 from rfl), if_pos (by omega), b1]
      have hxx : c = 120 ∨ c = 88 → lanternref05_part.j0 (k + 2) (B (48 :: c :: t)) true = some (refN (partV (48 :: c :: t))) := by
        intro hc
        rw [lanternref05_part.j0, if_pos rfl, hsz, partV, if_pos hc]
        cases t with
        | nil => rw [if_pos (by simp), if_pos rfl]; rfl
        | cons x t =>
          rw [if_neg (by simp; omega), if_pos (by simp; omega), extract_B, if_neg (by simp)]
          have e : ((48 :: c :: x :: t).take ((x :: t).length + 2)).drop 2 = x :: t := by simp
          rw [e, n16 (x :: t) (by simp at hs ⊢; omega) (k + 1) (by simp at hk ⊢; omega)]
          rfl
      by_cases h1 : (c.toNat : Int) = 120
      · rw [if_pos h1, hxx (Or.inl (UInt8.toNat_inj.mp (by simp; omega)))]
      · rw [if_neg h1]
        by_cases h2 : (c.toNat : Int) = 88
        · rw [beq_iff_eq.2 h2, hxx (Or.inr (UInt8.toNat_inj.mp (by simp; omega)))]
        · have hc : ¬ (c = 120 ∨ c = 88) := by rintro (rfl | rfl) <;> simp_all
          rw [beq_false_of_ne h2, lanternref05_part.j0, if_neg (by simp), hsz, if_pos (by omega), if_pos (by omega), b0, lanternref05_part.j1, if_pos (by rfl), n8 _ (by simp; omega), partV, if_neg hc]
          rfl
    · have hne : ¬ (a.toNat : Int) = 48 := fun h => ha (UInt8.toNat_inj.mp (by simp; omega))
      rw [if_neg hne, lanternref05_part.j0, if_neg (by simp), hsz, if_pos (by omega), if_pos (by omega), b0, beq_false_of_ne hne, lanternref05_part.j1, if_neg (by simp), n10 _ (by simp; omega)]
      have : partV (a :: c :: t) = numV 10 0 (a :: c :: t) := by unfold partV; split <;> simp_all
      rw [this]
      rfl
/-- The reference's cut is the split. -/
theorem cut_loop (c : UInt8) (s : List UInt8) (hs : s.length ≤ 1000000) : ∀ (t : List UInt8) (i from_ k : Nat) (out : List ByteArray), s.drop i = t → from_ ≤ i → i ≤ s.length → (∀ b ∈ (s.take i).drop from_, b ≠ c) → out.length ≤ i → t.length + 2 ≤ k →
    lanternref05_cut.l0 k (B s) (c.toNat : Int) out (from_ : Int) (i : Int) = some (out ++ (splitS c (s.drop from_)).map B)
  | [], i, from_, k, out, hd, hf, hi, hno, ho, hk => by
    obtain ⟨k, rfl⟩ : ∃ m, k = m + 2 := ⟨k - 2, by simp at hk; omega⟩
    have hge : s.length ≤ i := List.drop_eq_nil_iff.1 hd
    obtain rfl : i = s.length := by omega
    have hw : wrap64 (((s.length : Nat) : Int) + 1) = ((s.length + 1 : Nat) : Int) := wrap_nat _ rfl (by omega)
    rw [List.take_length] at hno
    rw [lanternref05_cut.l0, size_B, if_pos (by omega), if_pos rfl, if_pos (by omega), if_pos (by omega), if_pos (by omega), hw, lanternref05_cut.l0, size_B, if_neg (by omega), extract_B, Int.toNat_natCast, Int.toNat_natCast, List.take_length, splitS_miss c _ hno]
    rfl
  | b :: t, i, from_, k, out, hd, hf, hi, hno, ho, hk => by
    obtain ⟨k, rfl⟩ : ∃ m, k = m + 1 := ⟨k - 1, by simp at hk; omega⟩
    simp only [List.length_cons] at hk
    have hlt : i < s.length := by
      rcases Nat.lt_or_ge i s.length with h | h
      · exact h
      · rw [List.drop_eq_nil_of_le h] at hd; cases hd
    rw [getD_drop s i hlt] at hd
    injection hd with h1 h2
    have hbt : bt (B s) (i : Int) = (b.toNat : Int) := by rw [bt_B, Int.toNat_natCast, h1]
    have hw : wrap64 ((i : Int) + 1) = ((i + 1 : Nat) : Int) := wrap_nat (i + 1) rfl (by omega)
    rw [lanternref05_cut.l0, size_B, if_pos (by omega), if_neg (by omega), if_pos (by omega), if_pos (by omega), hbt, hw]
    by_cases g : b = c
    · subst g
      rw [if_pos rfl, if_pos (by omega), if_pos (by omega), if_pos (by omega), extract_B, Int.toNat_natCast, Int.toNat_natCast,
        cut_loop b s hs t (i + 1) (i + 1) k (out ++ [B ((s.take i).drop from_)]) h2 (Nat.le_refl _) (by omega) (by rw [List.drop_eq_nil_of_le (by rw [List.length_take]; omega)]; simp) (by simp; omega) (by omega)]
      have e : s.drop from_ = (s.take i).drop from_ ++ b :: s.drop (i + 1) := by
        have : s = s.take i ++ b :: s.drop (i + 1) := by rw [← h1, ← getD_drop s i hlt, List.take_append_drop]
        conv => lhs; rw [this]
        rw [List.drop_append_of_le_length (by rw [List.length_take]; omega)]
      rw [e, splitS_hit b _ _ hno]
      simp
    · rw [if_neg (fun h => g (UInt8.toNat_inj.mp (by omega)))]
      exact cut_loop c s hs t (i + 1) from_ k out h2 (by omega) (by omega) (by
        intro x hx
        rw [take_getD s i hlt, h1, List.drop_append_of_le_length (by rw [List.length_take]; omega)] at hx
        rcases List.mem_append.1 hx with h | h
        · exact hno x h
        · rw [List.mem_singleton.1 h]; exact g) (by omega) (by omega)
theorem cut_f (c : UInt8) (s : List UInt8) (hs : s.length ≤ 1000000) (k : Nat) (hk : s.length + 2 ≤ k) : lanternref05_cut.f k (B s) (c.toNat : Int) = some ((splitS c s).map B) := by
  rw [lanternref05_cut.f]
  have := cut_loop c s hs s 0 0 k [] rfl (Nat.le_refl _) (by omega) (by simp) (by simp) hk
  simpa using this
/-- An address of IPv4. -/
def V4T (a b c d : Int) : Bool × Int × Int × Int × Int × Int × Int × Int × Int × Int × Int × Int × Int × Int × Int × Int × Int := (false, 0, 0, 0, 0, 0, 0, 0, 0, 0, 0, 0, 0, a, b, c, d)
def V4N (n : Nat) : Bool × Int × Int × Int × Int × Int × Int × Int × Int × Int × Int × Int × Int × Int × Int × Int × Int := V4T ((n / 16777216 % 256 : Nat) : Int) ((n / 65536 % 256 : Nat) : Int) ((n / 256 % 256 : Nat) : Int) ((n % 256 : Nat) : Int)
theorem tm (n : Nat) : Int.tmod (n : Int) 256 % 256 = ((n % 256 : Nat) : Int) := by
  rw [Int.tmod_eq_emod_of_nonneg (by omega)]; omega
theorem td (n : Nat) (h : n < 4294967296) : IntKind.u64.wrap (Int.tdiv (n : Int) 256) = ((n / 256 : Nat) : Int) := by
  rw [Int.tdiv_eq_ediv_of_nonneg (by omega), IntKind.wrap_u64]; omega
theorem refV4_f (n : Nat) (h : n < 4294967296) (k : Nat) (hk : 5 ≤ k) : lanternref05_V4.f k (n : Int) = some (V4N n) := by
  obtain ⟨k, rfl⟩ : ∃ m, k = m + 5 := ⟨k - 5, by omega⟩
  have w15 : wrap64 (15 - 1) = 14 := by rw [wrap_id (by decide) (by decide)]; rfl
  have w14 : wrap64 (14 - 1) = 13 := by rw [wrap_id (by decide) (by decide)]; rfl
  have w13 : wrap64 (13 - 1) = 12 := by rw [wrap_id (by decide) (by decide)]; rfl
  have w12 : wrap64 (12 - 1) = 11 := by rw [wrap_id (by decide) (by decide)]; rfl
  have h1 : n / 256 < 4294967296 := by omega
  have h2 : n / 256 / 256 < 4294967296 := by omega
  have h3 : n / 256 / 256 / 256 < 4294967296 := by omega
  rw [lanternref05_V4.f, lanternref05_V4.l0, if_pos (by decide), if_pos (by decide), if_pos (by decide), td n h, tm n, w15,
    lanternref05_V4.l0, if_pos (by decide), if_pos (by decide), if_pos (by decide), td _ h1, tm, w14,
    lanternref05_V4.l0, if_pos (by decide), if_pos (by decide), if_pos (by decide), td _ h2, tm, w13,
    lanternref05_V4.l0, if_pos (by decide), if_pos (by decide), if_pos (by decide), td _ h3, tm, w12, lanternref05_V4.l0, if_neg (by decide)]
  have e2 : n / 256 / 256 = n / 65536 := by omega
  have e3 : n / 256 / 256 / 256 = n / 16777216 := by omega
  rw [e3, e2]
  rfl
end Go.Proofs.YtfiefecjcmcejaaDoor.Q
