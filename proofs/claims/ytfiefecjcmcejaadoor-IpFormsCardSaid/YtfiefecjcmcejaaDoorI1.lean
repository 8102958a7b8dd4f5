/- Numbers and parts of addresses: the program's reading and the reference's are one plain function. -/
import Derived.Test.YtfiefecjcmcejaaDoorSP
import Derived.Test.YtfiefecjcmcejaaDoorTS
import Derived.Test.YtfiefecjcmcejaaDoorP2
import Derived.Test.YtfiefecjcmcejaaDoorP10
set_option linter.unusedSimpArgs false
set_option linter.unusedVariables false
namespace Go.Proofs.YtfiefecjcmcejaaDoor.Q
open Go Go.RowKit Go.Lib Go.Proofs.YtfiefecjcmcejaaDoorW.PrintWords Go.Proofs.YtfiefecjcmcejaaDoorW.PrintMore Go.Proofs.YtfiefecjcmcejaaDoorB Go.Proofs.YtfiefecjcmcejaaDoor.E Go.Proofs.YtfiefecjcmcejaaDoorV Go.Proofs.YtfiefecjcmcejaaDoor.P

/-- A digit's value. -/
def D (c : UInt8) : Option Nat := if 48 ≤ c.toNat ∧ c.toNat ≤ 57 then some (c.toNat - 48) else if 97 ≤ c.toNat ∧ c.toNat ≤ 102 then some (c.toNat - 87) else if 65 ≤ c.toNat ∧ c.toNat ≤ 70 then some (c.toNat - 55) else none
/-- A row of digits' value by a base, behind what was read. -/
def numV (base : Nat) : Nat → List UInt8 → Option Nat
  | acc, [] => some acc
  | acc, c :: t => match D c with
    | some d => if d < base then numV base (acc * base + d) t else none
    | none => none
theorem numV_ge (base : Nat) (hb : 1 ≤ base) : ∀ (l : List UInt8) (acc n : Nat), numV base acc l = some n → acc ≤ n
  | [], acc, n, h => by simp [numV] at h; omega
  | c :: t, acc, n, h => by
    rw [numV] at h
    cases hd : D c with
    | none => rw [hd] at h; cases h
    | some d =>
      rw [hd] at h
      dsimp only at h
      split at h
      · have := numV_ge base hb t _ n h
        have : acc * 1 ≤ acc * base := Nat.mul_le_mul_left _ hb
        omega
      · cases h
def idxI (c : Nat) : Int := Lib.indexByte [48, 49, 50, 51, 52, 53, 54, 55, 56, 57, 97, 98, 99, 100, 101, 102] (Go.bits .or .u8 (c : Int) 32).toNat.toUInt8
def DN (c : Nat) : Option Nat := if 48 ≤ c ∧ c ≤ 57 then some (c - 48) else if 97 ≤ c ∧ c ≤ 102 then some (c - 87) else if 65 ≤ c ∧ c ≤ 70 then some (c - 55) else none
theorem D_DN (c : UInt8) : D c = DN c.toNat := rfl
def digB (c : Nat) : Bool := match DN c with
  | some d => decide (¬ ((c : Int) < 48) ∧ ¬ ((57 < (c : Int)) ∧ (c : Int) < 65) ∧ idxI c = (d : Int) ∧ d < 16)
  | none => decide ((c : Int) < 48 ∨ (57 < (c : Int) ∧ (c : Int) < 65) ∨ idxI c < 0)
theorem dig_all : ∀ c : Fin 256, digB c.val = true := by decide +kernel
theorem dig_facts (c : Nat) (hc : c < 256) : (match DN c with
    | some d => ¬ ((c : Int) < 48) ∧ ¬ ((57 < (c : Int)) ∧ (c : Int) < 65) ∧ idxI c = (d : Int) ∧ d < 16
    | none => (c : Int) < 48 ∨ (57 < (c : Int) ∧ (c : Int) < 65) ∨ idxI c < 0) := by
  have h := dig_all ⟨c, hc⟩
  unfold digB at h
  dsimp only at h
  cases hd : DN c with
  | none => rw [hd] at h; exact of_decide_eq_true h
  | some d => rw [hd] at h; exact of_decide_eq_true h
/-- A number, as the program tells it. -/
def numP (base limit : Nat) (l : List UInt8) : Int × Bool := match numV base 0 l with
  | some n => if l ≠ [] ∧ n < limit then ((n : Int), true) else (0, false)
  | none => (0, false)
theorem num_step (base limit : Nat) (hb : 2 ≤ base ∧ base ≤ 16) (hl : limit ≤ 4294967296) (k : Nat) (s : List UInt8) (i acc : Nat) (c : UInt8) (hi : i < s.length) (hc : s.getD i 0 = c) (ha : acc < limit) (hs : s.length ≤ 1000000) :
    ip_number.l0 (k + 2) (B s) (base : Int) (limit : Int) (acc : Int) (i : Int) = match D c with
      | some d => if d < base then (if acc * base + d < limit then ip_number.l0 k (B s) (base : Int) (limit : Int) ((acc * base + d : Nat) : Int) ((i + 1 : Nat) : Int) else some (0, false)) else some (0, false)
      | none => some (0, false) := by
  have hbt : bt (B s) (i : Int) = (c.toNat : Int) := by rw [bt_B, Int.toNat_natCast, hc]
  have hf := dig_facts c.toNat c.toNat_lt
  have hw : wrap64 ((i : Int) + 1) = ((i + 1 : Nat) : Int) := wrap_nat (i + 1) rfl (by omega)
  have hidx : strings_IndexByte.f (⟨#[48, 49, 50, 51, 52, 53, 54, 55, 56, 57, 97, 98, 99, 100, 101, 102]⟩ : ByteArray) (Go.bits .or .u8 (c.toNat : Int) 32) = some (idxI c.toNat) := rfl
  rw [ip_number.l0, size_B, if_pos (by omega), if_pos (by omega), hbt, hidx, Option.bind_some]
  rw [D_DN]
  have hbad : ip_number.j1 (k + 1) (B s) (base : Int) (limit : Int) (acc : Int) (i : Int) (idxI c.toNat) true = some (0, false) := by rw [ip_number.j1, if_pos rfl]
  cases hd : DN c.toNat with
  | none =>
    rw [hd] at hf
    dsimp only at hf ⊢
    by_cases h1 : (c.toNat : Int) < 48
    · rw [if_pos h1, hbad]
    · rw [if_neg h1]
      by_cases h2 : (c.toNat : Int) > 57
      · rw [if_pos h2]
        by_cases h3 : (c.toNat : Int) < 65
        · rw [if_pos h3, hbad]
        · rw [if_neg h3, if_pos (by omega), hbad]
      · rw [if_neg h2, if_pos (by omega), hbad]
  | some d =>
    rw [hd] at hf
    dsimp only at hf ⊢
    obtain ⟨h1, h2, h3, h4⟩ := hf
    have hw2 : IntKind.u64.wrap (idxI c.toNat) = (d : Int) := by rw [h3, IntKind.wrap_u64]; omega
    have key : ip_number.j1 (k + 1) (B s) (base : Int) (limit : Int) (acc : Int) (i : Int) (idxI c.toNat) (decide (IntKind.u64.wrap (idxI c.toNat) ≥ (base : Int))) = if d < base then (if acc * base + d < limit then ip_number.l0 k (B s) (base : Int) (limit : Int) ((acc * base + d : Nat) : Int) ((i + 1 : Nat) : Int) else some (0, false)) else some (0, false) := by
      have hab : acc * base ≤ 4294967296 * 16 := Nat.mul_le_mul (by omega) hb.2
      have hw3 : IntKind.u64.wrap ((acc : Int) * (base : Int)) = ((acc * base : Nat) : Int) := by rw [← Int.natCast_mul, IntKind.wrap_u64]; omega
      have hw4 : IntKind.u64.wrap (((acc * base : Nat) : Int) + (d : Int)) = ((acc * base + d : Nat) : Int) := by rw [← Int.natCast_add, IntKind.wrap_u64]; omega
      rw [ip_number.j1, hw2, hw3, hw4, hw]
      by_cases g1 : d < base
      · rw [if_pos g1, if_neg (by simp; omega)]
        by_cases g2 : acc * base + d < limit
        · rw [if_pos g2, if_neg (by omega)]
        · rw [if_neg g2, if_pos (by omega)]
      · rw [if_neg g1, if_pos (by simp; omega)]
    rw [if_neg h1]
    by_cases g : (c.toNat : Int) > 57
    · rw [if_pos g, if_neg (by omega), if_neg (by omega), key]
    · rw [if_neg g, if_neg (by omega), key]
theorem num_loop (base limit : Nat) (hb : 2 ≤ base ∧ base ≤ 16) (hl : limit ≤ 4294967296) (s : List UInt8) (hs : s.length ≤ 1000000) : ∀ (t : List UInt8) (i acc k : Nat), s.drop i = t → i ≤ s.length → acc < limit → 2 * t.length + 1 ≤ k →
    ip_number.l0 k (B s) (base : Int) (limit : Int) (acc : Int) (i : Int) = some (match numV base acc t with
      | some n => if n < limit then ((n : Int), s != []) else (0, false)
      | none => (0, false))
  | [], i, acc, k, hd, hi, ha, hk => by
    obtain ⟨k, rfl⟩ : ∃ m, k = m + 1 := ⟨k - 1, by simp at hk; omega⟩
    have : s.length ≤ i := List.drop_eq_nil_iff.1 hd
    rw [ip_number.l0, size_B, if_neg (by omega), toList_L, L_B]
    simp [numV, ha]
  | c :: t, i, acc, k, hd, hi, ha, hk => by
    obtain ⟨k, rfl⟩ : ∃ m, k = m + 2 := ⟨k - 2, by simp at hk; omega⟩
    have hlt : i < s.length := by
      rcases Nat.lt_or_ge i s.length with h | h
      · exact h
      · rw [List.drop_eq_nil_of_le h] at hd; cases hd
    rw [getD_drop s i hlt] at hd
    injection hd with h1 h2
    rw [num_step base limit hb hl k s i acc c hlt h1 ha hs, numV]
    cases D c with
    | none => rfl
    | some d =>
      dsimp only
      by_cases g1 : d < base
      · rw [if_pos g1, if_pos g1]
        by_cases g2 : acc * base + d < limit
        · rw [if_pos g2]
          exact num_loop base limit hb hl s hs t (i + 1) _ k h2 (by omega) g2 (by simp at hk; omega)
        · rw [if_neg g2]
          cases hv : numV base (acc * base + d) t with
          | none => rfl
          | some n =>
            have := numV_ge base (by omega) t _ n hv
            dsimp only
            rw [if_neg (by omega)]
      · rw [if_neg g1, if_neg g1]
theorem number_f (base limit : Nat) (hb : 2 ≤ base ∧ base ≤ 16) (hl : limit ≤ 4294967296) (h0 : 0 < limit) (s : List UInt8) (hs : s.length ≤ 1000000) (k : Nat) (hk : 2 * s.length + 1 ≤ k) :
    ip_number.f k (B s) (base : Int) (limit : Int) = some (numP base limit s) := by
  rw [ip_number.f]
  have := num_loop base limit hb hl s hs s 0 0 k rfl (by omega) h0 hk
  rw [show ((0 : Nat) : Int) = 0 from rfl] at this
  rw [this, numP]
  cases s with
  | nil => simp [numV, h0]
  | cons a t =>
    cases numV base 0 (a :: t) with
    | none => rfl
    | some n =>
      dsimp only
      by_cases g : n < limit
      · simp [g]
      · simp [g]
/-- A part's value, written loosely. -/
def partV (l : List UInt8) : Option Nat := match l with
  | 48 :: c :: t => if c = 120 ∨ c = 88 then (if t = [] then some 0 else numV 16 0 t) else numV 8 0 l
  | [] => none
  | _ => numV 10 0 l
theorem x_facts : ∀ c : Fin 256, (Go.bits .or .u8 (c.val : Int) 32 = 120) ↔ (c.val = 120 ∨ c.val = 88) := by decide +kernel
theorem part_f (limit : Nat) (hl : limit ≤ 4294967296) (h0 : 0 < limit) (s : List UInt8) (hs : s.length ≤ 1000000) (k : Nat) (hk : 2 * s.length + 4 ≤ k) :
    ip_part.f k (B s) (limit : Int) = some (match partV s with
      | some n => if n < limit then ((n : Int), true) else (0, false)
      | none => (0, false)) := by
  obtain ⟨k, rfl⟩ : ∃ m, k = m + 2 := ⟨k - 2, by omega⟩
  have n8 : ∀ k, 2 * s.length + 1 ≤ k → ip_number.f k (B s) 8 (limit : Int) = some (numP 8 limit s) := number_f 8 limit (by omega) hl h0 s hs
  have n10 : ∀ k, 2 * s.length + 1 ≤ k → ip_number.f k (B s) 10 (limit : Int) = some (numP 10 limit s) := number_f 10 limit (by omega) hl h0 s hs
  have n16 : ∀ t : List UInt8, t.length ≤ 1000000 → ∀ k, 2 * t.length + 1 ≤ k → ip_number.f k (B t) 16 (limit : Int) = some (numP 16 limit t) := fun t ht => number_f 16 limit (by omega) hl h0 t ht
  have fin (base : Nat) (hne : s ≠ []) : (numP base limit s) = (match numV base 0 s with | some n => if n < limit then ((n : Int), true) else (0, false) | none => (0, false)) := by
    unfold numP
    cases numV base 0 s with
    | none => rfl
    | some n => simp [hne]
  match s, hk, hs, n8, n10, fin with
  | [], hk, hs, n8, n10, fin =>
    rw [ip_part.f, size_B, if_neg (by simp), ip_part.j0, if_neg (by simp), size_B, if_neg (by simp), ip_part.j1, if_neg (by simp), n10 _ (by simp; omega)]
    rfl
  | [a], hk, hs, n8, n10, fin =>
    rw [ip_part.f, size_B, if_neg (by simp), ip_part.j0, if_neg (by simp), size_B, if_neg (by simp), ip_part.j1, if_neg (by simp), n10 _ (by simp at hk ⊢; omega)]
    rw [fin 10 (by simp)]
    have : partV [a] = numV 10 0 [a] := by unfold partV; split <;> simp_all
    rw [this]
    rfl
  | a :: c :: t, hk, hs, n8, n10, fin =>
    have b0 : bt (B (a :: c :: t)) 0 = (a.toNat : Int) := by rw [bt_B]; rfl
    have b1 : bt (B (a :: c :: t)) 1 = (c.toNat : Int) := by rw [bt_B]; rfl
    have hx := x_facts ⟨c.toNat, c.toNat_lt⟩
    dsimp only at hx
    have hsz : (B (a :: c :: t)).size = t.length + 2 := by rw [size_B]; rfl
    simp only [List.length_cons] at hk hs
    rw [ip_part.f, hsz, if_pos (by omega), if_pos (by omega), b0]
    by_cases ha : a = 48
    · subst ha
      rw [if_pos (show ((48 : UInt8).toNat : Int) = 48 from rfl), if_pos (by omega), b1]
      by_cases hc : c = 120 ∨ c = 88
      · have hv : Go.bits .or .u8 (c.toNat : Int) 32 = 120 := hx.2 (by rcases hc with rfl | rfl <;> simp)
        rw [hv, ip_part.j0, if_pos (by rfl), hsz, if_pos (by omega), extract_B, toList_L, L_B, partV, if_pos hc]
        have e : ((48 :: c :: t).take (t.length + 2)).drop 2 = t := by simp
        rw [e]
        by_cases ht : t = []
        · rw [if_pos ht, if_pos ht]
          dsimp only
          rw [if_pos h0]
          rfl
        · rw [if_neg ht, if_neg ht, n16 t (by omega) (k + 1) (by omega)]
          unfold numP
          cases numV 16 0 t with
          | none => rfl
          | some n => simp [ht]
      · have hv : ¬ Go.bits .or .u8 (c.toNat : Int) 32 = 120 := fun h => hc (by
          rcases hx.1 h with h | h
          · exact Or.inl (UInt8.toNat_inj.mp h)
          · exact Or.inr (UInt8.toNat_inj.mp h))
        rw [beq_false_of_ne hv, ip_part.j0, if_neg (by simp), hsz, if_pos (by omega), if_pos (by omega), b0, ip_part.j1, if_pos (by rfl), n8 _ (by simp; omega), fin 8 (by simp), partV, if_neg hc]
        rfl
    · have hne : ¬ (a.toNat : Int) = 48 := fun h => ha (UInt8.toNat_inj.mp (by simp; omega))
      rw [if_neg hne, ip_part.j0, if_neg (by simp), hsz, if_pos (by omega), if_pos (by omega), b0, beq_false_of_ne hne, ip_part.j1, if_neg (by simp), n10 _ (by simp; omega), fin 10 (by simp)]
      have : partV (a :: c :: t) = numV 10 0 (a :: c :: t) := by unfold partV; split <;> simp_all
      rw [this]
      rfl
end Go.Proofs.YtfiefecjcmcejaaDoor.Q
