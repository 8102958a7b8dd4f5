/- What the law needs of elder texts. (Put together by wip/gen/pick.py.) -/
import Derived.Test.YtdopafhppaalfaaGreatDoorB
import Derived.Test.YtdopafhppaalfaaGreatDoorSP
import Derived.Test.YtdopafhppaalfaaGreatDoorTS
import Derived.Test.YtdopafhppaalfaaGreatDoorP16
import Derived.Test.YtdopafhppaalfaaGreatDoorP4
import Derived.Test.YtdopafhppaalfaaGreatDoorP3
import Derived.Test.YtdopafhppaalfaaGreatDoorP6
import Derived.Lib.Bytes
import Derived.Lib.SlTrimSet
import Derived.Laws.Bits64b
set_option linter.unusedSimpArgs false
set_option linter.unusedVariables false
set_option maxRecDepth 10000
namespace Go.Proofs.YtdopafhppaalfaaGreatDoor.Q
open Go Go.RowKit Go.Lib Go.Proofs.YtdopafhppaalfaaGreatDoorW.PrintWords Go.Proofs.YtdopafhppaalfaaGreatDoorW.PrintMore Go.Proofs.YtdopafhppaalfaaGreatDoorB Go.Proofs.YtdopafhppaalfaaGreatDoor.E Go.Proofs.YtdopafhppaalfaaGreatDoorV Go.Proofs.YtdopafhppaalfaaGreatDoor.P

/-- A digit's value. -/
def D (c : UInt8) : Option Nat := if 48 ≤ c.toNat ∧ c.toNat ≤ 57 then some (c.toNat - 48) else if 97 ≤ c.toNat ∧ c.toNat ≤ 102 then some (c.toNat - 87) else if 65 ≤ c.toNat ∧ c.toNat ≤ 70 then some (c.toNat - 55) else none
/-- A row of digits' value by a base, behind what was read. -/
def numV (base : Nat) : Nat → List UInt8 → Option Nat
 | acc, [] => some acc
 | acc, c :: t => match D c with
  | some d => if d < base then numV base (acc * base + d) t else none
  | none => none
theorem numV_ge (base : Nat) (hb : 1 ≤ base) : ∀ (l : List UInt8) (acc n : Nat), numV base acc l = some n → acc ≤ n
 | [], acc, n, h => by simp [numV] at h; omega
 | c :: t, acc, n, h => by
  rw [numV] at h
  cases hd : D c with
  | none => rw [hd] at h; cases h
  | some d =>
   rw [hd] at h
   dsimp only at h
   split at h
   ·have := numV_ge base hb t _ n h
    have : acc * 1 ≤ acc * base := Nat.mul_le_mul_left _ hb
    omega
   ·cases h
def idxI (c : Nat) : Int := Lib.indexByte [48, 49, 50, 51, 52, 53, 54, 55, 56, 57, 97, 98, 99, 100, 101, 102] (Go.bits .or .u8 (c : Int) 32).toNat.toUInt8
def DN (c : Nat) : Option Nat := if 48 ≤ c ∧ c ≤ 57 then some (c - 48) else if 97 ≤ c ∧ c ≤ 102 then some (c - 87) else if 65 ≤ c ∧ c ≤ 70 then some (c - 55) else none
theorem D_DN (c : UInt8) : D c = DN c.toNat := rfl
def digB (c : Nat) : Bool := match DN c with
 | some d => decide (¬ ((c : Int) < 48) ∧ ¬ ((57 < (c : Int)) ∧ (c : Int) < 65) ∧ idxI c = (d : Int) ∧ d < 16)
 | none => decide ((c : Int) < 48 ∨ (57 < (c : Int) ∧ (c : Int) < 65) ∨ idxI c < 0)
theorem dig_all : ∀ c : Fin 256, digB c.val = true := by decide +kernel
theorem dig_facts (c : Nat) (hc : c < 256) : (match DN c with
  | some d => ¬ ((c : Int) < 48) ∧ ¬ ((57 < (c : Int)) ∧ (c : Int) < 65) ∧ idxI c = (d : Int) ∧ d < 16
  | none => (c : Int) < 48 ∨ (57 < (c : Int) ∧ (c : Int) < 65) ∨ idxI c < 0) := by
 have h := dig_all ⟨c, hc⟩
 unfold digB at h
 dsimp only at h
 cases hd : DN c with
 | none => rw [hd] at h; exact of_decide_eq_true h
 | some d => rw [hd] at h; exact of_decide_eq_true h
/-- A number, as the program tells it. -/
def numP (base limit : Nat) (l : List UInt8) : Int × Bool := match numV base 0 l with
 | some n => if l ≠ [] ∧ n < limit then ((n : Int), true) else (0, false)
 | none => (0, false)
theorem num_step (base limit : Nat) (hb : 2 ≤ base ∧ base ≤ 16) (hl : limit ≤ 4294967296) (k : Nat) (s : List UInt8) (i acc : Nat) (c : UInt8) (hi : i < s.length) (hc : s.getD i 0 = c) (ha : acc < limit) (hs : s.length ≤ 1000000) :
  ip_number.l0 (k + 2) (B s) (base : Int) (limit : Int) (acc : Int) (i : Int) = match D c with
   | some d => if d < base then (if acc * base + d < limit then ip_number.l0 k (B s) (base : Int) (limit : Int) ((acc * base + d : Nat) : Int) ((i + 1 : Nat) : Int) else some (0, false)) else some (0, false)
   | none => some (0, false) := by
 have hbt : bt (B s) (i : Int) = (c.toNat : Int) := by rw [bt_B, Int.toNat_natCast, hc]
 have hf := dig_facts c.toNat c.toNat_lt
 have hw : wrap64 ((i : Int) + 1) = ((i + 1 : Nat) : Int) := wrap_nat (i + 1) rfl (by omega)
 have hidx : strings_IndexByte.f (⟨#[48, 49, 50, 51, 52, 53, 54, 55, 56, 57, 97, 98, 99, 100, 101, 102]⟩ : ByteArray) (Go.bits .or .u8 (c.toNat : Int) 32) = some (idxI c.toNat) := rfl
 rw [ip_number.l0, size_B, if_pos (by omega), if_pos (by omega), hbt, hidx, Option.bind_some]
 rw [D_DN]
 have hbad : ip_number.j1 (k + 1) (B s) (base : Int) (limit : Int) (acc : Int) (i : Int) (idxI c.toNat) true = some (0, false) := by rw [ip_number.j1, if_pos rfl]
 cases hd : DN c.toNat with
 | none =>
  rw [hd] at hf
  dsimp only at hf ⊢
  by_cases h1 : (c.toNat : Int) < 48
  ·rw [if_pos h1, hbad]
  ·rw [if_neg h1]
   by_cases h2 : (c.toNat : Int) > 57
   ·rw [if_pos h2]
    by_cases h3 : (c.toNat : Int) < 65
    ·rw [if_pos h3, hbad]
    ·rw [if_neg h3, if_pos (by omega), hbad]
   ·rw [if_neg h2, if_pos (by omega), hbad]
 | some d =>
  rw [hd] at hf
  dsimp only at hf ⊢
  obtain ⟨h1, h2, h3, h4⟩ := hf
  have hw2 : IntKind.u64.wrap (idxI c.toNat) = (d : Int) := by rw [h3, IntKind.wrap_u64]; omega
  have key : ip_number.j1 (k + 1) (B s) (base : Int) (limit : Int) (acc : Int) (i : Int) (idxI c.toNat) (decide (IntKind.u64.wrap (idxI c.toNat) ≥ (base : Int))) = if d < base then (if acc * base + d < limit then ip_number.l0 k (B s) (base : Int) (limit : Int) ((acc * base + d : Nat) : Int) ((i + 1 : Nat) : Int) else some (0, false)) else some (0, false) := by
   have hab : acc * base ≤ 4294967296 * 16 := Nat.mul_le_mul (by omega) hb.2
   have hw3 : IntKind.u64.wrap ((acc : Int) * (base : Int)) = ((acc * base : Nat) : Int) := by rw [← Int.natCast_mul, IntKind.wrap_u64]; omega
   have hw4 : IntKind.u64.wrap (((acc * base : Nat) : Int) + (d : Int)) = ((acc * base + d : Nat) : Int) := by rw [← Int.natCast_add, IntKind.wrap_u64]; omega
   rw [ip_number.j1, hw2, hw3, hw4, hw]
   by_cases g1 : d < base
   ·rw [if_pos g1, if_neg (by simp; omega)]
    by_cases g2 : acc * base + d < limit
    ·rw [if_pos g2, if_neg (by omega)]
    ·rw [if_neg g2, if_pos (by omega)]
   ·rw [if_neg g1, if_pos (by simp; omega)]
  rw [if_neg h1]
  by_cases g : (c.toNat : Int) > 57
  ·rw [if_pos g, if_neg (by omega), if_neg (by omega), key]
  ·rw [if_neg g, if_neg (by omega), key]
theorem num_loop (base limit : Nat) (hb : 2 ≤ base ∧ base ≤ 16) (hl : limit ≤ 4294967296) (s : List UInt8) (hs : s.length ≤ 1000000) : ∀ (t : List UInt8) (i acc k : Nat), s.drop i = t → i ≤ s.length → acc < limit → 2 * t.length + 1 ≤ k →
  ip_number.l0 k (B s) (base : Int) (limit : Int) (acc : Int) (i : Int) = some (match numV base acc t with
   | some n => if n < limit then ((n : Int), s != []) else (0, false)
   | none => (0, false))
 | [], i, acc, k, hd, hi, ha, hk => by
  obtain ⟨k, rfl⟩ : ∃ m, k = m + 1 := ⟨k - 1, by simp at hk; omega⟩
  have : s.length ≤ i := List.drop_eq_nil_iff.1 hd
  rw [ip_number.l0, size_B, if_neg (by omega), toList_L, L_B]
  simp [numV, ha]
 | c :: t, i, acc, k, hd, hi, ha, hk => by
  obtain ⟨k, rfl⟩ : ∃ m, k = m + 2 := ⟨k - 2, by simp at hk; omega⟩
  have hlt : i < s.length := by
   rcases Nat.lt_or_ge i s.length with h | h
   ·exact h
   ·rw [List.drop_eq_nil_of_le h] at hd; cases hd
  rw [getD_drop s i hlt] at hd
  injection hd with h1 h2
  rw [num_step base limit hb hl k s i acc c hlt h1 ha hs, numV]
  cases D c with
  | none => rfl
  | some d =>
   dsimp only
   by_cases g1 : d < base
   ·rw [if_pos g1, if_pos g1]
    by_cases g2 : acc * base + d < limit
    ·rw [if_pos g2]
     exact num_loop base limit hb hl s hs t (i + 1) _ k h2 (by omega) g2 (by simp at hk; omega)
    ·rw [if_neg g2]
     cases hv : numV base (acc * base + d) t with
     | none => rfl
     | some n =>
      have := numV_ge base (by omega) t _ n hv
      dsimp only
      rw [if_neg (by omega)]
   ·rw [if_neg g1, if_neg g1]
theorem number_f (base limit : Nat) (hb : 2 ≤ base ∧ base ≤ 16) (hl : limit ≤ 4294967296) (h0 : 0 < limit) (s : List UInt8) (hs : s.length ≤ 1000000) (k : Nat) (hk : 2 * s.length + 1 ≤ k) :
  ip_number.f k (B s) (base : Int) (limit : Int) = some (numP base limit s) := by
 rw [ip_number.f]
 have := num_loop base limit hb hl s hs s 0 0 k rfl (by omega) h0 hk
 rw [show ((0 : Nat) : Int) = 0 from rfl] at this
 rw [this, numP]
 cases s with
 | nil => simp [numV, h0]
 | cons a t =>
  cases numV base 0 (a :: t) with
  | none => rfl
  | some n =>
   dsimp only
   by_cases g : n < limit
   ·simp [g]
   ·simp [g]
theorem up_to {α : Type} {f : Nat → Option α} (hm : ∀ k, LeO (f k) (f (k + 1))) {k0 : Nat} {r : α} (h : f k0 = some r) : ∀ k, k0 ≤ k → f k = some r := by
 intro k hk
 obtain ⟨j, rfl⟩ : ∃ j, k = k0 + j := ⟨k - k0, by omega⟩
 clear hk
 induction j with
 | zero => exact h
 | succ j ih => exact hm (k0 + j) _ ih
/-- An address of IPv4. -/
def V4T (a b c d : Int) : Bool × Int × Int × Int × Int × Int × Int × Int × Int × Int × Int × Int × Int × Int × Int × Int × Int := (false, 0, 0, 0, 0, 0, 0, 0, 0, 0, 0, 0, 0, a, b, c, d)
abbrev Tup := Bool × Int × Int × Int × Int × Int × Int × Int × Int × Int × Int × Int × Int × Int × Int × Int × Int
def zT : Tup := (false, 0, 0, 0, 0, 0, 0, 0, 0, 0, 0, 0, 0, 0, 0, 0, 0)
/-- An address and what is told beside it, as one row. -/
def T18 (a : Tup) (e : Int) : Bool × Int × Int × Int × Int × Int × Int × Int × Int × Int × Int × Int × Int × Int × Int × Int × Int × Int :=
 (a.1, a.2.1, a.2.2.1, a.2.2.2.1, a.2.2.2.2.1, a.2.2.2.2.2.1, a.2.2.2.2.2.2.1, a.2.2.2.2.2.2.2.1, a.2.2.2.2.2.2.2.2.1, a.2.2.2.2.2.2.2.2.2.1, a.2.2.2.2.2.2.2.2.2.2.1, a.2.2.2.2.2.2.2.2.2.2.2.1, a.2.2.2.2.2.2.2.2.2.2.2.2.1, a.2.2.2.2.2.2.2.2.2.2.2.2.2.1, a.2.2.2.2.2.2.2.2.2.2.2.2.2.2.1, a.2.2.2.2.2.2.2.2.2.2.2.2.2.2.2.1, a.2.2.2.2.2.2.2.2.2.2.2.2.2.2.2.2, e)
theorem rdOf_map (ps : List (List UInt8)) (i : Nat) : rdOf ByteArray.empty (ps.map B) (i : Int) = B (ps.getD i []) := by
 unfold rdOf
 rw [Int.toNat_natCast, List.getD_eq_getElem?_getD, List.getElem?_map, List.getD_eq_getElem?_getD]
 cases ps[i]? <;> rfl
def errL : Bool × Int × Int × Int × Int × Int × Int × Int × Int × Int × Int × Int × Int × Int × Int × Int × Int × Int := T18 zT 5
theorem or8 (a b : Nat) (h : b < 256) : a * 256 ||| b = a * 256 + b := by
 have := Nat.two_pow_add_eq_or_of_lt (i := 8) (b := b) (by omega) a
 rw [show (2 : Nat) ^ 8 = 256 from rfl, Nat.mul_comm 256 a] at this
 exact this.symm
theorem splitS_ne (c : UInt8) : ∀ l : List UInt8, splitS c l ≠ []
 | [] => by simp [splitS]
 | b :: l => by
  rw [splitS]
  split
  ·simp
  ·split <;> simp
theorem splitS_le (c : UInt8) : ∀ l : List UInt8, ∀ p ∈ splitS c l, p.length ≤ l.length
 | [], p, h => by simp [splitS] at h; simp [h]
 | b :: l, p, h => by
  rw [splitS] at h
  split at h
  ·rcases List.mem_cons.1 h with rfl | h
   ·simp
   ·have := splitS_le c l p h; simp; omega
  ·split at h
   ·rename_i he; exact absurd he (splitS_ne c l)
   ·rename_i q t he
    rcases List.mem_cons.1 h with rfl | h
    ·have := splitS_le c l q (by rw [he]; simp); simp; omega
    ·have := splitS_le c l p (by rw [he]; simp [h]); simp; omega
theorem wn1 (i : Nat) (h : i ≤ 1000000000) : wrap64 ((i : Int) + 1) = ((i + 1 : Nat) : Int) := wrap_nat (i + 1) rfl (by omega)
theorem wnsub (n : Nat) (h : 1 ≤ n) (h2 : n ≤ 1000000000) : wrap64 ((n : Int) - 1) = ((n - 1 : Nat) : Int) := wrap_nat (n - 1) (by omega) (by omega)
/-- A part's value, written strictly. -/
def strictV (p : List UInt8) : Option Nat := if p = [] ∨ (1 < p.length ∧ p.getD 0 0 = 48) then none else (numV 10 0 p).bind fun n => if n < 256 then some n else none
theorem number10 (limit : Nat) (hl : limit ≤ 4294967296) (h0 : 0 < limit) (s : List UInt8) (hs : s.length ≤ 1000000) (k : Nat) (hk : 2 * s.length + 1 ≤ k) : ip_number.f k (B s) 10 (limit : Int) = some (numP 10 limit s) := number_f 10 limit (by omega) hl h0 s hs k hk
theorem number16 (limit : Nat) (hl : limit ≤ 4294967296) (h0 : 0 < limit) (s : List UInt8) (hs : s.length ≤ 1000000) (k : Nat) (hk : 2 * s.length + 1 ≤ k) : ip_number.f k (B s) 16 (limit : Int) = some (numP 16 limit s) := number_f 16 limit (by omega) hl h0 s hs k hk
theorem four_step (ps : List (List UInt8)) (hn : ps.length = 4) (hs : ∀ p ∈ ps, p.length ≤ 1000000) (i : Nat) (hi : i < 4) (a b c d : Int) (k : Nat) (hk : 2000010 ≤ k) :
  ip_four.l0 (k + 1) (ps.map B) 4 (i : Int) a b c d = match strictV (ps.getD i []) with
   | some n => ip_four.l0 k (ps.map B) 4 ((i + 1 : Nat) : Int) (upd i 0 n a) (upd i 1 n b) (upd i 2 n c) (upd i 3 n d)
   | none => some (a, b, c, d, false) := by
 have hp : (ps.getD i []).length ≤ 1000000 := by
  rw [List.getD_eq_getElem?_getD, List.getElem?_eq_getElem (by omega), Option.getD_some]
  exact hs _ (List.getElem_mem (by omega))
 generalize hpp : ps.getD i [] = p at hp
 have hnum : ip_number.f k (B p) 10 256 = some (numP 10 256 p) := number10 256 (by decide) (by decide) p hp k (by omega)
 have hbad : numP 10 256 p = (0, false) → strictV p = none → ip_four.l0 (k + 1) (ps.map B) 4 (i : Int) a b c d = match strictV p with
   | some n => ip_four.l0 k (ps.map B) 4 ((i + 1 : Nat) : Int) (upd i 0 n a) (upd i 1 n b) (upd i 2 n c) (upd i 3 n d)
   | none => some (a, b, c, d, false) := by
  intro h1 h2
  rw [ip_four.l0, if_pos (by omega), if_pos (by omega), if_pos (by rw [List.length_map]; omega), rdOf_map, hpp, hnum, h1, Option.bind_some, h2]
  rfl
 by_cases hne : p = []
 ·exact hbad (by subst hne; rfl) (by unfold strictV; rw [if_pos (Or.inl hne)])
 ·cases hv : numV 10 0 p with
  | none => exact hbad (by unfold numP; rw [hv]) (by unfold strictV; rw [hv]; split <;> rfl)
  | some n =>
   by_cases g : n < 256
   ·have h1 : numP 10 256 p = ((n : Int), true) := by unfold numP; rw [hv]; exact if_pos ⟨hne, g⟩
    have hm : ((n : Int)) % 256 = (n : Int) := by omega
    rw [ip_four.l0, if_pos (by omega), if_pos (by omega), if_pos (by rw [List.length_map]; omega), rdOf_map, hpp, hnum, h1, Option.bind_some, wn1 i (by omega), size_B]
    dsimp only
    rw [if_pos rfl, hm]
    by_cases g1 : 1 < p.length
    ·have hb0 : bt (B p) 0 = ((p.getD 0 0).toNat : Int) := by rw [bt_B]; rfl
     rw [if_pos (by omega), if_pos (by omega), hb0]
     by_cases g2 : p.getD 0 0 = 48
     ·have h2 : strictV p = none := by unfold strictV; rw [if_pos (Or.inr ⟨g1, g2⟩)]
      rw [if_pos (by rw [g2]; rfl), h2]
     ·have h2 : strictV p = some n := by unfold strictV; rw [if_neg (by rintro (h | h); exact hne h; exact g2 h.2), hv, Option.bind_some, if_pos g]
      rw [if_neg (fun h => g2 (UInt8.toNat_inj.mp (by rw [show (48 : UInt8).toNat = 48 from rfl]; omega))), if_pos (by omega), h2]
    ·have h2 : strictV p = some n := by unfold strictV; rw [if_neg (by rintro (h | h); exact hne h; exact g1 h.1), hv, Option.bind_some, if_pos g]
     rw [if_neg (by omega), if_pos (by omega), h2]
   ·exact hbad (by unfold numP; rw [hv]; exact if_neg (fun h => g h.2)) (by unfold strictV; rw [hv, Option.bind_some, if_neg g]; split <;> rfl)
def fourP (ps : List (List UInt8)) : Option (Nat × Nat × Nat × Nat) := match ps with
 | [p, q, r, s] => (strictV p).bind fun a => (strictV q).bind fun b => (strictV r).bind fun c => (strictV s).bind fun d => some (a, b, c, d)
 | _ => none
def fourV (l : List UInt8) : Option (Nat × Nat × Nat × Nat) := fourP (splitS 46 l)
def fourIs (o : Option (Nat × Nat × Nat × Nat)) (r : Int × Int × Int × Int × Bool) : Prop := match o with
 | some (a, b, c, d) => r = ((a : Int), (b : Int), (c : Int), (d : Int), true)
 | none => r.2.2.2.2 = false
theorem four_f (l : List UInt8) (hl : l.length ≤ 1000000) (k : Nat) (hk : 2000100 ≤ k) : ∃ r, ip_four.f k (B l) = some r ∧ fourIs (fourV l) r := by
 obtain ⟨k, rfl⟩ : ∃ m, k = m + 5 := ⟨k - 5, by omega⟩
 rw [ip_four.f, split_f 46 (B l) (by rw [size_B]; omega), Option.bind_some, L_B, List.length_map]
 unfold fourV
 have hs : ∀ p ∈ splitS 46 l, p.length ≤ 1000000 := fun p hp => by have := splitS_le 46 l p hp; omega
 generalize splitS 46 l = ps at hs
 by_cases g : ps.length = 4
 ·rw [if_pos (by omega), g]
  have st := four_step ps g hs
  match ps, g, hs, st with
  | [p, q, r, s], g, hs, st =>
   rw [show ((4 : Nat) : Int) = 4 from rfl]
   have s0 := st 0 (by omega) 0 0 0 0 (k + 4) (by omega)
   have s1 := fun a b c d => st 1 (by omega) a b c d (k + 3) (by omega)
   have s2 := fun a b c d => st 2 (by omega) a b c d (k + 2) (by omega)
   have s3 := fun a b c d => st 3 (by omega) a b c d (k + 1) (by omega)
   rw [show (([p, q, r, s] : List (List UInt8)).getD 0 []) = p from rfl] at s0
   simp only [show (([p, q, r, s] : List (List UInt8)).getD 1 []) = q from rfl] at s1
   simp only [show (([p, q, r, s] : List (List UInt8)).getD 2 []) = r from rfl] at s2
   simp only [show (([p, q, r, s] : List (List UInt8)).getD 3 []) = s from rfl] at s3
   rw [show (0 : Int) = ((0 : Nat) : Int) from rfl] 
   refine (show ∃ r', ip_four.l0 (k + 4 + 1) (List.map B [p, q, r, s]) 4 ((0 : Nat) : Int) 0 0 0 0 = some r' ∧ fourIs (fourP [p, q, r, s]) r' from ?_)
   rw [s0, fourP]
   cases strictV p with
   | none => exact ⟨_, rfl, rfl⟩
   | some a =>
    refine (show ∃ r', ip_four.l0 (k + 3 + 1) (List.map B [p, q, r, s]) 4 ((1 : Nat) : Int) a 0 0 0 = some r' ∧ _ from ?_)
    rw [s1]
    cases strictV q with
    | none => exact ⟨_, rfl, rfl⟩
    | some b =>
     refine (show ∃ r', ip_four.l0 (k + 2 + 1) (List.map B [p, q, r, s]) 4 ((2 : Nat) : Int) a b 0 0 = some r' ∧ _ from ?_)
     rw [s2]
     cases strictV r with
     | none => exact ⟨_, rfl, rfl⟩
     | some c =>
      refine (show ∃ r', ip_four.l0 (k + 1 + 1) (List.map B [p, q, r, s]) 4 ((3 : Nat) : Int) a b c 0 = some r' ∧ _ from ?_)
      rw [s3]
      cases strictV s with
      | none => exact ⟨_, rfl, rfl⟩
      | some d =>
       refine ⟨((a : Int), (b : Int), (c : Int), (d : Int), true), ?_, rfl⟩
       show ip_four.l0 (k + 1) (List.map B [p, q, r, s]) 4 ((4 : Nat) : Int) a b c d = _
       rw [ip_four.l0, if_neg (by decide)]
 ·rw [if_neg (by omega)]
  refine ⟨_, rfl, ?_⟩
  have : fourP ps = none := by
   unfold fourP
   split
   ·simp at g
   ·rfl
  rw [this]
  rfl
/-- Groups, as bytes. -/
def groupsP (tail : Bool) : List (List UInt8) → List Int → Option (List Int)
 | [], acc => some acc
 | q :: rest, acc => match (if tail = true ∧ rest = [] then fourV q else none) with
  | some (a, b, c, d) => some (acc ++ [(a : Int), (b : Int), (c : Int), (d : Int)])
  | none => match numV 16 0 q with
   | some n => if q ≠ [] ∧ n < 65536 ∧ q.length ≤ 4 then groupsP tail rest (acc ++ [((n / 256 : Nat) : Int), ((n % 256 : Nat) : Int)]) else none
   | none => none
def groupsV (tail : Bool) (l : List UInt8) : Option (List Int) := if l = [] then some [] else groupsP tail (splitS 58 l) []
def groupsR : Option (List Int) → List Int × Bool
 | some r => (r, true)
 | none => ([], false)
theorem groups_j1 (ps : List (List UInt8)) (tail : Bool) (acc : List Int) (q : List UInt8) (hq : q.length ≤ 1000000) (i : Nat) (hi : i < ps.length) (hn : ps.length ≤ 1000000) (ha : acc.length ≤ 2 * i) (a b c d : Int) (k : Nat) (hk : 2000010 ≤ k) :
  ip_groups.j1 (k + 1) tail acc (ps.map B) (B q) (ps.map B) (ps.length : Int) (i : Int) false a b c d = match numV 16 0 q with
   | some n => if q ≠ [] ∧ n < 65536 ∧ q.length ≤ 4 then ip_groups.l0 k tail (acc ++ [((n / 256 : Nat) : Int), ((n % 256 : Nat) : Int)]) (ps.map B) (ps.map B) (ps.length : Int) ((i + 1 : Nat) : Int) else some ([], false)
   | none => some ([], false) := by
 have hnum : ip_number.f k (B q) 16 65536 = some (numP 16 65536 q) := number16 65536 (by decide) (by decide) q hq k (by omega)
 rw [ip_groups.j1, if_neg (by simp), hnum, Option.bind_some, size_B, wn1 i (by omega)]
 cases hv : numV 16 0 q with
 | none =>
  have h1 : numP 16 65536 q = (0, false) := by unfold numP; rw [hv]
  rw [h1]
  rfl
 | some n =>
  dsimp only
  by_cases g : q ≠ [] ∧ n < 65536
  ·have h1 : numP 16 65536 q = ((n : Int), true) := by unfold numP; rw [hv]; exact if_pos g
   rw [h1]
   dsimp only
   rw [if_pos rfl]
   by_cases g2 : q.length ≤ 4
   ·have e1 : (n : Int) / 256 % 256 = ((n / 256 : Nat) : Int) := by omega
    have e2 : (n : Int) % 256 = ((n % 256 : Nat) : Int) := by omega
    rw [if_neg (by omega), if_pos ⟨g.1, g.2, g2⟩, Option.bind_some, e1, e2, if_pos (by simp; omega)]
   ·rw [if_pos (by omega), if_neg (fun h => g2 h.2.2)]
  ·have h1 : numP 16 65536 q = (0, false) := by unfold numP; rw [hv]; exact if_neg g
   rw [h1, if_neg (show ¬ (q ≠ [] ∧ n < 65536 ∧ q.length ≤ 4) from fun h => g ⟨h.1, h.2.1⟩)]
   rfl
theorem groups_loop (ps : List (List UInt8)) (tail : Bool) (hs : ∀ p ∈ ps, p.length ≤ 1000000) (hn : ps.length ≤ 1000000) : ∀ (t : List (List UInt8)) (i : Nat) (acc : List Int) (k : Nat), ps.drop i = t → i ≤ ps.length → acc.length ≤ 2 * i → 2000200 + 2 * t.length ≤ k →
  ip_groups.l0 k tail acc (ps.map B) (ps.map B) (ps.length : Int) (i : Int) = some (groupsR (groupsP tail t acc))
 | [], i, acc, k, hd, hi, ha, hk => by
  obtain ⟨k, rfl⟩ : ∃ m, k = m + 1 := ⟨k - 1, by simp at hk; omega⟩
  have : ps.length ≤ i := List.drop_eq_nil_iff.1 hd
  rw [ip_groups.l0, if_neg (by omega)]
  rfl
 | q :: t, i, acc, k, hd, hi, ha, hk => by
  obtain ⟨k, rfl⟩ : ∃ m, k = m + 2 := ⟨k - 2, by simp at hk; omega⟩
  simp only [List.length_cons] at hk
  have hlt : i < ps.length := by
   rcases Nat.lt_or_ge i ps.length with h | h
   ·exact h
   ·rw [List.drop_eq_nil_of_le h] at hd; cases hd
  have hlen : (q :: t).length = ps.length - i := by rw [← hd, List.length_drop]
  simp only [List.length_cons] at hlen
  rw [List.drop_eq_getElem_cons hlt] at hd
  injection hd with h1 h2
  have hg : ps.getD i [] = q := by rw [List.getD_eq_getElem?_getD, List.getElem?_eq_getElem hlt, Option.getD_some, h1]
  have hq : q.length ≤ 1000000 := hs q (h1 ▸ List.getElem_mem hlt)
  obtain ⟨r, hr, hfi⟩ := four_f q hq (k + 1) (by omega)
  have hj1 := fun a b c d => groups_j1 ps tail acc q hq i hlt hn ha a b c d k (by omega)
  have hrest : ∀ n : Nat, ip_groups.l0 k tail (acc ++ [((n / 256 : Nat) : Int), ((n % 256 : Nat) : Int)]) (ps.map B) (ps.map B) (ps.length : Int) ((i + 1 : Nat) : Int) = some (groupsR (groupsP tail t (acc ++ [((n / 256 : Nat) : Int), ((n % 256 : Nat) : Int)]))) := fun n =>
   groups_loop ps tail hs hn t (i + 1) _ k h2 (by omega) (by simp; omega) (by omega)
  have hnon : ∀ a b c d, (match (if tail = true ∧ t = [] then fourV q else none) with | some _ => False | none => True) → ip_groups.j1 (k + 1) tail acc (ps.map B) (B q) (ps.map B) (ps.length : Int) (i : Int) false a b c d = some (groupsR (groupsP tail (q :: t) acc)) := by
   intro a b c d h
   rw [hj1, groupsP]
   cases hf : (if tail = true ∧ t = [] then fourV q else none) with
   | some x => rw [hf] at h; exact h.elim
   | none =>
    dsimp only
    cases numV 16 0 q with
    | none => rfl
    | some n =>
     dsimp only
     by_cases g : q ≠ [] ∧ n < 65536 ∧ q.length ≤ 4
     ·rw [if_pos g, if_pos g]; exact hrest n
     ·rw [if_neg g, if_neg g]; rfl
  rw [ip_groups.l0, if_pos (by omega), if_pos (by omega), if_pos (by rw [List.length_map]; omega), rdOf_map, hg, hr, Option.bind_some, List.length_map, wnsub ps.length (by omega) (by omega)]
  cases hfv : fourV q with
  | none =>
   rw [hfv] at hfi hnon
   have hfi' : r.2.2.2.2 = false := hfi
   rw [hfi', if_neg (by simp)]
   exact hnon _ _ _ _ (by split <;> simp_all)
  | some x =>
   obtain ⟨a, b, c, d⟩ := x
   rw [hfv] at hfi hnon
   obtain rfl : r = ((a : Int), (b : Int), (c : Int), (d : Int), true) := hfi
   rw [if_pos rfl]
   cases tail with
   | false =>
    rw [if_neg (by simp)]
    exact hnon _ _ _ _ (by simp)
   | true =>
    rw [if_pos rfl]
    by_cases ht : t = []
    ·subst ht
     simp only [List.length_nil] at hlen
     rw [show ((i : Int) == ((ps.length - 1 : Nat) : Int)) = true from beq_iff_eq.2 (by omega), ip_groups.j1, if_pos rfl, if_pos (by simp; omega), groupsP, hfv]
     rfl
    ·have hpos := List.length_pos_iff.2 ht
     rw [show ((i : Int) == ((ps.length - 1 : Nat) : Int)) = false from beq_false_of_ne (by omega)]
     exact hnon _ _ _ _ (by simp [ht])
theorem splitS_len (c : UInt8) : ∀ l : List UInt8, (splitS c l).length ≤ l.length + 1
 | [] => by simp [splitS]
 | b :: l => by
  have := splitS_len c l
  rw [splitS]
  split
  ·simp; omega
  ·split
   ·simp
   ·rename_i h t he
    rw [he] at this
    simp at this ⊢
    omega
theorem groups_f (l : List UInt8) (tail : Bool) (hl : l.length ≤ 900000) (k : Nat) (hk : 5000000 ≤ k) : ip_groups.f k (B l) tail = some (groupsR (groupsV tail l)) := by
 rw [ip_groups.f, toList_L, L_B]
 unfold groupsV
 by_cases h : l = []
 ·rw [if_pos h, if_pos h]; rfl
 ·have hle := splitS_len 58 l
  rw [if_neg h, if_neg h, split_f 58 (B l) (by rw [size_B]; omega), Option.bind_some, L_B, List.length_map]
  exact groups_loop _ tail (fun p hp => by have := splitS_le 58 l p hp; omega) (by omega) _ 0 [] k rfl (by omega) (by simp) (by omega)
abbrev Tup16 := Int × Int × Int × Int × Int × Int × Int × Int × Int × Int × Int × Int × Int × Int × Int × Int × Bool
def z16 : Tup16 := (0, 0, 0, 0, 0, 0, 0, 0, 0, 0, 0, 0, 0, 0, 0, 0, false)
def sixT (a b : List Int) : Tup16 := (cpy ((16 - b.length : Nat) : Int) 16 0 b (cpy 0 16 0 a 0), cpy ((16 - b.length : Nat) : Int) 16 1 b (cpy 0 16 1 a 0), cpy ((16 - b.length : Nat) : Int) 16 2 b (cpy 0 16 2 a 0), cpy ((16 - b.length : Nat) : Int) 16 3 b (cpy 0 16 3 a 0), cpy ((16 - b.length : Nat) : Int) 16 4 b (cpy 0 16 4 a 0), cpy ((16 - b.length : Nat) : Int) 16 5 b (cpy 0 16 5 a 0), cpy ((16 - b.length : Nat) : Int) 16 6 b (cpy 0 16 6 a 0), cpy ((16 - b.length : Nat) : Int) 16 7 b (cpy 0 16 7 a 0), cpy ((16 - b.length : Nat) : Int) 16 8 b (cpy 0 16 8 a 0), cpy ((16 - b.length : Nat) : Int) 16 9 b (cpy 0 16 9 a 0), cpy ((16 - b.length : Nat) : Int) 16 10 b (cpy 0 16 10 a 0), cpy ((16 - b.length : Nat) : Int) 16 11 b (cpy 0 16 11 a 0), cpy ((16 - b.length : Nat) : Int) 16 12 b (cpy 0 16 12 a 0), cpy ((16 - b.length : Nat) : Int) 16 13 b (cpy 0 16 13 a 0), cpy ((16 - b.length : Nat) : Int) 16 14 b (cpy 0 16 14 a 0), cpy ((16 - b.length : Nat) : Int) 16 15 b (cpy 0 16 15 a 0), true)
/-- Sixteen bytes: those ahead of the gap, and those behind it. -/
def sixV (l : List UInt8) : Option (List Int × List Int) := match groupsV (!(Lib.cut l [58, 58]).2.2) (Lib.cut l [58, 58]).1, groupsV true (Lib.cut l [58, 58]).2.1 with
 | some a, some b => if (Lib.cut l [58, 58]).2.2 = true then (if a.length + b.length ≤ 16 then some (a, b) else none) else (if a.length = 16 then some (a, b) else none)
 | _, _ => none
def sixR : Option (List Int × List Int) → Tup16
 | some (a, b) => sixT a b
 | none => z16
theorem cut_len (l s : List UInt8) : (Lib.cut l s).1.length ≤ l.length ∧ (Lib.cut l s).2.1.length ≤ l.length ∧ ((Lib.cut l s).2.2 = false → (Lib.cut l s).2.1 = []) := by
 unfold Lib.cut
 split
 ·refine ⟨?_, ?_, fun h => by cases h⟩
  ·simp [List.length_take]; omega
  ·simp [List.length_drop]
 ·exact ⟨Nat.le_refl _, by simp, fun _ => rfl⟩
theorem wadd (a b : Nat) (ha : a ≤ 100000000) (hb : b ≤ 100000000) : wrap64 ((a : Int) + (b : Int)) = ((a + b : Nat) : Int) := wrap_nat (a + b) (by omega) (by omega)
theorem wsub16 (b : Nat) (hb : b ≤ 16) : wrap64 (16 - (b : Int)) = ((16 - b : Nat) : Int) := wrap_nat (16 - b) (by omega) (by omega)
theorem groupsP_len (tail : Bool) : ∀ (t : List (List UInt8)) (acc r : List Int), groupsP tail t acc = some r → r.length ≤ acc.length + 4 * t.length
 | [], acc, r, h => by rw [groupsP] at h; obtain rfl := Option.some.inj h; simp
 | q :: t, acc, r, h => by
  rw [groupsP] at h
  split at h
  ·obtain rfl := Option.some.inj h; simp; omega
  ·split at h
   ·split at h
    ·have := groupsP_len tail t _ r h; simp at this ⊢; omega
    ·cases h
   ·cases h
theorem groupsV_len (tail : Bool) (l : List UInt8) (r : List Int) (h : groupsV tail l = some r) : r.length ≤ 4 * l.length + 4 := by
 unfold groupsV at h
 split at h
 ·obtain rfl := Option.some.inj h; simp
 ·have := groupsP_len tail _ _ r h
  have := splitS_len 58 l
  simp at *; omega
theorem six_f (l : List UInt8) (hl : l.length ≤ 900000) (k : Nat) (hk : 5000000 ≤ k) : ip_six.f k (B l) = some (sixR (sixV l)) := by
 obtain ⟨h1, h2, h3⟩ := cut_len l [58, 58]
 have hc : strings_Cut.f (B l) (⟨#[58, 58]⟩ : ByteArray) = some (B (Lib.cut l [58, 58]).1, B (Lib.cut l [58, 58]).2.1, (Lib.cut l [58, 58]).2.2) := by
  unfold strings_Cut.f cutOf
  rw [if_pos (by rw [size_B]; omega), show (B l).data.toList = l from L_B l]
  rfl
 unfold sixV
 generalize (Lib.cut l [58, 58]).1 = h at *
 generalize (Lib.cut l [58, 58]).2.1 = t at *
 generalize (Lib.cut l [58, 58]).2.2 = f at *
 have hg1 := groups_f h (!f) (by omega) k hk
 have hg2 := groups_f t true (by omega) k hk
 have hl1 := groupsV_len (!f) h
 have hl2 := groupsV_len true t
 rw [ip_six.f, hc, Option.bind_some, hg1, Option.bind_some, hg2, Option.bind_some]
 cases ha : groupsV (!f) h with
 | none =>
  show (if (false : Bool) = true then _ else some z16) = _
  rw [if_neg (by simp)]
  rfl
 | some a =>
  cases hb : groupsV true t with
  | none =>
   show (if (true : Bool) = true then (if (false : Bool) = true then _ else some z16) else _) = _
   rw [if_pos rfl, if_neg (by simp)]
   rfl
  | some b =>
   have la := hl1 a ha
   have lb := hl2 b hb
   rw [show groupsR (some a) = (a, true) from rfl, show groupsR (some b) = (b, true) from rfl]
   dsimp only
   rw [if_pos rfl, if_pos rfl]
   cases f with
   | true =>
    rw [if_pos rfl, if_pos rfl, wadd a.length b.length (by omega) (by omega)]
    by_cases g : a.length + b.length ≤ 16
    ·rw [if_neg (by omega), if_pos g, wsub16 b.length (by omega), if_pos (by omega), if_pos (by omega)]
     rfl
    ·rw [if_pos (by omega), if_neg g]
     rfl
   | false =>
    obtain rfl := h3 rfl
    have hb0 : b = [] := by
     have : groupsV true [] = some [] := rfl
     rw [this] at hb
     exact (Option.some.inj hb).symm
    subst hb0
    have hft : ¬ (false = true) := by decide
    rw [if_neg hft, if_neg hft]
    by_cases g : a.length = 16
    ·rw [if_pos (by omega), if_pos g, show (([] : List Int).length : Int) = ((0 : Nat) : Int) from rfl, wsub16 0 (by decide), if_pos (by decide), if_pos (by decide)]
     rfl
    ·rw [if_neg (by omega), if_neg g]
     rfl
/-- Sixteen bytes as an address of IPv6. -/
def V6T (s : Tup16) : Tup := (true, s.1, s.2.1, s.2.2.1, s.2.2.2.1, s.2.2.2.2.1, s.2.2.2.2.2.1, s.2.2.2.2.2.2.1, s.2.2.2.2.2.2.2.1, s.2.2.2.2.2.2.2.2.1, s.2.2.2.2.2.2.2.2.2.1, s.2.2.2.2.2.2.2.2.2.2.1, s.2.2.2.2.2.2.2.2.2.2.2.1, s.2.2.2.2.2.2.2.2.2.2.2.2.1, s.2.2.2.2.2.2.2.2.2.2.2.2.2.1, s.2.2.2.2.2.2.2.2.2.2.2.2.2.2.1, s.2.2.2.2.2.2.2.2.2.2.2.2.2.2.2.1)
def parseV (l : List UInt8) : Option Tup := if 64 < l.length then none else match fourV l with
 | some (a, b, c, d) => some (V4T a b c d)
 | none => match sixV l with
  | some (a, b) => if Lib.contains l [58] = true then some (V6T (sixT a b)) else none
  | none => none
def parseR : Option Tup → Bool × Int × Int × Int × Int × Int × Int × Int × Int × Int × Int × Int × Int × Int × Int × Int × Int × Int
 | some a => T18 a 0
 | none => errL
theorem Parse_f (l : List UInt8) (hl : l.length ≤ 900000) (k : Nat) (hk : 5000000 ≤ k) : ip_Parse.f k (B l) = some (parseR (parseV l)) := by
 rw [ip_Parse.f, size_B]
 unfold parseV
 by_cases h : 64 < l.length
 ·rw [if_pos (by omega), if_pos h]; rfl
 ·rw [if_neg (by omega), if_neg h]
  obtain ⟨r, hr, hf⟩ := four_f l (by omega) k (by omega)
  rw [hr, Option.bind_some]
  cases hv : fourV l with
  | some x =>
   obtain ⟨a, b, c, d⟩ := x
   rw [hv] at hf
   obtain rfl : r = ((a : Int), (b : Int), (c : Int), (d : Int), true) := hf
   rw [if_pos rfl]
   rfl
  | none =>
   rw [hv] at hf
   have hf' : r.2.2.2.2 = false := hf
   rw [hf', if_neg (by simp), six_f l hl k hk, Option.bind_some]
   cases sixV l with
   | none =>
    show (if (false : Bool) = true then _ else some errL) = _
    rw [if_neg (by simp)]
    rfl
   | some x =>
    obtain ⟨a, b⟩ := x
    have hc : strings_Contains.f (B l) (⟨#[58]⟩ : ByteArray) = some (Lib.contains l [58]) := by
     unfold strings_Contains.f
     rw [if_pos (by rw [size_B]; omega), show (B l).data.toList = l from L_B l]
    show (if (true : Bool) = true then _ else some errL) = _
    rw [if_pos rfl, hc, Option.bind_some]
    dsimp only
    by_cases g : Lib.contains l [58] = true
    ·rw [if_pos g, if_pos g]; rfl
    ·rw [if_neg g, if_neg g]; rfl
/-- A digit's sign. -/
def dc (d : Nat) : UInt8 := ([48, 49, 50, 51, 52, 53, 54, 55, 56, 57, 97, 98, 99, 100, 101, 102] : List UInt8).getD d 0
theorem dc_facts : ∀ d : Fin 16, D (dc d.val) = some d.val ∧ dc d.val ≠ 46 ∧ dc d.val ≠ 120 ∧ dc d.val ≠ 88 ∧ (dc d.val = 48 → d.val = 0) := by decide
/-- A number's digits. -/
def digL (base n : Nat) : List UInt8 := if h : n < base ∨ base < 2 then [dc (n % base)] else digL base (n / base) ++ [dc (n % base)]
termination_by n
decreasing_by exact Nat.div_lt_self (by omega) (by omega)
theorem numV_app (base : Nat) (c : UInt8) : ∀ (l : List UInt8) (acc : Nat), numV base acc (l ++ [c]) = (numV base acc l).bind fun n => numV base n [c]
 | [], acc => rfl
 | x :: l, acc => by
  rw [List.cons_append, numV, numV]
  cases D x with
  | none => rfl
  | some d =>
   dsimp only
   split
   ·exact numV_app base c l _
   ·rfl
theorem numV_one (base acc d : Nat) (hd : d < base) (hb : base ≤ 16) : numV base acc [dc d] = some (acc * base + d) := by
 have := (dc_facts ⟨d, by omega⟩).1
 dsimp only at this
 rw [numV, this]
 dsimp only
 rw [if_pos hd]
 rfl
theorem digL_num (base : Nat) (hb : 2 ≤ base ∧ base ≤ 16) (n : Nat) : numV base 0 (digL base n) = some n := by
 induction n using Nat.strongRecOn with
 | _ n ih =>
  rw [digL]
  have hm := Nat.mod_lt n (show 0 < base by omega)
  split
  ·rename_i h
   rw [numV_one base 0 _ hm hb.2, Nat.mod_eq_of_lt (by omega), Nat.zero_mul, Nat.zero_add]
  ·rename_i h
   rw [numV_app, ih _ (Nat.div_lt_self (by omega) (by omega)), Option.bind_some, numV_one base _ _ hm hb.2, Nat.div_add_mod']
theorem digL_mem (base : Nat) (hb : 2 ≤ base ∧ base ≤ 16) (n : Nat) : ∀ c ∈ digL base n, ∃ d, d < 16 ∧ c = dc d := by
 induction n using Nat.strongRecOn with
 | _ n ih =>
  rw [digL]
  have hm := Nat.mod_lt n (show 0 < base by omega)
  split
  ·intro c hc; exact ⟨n % base, by omega, by simpa using hc⟩
  ·intro c hc
   rcases List.mem_append.1 hc with h | h
   ·exact ih _ (Nat.div_lt_self (by omega) (by omega)) c h
   ·exact ⟨n % base, by omega, by simpa using h⟩
theorem digL_head (base : Nat) (hb : 2 ≤ base ∧ base ≤ 16) (n : Nat) (h0 : 0 < n) : ∃ d t, digL base n = dc d :: t ∧ 0 < d ∧ d < 16 := by
 induction n using Nat.strongRecOn with
 | _ n ih =>
  rw [digL]
  have hm := Nat.mod_lt n (show 0 < base by omega)
  split
  ·rename_i h
   have : n < base := by omega
   exact ⟨n % base, [], rfl, by rw [Nat.mod_eq_of_lt this]; exact h0, by omega⟩
  ·rename_i h
   obtain ⟨d, t, e, h1, h2⟩ := ih (n / base) (Nat.div_lt_self (by omega) (by omega)) (Nat.div_pos (by omega) (by omega))
   rw [e]
   exact ⟨d, t ++ [dc (n % base)], rfl, h1, h2⟩
theorem digL_len (base : Nat) (hb : 2 ≤ base ∧ base ≤ 16) (n : Nat) : ∀ m, n < 2 ^ m → (digL base n).length ≤ m + 1 := by
 induction n using Nat.strongRecOn with
 | _ n ih =>
  intro m hm
  rw [digL]
  split
  ·simp
  ·rename_i h
   cases m with
   | zero => simp at hm; omega
   | succ m =>
    have h2 : n / base ≤ n / 2 := Nat.div_le_div_left hb.1 (by omega)
    have := ih (n / base) (Nat.div_lt_self (by omega) (by omega)) m (by rw [Nat.pow_succ] at hm; omega)
    simp; omega
theorem tmn (n b : Nat) : Int.tmod (n : Int) (b : Int) = ((n % b : Nat) : Int) := by
 rw [Int.tmod_eq_emod_of_nonneg (Int.natCast_nonneg n)]; exact (Int.natCast_emod n b).symm
theorem tdn (n b : Nat) : Int.tdiv (n : Int) (b : Int) = ((n / b : Nat) : Int) := by
 rw [Int.tdiv_eq_ediv_of_nonneg (Int.natCast_nonneg n)]; exact (Int.natCast_ediv n b).symm
def hexB16 : List UInt8 := [48, 49, 50, 51, 52, 53, 54, 55, 56, 57, 97, 98, 99, 100, 101, 102]
theorem hex_cut : ∀ d : Fin 16, (hexB16.take (d.val + 1)).drop d.val = [dc d.val] := by decide
/-- A text that splits into its parts. -/
theorem splitS_word (c : UInt8) : ∀ w : List UInt8, (∀ b ∈ w, b ≠ c) → splitS c w = [w]
 | [], _ => rfl
 | b :: w, h => by rw [splitS, if_neg (h b (by simp)), splitS_word c w fun x hx => h x (by simp [hx])]
theorem splitS_dot (c : UInt8) (t : List UInt8) : ∀ w : List UInt8, (∀ b ∈ w, b ≠ c) → splitS c (w ++ c :: t) = w :: splitS c t
 | [], _ => by rw [List.nil_append, splitS, if_pos rfl]
 | b :: w, h => by rw [List.cons_append, splitS, if_neg (h b (by simp)), splitS_dot c t w fun x hx => h x (by simp [hx])]
theorem wl0 : wrap64 (0 + 1) = 1 := by rw [wrap_id (by decide) (by decide)]; rfl
theorem wl1 : wrap64 (1 + 1) = 2 := by rw [wrap_id (by decide) (by decide)]; rfl
theorem wl2 : wrap64 (2 + 1) = 3 := by rw [wrap_id (by decide) (by decide)]; rfl
theorem wl3 : wrap64 (3 + 1) = 4 := by rw [wrap_id (by decide) (by decide)]; rfl
theorem wl4 : wrap64 (4 + 1) = 5 := by rw [wrap_id (by decide) (by decide)]; rfl
theorem wl5 : wrap64 (5 + 1) = 6 := by rw [wrap_id (by decide) (by decide)]; rfl
theorem wl6 : wrap64 (6 + 1) = 7 := by rw [wrap_id (by decide) (by decide)]; rfl
theorem wl7 : wrap64 (7 + 1) = 8 := by rw [wrap_id (by decide) (by decide)]; rfl
theorem wl8 : wrap64 (8 + 1) = 9 := by rw [wrap_id (by decide) (by decide)]; rfl
theorem wl9 : wrap64 (9 + 1) = 10 := by rw [wrap_id (by decide) (by decide)]; rfl
theorem wl10 : wrap64 (10 + 1) = 11 := by rw [wrap_id (by decide) (by decide)]; rfl
theorem wl11 : wrap64 (11 + 1) = 12 := by rw [wrap_id (by decide) (by decide)]; rfl
theorem ite_b (x c : Int) (r : Bool) : (if x = c then some r else some false) = some ((x == c) && r) := by
 by_cases h : x = c
 ·subst h; simp
 ·rw [if_neg h, beq_eq_false_iff_ne.mpr h]; rfl
def mapB (b1 b2 b3 b4 b5 b6 b7 b8 b9 b10 b11 b12 : Int) : Bool := ((b1 == 0) && ((b2 == 0) && ((b3 == 0) && ((b4 == 0) && ((b5 == 0) && ((b6 == 0) && ((b7 == 0) && ((b8 == 0) && ((b9 == 0) && ((b10 == 0) && ((b11 == 255) && (b12 == 255))))))))))))
theorem rm0 (k : Nat) (b : Bool) (b1 b2 b3 b4 b5 b6 b7 b8 b9 b10 b11 b12 b13 b14 b15 b16 : Int) : lanternref05_Mapped.l0 (k + 1) 0 b b1 b2 b3 b4 b5 b6 b7 b8 b9 b10 b11 b12 b13 b14 b15 b16 = if b1 = 0 then lanternref05_Mapped.l0 k 1 b b1 b2 b3 b4 b5 b6 b7 b8 b9 b10 b11 b12 b13 b14 b15 b16 else some false := by
 rw [lanternref05_Mapped.l0, if_pos (by decide), if_pos (by decide), if_pos (by decide), if_pos (by decide), wl0, if_neg (by decide : ¬ ((0 : Int) ≥ 10))]
 rfl
theorem rm1 (k : Nat) (b : Bool) (b1 b2 b3 b4 b5 b6 b7 b8 b9 b10 b11 b12 b13 b14 b15 b16 : Int) : lanternref05_Mapped.l0 (k + 1) 1 b b1 b2 b3 b4 b5 b6 b7 b8 b9 b10 b11 b12 b13 b14 b15 b16 = if b2 = 0 then lanternref05_Mapped.l0 k 2 b b1 b2 b3 b4 b5 b6 b7 b8 b9 b10 b11 b12 b13 b14 b15 b16 else some false := by
 rw [lanternref05_Mapped.l0, if_pos (by decide), if_pos (by decide), if_pos (by decide), if_pos (by decide), wl1, if_neg (by decide : ¬ ((1 : Int) ≥ 10))]
 rfl
theorem rm2 (k : Nat) (b : Bool) (b1 b2 b3 b4 b5 b6 b7 b8 b9 b10 b11 b12 b13 b14 b15 b16 : Int) : lanternref05_Mapped.l0 (k + 1) 2 b b1 b2 b3 b4 b5 b6 b7 b8 b9 b10 b11 b12 b13 b14 b15 b16 = if b3 = 0 then lanternref05_Mapped.l0 k 3 b b1 b2 b3 b4 b5 b6 b7 b8 b9 b10 b11 b12 b13 b14 b15 b16 else some false := by
 rw [lanternref05_Mapped.l0, if_pos (by decide), if_pos (by decide), if_pos (by decide), if_pos (by decide), wl2, if_neg (by decide : ¬ ((2 : Int) ≥ 10))]
 rfl
theorem rm3 (k : Nat) (b : Bool) (b1 b2 b3 b4 b5 b6 b7 b8 b9 b10 b11 b12 b13 b14 b15 b16 : Int) : lanternref05_Mapped.l0 (k + 1) 3 b b1 b2 b3 b4 b5 b6 b7 b8 b9 b10 b11 b12 b13 b14 b15 b16 = if b4 = 0 then lanternref05_Mapped.l0 k 4 b b1 b2 b3 b4 b5 b6 b7 b8 b9 b10 b11 b12 b13 b14 b15 b16 else some false := by
 rw [lanternref05_Mapped.l0, if_pos (by decide), if_pos (by decide), if_pos (by decide), if_pos (by decide), wl3, if_neg (by decide : ¬ ((3 : Int) ≥ 10))]
 rfl
theorem rm4 (k : Nat) (b : Bool) (b1 b2 b3 b4 b5 b6 b7 b8 b9 b10 b11 b12 b13 b14 b15 b16 : Int) : lanternref05_Mapped.l0 (k + 1) 4 b b1 b2 b3 b4 b5 b6 b7 b8 b9 b10 b11 b12 b13 b14 b15 b16 = if b5 = 0 then lanternref05_Mapped.l0 k 5 b b1 b2 b3 b4 b5 b6 b7 b8 b9 b10 b11 b12 b13 b14 b15 b16 else some false := by
 rw [lanternref05_Mapped.l0, if_pos (by decide), if_pos (by decide), if_pos (by decide), if_pos (by decide), wl4, if_neg (by decide : ¬ ((4 : Int) ≥ 10))]
 rfl
theorem rm5 (k : Nat) (b : Bool) (b1 b2 b3 b4 b5 b6 b7 b8 b9 b10 b11 b12 b13 b14 b15 b16 : Int) : lanternref05_Mapped.l0 (k + 1) 5 b b1 b2 b3 b4 b5 b6 b7 b8 b9 b10 b11 b12 b13 b14 b15 b16 = if b6 = 0 then lanternref05_Mapped.l0 k 6 b b1 b2 b3 b4 b5 b6 b7 b8 b9 b10 b11 b12 b13 b14 b15 b16 else some false := by
 rw [lanternref05_Mapped.l0, if_pos (by decide), if_pos (by decide), if_pos (by decide), if_pos (by decide), wl5, if_neg (by decide : ¬ ((5 : Int) ≥ 10))]
 rfl
theorem rm6 (k : Nat) (b : Bool) (b1 b2 b3 b4 b5 b6 b7 b8 b9 b10 b11 b12 b13 b14 b15 b16 : Int) : lanternref05_Mapped.l0 (k + 1) 6 b b1 b2 b3 b4 b5 b6 b7 b8 b9 b10 b11 b12 b13 b14 b15 b16 = if b7 = 0 then lanternref05_Mapped.l0 k 7 b b1 b2 b3 b4 b5 b6 b7 b8 b9 b10 b11 b12 b13 b14 b15 b16 else some false := by
 rw [lanternref05_Mapped.l0, if_pos (by decide), if_pos (by decide), if_pos (by decide), if_pos (by decide), wl6, if_neg (by decide : ¬ ((6 : Int) ≥ 10))]
 rfl
theorem rm7 (k : Nat) (b : Bool) (b1 b2 b3 b4 b5 b6 b7 b8 b9 b10 b11 b12 b13 b14 b15 b16 : Int) : lanternref05_Mapped.l0 (k + 1) 7 b b1 b2 b3 b4 b5 b6 b7 b8 b9 b10 b11 b12 b13 b14 b15 b16 = if b8 = 0 then lanternref05_Mapped.l0 k 8 b b1 b2 b3 b4 b5 b6 b7 b8 b9 b10 b11 b12 b13 b14 b15 b16 else some false := by
 rw [lanternref05_Mapped.l0, if_pos (by decide), if_pos (by decide), if_pos (by decide), if_pos (by decide), wl7, if_neg (by decide : ¬ ((7 : Int) ≥ 10))]
 rfl
theorem rm8 (k : Nat) (b : Bool) (b1 b2 b3 b4 b5 b6 b7 b8 b9 b10 b11 b12 b13 b14 b15 b16 : Int) : lanternref05_Mapped.l0 (k + 1) 8 b b1 b2 b3 b4 b5 b6 b7 b8 b9 b10 b11 b12 b13 b14 b15 b16 = if b9 = 0 then lanternref05_Mapped.l0 k 9 b b1 b2 b3 b4 b5 b6 b7 b8 b9 b10 b11 b12 b13 b14 b15 b16 else some false := by
 rw [lanternref05_Mapped.l0, if_pos (by decide), if_pos (by decide), if_pos (by decide), if_pos (by decide), wl8, if_neg (by decide : ¬ ((8 : Int) ≥ 10))]
 rfl
theorem rm9 (k : Nat) (b : Bool) (b1 b2 b3 b4 b5 b6 b7 b8 b9 b10 b11 b12 b13 b14 b15 b16 : Int) : lanternref05_Mapped.l0 (k + 1) 9 b b1 b2 b3 b4 b5 b6 b7 b8 b9 b10 b11 b12 b13 b14 b15 b16 = if b10 = 0 then lanternref05_Mapped.l0 k 10 b b1 b2 b3 b4 b5 b6 b7 b8 b9 b10 b11 b12 b13 b14 b15 b16 else some false := by
 rw [lanternref05_Mapped.l0, if_pos (by decide), if_pos (by decide), if_pos (by decide), if_pos (by decide), wl9, if_neg (by decide : ¬ ((9 : Int) ≥ 10))]
 rfl
theorem rm10 (k : Nat) (b : Bool) (b1 b2 b3 b4 b5 b6 b7 b8 b9 b10 b11 b12 b13 b14 b15 b16 : Int) : lanternref05_Mapped.l0 (k + 1) 10 b b1 b2 b3 b4 b5 b6 b7 b8 b9 b10 b11 b12 b13 b14 b15 b16 = if b11 = 255 then lanternref05_Mapped.l0 k 11 b b1 b2 b3 b4 b5 b6 b7 b8 b9 b10 b11 b12 b13 b14 b15 b16 else some false := by
 rw [lanternref05_Mapped.l0, if_pos (by decide), if_neg (by decide), if_pos (by decide), if_pos (by decide), wl10, if_pos (by decide)]
 rfl
theorem rm11 (k : Nat) (b : Bool) (b1 b2 b3 b4 b5 b6 b7 b8 b9 b10 b11 b12 b13 b14 b15 b16 : Int) : lanternref05_Mapped.l0 (k + 1) 11 b b1 b2 b3 b4 b5 b6 b7 b8 b9 b10 b11 b12 b13 b14 b15 b16 = if b12 = 255 then lanternref05_Mapped.l0 k 12 b b1 b2 b3 b4 b5 b6 b7 b8 b9 b10 b11 b12 b13 b14 b15 b16 else some false := by
 rw [lanternref05_Mapped.l0, if_pos (by decide), if_neg (by decide), if_pos (by decide), if_pos (by decide), wl11, if_pos (by decide)]
 rfl
theorem refMapped_f (k : Nat) (hk : 20 ≤ k) (b : Bool) (b1 b2 b3 b4 b5 b6 b7 b8 b9 b10 b11 b12 b13 b14 b15 b16 : Int) : lanternref05_Mapped.f k b b1 b2 b3 b4 b5 b6 b7 b8 b9 b10 b11 b12 b13 b14 b15 b16 = some (mapB b1 b2 b3 b4 b5 b6 b7 b8 b9 b10 b11 b12 && b) := by
 obtain ⟨k, rfl⟩ : ∃ j, k = j + 13 := ⟨k - 13, by omega⟩
 have e : lanternref05_Mapped.l0 (k + 1) 12 b b1 b2 b3 b4 b5 b6 b7 b8 b9 b10 b11 b12 b13 b14 b15 b16 = some b := by rw [lanternref05_Mapped.l0, if_neg (by decide)]
 rw [lanternref05_Mapped.f, rm0, rm1, rm2, rm3, rm4, rm5, rm6, rm7, rm8, rm9, rm10, rm11, e]
 simp only [ite_b, mapB, Bool.and_assoc]
theorem mapped_f (b : Bool) (b1 b2 b3 b4 b5 b6 b7 b8 b9 b10 b11 b12 b13 b14 b15 b16 : Int) : ip_mapped.f b b1 b2 b3 b4 b5 b6 b7 b8 b9 b10 b11 b12 b13 b14 b15 b16 = some (b && mapB b1 b2 b3 b4 b5 b6 b7 b8 b9 b10 b11 b12) := by
 rw [ip_mapped.f, Option.bind_some]
 cases b
 ·rfl
 ·rw [if_pos rfl]
  show some (((b1 == 0) && ((b2 == 0) && ((b3 == 0) && ((b4 == 0) && ((b5 == 0) && ((b6 == 0) && ((b7 == 0) && ((b8 == 0) && ((b9 == 0) && ((b10 == 0) && ((b11 == 255) && ((b12 == 255) && ((b13 == b13) && ((b14 == b14) && ((b15 == b15) && (b16 == b16))))))))))))))))) = _
  simp [mapB]
theorem digL_lt (base n : Nat) (h : n < base) : digL base n = [dc n] := by rw [digL, dif_pos (Or.inl h), Nat.mod_eq_of_lt h]
theorem digL_ge (base n : Nat) (hb : 2 ≤ base) (h : base ≤ n) : digL base n = digL base (n / base) ++ [dc (n % base)] := by
 conv => lhs; rw [digL]
 rw [dif_neg (by omega)]
theorem refdigits_f (base : Nat) (hb : base = 10 ∨ base = 16) (n : Nat) : ∀ (k : Nat), n < 65536 → n < k → lanternref05_digits.f k (n : Int) (base : Int) = some (B (digL base n)) := by
 have hb2 : 2 ≤ base ∧ base ≤ 16 := by omega
 induction n using Nat.strongRecOn with
 | _ n ih =>
  intro k hn hk
  obtain ⟨k, rfl⟩ : ∃ j, k = j + 1 := ⟨k - 1, by omega⟩
  have hm := Nat.mod_lt n (show 0 < base by omega)
  have e1 : Int.tmod (n : Int) (base : Int) = ((n % base : Nat) : Int) := tmn n base
  have e2 : wrap64 (((n % base : Nat) : Int) + 1) = ((n % base + 1 : Nat) : Int) := wn1 (n % base) (by omega)
  have hdl : n / base ≤ n := Nat.div_le_self _ _
  have e3 : wrap64 (Int.tdiv (n : Int) (base : Int)) = ((n / base : Nat) : Int) := by rw [tdn]; exact wrap_nat (n / base) rfl (by omega)
  have hx : (⟨#[48, 49, 50, 51, 52, 53, 54, 55, 56, 57, 97, 98, 99, 100, 101, 102]⟩ : ByteArray).extract (((n % base : Nat) : Int)).toNat (((n % base + 1 : Nat) : Int)).toNat = B [dc (n % base)] := by
   show (B hexB16).extract _ _ = _
   rw [extract_B, Int.toNat_natCast, Int.toNat_natCast]
   exact congrArg B (hex_cut ⟨n % base, by omega⟩)
  rw [lanternref05_digits.f, e1, e2, e3, hx, if_neg (by omega), if_pos (by omega), if_pos (by omega), if_pos (by omega)]
  by_cases h : n < base
  ·rw [if_pos (by omega), digL_lt base n h, Nat.mod_eq_of_lt h]
  ·have hlt : n / base < n := Nat.div_lt_self (by omega) (by omega)
   have hlen := digL_len base hb2 (n / base) 16 (by omega)
   rw [if_neg (by omega), ih (n / base) hlt k (by omega) (by omega), Option.bind_some, size_B, size_B, if_pos (by simp; omega), append_B, digL_ge base n hb2.1 (by omega)]
theorem bt_dc : ∀ d : Fin 16, UInt8.ofNat (bt hexS ((d.val : Nat) : Int)).toNat = dc d.val := by decide +kernel
theorem bt_dc' (d : Nat) (h : d < 16) : UInt8.ofNat (bt hexS ((d : Nat) : Int)).toNat = dc d := bt_dc ⟨d, h⟩
theorem hexN_digL (n : Nat) (hn : n < 65536) : hexN n = digL 16 n := by
 have r1 : List.range 1 = [0] := rfl
 have r2 : List.range 2 = [0, 1] := rfl
 have r3 : List.range 3 = [0, 1, 2] := rfl
 have r4 : List.range 4 = [0, 1, 2, 3] := rfl
 unfold hexN hexJ hexB
 by_cases h1 : n < 16
 ·rw [if_pos h1, digL_lt 16 n h1]
  show [UInt8.ofNat (bt hexS ((n / 16 ^ (0 - 0) % 16 : Nat) : Int)).toNat] = _
  rw [bt_dc' _ (by omega)]
  congr 2; simp; omega
 ·rw [if_neg h1, digL_ge 16 n (by decide) (by omega)]
  by_cases h2 : n < 256
  ·rw [if_pos h2, digL_lt 16 (n / 16) (by omega)]
   simp only [r2, List.map_cons, List.map_nil]
   rw [bt_dc' _ (by omega), bt_dc' _ (by omega)]
   show [dc (n / 16 % 16), dc (n / 1 % 16)] = [dc (n / 16), dc (n % 16)]
   rw [Nat.div_one, Nat.mod_eq_of_lt (show n / 16 < 16 by omega)]
  ·rw [if_neg h2, digL_ge 16 (n / 16) (by decide) (by omega)]
   by_cases h3 : n < 4096
   ·rw [if_pos h3, digL_lt 16 (n / 16 / 16) (by omega)]
    simp only [r3, List.map_cons, List.map_nil]
    rw [bt_dc' _ (by omega), bt_dc' _ (by omega), bt_dc' _ (by omega)]
    show [dc (n / 256 % 16), dc (n / 16 % 16), dc (n / 1 % 16)] = [dc (n / 16 / 16), dc (n / 16 % 16), dc (n % 16)]
    rw [Nat.div_one, show n / 256 % 16 = n / 16 / 16 by omega]
   ·rw [if_neg h3, digL_ge 16 (n / 16 / 16) (by decide) (by omega), digL_lt 16 (n / 16 / 16 / 16) (by omega)]
    simp only [r4, List.map_cons, List.map_nil]
    rw [bt_dc' _ (by omega), bt_dc' _ (by omega), bt_dc' _ (by omega), bt_dc' _ (by omega)]
    show [dc (n / 4096 % 16), dc (n / 256 % 16), dc (n / 16 % 16), dc (n / 1 % 16)] = [dc (n / 16 / 16 / 16), dc (n / 16 / 16 % 16), dc (n / 16 % 16), dc (n % 16)]
    rw [Nat.div_one, show n / 4096 % 16 = n / 16 / 16 / 16 by omega, show n / 256 % 16 = n / 16 / 16 % 16 by omega]
theorem dc_dec : ∀ d : Fin 10, UInt8.ofNat (48 + d.val) = dc d.val := by decide
theorem dec_digL (n : Nat) : decDigits n = digL 10 n := by
 induction n using Nat.strongRecOn with
 | _ n ih =>
  rw [decDigits]
  by_cases h : n < 10
  ·rw [dif_pos h, digL_lt 10 n h]
   exact congrArg (fun x => [x]) (dc_dec ⟨n, h⟩)
  ·rw [dif_neg h, ih _ (by omega), digL_ge 10 n (by decide) (by omega)]
   exact congrArg (fun x => digL 10 (n / 10) ++ [x]) (dc_dec ⟨n % 10, by omega⟩)
theorem itoa_digL (n : Nat) : Lib.itoa (n : Int) = digL 10 n := by
 unfold Lib.itoa
 rw [if_neg (by omega), Int.toNat_natCast, dec_digL]
theorem Itoa_f (n : Nat) (hn : n < 256) : strconv_Itoa.f (wrap64 (n : Int)) = some (B (digL 10 n)) := by
 have e : wrap64 (n : Int) = (n : Int) := wrap_nat n rfl (by omega)
 rw [e]
 unfold strconv_Itoa.f
 rw [if_pos (by omega), itoa_digL]
 rfl
def dotL (a b c d : Nat) : List UInt8 := digL 10 a ++ 46 :: (digL 10 b ++ 46 :: (digL 10 c ++ 46 :: digL 10 d))
theorem dig3 (n : Nat) (hn : n < 256) : (digL 10 n).length ≤ 9 := by
 have := digL_len 10 (by omega) n 8 (by omega)
 omega
theorem dotL_len (a b c d : Nat) (ha : a < 256) (hb : b < 256) (hc : c < 256) (hd : d < 256) : (dotL a b c d).length ≤ 40 := by
 have h1 := dig3 a ha
 have h2 := dig3 b hb
 have h3 := dig3 c hc
 have h4 := dig3 d hd
 unfold dotL
 simp; omega
theorem dots_f (a b c d : Nat) (ha : a < 256) (hb : b < 256) (hc : c < 256) (hd : d < 256) (k : Nat) (hk : 5 ≤ k) : ip_dots.f k [(a : Int), (b : Int), (c : Int), (d : Int)] = some (B (dotL a b c d)) := by
 obtain ⟨k, rfl⟩ : ∃ j, k = j + 5 := ⟨k - 5, by omega⟩
 have hl : ([(a : Int), (b : Int), (c : Int), (d : Int)] : List Int).length = 4 := rfl
 have w0 : wrap64 (0 + 1) = 1 := by rw [wrap_id (by decide) (by decide)]; rfl
 have w1 : wrap64 (1 + 1) = 2 := by rw [wrap_id (by decide) (by decide)]; rfl
 have w2 : wrap64 (2 + 1) = 3 := by rw [wrap_id (by decide) (by decide)]; rfl
 have w3 : wrap64 (3 + 1) = 4 := by rw [wrap_id (by decide) (by decide)]; rfl
 have g0 : rd [(a : Int), (b : Int), (c : Int), (d : Int)] 0 = (a : Int) := rfl
 have g1 : rd [(a : Int), (b : Int), (c : Int), (d : Int)] 1 = (b : Int) := rfl
 have g2 : rd [(a : Int), (b : Int), (c : Int), (d : Int)] 2 = (c : Int) := rfl
 have g3 : rd [(a : Int), (b : Int), (c : Int), (d : Int)] 3 = (d : Int) := rfl
 rw [ip_dots.f, hl]
 show ip_dots.l0 (k + 5) [] [(a : Int), (b : Int), (c : Int), (d : Int)] 4 0 = _
 rw [ip_dots.l0, if_pos (by decide), if_pos (by decide), hl, if_pos (by decide), g0, Itoa_f a ha, Option.bind_some, if_pos (by decide), w0,
  ip_dots.l0, if_pos (by decide), if_pos (by decide), hl, if_pos (by decide), g1, Itoa_f b hb, Option.bind_some, if_pos (by simp), w1,
  ip_dots.l0, if_pos (by decide), if_pos (by decide), hl, if_pos (by decide), g2, Itoa_f c hc, Option.bind_some, if_pos (by simp), w2,
  ip_dots.l0, if_pos (by decide), if_pos (by decide), hl, if_pos (by decide), g3, Itoa_f d hd, Option.bind_some, if_pos (by simp), w3,
  ip_dots.l0, if_neg (by decide)]
 have hj : joinOf ([] ++ [B (digL 10 a)] ++ [B (digL 10 b)] ++ [B (digL 10 c)] ++ [B (digL 10 d)]) (⟨#[46]⟩ : ByteArray) = dotL a b c d := by
  simp [joinOf, Lib.join, B, dotL, List.intercalate, List.intersperse]
 have hlen := dotL_len a b c d ha hb hc hd
 unfold strings_Join.f
 rw [hj, if_pos ⟨by simp, by omega⟩]
 rfl
/-- It depends on which groups are 0 alone. -/
theorem longest_congr (g g' : List Int) (hl : g.length = g'.length) (hz : ∀ i, rd g i = 0 ↔ rd g' i = 0) : ∀ k, (∀ a b c d, ip_longest.l0 k g a b c d = ip_longest.l0 k g' a b c d) ∧ (∀ a b c d e f, ip_longest.l1 k g a b c d e f = ip_longest.l1 k g' a b c d e f) := by
 intro k
 induction k with
 | zero => exact ⟨fun _ _ _ _ => rfl, fun _ _ _ _ _ _ => rfl⟩
 | succ k ih =>
  constructor
  ·intro a b c d
   rw [ip_longest.l0, ip_longest.l0, ih.2]
  ·intro a b c d e f
   rw [ip_longest.l1, ip_longest.l1, hl]
   simp only [hz, ih.1, ih.2]
def patG (b1 b2 b3 b4 b5 b6 b7 b8 : Bool) : List Int := [b1, b2, b3, b4, b5, b6, b7, b8].map fun b => if b = true then 0 else 1
mutual
def rl1 : Nat → List Int → Int → Int → Int → Option (Int × Int × Nat)
 | 0, _, _, _, _ => none
 | k + 1, g, a, n, i => if i < 8 then rl2 k g a n i 8 else some (a, n, k)
def rl2 : Nat → List Int → Int → Int → Int → Int → Option (Int × Int × Nat)
 | 0, _, _, _, _, _ => none
 | k + 1, g, a, n, i, j => if j > i then rl3 k g a n i j true i else rl1 k g a n (wrap64 (i + 1))
def rl3 : Nat → List Int → Int → Int → Int → Int → Bool → Int → Option (Int × Int × Nat)
 | 0, _, _, _, _, _, _, _ => none
 | k + 1, g, a, n, i, j, x, m => if m < j then (if x = true then (if 0 ≤ m then (if m < (g.length : Int) then rl3 k g a n i j ((rd g m) == 0) (wrap64 (m + 1)) else none) else none) else rl3 k g a n i j false (wrap64 (m + 1))) else (if x = true then (if (wrap64 (j - i)) > n then rl2 k g i (wrap64 (j - i)) i (wrap64 (j - 1)) else rl2 k g a n i (wrap64 (j - 1))) else rl2 k g a n i (wrap64 (j - 1)))
end
def toL4 (g : List Int) (r : Int × Int × Nat) : Option ByteArray := lanternref05_Print.l4 r.2.2 g r.1 r.2.1 (⟨#[]⟩ : ByteArray) 0
theorem rl_eq (g : List Int) : ∀ k, (∀ a n i, lanternref05_Print.l1 k g a n i = (rl1 k g a n i).bind (toL4 g)) ∧ (∀ a n i j, lanternref05_Print.l2 k g a n i j = (rl2 k g a n i j).bind (toL4 g)) ∧ (∀ a n i j x m, lanternref05_Print.l3 k g a n i j x m = (rl3 k g a n i j x m).bind (toL4 g)) := by
 intro k
 induction k with
 | zero => exact ⟨fun _ _ _ => rfl, fun _ _ _ _ => rfl, fun _ _ _ _ _ _ => rfl⟩
 | succ k ih =>
  obtain ⟨i1, i2, i3⟩ := ih
  refine ⟨fun a n i => ?_, fun a n i j => ?_, fun a n i j x m => ?_⟩
  ·rw [lanternref05_Print.l1, rl1]
   split
   ·exact i2 _ _ _ _
   ·rfl
  ·rw [lanternref05_Print.l2, rl2]
   split
   ·exact i3 _ _ _ _ _ _
   ·exact i1 _ _ _
  ·rw [lanternref05_Print.l3, rl3]
   repeat' first | rfl | exact i3 _ _ _ _ _ _ | exact i2 _ _ _ _ | split
theorem rl_congr (g g' : List Int) (hl : g.length = g'.length) (hz : ∀ i, rd g i = 0 ↔ rd g' i = 0) : ∀ k, (∀ a n i, rl1 k g a n i = rl1 k g' a n i) ∧ (∀ a n i j, rl2 k g a n i j = rl2 k g' a n i j) ∧ (∀ a n i j x m, rl3 k g a n i j x m = rl3 k g' a n i j x m) := by
 intro k
 have hb (i : Int) : (rd g i == 0) = (rd g' i == 0) := by
  rw [Bool.eq_iff_iff, beq_iff_eq, beq_iff_eq]; exact hz i
 induction k with
 | zero => exact ⟨fun _ _ _ => rfl, fun _ _ _ _ => rfl, fun _ _ _ _ _ _ => rfl⟩
 | succ k ih =>
  obtain ⟨i1, i2, i3⟩ := ih
  refine ⟨fun a n i => ?_, fun a n i j => ?_, fun a n i j x m => ?_⟩
  ·rw [rl1, rl1, i2]
  ·rw [rl2, rl2, i1, i3]
  ·rw [rl3, rl3, hl, hb]
   simp only [i2, i3]
theorem rl_more (g : List Int) (d : Nat) : ∀ k, (∀ a n i r, rl1 k g a n i = some r → rl1 (k + d) g a n i = some (r.1, r.2.1, r.2.2 + d)) ∧ (∀ a n i j r, rl2 k g a n i j = some r → rl2 (k + d) g a n i j = some (r.1, r.2.1, r.2.2 + d)) ∧ (∀ a n i j x m r, rl3 k g a n i j x m = some r → rl3 (k + d) g a n i j x m = some (r.1, r.2.1, r.2.2 + d)) := by
 intro k
 induction k with
 | zero => exact ⟨fun _ _ _ _ h => by simp [rl1] at h, fun _ _ _ _ _ h => by simp [rl2] at h, fun _ _ _ _ _ _ _ h => by simp [rl3] at h⟩
 | succ k ih =>
  obtain ⟨i1, i2, i3⟩ := ih
  rw [show k + 1 + d = (k + d) + 1 by omega]
  refine ⟨fun a n i r h => ?_, fun a n i j r h => ?_, fun a n i j x m r h => ?_⟩
  ·rw [rl1] at h ⊢
   split at h
   ·rename_i c; rw [if_pos c]; exact i2 _ _ _ _ _ h
   ·rename_i c; rw [if_neg c]; obtain rfl := Option.some.inj h; rfl
  ·rw [rl2] at h ⊢
   split at h
   ·rename_i c; rw [if_pos c]; exact i3 _ _ _ _ _ _ _ h
   ·rename_i c; rw [if_neg c]; exact i1 _ _ _ _ h
  ·rw [rl3] at h ⊢
   split at h
   ·rename_i c
    rw [if_pos c]
    split at h
    ·rename_i c2
     rw [if_pos c2]
     split at h
     ·rename_i c3
      rw [if_pos c3]
      split at h
      ·rename_i c4; rw [if_pos c4]; exact i3 _ _ _ _ _ _ _ h
      ·cases h
     ·cases h
    ·rename_i c2; rw [if_neg c2]; exact i3 _ _ _ _ _ _ _ h
   ·rename_i c
    rw [if_neg c]
    split at h
    ·rename_i c2
     rw [if_pos c2]
     split at h
     ·rename_i c3; rw [if_pos c3]; exact i2 _ _ _ _ _ h
     ·rename_i c3; rw [if_neg c3]; exact i2 _ _ _ _ _ h
    ·rename_i c2; rw [if_neg c2]; exact i2 _ _ _ _ _ h
/-- What the run is: of the pattern's groups. -/
def isRun (p : List Int) (a n : Nat) : Bool := decide (a + n ≤ 8) && (List.range 8).all fun i => if a ≤ i ∧ i < a + n then p.getD i 1 == 0 else if i + 1 = a ∨ i = a + n then p.getD i 0 == 1 else true
def runOk (p : List Int) : Bool := match ip_longest.f 200 p, rl1 300 p 0 0 0 with
 | some (a, n), some (a', n', _) => n == n' && a == a' && decide (0 ≤ n) && decide (0 ≤ a) && decide (a ≤ 8) && (decide (n < 2) || isRun p a.toNat n.toNat)
 | _, _ => false
theorem run_all : ∀ b1 b2 b3 b4 b5 b6 b7 b8 : Bool, runOk (patG b1 b2 b3 b4 b5 b6 b7 b8) = true := by decide +kernel
def pat8 (g1 g2 g3 g4 g5 g6 g7 g8 : Int) : List Int := patG (decide (g1 = 0)) (decide (g2 = 0)) (decide (g3 = 0)) (decide (g4 = 0)) (decide (g5 = 0)) (decide (g6 = 0)) (decide (g7 = 0)) (decide (g8 = 0))
theorem pat_zero (g1 g2 g3 g4 g5 g6 g7 g8 : Int) (i : Int) : rd [g1, g2, g3, g4, g5, g6, g7, g8] i = 0 ↔ rd (pat8 g1 g2 g3 g4 g5 g6 g7 g8) i = 0 := by
 have one (g : Int) : g = 0 ↔ (if decide (g = 0) = true then (0 : Int) else 1) = 0 := by
  by_cases h : g = 0 <;> simp [h]
 show [g1, g2, g3, g4, g5, g6, g7, g8].getD i.toNat 0 = 0 ↔ (pat8 g1 g2 g3 g4 g5 g6 g7 g8).getD i.toNat 0 = 0
 generalize i.toNat = m
 match m with
 | 0 => exact one g1
 | 1 => exact one g2
 | 2 => exact one g3
 | 3 => exact one g4
 | 4 => exact one g5
 | 5 => exact one g6
 | 6 => exact one g7
 | 7 => exact one g8
 | m + 8 => exact ⟨fun _ => rfl, fun _ => rfl⟩
theorem up_longest {g : List Int} {r : Int × Int} (h : ip_longest.f 200 g = some r) (k : Nat) (hk : 200 ≤ k) : ip_longest.f k g = some r := up_to (fun k => ip_longest.mono g k) h k hk
/-- The run that both find. -/
theorem run_of (g1 g2 g3 g4 g5 g6 g7 g8 : Int) : ∃ a n d : Nat, (∀ k, 200 ≤ k → ip_longest.f k [g1, g2, g3, g4, g5, g6, g7, g8] = some ((a : Int), (n : Int))) ∧ (∀ k, 300 ≤ k → rl1 k [g1, g2, g3, g4, g5, g6, g7, g8] 0 0 0 = some ((a : Int), (n : Int), d + (k - 300))) ∧ a ≤ 8 ∧ (n < 2 ∨ isRun (pat8 g1 g2 g3 g4 g5 g6 g7 g8) a n = true) := by
 have hr := run_all (decide (g1 = 0)) (decide (g2 = 0)) (decide (g3 = 0)) (decide (g4 = 0)) (decide (g5 = 0)) (decide (g6 = 0)) (decide (g7 = 0)) (decide (g8 = 0))
 have hz := pat_zero g1 g2 g3 g4 g5 g6 g7 g8
 have hl : [g1, g2, g3, g4, g5, g6, g7, g8].length = (pat8 g1 g2 g3 g4 g5 g6 g7 g8).length := rfl
 change runOk (pat8 g1 g2 g3 g4 g5 g6 g7 g8) = true at hr
 have hL : ip_longest.f 200 [g1, g2, g3, g4, g5, g6, g7, g8] = ip_longest.f 200 (pat8 g1 g2 g3 g4 g5 g6 g7 g8) := by
  rw [ip_longest.f, ip_longest.f, hl]; exact (longest_congr _ _ hl hz 200).1 _ _ _ _
 have hR : rl1 300 [g1, g2, g3, g4, g5, g6, g7, g8] 0 0 0 = rl1 300 (pat8 g1 g2 g3 g4 g5 g6 g7 g8) 0 0 0 := (rl_congr _ _ hl hz 300).1 _ _ _
 unfold runOk at hr
 cases h1 : ip_longest.f 200 (pat8 g1 g2 g3 g4 g5 g6 g7 g8) with
 | none => rw [h1] at hr; cases hr
 | some r =>
  obtain ⟨a, n⟩ := r
  cases h2 : rl1 300 (pat8 g1 g2 g3 g4 g5 g6 g7 g8) 0 0 0 with
  | none => rw [h1, h2] at hr; cases hr
  | some q =>
   obtain ⟨a', n', d⟩ := q
   rw [h1, h2] at hr
   simp only [Bool.and_eq_true, Bool.or_eq_true, beq_iff_eq, decide_eq_true_eq] at hr
   obtain ⟨⟨⟨⟨⟨rfl, rfl⟩, hn⟩, ha⟩, ha8⟩, hc⟩ := hr
   obtain ⟨a, rfl⟩ := Int.eq_ofNat_of_zero_le ha
   obtain ⟨n, rfl⟩ := Int.eq_ofNat_of_zero_le hn
   refine ⟨a, n, d, fun k hk => up_longest (hL.trans h1) k hk, fun k hk => ?_, by omega, ?_⟩
   ·have := (rl_more [g1, g2, g3, g4, g5, g6, g7, g8] (k - 300) 300).1 0 0 0 _ (hR.trans h2)
    rw [show 300 + (k - 300) = k by omega] at this
    exact this
   ·rcases hc with h | h
    ·exact Or.inl (by omega)
    ·exact Or.inr (by simpa using h)
def ints (ns : List Nat) : List Int := ns.map fun (n : Nat) => (n : Int)
theorem ints_rd (ns : List Nat) (i : Nat) : rd (ints ns) (i : Int) = ((ns.getD i 0 : Nat) : Int) := by
 show (ints ns).getD (i : Int).toNat 0 = _
 rw [Int.toNat_natCast]
 unfold ints
 rw [List.getD_eq_getElem?_getD, List.getD_eq_getElem?_getD, List.getElem?_map]
 cases ns[i]? <;> rfl
/-- Groups, colons between. -/
def hexT (ns : List Nat) : List UInt8 := Lib.join (ns.map (digL 16)) [58]
theorem Format_f (n : Nat) (hn : n < 65536) : strconv_FormatInt.f (n : Int) 16 = some (B (digL 16 n)) := by
 unfold strconv_FormatInt.f
 rw [if_pos ⟨rfl, by omega, by omega⟩, Int.toNat_natCast, hexN_digL n hn]
 rfl
theorem hd_len (n : Nat) (hn : n < 65536) : (digL 16 n).length ≤ 17 := digL_len 16 (by omega) n 16 (by omega)
theorem join_len (l : List (List UInt8)) (m : Nat) (h : ∀ x ∈ l, x.length ≤ m) : (Lib.join l [58]).length ≤ l.length * (m + 1) := by
 induction l with
 | nil => exact Nat.zero_le _
 | cons x t ih =>
  have hx := h x (by simp)
  have ht := ih fun y hy => h y (by simp [hy])
  cases t with
  | nil =>
   show (List.intercalate [58] [x]).length ≤ _
   simp [List.intercalate, List.intersperse]
   omega
  | cons y u =>
   have e : Lib.join (x :: y :: u) [58] = x ++ 58 :: Lib.join (y :: u) [58] := by simp [Lib.join, List.intercalate, List.intersperse]
   rw [e, List.length_append, List.length_cons]
   rw [List.length_cons, Nat.add_mul, Nat.one_mul]
   omega
theorem hex_loop (ns : List Nat) (h : ∀ n ∈ ns, n < 65536) (hl : ns.length ≤ 8) : ∀ (t : List Nat) (i k : Nat), ns.drop i = t → i ≤ ns.length → t.length + 1 ≤ k →
  ip_hex.l0 k ((ns.take i).map fun n => B (digL 16 n)) (ints ns) (ns.length : Int) (i : Int) = some (B (hexT ns)) := by
 intro t
 induction t with
 | nil =>
  intro i k ht hi hk
  obtain ⟨k, rfl⟩ : ∃ j, k = j + 1 := ⟨k - 1, by omega⟩
  have hge : ns.length ≤ i := List.drop_eq_nil_iff.1 ht
  have hj : joinOf ((ns.take i).map fun n => B (digL 16 n)) (⟨#[58]⟩ : ByteArray) = hexT ns := by
   rw [List.take_of_length_le hge]
   unfold joinOf hexT
   rw [List.map_map]
   rfl
  have hlen : (hexT ns).length ≤ 200 := by
   have := join_len (ns.map (digL 16)) 17 (by
    intro x hx
    obtain ⟨n, hn, rfl⟩ := List.mem_map.1 hx
    exact hd_len n (h n hn))
   rw [List.length_map] at this
   unfold hexT
   omega
  rw [ip_hex.l0, if_neg (by omega)]
  unfold strings_Join.f
  rw [hj, if_pos ⟨by rw [List.length_map, List.length_take]; omega, by omega⟩]
  rfl
 | cons n t ih =>
  intro i k ht hi hk
  obtain ⟨k, rfl⟩ : ∃ j, k = j + 1 := ⟨k - 1, by simp at hk; omega⟩
  have hlt : i < ns.length := by
   have := congrArg List.length ht
   simp at this; omega
  have hd := List.drop_eq_getElem_cons hlt
  rw [ht] at hd
  injection hd with e1 e2
  have hn : n < 65536 := by rw [e1]; exact h _ (List.getElem_mem hlt)
  have hg : ns.getD i 0 = n := by rw [List.getD_eq_getElem?_getD, List.getElem?_eq_getElem hlt, Option.getD_some, e1]
  have hli : (ints ns).length = ns.length := List.length_map _
  rw [ip_hex.l0, if_pos (by omega), if_pos (by omega), hli, if_pos (by omega), ints_rd, hg, Format_f n hn, Option.bind_some, if_pos (by rw [List.length_map, List.length_take]; omega), wn1 i (by omega)]
  have hs : ((ns.take i).map fun n => B (digL 16 n)) ++ [B (digL 16 n)] = (ns.take (i + 1)).map fun n => B (digL 16 n) := by
   rw [List.take_succ_eq_append_getElem hlt, List.map_append, ← e1]
   rfl
  rw [hs]
  exact ih (i + 1) k e2.symm (by omega) (by simp at hk; omega)
theorem hex_f (ns : List Nat) (h : ∀ n ∈ ns, n < 65536) (hl : ns.length ≤ 8) (k : Nat) (hk : 9 ≤ k) : ip_hex.f k (ints ns) = some (B (hexT ns)) := by
 have hli : (ints ns).length = ns.length := List.length_map _
 rw [ip_hex.f, hli]
 exact hex_loop ns h hl ns 0 k rfl (Nat.zero_le _) (by omega)
/-- What the reference writes for one group. -/
def stepT (a n i d : Nat) : List UInt8 := (if 2 ≤ n ∧ i = a then [58, 58] else []) ++ (if 2 ≤ n ∧ a ≤ i ∧ i < a + n then [] else (if 0 < i ∧ ¬ (2 ≤ n ∧ i = a + n) then [58] else []) ++ digL 16 d)
theorem B_58 : (⟨#[58]⟩ : ByteArray) = B [58] := rfl
theorem B_58' : (⟨#[58, 58]⟩ : ByteArray) = B [58, 58] := rfl
theorem ref_j7 (ns : List Nat) (h8 : ns.length = 8) (h : ∀ x ∈ ns, x < 65536) (a n i k : Nat) (hi : i < 8) (ha : a ≤ 8) (hn : n ≤ 8) (s : List UInt8) (hs : s.length ≤ 1000) (hk : 70000 ≤ k) (x : Bool) (hx : x = decide (2 ≤ n ∧ a ≤ i ∧ i < a + n)) :
  lanternref05_Print.j7 (k + 1) (ints ns) (a : Int) (n : Int) (B s) (i : Int) x = lanternref05_Print.l4 k (ints ns) (a : Int) (n : Int) (B (s ++ (if 2 ≤ n ∧ a ≤ i ∧ i < a + n then [] else (if 0 < i ∧ ¬ (2 ≤ n ∧ i = a + n) then [58] else []) ++ digL 16 (ns.getD i 0)))) ((i + 1 : Nat) : Int) := by
 have hli : (ints ns).length = 8 := (List.length_map _).trans h8
 have hg : ns.getD i 0 < 65536 := by
  rw [List.getD_eq_getElem?_getD, List.getElem?_eq_getElem (by omega), Option.getD_some]
  exact h _ (List.getElem_mem (by omega))
 have hd := refdigits_f 16 (Or.inr rfl) (ns.getD i 0) k hg (by omega)
 have hdl := hd_len _ hg
 have hw : wrap64 ((a : Int) + (n : Int)) = ((a + n : Nat) : Int) := wrap_nat (a + n) (by omega) (by omega)
 rw [lanternref05_Print.j7, hw, wn1 i (by omega), hli, ints_rd]
 rw [show (16 : Int) = ((16 : Nat) : Int) from rfl, hd]
 subst hx
 by_cases hc : 2 ≤ n ∧ a ≤ i ∧ i < a + n
 ·rw [if_pos (decide_eq_true hc), if_pos hc, List.append_nil]
 ·rw [if_neg (by simpa using hc), if_neg hc]
  by_cases h0 : 0 < i
  ·rw [if_pos (show (i : Int) > 0 by omega)]
   by_cases h2 : 2 ≤ n
   ·rw [if_pos (show (n : Int) ≥ 2 by omega)]
    by_cases he : i = a + n
    ·rw [if_pos (show (i : Int) = ((a + n : Nat) : Int) by omega), if_pos (by omega), if_pos (by omega), Option.bind_some, if_pos (by rw [size_B, size_B]; omega), append_B, if_neg (fun h => h.2 ⟨h2, he⟩), List.nil_append]
    ·rw [if_neg (show ¬ (i : Int) = ((a + n : Nat) : Int) by omega), if_pos (by rw [size_B]; omega), if_pos (by omega), if_pos (by omega), Option.bind_some, B_58, append_B, if_pos (by rw [size_B, size_B, List.length_append, List.length_singleton]; omega), append_B, if_pos ⟨h0, fun h => he h.2⟩, List.append_assoc]
   ·rw [if_neg (show ¬ (n : Int) ≥ 2 by omega), if_pos (by rw [size_B]; omega), if_pos (by omega), if_pos (by omega), Option.bind_some, B_58, append_B, if_pos (by rw [size_B, size_B, List.length_append, List.length_singleton]; omega), append_B, if_pos ⟨h0, fun h => h2 h.1⟩, List.append_assoc]
  ·rw [if_neg (show ¬ (i : Int) > 0 by omega), if_pos (by omega), if_pos (by omega), Option.bind_some, if_pos (by rw [size_B, size_B]; omega), append_B, if_neg (fun h => h0 h.1), List.nil_append]
theorem rp_step (ns : List Nat) (h8 : ns.length = 8) (h : ∀ x ∈ ns, x < 65536) (a n i k : Nat) (hi : i < 8) (ha : a ≤ 8) (hn : n ≤ 8) (s : List UInt8) (hs : s.length ≤ 900) (hk : 70000 ≤ k) :
  lanternref05_Print.l4 (k + 4) (ints ns) (a : Int) (n : Int) (B s) (i : Int) = lanternref05_Print.l4 k (ints ns) (a : Int) (n : Int) (B (s ++ stepT a n i (ns.getD i 0))) ((i + 1 : Nat) : Int) := by
 have hw : wrap64 ((a : Int) + (n : Int)) = ((a + n : Nat) : Int) := wrap_nat (a + n) (by omega) (by omega)
 have j6 (s : List UInt8) (hs : s.length ≤ 1000) : lanternref05_Print.j6 (k + 2) (ints ns) (a : Int) (n : Int) (B s) (i : Int) = lanternref05_Print.l4 k (ints ns) (a : Int) (n : Int) (B (s ++ (if 2 ≤ n ∧ a ≤ i ∧ i < a + n then [] else (if 0 < i ∧ ¬ (2 ≤ n ∧ i = a + n) then [58] else []) ++ digL 16 (ns.getD i 0)))) ((i + 1 : Nat) : Int) := by
  rw [lanternref05_Print.j6, hw]
  by_cases h2 : 2 ≤ n
  ·rw [if_pos (show (n : Int) ≥ 2 by omega)]
   by_cases hia : a ≤ i
   ·rw [if_pos (show (i : Int) ≥ (a : Int) by omega)]
    exact ref_j7 ns h8 h a n i k hi ha hn s hs hk _ (by rw [decide_eq_decide]; omega)
   ·rw [if_neg (show ¬ (i : Int) ≥ (a : Int) by omega)]
    exact ref_j7 ns h8 h a n i k hi ha hn s hs hk _ (Eq.symm (decide_eq_false (by omega)))
  ·rw [if_neg (show ¬ (n : Int) ≥ 2 by omega)]
   exact ref_j7 ns h8 h a n i k hi ha hn s hs hk _ (Eq.symm (decide_eq_false (by omega)))
 rw [lanternref05_Print.l4, if_pos (by omega)]
 unfold stepT
 by_cases h2 : 2 ≤ n
 ·rw [if_pos (show (n : Int) ≥ 2 by omega)]
  by_cases he : i = a
  ·rw [show ((i : Int) == (a : Int)) = true from beq_iff_eq.mpr (by omega), lanternref05_Print.j5, if_pos rfl, if_pos (by rw [size_B]; omega), B_58', append_B, j6 _ (by simp; omega), if_pos (show 2 ≤ n ∧ i = a from ⟨h2, he⟩), List.append_assoc]
  ·rw [show ((i : Int) == (a : Int)) = false from beq_eq_false_iff_ne.mpr (by omega), lanternref05_Print.j5, if_neg (by decide), j6 _ (by omega), if_neg (show ¬ (2 ≤ n ∧ i = a) from fun h => he h.2), List.nil_append]
 ·rw [if_neg (show ¬ (n : Int) ≥ 2 by omega), lanternref05_Print.j5, if_neg (by decide), j6 _ (by omega), if_neg (show ¬ (2 ≤ n ∧ i = a) from fun h => h2 h.1), List.nil_append]
theorem stepT_len (a n i d : Nat) (hd : d < 65536) : (stepT a n i d).length ≤ 20 := by
 have := hd_len d hd
 unfold stepT
 split <;> split <;> (try split) <;> simp <;> omega
/-- The text of eight groups, a run of n from a. -/
def shortT (a n : Nat) (ns : List Nat) : List UInt8 := if n < 2 then hexT ns else hexT (ns.take a) ++ 58 :: 58 :: hexT (ns.drop (a + n))
def allT (a n d0 d1 d2 d3 d4 d5 d6 d7 : Nat) : List UInt8 := stepT a n 0 d0 ++ stepT a n 1 d1 ++ stepT a n 2 d2 ++ stepT a n 3 d3 ++ stepT a n 4 d4 ++ stepT a n 5 d5 ++ stepT a n 6 d6 ++ stepT a n 7 d7
theorem allT_one (a n d0 d1 d2 d3 d4 d5 d6 d7 : Nat) (h : n < 2) : allT a n d0 d1 d2 d3 d4 d5 d6 d7 = hexT [d0, d1, d2, d3, d4, d5, d6, d7] := by
 have e (i d : Nat) : stepT a n i d = (if 0 < i then [58] else []) ++ digL 16 d := by
  unfold stepT
  rw [if_neg (by omega), if_neg (by omega), List.nil_append]
  by_cases hi : 0 < i
  ·rw [if_pos ⟨hi, by omega⟩, if_pos hi]
  ·rw [if_neg (fun h => hi h.1), if_neg hi]
 unfold allT
 simp only [e]
 simp [hexT, Lib.join, List.intercalate, List.intersperse]
theorem allT_two (a m d0 d1 d2 d3 d4 d5 d6 d7 : Nat) (h : a + (m + 2) ≤ 8) : allT a (m + 2) d0 d1 d2 d3 d4 d5 d6 d7 = shortT a (m + 2) [d0, d1, d2, d3, d4, d5, d6, d7] := by
 unfold shortT
 rw [if_neg (by omega)]
 have ha : a = 0 ∨ a = 1 ∨ a = 2 ∨ a = 3 ∨ a = 4 ∨ a = 5 ∨ a = 6 := by omega
 have hm : m = 0 ∨ m = 1 ∨ m = 2 ∨ m = 3 ∨ m = 4 ∨ m = 5 ∨ m = 6 := by omega
 rcases ha with rfl | rfl | rfl | rfl | rfl | rfl | rfl <;> rcases hm with rfl | rfl | rfl | rfl | rfl | rfl | rfl <;> first | (exfalso; omega) | simp [allT, stepT, hexT, Lib.join, List.intercalate, List.intersperse]
theorem rp_text (a n d0 d1 d2 d3 d4 d5 d6 d7 : Nat) (h0 : d0 < 65536) (h1 : d1 < 65536) (h2 : d2 < 65536) (h3 : d3 < 65536) (h4 : d4 < 65536) (h5 : d5 < 65536) (h6 : d6 < 65536) (h7 : d7 < 65536) (ha : a ≤ 8) (hn : n ≤ 8) (k : Nat) (hk : 70000 ≤ k) :
  lanternref05_Print.l4 (k + 33) (ints [d0, d1, d2, d3, d4, d5, d6, d7]) (a : Int) (n : Int) (⟨#[]⟩ : ByteArray) 0 = some (B (allT a n d0 d1 d2 d3 d4 d5 d6 d7)) := by
 have hm : ∀ x ∈ [d0, d1, d2, d3, d4, d5, d6, d7], x < 65536 := by
  intro x hx
  simp only [List.mem_cons, List.not_mem_nil, or_false] at hx
  rcases hx with rfl | rfl | rfl | rfl | rfl | rfl | rfl | rfl <;> assumption
 have l0 := stepT_len a n 0 d0 h0
 have l1 := stepT_len a n 1 d1 h1
 have l2 := stepT_len a n 2 d2 h2
 have l3 := stepT_len a n 3 d3 h3
 have l4 := stepT_len a n 4 d4 h4
 have l5 := stepT_len a n 5 d5 h5
 have l6 := stepT_len a n 6 d6 h6
 have l7 := stepT_len a n 7 d7 h7
 have s0 := rp_step [d0, d1, d2, d3, d4, d5, d6, d7] rfl hm a n 0 (k + 29) (by decide) ha hn ([]) (by simp only [List.length_append, List.length_nil]; omega) (by omega)
 change lanternref05_Print.l4 (k + 33) (ints [d0, d1, d2, d3, d4, d5, d6, d7]) (a : Int) (n : Int) (B ([])) ((0 : Nat) : Int) = lanternref05_Print.l4 (k + 29) (ints [d0, d1, d2, d3, d4, d5, d6, d7]) (a : Int) (n : Int) (B ([] ++ stepT a n 0 d0)) ((1 : Nat) : Int) at s0
 have s1 := rp_step [d0, d1, d2, d3, d4, d5, d6, d7] rfl hm a n 1 (k + 25) (by decide) ha hn ([] ++ stepT a n 0 d0) (by simp only [List.length_append, List.length_nil]; omega) (by omega)
 change lanternref05_Print.l4 (k + 29) (ints [d0, d1, d2, d3, d4, d5, d6, d7]) (a : Int) (n : Int) (B ([] ++ stepT a n 0 d0)) ((1 : Nat) : Int) = lanternref05_Print.l4 (k + 25) (ints [d0, d1, d2, d3, d4, d5, d6, d7]) (a : Int) (n : Int) (B ([] ++ stepT a n 0 d0 ++ stepT a n 1 d1)) ((2 : Nat) : Int) at s1
 have s2 := rp_step [d0, d1, d2, d3, d4, d5, d6, d7] rfl hm a n 2 (k + 21) (by decide) ha hn ([] ++ stepT a n 0 d0 ++ stepT a n 1 d1) (by simp only [List.length_append, List.length_nil]; omega) (by omega)
 change lanternref05_Print.l4 (k + 25) (ints [d0, d1, d2, d3, d4, d5, d6, d7]) (a : Int) (n : Int) (B ([] ++ stepT a n 0 d0 ++ stepT a n 1 d1)) ((2 : Nat) : Int) = lanternref05_Print.l4 (k + 21) (ints [d0, d1, d2, d3, d4, d5, d6, d7]) (a : Int) (n : Int) (B ([] ++ stepT a n 0 d0 ++ stepT a n 1 d1 ++ stepT a n 2 d2)) ((3 : Nat) : Int) at s2
 have s3 := rp_step [d0, d1, d2, d3, d4, d5, d6, d7] rfl hm a n 3 (k + 17) (by decide) ha hn ([] ++ stepT a n 0 d0 ++ stepT a n 1 d1 ++ stepT a n 2 d2) (by simp only [List.length_append, List.length_nil]; omega) (by omega)
 change lanternref05_Print.l4 (k + 21) (ints [d0, d1, d2, d3, d4, d5, d6, d7]) (a : Int) (n : Int) (B ([] ++ stepT a n 0 d0 ++ stepT a n 1 d1 ++ stepT a n 2 d2)) ((3 : Nat) : Int) = lanternref05_Print.l4 (k + 17) (ints [d0, d1, d2, d3, d4, d5, d6, d7]) (a : Int) (n : Int) (B ([] ++ stepT a n 0 d0 ++ stepT a n 1 d1 ++ stepT a n 2 d2 ++ stepT a n 3 d3)) ((4 : Nat) : Int) at s3
 have s4 := rp_step [d0, d1, d2, d3, d4, d5, d6, d7] rfl hm a n 4 (k + 13) (by decide) ha hn ([] ++ stepT a n 0 d0 ++ stepT a n 1 d1 ++ stepT a n 2 d2 ++ stepT a n 3 d3) (by simp only [List.length_append, List.length_nil]; omega) (by omega)
 change lanternref05_Print.l4 (k + 17) (ints [d0, d1, d2, d3, d4, d5, d6, d7]) (a : Int) (n : Int) (B ([] ++ stepT a n 0 d0 ++ stepT a n 1 d1 ++ stepT a n 2 d2 ++ stepT a n 3 d3)) ((4 : Nat) : Int) = lanternref05_Print.l4 (k + 13) (ints [d0, d1, d2, d3, d4, d5, d6, d7]) (a : Int) (n : Int) (B ([] ++ stepT a n 0 d0 ++ stepT a n 1 d1 ++ stepT a n 2 d2 ++ stepT a n 3 d3 ++ stepT a n 4 d4)) ((5 : Nat) : Int) at s4
 have s5 := rp_step [d0, d1, d2, d3, d4, d5, d6, d7] rfl hm a n 5 (k + 9) (by decide) ha hn ([] ++ stepT a n 0 d0 ++ stepT a n 1 d1 ++ stepT a n 2 d2 ++ stepT a n 3 d3 ++ stepT a n 4 d4) (by simp only [List.length_append, List.length_nil]; omega) (by omega)
 change lanternref05_Print.l4 (k + 13) (ints [d0, d1, d2, d3, d4, d5, d6, d7]) (a : Int) (n : Int) (B ([] ++ stepT a n 0 d0 ++ stepT a n 1 d1 ++ stepT a n 2 d2 ++ stepT a n 3 d3 ++ stepT a n 4 d4)) ((5 : Nat) : Int) = lanternref05_Print.l4 (k + 9) (ints [d0, d1, d2, d3, d4, d5, d6, d7]) (a : Int) (n : Int) (B ([] ++ stepT a n 0 d0 ++ stepT a n 1 d1 ++ stepT a n 2 d2 ++ stepT a n 3 d3 ++ stepT a n 4 d4 ++ stepT a n 5 d5)) ((6 : Nat) : Int) at s5
 have s6 := rp_step [d0, d1, d2, d3, d4, d5, d6, d7] rfl hm a n 6 (k + 5) (by decide) ha hn ([] ++ stepT a n 0 d0 ++ stepT a n 1 d1 ++ stepT a n 2 d2 ++ stepT a n 3 d3 ++ stepT a n 4 d4 ++ stepT a n 5 d5) (by simp only [List.length_append, List.length_nil]; omega) (by omega)
 change lanternref05_Print.l4 (k + 9) (ints [d0, d1, d2, d3, d4, d5, d6, d7]) (a : Int) (n : Int) (B ([] ++ stepT a n 0 d0 ++ stepT a n 1 d1 ++ stepT a n 2 d2 ++ stepT a n 3 d3 ++ stepT a n 4 d4 ++ stepT a n 5 d5)) ((6 : Nat) : Int) = lanternref05_Print.l4 (k + 5) (ints [d0, d1, d2, d3, d4, d5, d6, d7]) (a : Int) (n : Int) (B ([] ++ stepT a n 0 d0 ++ stepT a n 1 d1 ++ stepT a n 2 d2 ++ stepT a n 3 d3 ++ stepT a n 4 d4 ++ stepT a n 5 d5 ++ stepT a n 6 d6)) ((7 : Nat) : Int) at s6
 have s7 := rp_step [d0, d1, d2, d3, d4, d5, d6, d7] rfl hm a n 7 (k + 1) (by decide) ha hn ([] ++ stepT a n 0 d0 ++ stepT a n 1 d1 ++ stepT a n 2 d2 ++ stepT a n 3 d3 ++ stepT a n 4 d4 ++ stepT a n 5 d5 ++ stepT a n 6 d6) (by simp only [List.length_append, List.length_nil]; omega) (by omega)
 change lanternref05_Print.l4 (k + 5) (ints [d0, d1, d2, d3, d4, d5, d6, d7]) (a : Int) (n : Int) (B ([] ++ stepT a n 0 d0 ++ stepT a n 1 d1 ++ stepT a n 2 d2 ++ stepT a n 3 d3 ++ stepT a n 4 d4 ++ stepT a n 5 d5 ++ stepT a n 6 d6)) ((7 : Nat) : Int) = lanternref05_Print.l4 (k + 1) (ints [d0, d1, d2, d3, d4, d5, d6, d7]) (a : Int) (n : Int) (B ([] ++ stepT a n 0 d0 ++ stepT a n 1 d1 ++ stepT a n 2 d2 ++ stepT a n 3 d3 ++ stepT a n 4 d4 ++ stepT a n 5 d5 ++ stepT a n 6 d6 ++ stepT a n 7 d7)) ((8 : Nat) : Int) at s7
 have e : lanternref05_Print.l4 (k + 1) (ints [d0, d1, d2, d3, d4, d5, d6, d7]) (a : Int) (n : Int) (B ([] ++ stepT a n 0 d0 ++ stepT a n 1 d1 ++ stepT a n 2 d2 ++ stepT a n 3 d3 ++ stepT a n 4 d4 ++ stepT a n 5 d5 ++ stepT a n 6 d6 ++ stepT a n 7 d7)) ((8 : Nat) : Int) = some (B ([] ++ stepT a n 0 d0 ++ stepT a n 1 d1 ++ stepT a n 2 d2 ++ stepT a n 3 d3 ++ stepT a n 4 d4 ++ stepT a n 5 d5 ++ stepT a n 6 d6 ++ stepT a n 7 d7)) := by
  rw [lanternref05_Print.l4, if_neg (by decide)]
 have := s0.trans (s1.trans (s2.trans (s3.trans (s4.trans (s5.trans (s6.trans (s7.trans e)))))))
 unfold allT
 rw [List.nil_append] at this
 exact this
theorem grp (a b : Nat) (ha : a < 256) (hb : b < 256) : wrap64 ((wrap64 ((wrap64 (a : Int)) * 256)) + (wrap64 (b : Int))) = ((a * 256 + b : Nat) : Int) := by
 have e1 : wrap64 (a : Int) = (a : Int) := wrap_nat a rfl (by omega)
 have e2 : wrap64 (b : Int) = (b : Int) := wrap_nat b rfl (by omega)
 have e3 : wrap64 ((a : Int) * 256) = ((a * 256 : Nat) : Int) := wrap_nat (a * 256) (by omega) (by omega)
 rw [e1, e2, e3]
 exact wrap_nat (a * 256 + b) (by omega) (by omega)
theorem wd0 : wrap64 (2 * 0) = 0 := by rw [wrap_id (by decide) (by decide)]; rfl
theorem we0 : wrap64 (0 + 1) = 1 := by rw [wrap_id (by decide) (by decide)]; rfl
theorem wd1 : wrap64 (2 * 1) = 2 := by rw [wrap_id (by decide) (by decide)]; rfl
theorem we1 : wrap64 (2 + 1) = 3 := by rw [wrap_id (by decide) (by decide)]; rfl
theorem wf1 : wrap64 (1 + 1) = 2 := by rw [wrap_id (by decide) (by decide)]; rfl
theorem wd2 : wrap64 (2 * 2) = 4 := by rw [wrap_id (by decide) (by decide)]; rfl
theorem we2 : wrap64 (4 + 1) = 5 := by rw [wrap_id (by decide) (by decide)]; rfl
theorem wf2 : wrap64 (2 + 1) = 3 := by rw [wrap_id (by decide) (by decide)]; rfl
theorem wd3 : wrap64 (2 * 3) = 6 := by rw [wrap_id (by decide) (by decide)]; rfl
theorem we3 : wrap64 (6 + 1) = 7 := by rw [wrap_id (by decide) (by decide)]; rfl
theorem wf3 : wrap64 (3 + 1) = 4 := by rw [wrap_id (by decide) (by decide)]; rfl
theorem wd4 : wrap64 (2 * 4) = 8 := by rw [wrap_id (by decide) (by decide)]; rfl
theorem we4 : wrap64 (8 + 1) = 9 := by rw [wrap_id (by decide) (by decide)]; rfl
theorem wf4 : wrap64 (4 + 1) = 5 := by rw [wrap_id (by decide) (by decide)]; rfl
theorem wd5 : wrap64 (2 * 5) = 10 := by rw [wrap_id (by decide) (by decide)]; rfl
theorem we5 : wrap64 (10 + 1) = 11 := by rw [wrap_id (by decide) (by decide)]; rfl
theorem wf5 : wrap64 (5 + 1) = 6 := by rw [wrap_id (by decide) (by decide)]; rfl
theorem wd6 : wrap64 (2 * 6) = 12 := by rw [wrap_id (by decide) (by decide)]; rfl
theorem we6 : wrap64 (12 + 1) = 13 := by rw [wrap_id (by decide) (by decide)]; rfl
theorem wf6 : wrap64 (6 + 1) = 7 := by rw [wrap_id (by decide) (by decide)]; rfl
theorem wd7 : wrap64 (2 * 7) = 14 := by rw [wrap_id (by decide) (by decide)]; rfl
theorem we7 : wrap64 (14 + 1) = 15 := by rw [wrap_id (by decide) (by decide)]; rfl
theorem wf7 : wrap64 (7 + 1) = 8 := by rw [wrap_id (by decide) (by decide)]; rfl
theorem rg_groups (b : Bool) (m1 m2 m3 m4 m5 m6 m7 m8 m9 m10 m11 m12 m13 m14 m15 m16 : Nat) (h1 : m1 < 256) (h2 : m2 < 256) (h3 : m3 < 256) (h4 : m4 < 256) (h5 : m5 < 256) (h6 : m6 < 256) (h7 : m7 < 256) (h8 : m8 < 256) (h9 : m9 < 256) (h10 : m10 < 256) (h11 : m11 < 256) (h12 : m12 < 256) (h13 : m13 < 256) (h14 : m14 < 256) (h15 : m15 < 256) (h16 : m16 < 256) (k : Nat) : lanternref05_Print.l0 (k + 9) [] 0 b (m1 : Int) (m2 : Int) (m3 : Int) (m4 : Int) (m5 : Int) (m6 : Int) (m7 : Int) (m8 : Int) (m9 : Int) (m10 : Int) (m11 : Int) (m12 : Int) (m13 : Int) (m14 : Int) (m15 : Int) (m16 : Int) = lanternref05_Print.l1 k (ints [m1 * 256 + m2, m3 * 256 + m4, m5 * 256 + m6, m7 * 256 + m8, m9 * 256 + m10, m11 * 256 + m12, m13 * 256 + m14, m15 * 256 + m16]) 0 0 0 := by
 have q0 : rd [(m1 : Int), (m2 : Int), (m3 : Int), (m4 : Int), (m5 : Int), (m6 : Int), (m7 : Int), (m8 : Int), (m9 : Int), (m10 : Int), (m11 : Int), (m12 : Int), (m13 : Int), (m14 : Int), (m15 : Int), (m16 : Int)] 0 = (m1 : Int) := rfl
 have p0 : rd [(m1 : Int), (m2 : Int), (m3 : Int), (m4 : Int), (m5 : Int), (m6 : Int), (m7 : Int), (m8 : Int), (m9 : Int), (m10 : Int), (m11 : Int), (m12 : Int), (m13 : Int), (m14 : Int), (m15 : Int), (m16 : Int)] 1 = (m2 : Int) := rfl
 have q1 : rd [(m1 : Int), (m2 : Int), (m3 : Int), (m4 : Int), (m5 : Int), (m6 : Int), (m7 : Int), (m8 : Int), (m9 : Int), (m10 : Int), (m11 : Int), (m12 : Int), (m13 : Int), (m14 : Int), (m15 : Int), (m16 : Int)] 2 = (m3 : Int) := rfl
 have p1 : rd [(m1 : Int), (m2 : Int), (m3 : Int), (m4 : Int), (m5 : Int), (m6 : Int), (m7 : Int), (m8 : Int), (m9 : Int), (m10 : Int), (m11 : Int), (m12 : Int), (m13 : Int), (m14 : Int), (m15 : Int), (m16 : Int)] 3 = (m4 : Int) := rfl
 have q2 : rd [(m1 : Int), (m2 : Int), (m3 : Int), (m4 : Int), (m5 : Int), (m6 : Int), (m7 : Int), (m8 : Int), (m9 : Int), (m10 : Int), (m11 : Int), (m12 : Int), (m13 : Int), (m14 : Int), (m15 : Int), (m16 : Int)] 4 = (m5 : Int) := rfl
 have p2 : rd [(m1 : Int), (m2 : Int), (m3 : Int), (m4 : Int), (m5 : Int), (m6 : Int), (m7 : Int), (m8 : Int), (m9 : Int), (m10 : Int), (m11 : Int), (m12 : Int), (m13 : Int), (m14 : Int), (m15 : Int), (m16 : Int)] 5 = (m6 : Int) := rfl
 have q3 : rd [(m1 : Int), (m2 : Int), (m3 : Int), (m4 : Int), (m5 : Int), (m6 : Int), (m7 : Int), (m8 : Int), (m9 : Int), (m10 : Int), (m11 : Int), (m12 : Int), (m13 : Int), (m14 : Int), (m15 : Int), (m16 : Int)] 6 = (m7 : Int) := rfl
 have p3 : rd [(m1 : Int), (m2 : Int), (m3 : Int), (m4 : Int), (m5 : Int), (m6 : Int), (m7 : Int), (m8 : Int), (m9 : Int), (m10 : Int), (m11 : Int), (m12 : Int), (m13 : Int), (m14 : Int), (m15 : Int), (m16 : Int)] 7 = (m8 : Int) := rfl
 have q4 : rd [(m1 : Int), (m2 : Int), (m3 : Int), (m4 : Int), (m5 : Int), (m6 : Int), (m7 : Int), (m8 : Int), (m9 : Int), (m10 : Int), (m11 : Int), (m12 : Int), (m13 : Int), (m14 : Int), (m15 : Int), (m16 : Int)] 8 = (m9 : Int) := rfl
 have p4 : rd [(m1 : Int), (m2 : Int), (m3 : Int), (m4 : Int), (m5 : Int), (m6 : Int), (m7 : Int), (m8 : Int), (m9 : Int), (m10 : Int), (m11 : Int), (m12 : Int), (m13 : Int), (m14 : Int), (m15 : Int), (m16 : Int)] 9 = (m10 : Int) := rfl
 have q5 : rd [(m1 : Int), (m2 : Int), (m3 : Int), (m4 : Int), (m5 : Int), (m6 : Int), (m7 : Int), (m8 : Int), (m9 : Int), (m10 : Int), (m11 : Int), (m12 : Int), (m13 : Int), (m14 : Int), (m15 : Int), (m16 : Int)] 10 = (m11 : Int) := rfl
 have p5 : rd [(m1 : Int), (m2 : Int), (m3 : Int), (m4 : Int), (m5 : Int), (m6 : Int), (m7 : Int), (m8 : Int), (m9 : Int), (m10 : Int), (m11 : Int), (m12 : Int), (m13 : Int), (m14 : Int), (m15 : Int), (m16 : Int)] 11 = (m12 : Int) := rfl
 have q6 : rd [(m1 : Int), (m2 : Int), (m3 : Int), (m4 : Int), (m5 : Int), (m6 : Int), (m7 : Int), (m8 : Int), (m9 : Int), (m10 : Int), (m11 : Int), (m12 : Int), (m13 : Int), (m14 : Int), (m15 : Int), (m16 : Int)] 12 = (m13 : Int) := rfl
 have p6 : rd [(m1 : Int), (m2 : Int), (m3 : Int), (m4 : Int), (m5 : Int), (m6 : Int), (m7 : Int), (m8 : Int), (m9 : Int), (m10 : Int), (m11 : Int), (m12 : Int), (m13 : Int), (m14 : Int), (m15 : Int), (m16 : Int)] 13 = (m14 : Int) := rfl
 have q7 : rd [(m1 : Int), (m2 : Int), (m3 : Int), (m4 : Int), (m5 : Int), (m6 : Int), (m7 : Int), (m8 : Int), (m9 : Int), (m10 : Int), (m11 : Int), (m12 : Int), (m13 : Int), (m14 : Int), (m15 : Int), (m16 : Int)] 14 = (m15 : Int) := rfl
 have p7 : rd [(m1 : Int), (m2 : Int), (m3 : Int), (m4 : Int), (m5 : Int), (m6 : Int), (m7 : Int), (m8 : Int), (m9 : Int), (m10 : Int), (m11 : Int), (m12 : Int), (m13 : Int), (m14 : Int), (m15 : Int), (m16 : Int)] 15 = (m16 : Int) := rfl
 rw [lanternref05_Print.l0, if_pos (by decide), wd0, if_pos (by decide), if_pos (by decide), we0, if_pos (by decide), if_pos (by decide), if_pos (by simp), q0, p0, grp m1 m2 h1 h2]
 rw [lanternref05_Print.l0, if_pos (by decide), wd1, if_pos (by decide), if_pos (by decide), we1, if_pos (by decide), if_pos (by decide), if_pos (by simp), q1, p1, grp m3 m4 h3 h4, wf1]
 rw [lanternref05_Print.l0, if_pos (by decide), wd2, if_pos (by decide), if_pos (by decide), we2, if_pos (by decide), if_pos (by decide), if_pos (by simp), q2, p2, grp m5 m6 h5 h6, wf2]
 rw [lanternref05_Print.l0, if_pos (by decide), wd3, if_pos (by decide), if_pos (by decide), we3, if_pos (by decide), if_pos (by decide), if_pos (by simp), q3, p3, grp m7 m8 h7 h8, wf3]
 rw [lanternref05_Print.l0, if_pos (by decide), wd4, if_pos (by decide), if_pos (by decide), we4, if_pos (by decide), if_pos (by decide), if_pos (by simp), q4, p4, grp m9 m10 h9 h10, wf4]
 rw [lanternref05_Print.l0, if_pos (by decide), wd5, if_pos (by decide), if_pos (by decide), we5, if_pos (by decide), if_pos (by decide), if_pos (by simp), q5, p5, grp m11 m12 h11 h12, wf5]
 rw [lanternref05_Print.l0, if_pos (by decide), wd6, if_pos (by decide), if_pos (by decide), we6, if_pos (by decide), if_pos (by decide), if_pos (by simp), q6, p6, grp m13 m14 h13 h14, wf6]
 rw [lanternref05_Print.l0, if_pos (by decide), wd7, if_pos (by decide), if_pos (by decide), we7, if_pos (by decide), if_pos (by decide), if_pos (by simp), q7, p7, grp m15 m16 h15 h16, wf7]
 rw [lanternref05_Print.l0, if_neg (by decide)]
 rfl
theorem orI (a b : Nat) (ha : a < 256) (hb : b < 256) : Go.bits .or .i64 ((a * 256 : Nat) : Int) (b : Int) = ((a * 256 + b : Nat) : Int) := by
 have h := bits_or_u64_nat (a * 256) b (by omega) (by omega)
 have e : a * 256 ||| b = a * 256 + b := or8 a b hb
 rw [e] at h
 have hx : ∃ X : Nat, X < 18446744073709551616 ∧ Go.bits .or .u64 ((a * 256 : Nat) : Int) (b : Int) = IntKind.u64.wrap (X : Int) ∧ Go.bits .or .i64 ((a * 256 : Nat) : Int) (b : Int) = IntKind.i64.wrap (X : Int) := ⟨(BitVec.ofInt 64 ((a * 256 : Nat) : Int) ||| BitVec.ofInt 64 (b : Int)).toNat, BitVec.isLt _, rfl, rfl⟩
 obtain ⟨X, hlt, g1, g2⟩ := hx
 rw [g1, IntKind.wrap_u64] at h
 obtain rfl : X = a * 256 + b := by omega
 rw [g2]
 have g3 : IntKind.i64.wrap ((a * 256 + b : Nat) : Int) = wrap64 ((a * 256 + b : Nat) : Int) := by unfold Go.RowKit.wrap64; exact IntKind.wrap_i64 _
 rw [g3]
 exact wrap_nat (a * 256 + b) rfl (by omega)
theorem grpP (a b : Nat) (ha : a < 256) (hb : b < 256) : Go.bits .or .i64 (wrap64 ((wrap64 (a : Int)) * 256)) (wrap64 (b : Int)) = ((a * 256 + b : Nat) : Int) := by
 have e1 : wrap64 (a : Int) = (a : Int) := wrap_nat a rfl (by omega)
 have e2 : wrap64 (b : Int) = (b : Int) := wrap_nat b rfl (by omega)
 have e3 : wrap64 ((a : Int) * 256) = ((a * 256 : Nat) : Int) := wrap_nat (a * 256) (by omega) (by omega)
 rw [e1, e2, e3]
 exact orI a b ha hb
theorem wg0 : wrap64 (0 + 2) = 2 := by rw [wrap_id (by decide) (by decide)]; rfl
theorem wg1 : wrap64 (2 + 2) = 4 := by rw [wrap_id (by decide) (by decide)]; rfl
theorem wg2 : wrap64 (4 + 2) = 6 := by rw [wrap_id (by decide) (by decide)]; rfl
theorem wg3 : wrap64 (6 + 2) = 8 := by rw [wrap_id (by decide) (by decide)]; rfl
theorem wg4 : wrap64 (8 + 2) = 10 := by rw [wrap_id (by decide) (by decide)]; rfl
theorem wg5 : wrap64 (10 + 2) = 12 := by rw [wrap_id (by decide) (by decide)]; rfl
theorem wg6 : wrap64 (12 + 2) = 14 := by rw [wrap_id (by decide) (by decide)]; rfl
theorem wg7 : wrap64 (14 + 2) = 16 := by rw [wrap_id (by decide) (by decide)]; rfl
/-- What the program does with its groups. -/
def prT (k : Nat) (g : List Int) : Option (ByteArray × Int) := (ip_longest.f k g).bind fun t => (if t.2 < 2 then ((ip_hex.f k g).bind fun u => (some (u, 0))) else (if 0 ≤ t.1 then (if t.1 ≤ (g.length : Int) then ((ip_hex.f k (g.take (t.1 : Int).toNat)).bind fun u => (if u.size + 2 ≤ 9223372036854775807 then (if 0 ≤ (wrap64 (t.1 + t.2)) then (if (wrap64 (t.1 + t.2)) ≤ (g.length : Int) then ((ip_hex.f k (g.drop ((wrap64 (t.1 + t.2)) : Int).toNat)).bind fun v => (if (u ++ (⟨#[58, 58]⟩ : ByteArray)).size + v.size ≤ 9223372036854775807 then (some ((u ++ (⟨#[58, 58]⟩ : ByteArray)) ++ v, 0)) else (none))) else (none)) else (none)) else (none))) else (none)) else (none)))
theorem pg_groups (b : Bool) (m1 m2 m3 m4 m5 m6 m7 m8 m9 m10 m11 m12 m13 m14 m15 m16 : Nat) (h1 : m1 < 256) (h2 : m2 < 256) (h3 : m3 < 256) (h4 : m4 < 256) (h5 : m5 < 256) (h6 : m6 < 256) (h7 : m7 < 256) (h8 : m8 < 256) (h9 : m9 < 256) (h10 : m10 < 256) (h11 : m11 < 256) (h12 : m12 < 256) (h13 : m13 < 256) (h14 : m14 < 256) (h15 : m15 < 256) (h16 : m16 < 256) (k : Nat) : ip_Print.l0 (k + 9) [] 0 b (m1 : Int) (m2 : Int) (m3 : Int) (m4 : Int) (m5 : Int) (m6 : Int) (m7 : Int) (m8 : Int) (m9 : Int) (m10 : Int) (m11 : Int) (m12 : Int) (m13 : Int) (m14 : Int) (m15 : Int) (m16 : Int) = prT k (ints [m1 * 256 + m2, m3 * 256 + m4, m5 * 256 + m6, m7 * 256 + m8, m9 * 256 + m10, m11 * 256 + m12, m13 * 256 + m14, m15 * 256 + m16]) := by
 have q0 : rd [(m1 : Int), (m2 : Int), (m3 : Int), (m4 : Int), (m5 : Int), (m6 : Int), (m7 : Int), (m8 : Int), (m9 : Int), (m10 : Int), (m11 : Int), (m12 : Int), (m13 : Int), (m14 : Int), (m15 : Int), (m16 : Int)] 0 = (m1 : Int) := rfl
 have p0 : rd [(m1 : Int), (m2 : Int), (m3 : Int), (m4 : Int), (m5 : Int), (m6 : Int), (m7 : Int), (m8 : Int), (m9 : Int), (m10 : Int), (m11 : Int), (m12 : Int), (m13 : Int), (m14 : Int), (m15 : Int), (m16 : Int)] 1 = (m2 : Int) := rfl
 have q1 : rd [(m1 : Int), (m2 : Int), (m3 : Int), (m4 : Int), (m5 : Int), (m6 : Int), (m7 : Int), (m8 : Int), (m9 : Int), (m10 : Int), (m11 : Int), (m12 : Int), (m13 : Int), (m14 : Int), (m15 : Int), (m16 : Int)] 2 = (m3 : Int) := rfl
 have p1 : rd [(m1 : Int), (m2 : Int), (m3 : Int), (m4 : Int), (m5 : Int), (m6 : Int), (m7 : Int), (m8 : Int), (m9 : Int), (m10 : Int), (m11 : Int), (m12 : Int), (m13 : Int), (m14 : Int), (m15 : Int), (m16 : Int)] 3 = (m4 : Int) := rfl
 have q2 : rd [(m1 : Int), (m2 : Int), (m3 : Int), (m4 : Int), (m5 : Int), (m6 : Int), (m7 : Int), (m8 : Int), (m9 : Int), (m10 : Int), (m11 : Int), (m12 : Int), (m13 : Int), (m14 : Int), (m15 : Int), (m16 : Int)] 4 = (m5 : Int) := rfl
 have p2 : rd [(m1 : Int), (m2 : Int), (m3 : Int), (m4 : Int), (m5 : Int), (m6 : Int), (m7 : Int), (m8 : Int), (m9 : Int), (m10 : Int), (m11 : Int), (m12 : Int), (m13 : Int), (m14 : Int), (m15 : Int), (m16 : Int)] 5 = (m6 : Int) := rfl
 have q3 : rd [(m1 : Int), (m2 : Int), (m3 : Int), (m4 : Int), (m5 : Int), (m6 : Int), (m7 : Int), (m8 : Int), (m9 : Int), (m10 : Int), (m11 : Int), (m12 : Int), (m13 : Int), (m14 : Int), (m15 : Int), (m16 : Int)] 6 = (m7 : Int) := rfl
 have p3 : rd [(m1 : Int), (m2 : Int), (m3 : Int), (m4 : Int), (m5 : Int), (m6 : Int), (m7 : Int), (m8 : Int), (m9 : Int), (m10 : Int), (m11 : Int), (m12 : Int), (m13 : Int), (m14 : Int), (m15 : Int), (m16 : Int)] 7 = (m8 : Int) := rfl
 have q4 : rd [(m1 : Int), (m2 : Int), (m3 : Int), (m4 : Int), (m5 : Int), (m6 : Int), (m7 : Int), (m8 : Int), (m9 : Int), (m10 : Int), (m11 : Int), (m12 : Int), (m13 : Int), (m14 : Int), (m15 : Int), (m16 : Int)] 8 = (m9 : Int) := rfl
 have p4 : rd [(m1 : Int), (m2 : Int), (m3 : Int), (m4 : Int), (m5 : Int), (m6 : Int), (m7 : Int), (m8 : Int), (m9 : Int), (m10 : Int), (m11 : Int), (m12 : Int), (m13 : Int), (m14 : Int), (m15 : Int), (m16 : Int)] 9 = (m10 : Int) := rfl
 have q5 : rd [(m1 : Int), (m2 : Int), (m3 : Int), (m4 : Int), (m5 : Int), (m6 : Int), (m7 : Int), (m8 : Int), (m9 : Int), (m10 : Int), (m11 : Int), (m12 : Int), (m13 : Int), (m14 : Int), (m15 : Int), (m16 : Int)] 10 = (m11 : Int) := rfl
 have p5 : rd [(m1 : Int), (m2 : Int), (m3 : Int), (m4 : Int), (m5 : Int), (m6 : Int), (m7 : Int), (m8 : Int), (m9 : Int), (m10 : Int), (m11 : Int), (m12 : Int), (m13 : Int), (m14 : Int), (m15 : Int), (m16 : Int)] 11 = (m12 : Int) := rfl
 have q6 : rd [(m1 : Int), (m2 : Int), (m3 : Int), (m4 : Int), (m5 : Int), (m6 : Int), (m7 : Int), (m8 : Int), (m9 : Int), (m10 : Int), (m11 : Int), (m12 : Int), (m13 : Int), (m14 : Int), (m15 : Int), (m16 : Int)] 12 = (m13 : Int) := rfl
 have p6 : rd [(m1 : Int), (m2 : Int), (m3 : Int), (m4 : Int), (m5 : Int), (m6 : Int), (m7 : Int), (m8 : Int), (m9 : Int), (m10 : Int), (m11 : Int), (m12 : Int), (m13 : Int), (m14 : Int), (m15 : Int), (m16 : Int)] 13 = (m14 : Int) := rfl
 have q7 : rd [(m1 : Int), (m2 : Int), (m3 : Int), (m4 : Int), (m5 : Int), (m6 : Int), (m7 : Int), (m8 : Int), (m9 : Int), (m10 : Int), (m11 : Int), (m12 : Int), (m13 : Int), (m14 : Int), (m15 : Int), (m16 : Int)] 14 = (m15 : Int) := rfl
 have p7 : rd [(m1 : Int), (m2 : Int), (m3 : Int), (m4 : Int), (m5 : Int), (m6 : Int), (m7 : Int), (m8 : Int), (m9 : Int), (m10 : Int), (m11 : Int), (m12 : Int), (m13 : Int), (m14 : Int), (m15 : Int), (m16 : Int)] 15 = (m16 : Int) := rfl
 rw [ip_Print.l0, if_pos (by decide), if_pos (by decide), we0, if_pos (by decide), if_pos (by decide), if_pos (by simp), q0, p0, grpP m1 m2 h1 h2, wg0]
 rw [ip_Print.l0, if_pos (by decide), if_pos (by decide), we1, if_pos (by decide), if_pos (by decide), if_pos (by simp), q1, p1, grpP m3 m4 h3 h4, wg1]
 rw [ip_Print.l0, if_pos (by decide), if_pos (by decide), we2, if_pos (by decide), if_pos (by decide), if_pos (by simp), q2, p2, grpP m5 m6 h5 h6, wg2]
 rw [ip_Print.l0, if_pos (by decide), if_pos (by decide), we3, if_pos (by decide), if_pos (by decide), if_pos (by simp), q3, p3, grpP m7 m8 h7 h8, wg3]
 rw [ip_Print.l0, if_pos (by decide), if_pos (by decide), we4, if_pos (by decide), if_pos (by decide), if_pos (by simp), q4, p4, grpP m9 m10 h9 h10, wg4]
 rw [ip_Print.l0, if_pos (by decide), if_pos (by decide), we5, if_pos (by decide), if_pos (by decide), if_pos (by simp), q5, p5, grpP m11 m12 h11 h12, wg5]
 rw [ip_Print.l0, if_pos (by decide), if_pos (by decide), we6, if_pos (by decide), if_pos (by decide), if_pos (by simp), q6, p6, grpP m13 m14 h13 h14, wg6]
 rw [ip_Print.l0, if_pos (by decide), if_pos (by decide), we7, if_pos (by decide), if_pos (by decide), if_pos (by simp), q7, p7, grpP m15 m16 h15 h16, wg7]
 rw [ip_Print.l0, if_neg (by decide)]
 rfl
theorem run_le {p : List Int} {a n : Nat} (h : isRun p a n = true) : a + n ≤ 8 := by
 unfold isRun at h
 rw [Bool.and_eq_true] at h
 exact of_decide_eq_true h.1
theorem ints_take (ns : List Nat) (a : Nat) : (ints ns).take a = ints (ns.take a) := (List.map_take ..).symm
theorem ints_drop (ns : List Nat) (a : Nat) : (ints ns).drop a = ints (ns.drop a) := (List.map_drop ..).symm
theorem hexT_len (ns : List Nat) (h : ∀ n ∈ ns, n < 65536) (hl : ns.length ≤ 8) : (hexT ns).length ≤ 144 := by
 have := join_len (ns.map (digL 16)) 17 (by
  intro x hx
  obtain ⟨n, hn, rfl⟩ := List.mem_map.1 hx
  exact hd_len n (h n hn))
 rw [List.length_map] at this
 unfold hexT
 omega
/-- The program's text. -/
theorem prT_f (ns : List Nat) (h : ∀ x ∈ ns, x < 65536) (h8 : ns.length = 8) (a n k : Nat) (hk : 200 ≤ k) (hl : ip_longest.f k (ints ns) = some ((a : Int), (n : Int))) (hn : n < 2 ∨ a + n ≤ 8) : prT k (ints ns) = some (B (shortT a n ns), 0) := by
 have hli : (ints ns).length = 8 := (List.length_map _).trans h8
 unfold prT shortT
 rw [hl, Option.bind_some]
 dsimp only
 by_cases h2 : n < 2
 ·rw [if_pos (show (n : Int) < 2 by omega), hex_f ns h (by omega) k (by omega), Option.bind_some, if_pos h2]
 ·have han : a + n ≤ 8 := hn.resolve_left h2
  have hw : wrap64 ((a : Int) + (n : Int)) = ((a + n : Nat) : Int) := wrap_nat (a + n) (by omega) (by omega)
  have ht : ∀ x ∈ ns.take a, x < 65536 := fun x hx => h x (List.mem_of_mem_take hx)
  have hd : ∀ x ∈ ns.drop (a + n), x < 65536 := fun x hx => h x (List.mem_of_mem_drop hx)
  have l1 : (ns.take a).length ≤ 8 := by rw [List.length_take]; omega
  have l2 : (ns.drop (a + n)).length ≤ 8 := by rw [List.length_drop]; omega
  have t1 := hexT_len _ ht l1
  have t2 := hexT_len _ hd l2
  rw [if_neg (show ¬ (n : Int) < 2 by omega), if_neg h2, if_pos (by omega), hli, if_pos (by omega), Int.toNat_natCast, ints_take, hex_f _ ht l1 k (by omega), Option.bind_some, if_pos (by rw [size_B]; omega), hw, if_pos (by omega), if_pos (by omega), Int.toNat_natCast, ints_drop, hex_f _ hd l2 k (by omega), Option.bind_some, B_58', append_B, if_pos (by rw [size_B, size_B, List.length_append]; simp; omega), append_B]
  simp
theorem refP_f (d0 d1 d2 d3 d4 d5 d6 d7 : Nat) (h0 : d0 < 65536) (h1 : d1 < 65536) (h2 : d2 < 65536) (h3 : d3 < 65536) (h4 : d4 < 65536) (h5 : d5 < 65536) (h6 : d6 < 65536) (h7 : d7 < 65536) (a n d k : Nat) (hk : 71000 ≤ k) (hr : rl1 k (ints [d0, d1, d2, d3, d4, d5, d6, d7]) 0 0 0 = some ((a : Int), (n : Int), d + (k - 300))) (ha : a ≤ 8) (hn : n < 2 ∨ a + n ≤ 8) : lanternref05_Print.l1 k (ints [d0, d1, d2, d3, d4, d5, d6, d7]) 0 0 0 = some (B (shortT a n [d0, d1, d2, d3, d4, d5, d6, d7])) := by
 rw [(rl_eq _ k).1, hr, Option.bind_some]
 unfold toL4
 dsimp only
 rw [show d + (k - 300) = (d + (k - 333)) + 33 by omega, rp_text a n d0 d1 d2 d3 d4 d5 d6 d7 h0 h1 h2 h3 h4 h5 h6 h7 ha (by omega) _ (by omega)]
 by_cases h2 : n < 2
 ·rw [allT_one a n d0 d1 d2 d3 d4 d5 d6 d7 h2]
  unfold shortT
  rw [if_pos h2]
 ·obtain ⟨m, rfl⟩ : ∃ m, n = m + 2 := ⟨n - 2, by omega⟩
  rw [allT_two a m d0 d1 d2 d3 d4 d5 d6 d7 (by omega)]
/-- Both texts of eight groups. -/
theorem both_f (d0 d1 d2 d3 d4 d5 d6 d7 : Nat) (h0 : d0 < 65536) (h1 : d1 < 65536) (h2 : d2 < 65536) (h3 : d3 < 65536) (h4 : d4 < 65536) (h5 : d5 < 65536) (h6 : d6 < 65536) (h7 : d7 < 65536) (k : Nat) (hk : 71000 ≤ k) : ∃ a n : Nat, prT k (ints [d0, d1, d2, d3, d4, d5, d6, d7]) = some (B (shortT a n [d0, d1, d2, d3, d4, d5, d6, d7]), 0) ∧ lanternref05_Print.l1 k (ints [d0, d1, d2, d3, d4, d5, d6, d7]) 0 0 0 = some (B (shortT a n [d0, d1, d2, d3, d4, d5, d6, d7])) ∧ a ≤ 8 ∧ (n < 2 ∨ isRun (pat8 (d0 : Int) (d1 : Int) (d2 : Int) (d3 : Int) (d4 : Int) (d5 : Int) (d6 : Int) (d7 : Int)) a n = true) := by
 obtain ⟨a, n, d, r1, r2, ha, hc⟩ := run_of (d0 : Int) (d1 : Int) (d2 : Int) (d3 : Int) (d4 : Int) (d5 : Int) (d6 : Int) (d7 : Int)
 have hn : n < 2 ∨ a + n ≤ 8 := hc.imp id run_le
 have hm : ∀ x ∈ [d0, d1, d2, d3, d4, d5, d6, d7], x < 65536 := by
  intro x hx
  simp only [List.mem_cons, List.not_mem_nil, or_false] at hx
  rcases hx with rfl | rfl | rfl | rfl | rfl | rfl | rfl | rfl <;> assumption
 exact ⟨a, n, prT_f [d0, d1, d2, d3, d4, d5, d6, d7] hm rfl a n k (by omega) (r1 k (by omega)) hn, refP_f d0 d1 d2 d3 d4 d5 d6 d7 h0 h1 h2 h3 h4 h5 h6 h7 a n d k hk (r2 k (by omega)) ha hn, ha, hc⟩
theorem dot46 : (⟨#[46]⟩ : ByteArray) = B [46] := rfl
theorem digw (n k : Nat) (hn : n < 256) (hk : 300 ≤ k) : lanternref05_digits.f k (wrap64 (n : Int)) 10 = some (B (digL 10 n)) := by
 have e : wrap64 (n : Int) = (n : Int) := wrap_nat n rfl (by omega)
 rw [e]
 exact refdigits_f 10 (Or.inl rfl) n k (by omega) (by omega)
theorem refdots_f (b : Bool) (m1 m2 m3 m4 m5 m6 m7 m8 m9 m10 m11 m12 m13 m14 m15 m16 : Nat) (h13 : m13 < 256) (h14 : m14 < 256) (h15 : m15 < 256) (h16 : m16 < 256) (k : Nat) (hk : 400 ≤ k) : lanternref05_dots.f k b (m1 : Int) (m2 : Int) (m3 : Int) (m4 : Int) (m5 : Int) (m6 : Int) (m7 : Int) (m8 : Int) (m9 : Int) (m10 : Int) (m11 : Int) (m12 : Int) (m13 : Int) (m14 : Int) (m15 : Int) (m16 : Int) = some (B (dotL m13 m14 m15 m16)) := by
 obtain ⟨k, rfl⟩ : ∃ j, k = j + 5 := ⟨k - 5, by omega⟩
 have q0 : rd [(m1 : Int), (m2 : Int), (m3 : Int), (m4 : Int), (m5 : Int), (m6 : Int), (m7 : Int), (m8 : Int), (m9 : Int), (m10 : Int), (m11 : Int), (m12 : Int), (m13 : Int), (m14 : Int), (m15 : Int), (m16 : Int)] 12 = (m13 : Int) := rfl
 have v0 : wrap64 (12 + 1) = 13 := by rw [wrap_id (by decide) (by decide)]; rfl
 have l0 := dig3 m13 h13
 have q1 : rd [(m1 : Int), (m2 : Int), (m3 : Int), (m4 : Int), (m5 : Int), (m6 : Int), (m7 : Int), (m8 : Int), (m9 : Int), (m10 : Int), (m11 : Int), (m12 : Int), (m13 : Int), (m14 : Int), (m15 : Int), (m16 : Int)] 13 = (m14 : Int) := rfl
 have v1 : wrap64 (13 + 1) = 14 := by rw [wrap_id (by decide) (by decide)]; rfl
 have l1 := dig3 m14 h14
 have q2 : rd [(m1 : Int), (m2 : Int), (m3 : Int), (m4 : Int), (m5 : Int), (m6 : Int), (m7 : Int), (m8 : Int), (m9 : Int), (m10 : Int), (m11 : Int), (m12 : Int), (m13 : Int), (m14 : Int), (m15 : Int), (m16 : Int)] 14 = (m15 : Int) := rfl
 have v2 : wrap64 (14 + 1) = 15 := by rw [wrap_id (by decide) (by decide)]; rfl
 have l2 := dig3 m15 h15
 have q3 : rd [(m1 : Int), (m2 : Int), (m3 : Int), (m4 : Int), (m5 : Int), (m6 : Int), (m7 : Int), (m8 : Int), (m9 : Int), (m10 : Int), (m11 : Int), (m12 : Int), (m13 : Int), (m14 : Int), (m15 : Int), (m16 : Int)] 15 = (m16 : Int) := rfl
 have v3 : wrap64 (15 + 1) = 16 := by rw [wrap_id (by decide) (by decide)]; rfl
 have l3 := dig3 m16 h16
 rw [lanternref05_dots.f, nil_B]
 rw [lanternref05_dots.l0, if_pos (by decide), if_neg (by decide), if_pos (by decide), q0, digw m13 _ h13 (by omega), Option.bind_some, if_pos (by rw [size_B, size_B]; simp; omega), append_B, List.nil_append, v0]
 rw [lanternref05_dots.l0, if_pos (by decide), if_pos (by decide), if_pos (by rw [size_B]; simp; omega), if_pos (by decide), q1, digw m14 _ h14 (by omega), Option.bind_some, dot46, append_B, if_pos (by rw [size_B, size_B]; simp; omega), append_B, v1]
 rw [lanternref05_dots.l0, if_pos (by decide), if_pos (by decide), if_pos (by rw [size_B]; simp; omega), if_pos (by decide), q2, digw m15 _ h15 (by omega), Option.bind_some, dot46, append_B, if_pos (by rw [size_B, size_B]; simp; omega), append_B, v2]
 rw [lanternref05_dots.l0, if_pos (by decide), if_pos (by decide), if_pos (by rw [size_B]; simp; omega), if_pos (by decide), q3, digw m16 _ h16 (by omega), Option.bind_some, dot46, append_B, if_pos (by rw [size_B, size_B]; simp; omega), append_B, v3]
 rw [lanternref05_dots.l0, if_neg (by decide)]
 unfold dotL
 simp
theorem join_cons (c : UInt8) (x y : List UInt8) (u : List (List UInt8)) : Lib.join (x :: y :: u) [c] = x ++ c :: Lib.join (y :: u) [c] := by simp [Lib.join, List.intercalate, List.intersperse]
theorem join_single (c : UInt8) (x : List UInt8) : Lib.join [x] [c] = x := by simp [Lib.join, List.intercalate, List.intersperse]
theorem splitS_join (c : UInt8) : ∀ (l : List (List UInt8)), l ≠ [] → (∀ x ∈ l, ∀ b ∈ x, b ≠ c) → splitS c (Lib.join l [c]) = l
 | [x], _, h => by rw [join_single, splitS_word c x (h x (by simp))]
 | x :: y :: u, _, h => by rw [join_cons, splitS_dot c _ x (h x (by simp)), splitS_join c (y :: u) (by simp) fun z hz => h z (by simp [hz])]
theorem dc_no58 : ∀ d : Fin 16, dc d.val ≠ 58 := by decide
theorem digL_no (base n : Nat) (hb : 2 ≤ base ∧ base ≤ 16) : ∀ b ∈ digL base n, b ≠ 58 ∧ b ≠ 46 := by
 intro b hb'
 obtain ⟨d, hd, rfl⟩ := digL_mem base hb n b hb'
 exact ⟨dc_no58 ⟨d, hd⟩, (dc_facts ⟨d, hd⟩).2.1⟩
theorem hexT_split (ns : List Nat) (h : ns ≠ []) : splitS 58 (hexT ns) = ns.map (digL 16) := by
 unfold hexT
 refine splitS_join 58 _ (by simpa using h) ?_
 intro x hx b hb
 obtain ⟨n, _, rfl⟩ := List.mem_map.1 hx
 exact (digL_no 16 n (by omega) b hb).1
def bytesG (ns : List Nat) : List Int := ns.flatMap fun n => [((n / 256 : Nat) : Int), ((n % 256 : Nat) : Int)]
theorem digL_ne (base n : Nat) : digL base n ≠ [] := by
 rw [digL]
 split <;> simp
theorem hd4 (n : Nat) (hn : n < 65536) : (digL 16 n).length ≤ 4 := by
 by_cases h1 : n < 16
 ·rw [digL_lt 16 n h1]; simp
 ·rw [digL_ge 16 n (by decide) (by omega), List.length_append, List.length_singleton]
  by_cases h2 : n / 16 < 16
  ·rw [digL_lt 16 _ h2]; simp
  ·rw [digL_ge 16 (n / 16) (by decide) (by omega), List.length_append, List.length_singleton]
   by_cases h3 : n / 16 / 16 < 16
   ·rw [digL_lt 16 _ h3]; simp
   ·rw [digL_ge 16 (n / 16 / 16) (by decide) (by omega), List.length_append, List.length_singleton, digL_lt 16 _ (by omega)]; simp
theorem four_none (l : List UInt8) (h : ∀ b ∈ l, b ≠ 46) : fourV l = none := by
 unfold fourV
 rw [splitS_word 46 l h]
 rfl
theorem groupsP_hex (tail : Bool) : ∀ (ns : List Nat) (acc : List Int), (∀ x ∈ ns, x < 65536) → groupsP tail (ns.map (digL 16)) acc = some (acc ++ bytesG ns)
 | [], acc, _ => by simp [groupsP, bytesG]
 | n :: t, acc, h => by
  have hn := h n (by simp)
  have h4 : (if tail = true ∧ t.map (digL 16) = [] then fourV (digL 16 n) else none) = none := by
   split
   ·exact four_none _ fun b hb => (digL_no 16 n (by omega) b hb).2
   ·rfl
  rw [List.map_cons, groupsP, h4]
  dsimp only
  rw [digL_num 16 (by omega) n]
  dsimp only
  rw [if_pos ⟨digL_ne 16 n, hn, hd4 n hn⟩, groupsP_hex tail t _ fun x hx => h x (by simp [hx])]
  simp [bytesG]
theorem groupsV_hex (tail : Bool) (ns : List Nat) (h : ∀ x ∈ ns, x < 65536) : groupsV tail (hexT ns) = some (bytesG ns) := by
 unfold groupsV
 cases ns with
 | nil => rfl
 | cons n t =>
  rw [if_neg, hexT_split _ (by simp), groupsP_hex tail _ _ h, List.nil_append]
  intro e
  have := hexT_split (n :: t) (by simp)
  rw [e] at this
  simp [splitS] at this
  exact digL_ne 16 n this.1
def bump (m : Nat) (x : Int) : Int := if x = -1 then -1 else x + m
theorem idx_cons (b : UInt8) (l s : List UInt8) (h : s.isPrefixOf (b :: l) = false) : Lib.index (b :: l) s = bump 1 (Lib.index l s) := by
 rw [Lib.index, if_neg (by rw [h]; decide)]
 unfold bump
 by_cases e : Lib.index l s = -1
 ·rw [if_pos e, if_pos (by rw [e]; rfl)]
 ·rw [if_neg e, if_neg (by simpa using e)]
  rfl
theorem bump_bump (a b : Nat) (x : Int) (hx : -1 ≤ x) : bump a (bump b x) = bump (b + a) x := by
 unfold bump
 by_cases e : x = -1
 ·rw [if_pos e, if_pos rfl, if_pos e]
 ·rw [if_neg e, if_neg (by omega), if_neg e]
  omega
theorem pre_not {b : UInt8} (l : List UInt8) (h : b ≠ 58) : ([58, 58] : List UInt8).isPrefixOf (b :: l) = false := by
 simp [List.isPrefixOf]
 intro e
 exact absurd e.symm h
theorem idx_word : ∀ (w r : List UInt8), (∀ b ∈ w, b ≠ 58) → Lib.index (w ++ r) [58, 58] = bump w.length (Lib.index r [58, 58])
 | [], r, _ => by
  unfold bump
  by_cases e : Lib.index r [58, 58] = -1
  ·rw [if_pos e]; exact e
  ·rw [if_neg e]; simp
 | b :: w, r, h => by
  rw [List.cons_append, idx_cons _ _ _ (pre_not _ (h b (by simp))), idx_word w r fun x hx => h x (by simp [hx]), bump_bump _ _ _ (Lib.index_ge _ _)]
  rfl
theorem idx_join (t : List UInt8) : ∀ ws : List (List UInt8), (∀ w ∈ ws, w ≠ [] ∧ ∀ b ∈ w, b ≠ 58) → Lib.index (Lib.join ws [58] ++ t) [58, 58] = bump (Lib.join ws [58]).length (Lib.index t [58, 58])
 | [], _ => by
  have := idx_word [] t (by simp)
  exact this
 | [w], h => by
  rw [join_single]
  exact idx_word w t (h w (by simp)).2
 | w :: x :: u, h => by
  have ih := idx_join t (x :: u) fun y hy => h y (by simp [hy])
  obtain ⟨hx1, hx2⟩ := h x (by simp)
  have hp : ([58, 58] : List UInt8).isPrefixOf (58 :: (Lib.join (x :: u) [58] ++ t)) = false := by
   obtain ⟨b, x', rfl⟩ := List.exists_cons_of_ne_nil hx1
   have hb := hx2 b (by simp)
   have hj : ∃ v, Lib.join ((b :: x') :: u) [58] = b :: v := by
    cases u with
    | nil => exact ⟨x', join_single 58 _⟩
    | cons y u => rw [join_cons]; exact ⟨_, rfl⟩
   obtain ⟨v, hv⟩ := hj
   rw [hv]
   simp [List.isPrefixOf]
   intro e
   exact absurd e.symm hb
  rw [join_cons, List.append_assoc, List.cons_append, idx_word w _ (h w (by simp)).2, idx_cons _ _ _ hp, ih, bump_bump _ _ _ (by unfold bump; have := Lib.index_ge t [58, 58]; split <;> omega), bump_bump _ _ _ (Lib.index_ge _ _)]
  congr 1
  simp
  omega
theorem digs_ok (ns : List Nat) : ∀ w ∈ ns.map (digL 16), w ≠ [] ∧ ∀ b ∈ w, b ≠ 58 := by
 intro w hw
 obtain ⟨n, _, rfl⟩ := List.mem_map.1 hw
 exact ⟨digL_ne 16 n, fun b hb => (digL_no 16 n (by omega) b hb).1⟩
theorem cut_hex (ns : List Nat) : Lib.cut (hexT ns) [58, 58] = (hexT ns, [], false) := by
 have := idx_join [] (ns.map (digL 16)) (digs_ok ns)
 rw [List.append_nil] at this
 have e : Lib.index (hexT ns) [58, 58] = -1 := this
 unfold Lib.cut
 rw [e, if_neg (by decide)]
theorem cut_gap (ms ns : List Nat) : Lib.cut (hexT ms ++ 58 :: 58 :: hexT ns) [58, 58] = (hexT ms, hexT ns, true) := by
 have := idx_join (58 :: 58 :: hexT ns) (ms.map (digL 16)) (digs_ok ms)
 have e0 : Lib.index (58 :: 58 :: hexT ns) [58, 58] = 0 := by rw [Lib.index, if_pos (by simp [List.isPrefixOf])]
 have e : Lib.index (hexT ms ++ 58 :: 58 :: hexT ns) [58, 58] = ((hexT ms).length : Int) := by
  refine this.trans ?_
  rw [e0]
  unfold bump
  rw [if_neg (by decide), Int.zero_add]
  rfl
 unfold Lib.cut
 rw [e, if_pos (by omega), Int.toNat_natCast, List.take_left]
 simp [List.drop_append]
theorem index_of_mem (c : UInt8) : ∀ l : List UInt8, c ∈ l → 0 ≤ Lib.index l [c]
 | b :: l, h => by
  rw [Lib.index]
  split
  ·exact Int.le_refl _
  ·rename_i hp
   have hne : c ≠ b := by
    intro e
    apply hp
    simp [List.isPrefixOf, e]
   have ih := index_of_mem c l (by simpa [hne] using h)
   rw [if_neg (by simp; omega)]
   omega
theorem contains_of (c : UInt8) (l : List UInt8) (h : c ∈ l) : Lib.contains l [c] = true := decide_eq_true (index_of_mem c l h)
theorem hexT_len4 (ns : List Nat) (h : ∀ n ∈ ns, n < 65536) : (hexT ns).length ≤ ns.length * 5 := by
 have := join_len (ns.map (digL 16)) 4 (by
  intro x hx
  obtain ⟨n, hn, rfl⟩ := List.mem_map.1 hx
  exact hd4 n (h n hn))
 rwa [List.length_map] at this
theorem join_mem (c x : UInt8) : ∀ l : List (List UInt8), x ∈ Lib.join l [c] → x = c ∨ ∃ w ∈ l, x ∈ w
 | [], h => by simp [Lib.join] at h
 | [w], h => by
  rw [join_single] at h
  exact Or.inr ⟨w, by simp, h⟩
 | w :: y :: u, h => by
  rw [join_cons] at h
  rcases List.mem_append.1 h with h | h
  ·exact Or.inr ⟨w, by simp, h⟩
  ·rcases List.mem_cons.1 h with h | h
   ·exact Or.inl h
   ·rcases join_mem c x (y :: u) h with h | ⟨z, hz, h⟩
    ·exact Or.inl h
    ·exact Or.inr ⟨z, by simp [hz], h⟩
theorem hexT_dot (ns : List Nat) : ∀ b ∈ hexT ns, b ≠ 46 := by
 intro b hb
 rcases join_mem 58 b _ hb with rfl | ⟨w, hw, h⟩
 ·decide
 ·obtain ⟨n, _, rfl⟩ := List.mem_map.1 hw
  exact (digL_no 16 n (by omega) b h).2
theorem shortT_dot (a n : Nat) (ns : List Nat) : ∀ b ∈ shortT a n ns, b ≠ 46 := by
 intro b hb
 unfold shortT at hb
 split at hb
 ·exact hexT_dot ns b hb
 ·rcases List.mem_append.1 hb with h | h
  ·exact hexT_dot _ b h
  ·rcases List.mem_cons.1 h with rfl | h
   ·decide
   ·rcases List.mem_cons.1 h with rfl | h
    ·decide
    ·exact hexT_dot _ b h
theorem hexT_colon (n m : Nat) (ns : List Nat) : (58 : UInt8) ∈ hexT (n :: m :: ns) := by
 unfold hexT
 rw [List.map_cons, List.map_cons, join_cons]
 simp
theorem bytesG_len (ns : List Nat) : (bytesG ns).length = 2 * ns.length := by
 unfold bytesG
 induction ns with
 | nil => rfl
 | cons n t ih => simp at ih ⊢; omega
/-- The text of eight groups is read as two rows of bytes. -/
theorem parse_short (d0 d1 : Nat) (ds : List Nat) (h : ∀ x ∈ d0 :: d1 :: ds, x < 65536) (h8 : (d0 :: d1 :: ds).length = 8) (a n : Nat) (ha : a ≤ 8) (hn : n < 2 ∨ a + n ≤ 8) :
  ∃ p q : Nat, p ≤ q ∧ q ≤ 8 ∧ (n < 2 → p = 8 ∧ q = 8) ∧ (2 ≤ n → p = a ∧ q = a + n) ∧ parseV (shortT a n (d0 :: d1 :: ds)) = some (V6T (sixT (bytesG ((d0 :: d1 :: ds).take p)) (bytesG ((d0 :: d1 :: ds).drop q)))) := by
 have hf := four_none _ (shortT_dot a n (d0 :: d1 :: ds))
 by_cases h2 : n < 2
 ·refine ⟨8, 8, by omega, by omega, fun _ => ⟨rfl, rfl⟩, fun g => absurd h2 (by omega), ?_⟩
  have es : shortT a n (d0 :: d1 :: ds) = hexT (d0 :: d1 :: ds) := by unfold shortT; rw [if_pos h2]
  rw [es] at hf ⊢
  have hl := hexT_len4 _ h
  have g1 := groupsV_hex true _ h
  have hs : sixV (hexT (d0 :: d1 :: ds)) = some (bytesG (d0 :: d1 :: ds), []) := by
   unfold sixV
   rw [cut_hex]
   dsimp only
   rw [show (!false) = true from rfl, g1, show groupsV true [] = some [] from rfl]
   dsimp only
   rw [if_neg (by decide), if_pos (by rw [bytesG_len]; omega)]
  unfold parseV
  rw [if_neg (by omega), hf]
  dsimp only
  rw [hs]
  dsimp only
  rw [if_pos (contains_of 58 _ (hexT_colon d0 d1 ds)), List.take_of_length_le (by omega), List.drop_eq_nil_of_le (by omega)]
  rfl
 ·have han : a + n ≤ 8 := hn.resolve_left h2
  refine ⟨a, a + n, by omega, han, fun g => absurd g h2, fun _ => ⟨rfl, rfl⟩, ?_⟩
  generalize hns : d0 :: d1 :: ds = ns at *
  have es : shortT a n ns = hexT (ns.take a) ++ 58 :: 58 :: hexT (ns.drop (a + n)) := by unfold shortT; rw [if_neg h2]
  rw [es] at hf ⊢
  have ht : ∀ x ∈ ns.take a, x < 65536 := fun x hx => h x (List.mem_of_mem_take hx)
  have hd : ∀ x ∈ ns.drop (a + n), x < 65536 := fun x hx => h x (List.mem_of_mem_drop hx)
  have l1 := hexT_len4 _ ht
  have l2 := hexT_len4 _ hd
  have b1 := bytesG_len (ns.take a)
  have b2 := bytesG_len (ns.drop (a + n))
  rw [List.length_take] at l1 b1
  rw [List.length_drop] at l2 b2
  have g1 := groupsV_hex false _ ht
  have g2 := groupsV_hex true _ hd
  have hs : sixV (hexT (ns.take a) ++ 58 :: 58 :: hexT (ns.drop (a + n))) = some (bytesG (ns.take a), bytesG (ns.drop (a + n))) := by
   unfold sixV
   rw [cut_gap]
   dsimp only
   rw [show (!true) = false from rfl, g1, g2]
   dsimp only
   rw [if_pos rfl, if_pos (by omega)]
  unfold parseV
  rw [if_neg (by rw [List.length_append]; simp only [List.length_cons]; omega), hf]
  dsimp only
  rw [hs]
  dsimp only
  rw [if_pos (contains_of 58 _ (by simp))]
theorem bytesG_take : ∀ (ns : List Nat) (a : Nat), bytesG (ns.take a) = (bytesG ns).take (2 * a)
 | [], a => by simp [bytesG]
 | n :: t, 0 => by simp [bytesG]
 | n :: t, a + 1 => by
  have := bytesG_take t a
  rw [show 2 * (a + 1) = 2 * a + 1 + 1 by omega]
  simp [bytesG] at this ⊢
  exact this
theorem bytesG_drop : ∀ (ns : List Nat) (a : Nat), bytesG (ns.drop a) = (bytesG ns).drop (2 * a)
 | [], a => by simp [bytesG]
 | n :: t, 0 => by simp [bytesG]
 | n :: t, a + 1 => by
  have := bytesG_drop t a
  rw [show 2 * (a + 1) = 2 * a + 1 + 1 by omega]
  simp [bytesG] at this ⊢
  exact this
theorem six_cell (bs : List Int) (h16 : bs.length = 16) (p q : Nat) (hpq : p ≤ q) (hq : q ≤ 8) (j : Nat) (hj : j < 16) (hz : 2 * p ≤ j → j < 2 * q → bs.getD j 0 = 0) :
  cpy ((16 - (bs.drop (2 * q)).length : Nat) : Int) 16 j (bs.drop (2 * q)) (cpy 0 16 j (bs.take (2 * p)) 0) = bs.getD j 0 := by
 have e : 16 - (16 - 2 * q) = 2 * q := by omega
 unfold cpy
 rw [List.length_drop, List.length_take, h16, e, Int.toNat_natCast, show (0 : Int).toNat = 0 from rfl]
 by_cases h1 : 2 * q ≤ j
 ·rw [if_pos (by omega)]
  simp only [List.getD_eq_getElem?_getD, List.getElem?_drop]
  rw [show 2 * q + (j - 2 * q) = j by omega]
 ·rw [if_neg (by omega)]
  by_cases h2 : j < 2 * p
  ·rw [if_pos (by omega)]
   simp only [List.getD_eq_getElem?_getD, List.getElem?_take]
   rw [Nat.sub_zero, if_pos h2]
  ·rw [if_neg (by omega)]
   exact (hz (by omega) (by omega)).symm
/-- Sixteen bytes, told as groups, come back. -/
theorem six_back (m1 m2 m3 m4 m5 m6 m7 m8 m9 m10 m11 m12 m13 m14 m15 m16 : Nat) (h2 : m2 < 256) (h4 : m4 < 256) (h6 : m6 < 256) (h8 : m8 < 256) (h10 : m10 < 256) (h12 : m12 < 256) (h14 : m14 < 256) (h16 : m16 < 256) (p q : Nat) (hpq : p ≤ q) (hq : q ≤ 8)
  (hz : ∀ j, p ≤ j → j < q → ([m1 * 256 + m2, m3 * 256 + m4, m5 * 256 + m6, m7 * 256 + m8, m9 * 256 + m10, m11 * 256 + m12, m13 * 256 + m14, m15 * 256 + m16] : List Nat).getD j 0 = 0) :
  V6T (sixT (bytesG (([m1 * 256 + m2, m3 * 256 + m4, m5 * 256 + m6, m7 * 256 + m8, m9 * 256 + m10, m11 * 256 + m12, m13 * 256 + m14, m15 * 256 + m16] : List Nat).take p)) (bytesG (([m1 * 256 + m2, m3 * 256 + m4, m5 * 256 + m6, m7 * 256 + m8, m9 * 256 + m10, m11 * 256 + m12, m13 * 256 + m14, m15 * 256 + m16] : List Nat).drop q)))
  = (true, (m1 : Int), (m2 : Int), (m3 : Int), (m4 : Int), (m5 : Int), (m6 : Int), (m7 : Int), (m8 : Int), (m9 : Int), (m10 : Int), (m11 : Int), (m12 : Int), (m13 : Int), (m14 : Int), (m15 : Int), (m16 : Int)) := by
 have eb : bytesG [m1 * 256 + m2, m3 * 256 + m4, m5 * 256 + m6, m7 * 256 + m8, m9 * 256 + m10, m11 * 256 + m12, m13 * 256 + m14, m15 * 256 + m16] = [(m1 : Int), (m2 : Int), (m3 : Int), (m4 : Int), (m5 : Int), (m6 : Int), (m7 : Int), (m8 : Int), (m9 : Int), (m10 : Int), (m11 : Int), (m12 : Int), (m13 : Int), (m14 : Int), (m15 : Int), (m16 : Int)] := by
  have dv (a b : Nat) (hb : b < 256) : (a * 256 + b) / 256 = a := by omega
  have md (a b : Nat) (hb : b < 256) : (a * 256 + b) % 256 = b := by omega
  unfold bytesG
  simp only [List.flatMap_cons, List.flatMap_nil]
  rw [dv m1 m2 h2, dv m3 m4 h4, dv m5 m6 h6, dv m7 m8 h8, dv m9 m10 h10, dv m11 m12 h12, dv m13 m14 h14, dv m15 m16 h16, md m1 m2 h2, md m3 m4 h4, md m5 m6 h6, md m7 m8 h8, md m9 m10 h10, md m11 m12 h12, md m13 m14 h14, md m15 m16 h16]
  rfl
 have hzz : ∀ j, 2 * p ≤ j → j < 2 * q → ([(m1 : Int), (m2 : Int), (m3 : Int), (m4 : Int), (m5 : Int), (m6 : Int), (m7 : Int), (m8 : Int), (m9 : Int), (m10 : Int), (m11 : Int), (m12 : Int), (m13 : Int), (m14 : Int), (m15 : Int), (m16 : Int)] : List Int).getD j 0 = 0 := by
  intro j j1 j2
  have hh := hz (j / 2) (by omega) (by omega)
  have hj : j < 16 := by omega
  match j, hj, hh with
  | 0, _, hh => have : m1 * 256 + m2 = 0 := hh; show (m1 : Int) = 0; omega
  | 1, _, hh => have : m1 * 256 + m2 = 0 := hh; show (m2 : Int) = 0; omega
  | 2, _, hh => have : m3 * 256 + m4 = 0 := hh; show (m3 : Int) = 0; omega
  | 3, _, hh => have : m3 * 256 + m4 = 0 := hh; show (m4 : Int) = 0; omega
  | 4, _, hh => have : m5 * 256 + m6 = 0 := hh; show (m5 : Int) = 0; omega
  | 5, _, hh => have : m5 * 256 + m6 = 0 := hh; show (m6 : Int) = 0; omega
  | 6, _, hh => have : m7 * 256 + m8 = 0 := hh; show (m7 : Int) = 0; omega
  | 7, _, hh => have : m7 * 256 + m8 = 0 := hh; show (m8 : Int) = 0; omega
  | 8, _, hh => have : m9 * 256 + m10 = 0 := hh; show (m9 : Int) = 0; omega
  | 9, _, hh => have : m9 * 256 + m10 = 0 := hh; show (m10 : Int) = 0; omega
  | 10, _, hh => have : m11 * 256 + m12 = 0 := hh; show (m11 : Int) = 0; omega
  | 11, _, hh => have : m11 * 256 + m12 = 0 := hh; show (m12 : Int) = 0; omega
  | 12, _, hh => have : m13 * 256 + m14 = 0 := hh; show (m13 : Int) = 0; omega
  | 13, _, hh => have : m13 * 256 + m14 = 0 := hh; show (m14 : Int) = 0; omega
  | 14, _, hh => have : m15 * 256 + m16 = 0 := hh; show (m15 : Int) = 0; omega
  | 15, _, hh => have : m15 * 256 + m16 = 0 := hh; show (m16 : Int) = 0; omega
  | j + 16, hj, _ => omega
 rw [bytesG_take, bytesG_drop, eb]
 have c := fun j hj => six_cell [(m1 : Int), (m2 : Int), (m3 : Int), (m4 : Int), (m5 : Int), (m6 : Int), (m7 : Int), (m8 : Int), (m9 : Int), (m10 : Int), (m11 : Int), (m12 : Int), (m13 : Int), (m14 : Int), (m15 : Int), (m16 : Int)] rfl p q hpq hq j hj (hzz j)
 unfold V6T sixT
 dsimp only
 rw [c 0 (by decide), c 1 (by decide), c 2 (by decide), c 3 (by decide), c 4 (by decide), c 5 (by decide), c 6 (by decide), c 7 (by decide), c 8 (by decide), c 9 (by decide), c 10 (by decide), c 11 (by decide), c 12 (by decide), c 13 (by decide), c 14 (by decide), c 15 (by decide)]
 rfl
theorem strict_dig (n : Nat) (hn : n < 256) : strictV (digL 10 n) = some n := by
 unfold strictV
 rw [if_neg, digL_num 10 (by omega) n, Option.bind_some, if_pos hn]
 rintro (h | ⟨h1, h2⟩)
 ·exact digL_ne 10 n h
 ·rcases Nat.eq_zero_or_pos n with rfl | h0
  ·rw [digL_lt 10 0 (by decide)] at h1
   simp at h1
  ·obtain ⟨d, t, e, hd, hd2⟩ := digL_head 10 (by omega) n h0
   rw [e] at h2
   have : d = 0 := (dc_facts ⟨d, hd2⟩).2.2.2.2 h2
   omega
theorem dig46 (n : Nat) : ∀ b ∈ digL 10 n, b ≠ 46 := fun b hb => (digL_no 10 n (by omega) b hb).2
theorem split_dotL (a b c d : Nat) : splitS 46 (dotL a b c d) = [digL 10 a, digL 10 b, digL 10 c, digL 10 d] := by
 unfold dotL
 rw [splitS_dot 46 _ _ (dig46 a), splitS_dot 46 _ _ (dig46 b), splitS_dot 46 _ _ (dig46 c), splitS_word 46 _ (dig46 d)]
theorem four_dotL (a b c d : Nat) (ha : a < 256) (hb : b < 256) (hc : c < 256) (hd : d < 256) : fourV (dotL a b c d) = some (a, b, c, d) := by
 unfold fourV
 rw [split_dotL]
 unfold fourP
 dsimp only
 rw [strict_dig a ha, strict_dig b hb, strict_dig c hc, strict_dig d hd]
 rfl
theorem parse_dotL (a b c d : Nat) (ha : a < 256) (hb : b < 256) (hc : c < 256) (hd : d < 256) : parseV (dotL a b c d) = some (V4T a b c d) := by
 have := dotL_len a b c d ha hb hc hd
 unfold parseV
 rw [if_neg (by omega), four_dotL a b c d ha hb hc hd]
def mapT (a b c d : Nat) : List UInt8 := 58 :: 58 :: 102 :: 102 :: 102 :: 102 :: 58 :: dotL a b c d
theorem dotL_colon (a b c d : Nat) : ∀ x ∈ dotL a b c d, x ≠ 58 := by
 intro x hx
 unfold dotL at hx
 simp only [List.mem_append, List.mem_cons] at hx
 rcases hx with h | h | h | h | h | h | h
 ·exact (digL_no 10 a (by omega) x h).1
 ·rw [h]; decide
 ·exact (digL_no 10 b (by omega) x h).1
 ·rw [h]; decide
 ·exact (digL_no 10 c (by omega) x h).1
 ·rw [h]; decide
 ·exact (digL_no 10 d (by omega) x h).1
theorem four_map (a b c d : Nat) : fourV (mapT a b c d) = none := by
 have e : mapT a b c d = (58 :: 58 :: 102 :: 102 :: 102 :: 102 :: 58 :: digL 10 a) ++ 46 :: (digL 10 b ++ 46 :: (digL 10 c ++ 46 :: digL 10 d)) := rfl
 have hs : strictV (58 :: 58 :: 102 :: 102 :: 102 :: 102 :: 58 :: digL 10 a) = none := by
  unfold strictV
  split
  ·rfl
  ·rfl
 unfold fourV
 rw [e, splitS_dot 46 _ _ (by
  intro x hx
  simp only [List.mem_cons] at hx
  rcases hx with h | h | h | h | h | h | h | h
  ·rw [h]; decide
  ·rw [h]; decide
  ·rw [h]; decide
  ·rw [h]; decide
  ·rw [h]; decide
  ·rw [h]; decide
  ·rw [h]; decide
  ·exact dig46 a x h), splitS_dot 46 _ _ (dig46 b), splitS_dot 46 _ _ (dig46 c), splitS_word 46 _ (dig46 d)]
 unfold fourP
 dsimp only
 rw [hs]
 rfl
theorem parse_map (a b c d : Nat) (ha : a < 256) (hb : b < 256) (hc : c < 256) (hd : d < 256) : parseV (mapT a b c d) = some (V6T (sixT [] [255, 255, (a : Int), (b : Int), (c : Int), (d : Int)])) := by
 have hl := dotL_len a b c d ha hb hc hd
 have hcut : Lib.cut (mapT a b c d) [58, 58] = ([], 102 :: 102 :: 102 :: 102 :: 58 :: dotL a b c d, true) := by
  unfold Lib.cut
  have e : Lib.index (mapT a b c d) [58, 58] = 0 := by unfold mapT; rw [Lib.index, if_pos (by simp [List.isPrefixOf])]
  rw [e]
  rfl
 have hg : groupsV true (102 :: 102 :: 102 :: 102 :: 58 :: dotL a b c d) = some [255, 255, (a : Int), (b : Int), (c : Int), (d : Int)] := by
  unfold groupsV
  rw [if_neg (by simp), show (102 :: 102 :: 102 :: 102 :: 58 :: dotL a b c d : List UInt8) = [102, 102, 102, 102] ++ 58 :: dotL a b c d from rfl, splitS_dot 58 _ _ (by decide), splitS_word 58 _ (dotL_colon a b c d), groupsP, if_neg (by simp)]
  dsimp only
  rw [show numV 16 0 [102, 102, 102, 102] = some 65535 from rfl]
  dsimp only
  rw [if_pos (by decide), groupsP, if_pos ⟨rfl, rfl⟩, four_dotL a b c d ha hb hc hd]
  rfl
 have hs : sixV (mapT a b c d) = some ([], [255, 255, (a : Int), (b : Int), (c : Int), (d : Int)]) := by
  unfold sixV
  rw [hcut]
  dsimp only
  rw [hg, show groupsV (!true) [] = some [] from rfl]
  rfl
 unfold parseV
 rw [if_neg (by unfold mapT; simp only [List.length_cons]; omega), four_map]
 dsimp only
 rw [hs]
 dsimp only
 rw [if_pos (contains_of 58 _ (by unfold mapT; simp))]
theorem map_back (a b c d : Int) : V6T (sixT [] [255, 255, a, b, c, d]) = (true, 0, 0, 0, 0, 0, 0, 0, 0, 0, 0, 255, 255, a, b, c, d) := rfl
end Go.Proofs.YtdopafhppaalfaaGreatDoor.Q
