/- What the law IpPrints needs beside its own. (Put together by wip/gen/gen_k0.py.) -/
import Derived.Test.YtfiefecjcmcejaaDoorB
import Derived.Test.YtfiefecjcmcejaaDoorSP
import Derived.Test.YtfiefecjcmcejaaDoorTS
import Derived.Lib.SlTrimSet
import Derived.Laws.Bits64b
import Derived.Lib.Bytes
import Derived.Test.YtfiefecjcmcejaaDoorP11
set_option linter.unusedSimpArgs false
set_option linter.unusedVariables false
set_option maxRecDepth 10000
namespace Go.Proofs.YtfiefecjcmcejaaDoor.Q
open Go Go.RowKit Go.Lib Go.Proofs.YtfiefecjcmcejaaDoorW.PrintWords Go.Proofs.YtfiefecjcmcejaaDoorW.PrintMore Go.Proofs.YtfiefecjcmcejaaDoorB Go.Proofs.YtfiefecjcmcejaaDoor.E Go.Proofs.YtfiefecjcmcejaaDoorV Go.Proofs.YtfiefecjcmcejaaDoor.P

/-- A digit's value. -/
def D (c : UInt8) : Option Nat := if 48 ≤ c.toNat ∧ c.toNat ≤ 57 then some (c.toNat - 48) else if 97 ≤ c.toNat ∧ c.toNat ≤ 102 then some (c.toNat - 87) else if 65 ≤ c.toNat ∧ c.toNat ≤ 70 then some (c.toNat - 55) else none
/-- A row of digits' value by a base, behind what was read. -/
def numV (base : Nat) : Nat → List UInt8 → Option Nat
  | acc, [] => some acc
  | acc, c :: t => match D c with
    | some d => if d < base then numV base (acc * base + d) t else none
    | none => none
theorem numV_ge (base : Nat) (hb : 1 ≤ base) : ∀ (l : List UInt8) (acc n : Nat), numV base acc l = some n → acc ≤ n
  | [], acc, n, h => by simp [numV] at h; omega
  | c :: t, acc, n, h => by
    rw [numV] at h
    cases hd : D c with
    | none => rw [hd] at h; cases h
    | some d =>
      rw [hd] at h
      dsimp only at h
      split at h
      · have := numV_ge base hb t _ n h
        have : acc * 1 ≤ acc * base := Nat.mul_le_mul_left _ hb
        omega
      · cases h
def idxI (c : Nat) : Int := Lib.indexByte [48, 49, 50, 51, 52, 53, 54, 55, 56, 57, 97, 98, 99, 100, 101, 102] (Go.bits .or .u8 (c : Int) 32).toNat.toUInt8
def DN (c : Nat) : Option Nat := if 48 ≤ c ∧ c ≤ 57 then some (c - 48) else if 97 ≤ c ∧ c ≤ 102 then some (c - 87) else if 65 ≤ c ∧ c ≤ 70 then some (c - 55) else none
theorem D_DN (c : UInt8) : D c = DN c.toNat := rfl
def digB (c : Nat) : Bool := match DN c with
  | some d => decide (¬ ((c : Int) < 48) ∧ ¬ ((57 < (c : Int)) ∧ (c : Int) < 65) ∧ idxI c = (d : Int) ∧ d < 16)
  | none => decide ((c : Int) < 48 ∨ (57 < (c : Int) ∧ (c : Int) < 65) ∨ idxI c < 0)
theorem dig_all : ∀ c : Fin 256, digB c.val = true := by decide +kernel
theorem dig_facts (c : Nat) (hc : c < 256) : (match DN c with
    | some d => ¬ ((c : Int) < 48) ∧ ¬ ((57 < (c : Int)) ∧ (c : Int) < 65) ∧ idxI c = (d : Int) ∧ d < 16
    | none => (c : Int) < 48 ∨ (57 < (c : Int) ∧ (c : Int) < 65) ∨ idxI c < 0) := by
  have h := dig_all ⟨c, hc⟩
  unfold digB at h
  dsimp only at h
  cases hd : DN c with
  | none => rw [hd] at h; exact of_decide_eq_true h
  | some d => rw [hd] at h; exact of_decide_eq_true h
/-- A number, as the program tells it. -/
def numP (base limit : Nat) (l : List UInt8) : Int × Bool := match numV base 0 l with
  | some n => if l ≠ [] ∧ n < limit then ((n : Int), true) else (0, false)
  | none => (0, false)
theorem num_step (base limit : Nat) (hb : 2 ≤ base ∧ base ≤ 16) (hl : limit ≤ 4294967296) (k : Nat) (s : List UInt8) (i acc : Nat) (c : UInt8) (hi : i < s.length) (hc : s.getD i 0 = c) (ha : acc < limit) (hs : s.length ≤ 1000000) :
    ip_number.l0 (k + 2) (B s) (base : Int) (limit : Int) (acc : Int) (i : Int) = match D c with
      | some d => if d < base then (if acc * base + d < limit then ip_number.l0 k (B s) (base : Int) (limit : Int) ((acc * base + d : Nat) : Int) ((i + 1 : Nat) : Int) else some (0, false)) else some (0, false)
      | none => some (0, false) := by
  have hbt : bt (B s) (i : Int) = (c.toNat : Int) := by rw [bt_B, Int.toNat_natCast, hc]
  have hf := dig_facts c.toNat c.toNat_lt
  have hw : wrap64 ((i : Int) + 1) = ((i + 1 : Nat) : Int) := wrap_nat (i + 1) rfl (by omega)
  have hidx : strings_IndexByte.f (⟨#[48, 49, 50, 51, 52, 53, 54, 55, 56, 57, 97, 98, 99, 100, 101, 102]⟩ : ByteArray) (Go.bits .or .u8 (c.toNat : Int) 32) = some (idxI c.toNat) := rfl
  rw [ip_number.l0, size_B, if_pos (by omega), if_pos (by omega), hbt, hidx, Option.bind_some]
  rw [D_DN]
  have hbad : ip_number.j1 (k + 1) (B s) (base : Int) (limit : Int) (acc : Int) (i : Int) (idxI c.toNat) true = some (0, false) := by rw [ip_number.j1, if_pos rfl]
  cases hd : DN c.toNat with
  | none =>
    rw [hd] at hf
    dsimp only at hf ⊢
    by_cases h1 : (c.toNat : Int) < 48
    · rw [if_pos h1, hbad]
    · rw [if_neg h1]
      by_cases h2 : (c.toNat : Int) > 57
      · rw [if_pos h2]
        by_cases h3 : (c.toNat : Int) < 65
        · rw [if_pos h3, hbad]
        · rw [if_neg h3, if_pos (by omega), hbad]
      · rw [if_neg h2, if_pos (by omega), hbad]
  | some d =>
    rw [hd] at hf
    dsimp only at hf ⊢
    obtain ⟨h1, h2, h3, h4⟩ := hf
    have hw2 : IntKind.u64.wrap (idxI c.toNat) = (d : Int) := by rw [h3, IntKind.wrap_u64]; omega
    have key : ip_number.j1 (k + 1) (B s) (base : Int) (limit : Int) (acc : Int) (i : Int) (idxI c.toNat) (decide (IntKind.u64.wrap (idxI c.toNat) ≥ (base : Int))) = if d < base then (if acc * base + d < limit then ip_number.l0 k (B s) (base : Int) (limit : Int) ((acc * base + d : Nat) : Int) ((i + 1 : Nat) : Int) else some (0, false)) else some (0, false) := by
      have hab : acc * base ≤ 4294967296 * 16 := Nat.mul_le_mul (by omega) hb.2
      have hw3 : IntKind.u64.wrap ((acc : Int) * (base : Int)) = ((acc * base : Nat) : Int) := by rw [← Int.natCast_mul, IntKind.wrap_u64]; omega
      have hw4 : IntKind.u64.wrap (((acc * base : Nat) : Int) + (d : Int)) = ((acc * base + d : Nat) : Int) := by rw [← Int.natCast_add, IntKind.wrap_u64]; omega
      rw [ip_number.j1, hw2, hw3, hw4, hw]
      by_cases g1 : d < base
      · rw [if_pos g1, if_neg (by simp; omega)]
        by_cases g2 : acc * base + d < limit
        · rw [if_pos g2, if_neg (by omega)]
        · rw [if_neg g2, if_pos (by omega)]
      · rw [if_neg g1, if_pos (by simp; omega)]
    rw [if_neg h1]
    by_cases g : (c.toNat : Int) > 57
    · rw [if_pos g, if_neg (by omega), if_neg (by omega), key]
    · rw [if_neg g, if_neg (by omega), key]
theorem num_loop (base limit : Nat) (hb : 2 ≤ base ∧ base ≤ 16) (hl : limit ≤ 4294967296) (s : List UInt8) (hs : s.length ≤ 1000000) : ∀ (t : List UInt8) (i acc k : Nat), s.drop i = t → i ≤ s.length → acc < limit → 2 * t.length + 1 ≤ k →
    ip_number.l0 k (B s) (base : Int) (limit : Int) (acc : Int) (i : Int) = some (match numV base acc t with
      | some n => if n < limit then ((n : Int), s != []) else (0, false)
      | none => (0, false))
  | [], i, acc, k, hd, hi, ha, hk => by
    obtain ⟨k, rfl⟩ : ∃ m, k = m + 1 := ⟨k - 1, by simp at hk; omega⟩
    have : s.length ≤ i := List.drop_eq_nil_iff.1 hd
    rw [ip_number.l0, size_B, if_neg (by omega), toList_L, L_B]
    simp [numV, ha]
  | c :: t, i, acc, k, hd, hi, ha, hk => by
    obtain ⟨k, rfl⟩ : ∃ m, k = m + 2 := ⟨k - 2, by simp at hk; omega⟩
    have hlt : i < s.length := by
      rcases Nat.lt_or_ge i s.length with h | h
      · exact h
      · rw [List.drop_eq_nil_of_le h] at hd; cases hd
    rw [getD_drop s i hlt] at hd
    injection hd with h1 h2
    rw [num_step base limit hb hl k s i acc c hlt h1 ha hs, numV]
    cases D c with
    | none => rfl
    | some d =>
      dsimp only
      by_cases g1 : d < base
      · rw [if_pos g1, if_pos g1]
        by_cases g2 : acc * base + d < limit
        · rw [if_pos g2]
          exact num_loop base limit hb hl s hs t (i + 1) _ k h2 (by omega) g2 (by simp at hk; omega)
        · rw [if_neg g2]
          cases hv : numV base (acc * base + d) t with
          | none => rfl
          | some n =>
            have := numV_ge base (by omega) t _ n hv
            dsimp only
            rw [if_neg (by omega)]
      · rw [if_neg g1, if_neg g1]
theorem number_f (base limit : Nat) (hb : 2 ≤ base ∧ base ≤ 16) (hl : limit ≤ 4294967296) (h0 : 0 < limit) (s : List UInt8) (hs : s.length ≤ 1000000) (k : Nat) (hk : 2 * s.length + 1 ≤ k) :
    ip_number.f k (B s) (base : Int) (limit : Int) = some (numP base limit s) := by
  rw [ip_number.f]
  have := num_loop base limit hb hl s hs s 0 0 k rfl (by omega) h0 hk
  rw [show ((0 : Nat) : Int) = 0 from rfl] at this
  rw [this, numP]
  cases s with
  | nil => simp [numV, h0]
  | cons a t =>
    cases numV base 0 (a :: t) with
    | none => rfl
    | some n =>
      dsimp only
      by_cases g : n < limit
      · simp [g]
      · simp [g]
theorem up_to {α : Type} {f : Nat → Option α} (hm : ∀ k, LeO (f k) (f (k + 1))) {k0 : Nat} {r : α} (h : f k0 = some r) : ∀ k, k0 ≤ k → f k = some r := by
  intro k hk
  obtain ⟨j, rfl⟩ : ∃ j, k = k0 + j := ⟨k - k0, by omega⟩
  clear hk
  induction j with
  | zero => exact h
  | succ j ih => exact hm (k0 + j) _ ih
/-- An address of IPv4. -/
def V4T (a b c d : Int) : Bool × Int × Int × Int × Int × Int × Int × Int × Int × Int × Int × Int × Int × Int × Int × Int × Int := (false, 0, 0, 0, 0, 0, 0, 0, 0, 0, 0, 0, 0, a, b, c, d)
abbrev Tup := Bool × Int × Int × Int × Int × Int × Int × Int × Int × Int × Int × Int × Int × Int × Int × Int × Int
def zT : Tup := (false, 0, 0, 0, 0, 0, 0, 0, 0, 0, 0, 0, 0, 0, 0, 0, 0)
/-- An address and what is told beside it, as one row. -/
def T18 (a : Tup) (e : Int) : Bool × Int × Int × Int × Int × Int × Int × Int × Int × Int × Int × Int × Int × Int × Int × Int × Int × Int :=
  (a.1, a.2.1, a.2.2.1, a.2.2.2.1, a.2.2.2.2.1, a.2.2.2.2.2.1, a.2.2.2.2.2.2.1, a.2.2.2.2.2.2.2.1, a.2.2.2.2.2.2.2.2.1, a.2.2.2.2.2.2.2.2.2.1, a.2.2.2.2.2.2.2.2.2.2.1, a.2.2.2.2.2.2.2.2.2.2.2.1, a.2.2.2.2.2.2.2.2.2.2.2.2.1, a.2.2.2.2.2.2.2.2.2.2.2.2.2.1, a.2.2.2.2.2.2.2.2.2.2.2.2.2.2.1, a.2.2.2.2.2.2.2.2.2.2.2.2.2.2.2.1, a.2.2.2.2.2.2.2.2.2.2.2.2.2.2.2.2, e)
theorem rdOf_map (ps : List (List UInt8)) (i : Nat) : rdOf ByteArray.empty (ps.map B) (i : Int) = B (ps.getD i []) := by
  unfold rdOf
  rw [Int.toNat_natCast, List.getD_eq_getElem?_getD, List.getElem?_map, List.getD_eq_getElem?_getD]
  cases ps[i]? <;> rfl
def errL : Bool × Int × Int × Int × Int × Int × Int × Int × Int × Int × Int × Int × Int × Int × Int × Int × Int × Int := T18 zT 5
theorem or8 (a b : Nat) (h : b < 256) : a * 256 ||| b = a * 256 + b := by
  have := Nat.two_pow_add_eq_or_of_lt (i := 8) (b := b) (by omega) a
  rw [show (2 : Nat) ^ 8 = 256 from rfl, Nat.mul_comm 256 a] at this
  exact this.symm
theorem splitS_ne (c : UInt8) : ∀ l : List UInt8, splitS c l ≠ []
  | [] => by simp [splitS]
  | b :: l => by
    rw [splitS]
    split
    · simp
    · split <;> simp
theorem splitS_le (c : UInt8) : ∀ l : List UInt8, ∀ p ∈ splitS c l, p.length ≤ l.length
  | [], p, h => by simp [splitS] at h; simp [h]
  | b :: l, p, h => by
    rw [splitS] at h
    split at h
    · rcases List.mem_cons.1 h with rfl | h
      · simp
      · have := splitS_le c l p h; simp; omega
    · split at h
      · rename_i he; exact absurd he (splitS_ne c l)
      · rename_i q t he
        rcases List.mem_cons.1 h with rfl | h
        · have := splitS_le c l q (by rw [he]; simp); simp; omega
        · have := splitS_le c l p (by rw [he]; simp [h]); simp; omega
theorem wn1 (i : Nat) (h : i ≤ 1000000000) : wrap64 ((i : Int) + 1) = ((i + 1 : Nat) : Int) := wrap_nat (i + 1) rfl (by omega)
theorem wnsub (n : Nat) (h : 1 ≤ n) (h2 : n ≤ 1000000000) : wrap64 ((n : Int) - 1) = ((n - 1 : Nat) : Int) := wrap_nat (n - 1) (by omega) (by omega)
/-- A part's value, written strictly. -/
def strictV (p : List UInt8) : Option Nat := if p = [] ∨ (1 < p.length ∧ p.getD 0 0 = 48) then none else (numV 10 0 p).bind fun n => if n < 256 then some n else none
theorem number10 (limit : Nat) (hl : limit ≤ 4294967296) (h0 : 0 < limit) (s : List UInt8) (hs : s.length ≤ 1000000) (k : Nat) (hk : 2 * s.length + 1 ≤ k) : ip_number.f k (B s) 10 (limit : Int) = some (numP 10 limit s) := number_f 10 limit (by omega) hl h0 s hs k hk
theorem number16 (limit : Nat) (hl : limit ≤ 4294967296) (h0 : 0 < limit) (s : List UInt8) (hs : s.length ≤ 1000000) (k : Nat) (hk : 2 * s.length + 1 ≤ k) : ip_number.f k (B s) 16 (limit : Int) = some (numP 16 limit s) := number_f 16 limit (by omega) hl h0 s hs k hk
theorem four_step (ps : List (List UInt8)) (hn : ps.length = 4) (hs : ∀ p ∈ ps, p.length ≤ 1000000) (i : Nat) (hi : i < 4) (a b c d : Int) (k : Nat) (hk : 2000010 ≤ k) :
    ip_four.l0 (k + 1) (ps.map B) 4 (i : Int) a b c d = match strictV (ps.getD i []) with
      | some n => ip_four.l0 k (ps.map B) 4 ((i + 1 : Nat) : Int) (upd i 0 n a) (upd i 1 n b) (upd i 2 n c) (upd i 3 n d)
      | none => some (a, b, c, d, false) := by
  have hp : (ps.getD i []).length ≤ 1000000 := by
    rw [List.getD_eq_getElem?_getD, List.getElem?_eq_getElem (by omega), Option.getD_some]
    exact hs _ (List.getElem_mem (by omega))
  generalize hpp : ps.getD i [] = p at hp
  have hnum : ip_number.f k (B p) 10 256 = some (numP 10 256 p) := number10 256 (by decide) (by decide) p hp k (by omega)
  have hbad : numP 10 256 p = (0, false) → strictV p = none → ip_four.l0 (k + 1) (ps.map B) 4 (i : Int) a b c d = match strictV p with
      | some n => ip_four.l0 k (ps.map B) 4 ((i + 1 : Nat) : Int) (upd i 0 n a) (upd i 1 n b) (upd i 2 n c) (upd i 3 n d)
      | none => some (a, b, c, d, false) := by
    intro h1 h2
    rw [ip_four.l0, if_pos (by omega), if_pos (by omega), if_pos (by rw [List.length_map]; omega), rdOf_map, hpp, hnum, h1, Option.bind_some, h2]
    rfl
  by_cases hne : p = []
  · exact hbad (by subst hne; rfl) (by unfold strictV; rw [if_pos (Or.inl hne)])
  · cases hv : numV 10 0 p with
    | none => exact hbad (by unfold numP; rw [hv]) (by unfold strictV; rw [hv]; split <;> rfl)
    | some n =>
      by_cases g : n < 256
      · have h1 : numP 10 256 p = ((n : Int), true) := by unfold numP; rw [hv]; exact if_pos ⟨hne, g⟩
        have hm : ((n : Int)) % 256 = (n : Int) := by omega
        rw [ip_four.l0, if_pos (by omega), if_pos (by omega), if_pos (by rw [List.length_map]; omega), rdOf_map, hpp, hnum, h1, Option.bind_some, wn1 i (by omega), size_B]
        dsimp only
        rw [if_pos rfl, hm]
        by_cases g1 : 1 < p.length
        · have hb0 : bt (B p) 0 = ((p.getD 0 0).toNat : Int) := by rw [bt_B]; rfl
          rw [if_pos (by omega), if_pos (by omega), hb0]
          by_cases g2 : p.getD 0 0 = 48
          · have h2 : strictV p = none := by unfold strictV; rw [if_pos (Or.inr ⟨g1, g2⟩)]
            rw [if_pos (by rw [g2]; rfl), h2]
          · have h2 : strictV p = some n := by unfold strictV; rw [if_neg (by rintro (h | h); exact hne h; exact g2 h.2), hv, Option.bind_some, if_pos g]
            rw [if_neg (fun h => g2 (UInt8.toNat_inj.mp (by rw [show (48 : UInt8).toNat = 48 from rfl]; omega))), if_pos (by omega), h2]
        · have h2 : strictV p = some n := by unfold strictV; rw [if_neg (by rintro (h | h); exact hne h; exact g1 h.1), hv, Option.bind_some, if_pos g]
          rw [if_neg (by omega), if_pos (by omega), h2]
      · exact hbad (by unfold numP; rw [hv]; exact if_neg (fun h => g h.2)) (by unfold strictV; rw [hv, Option.bind_some, if_neg g]; split <;> rfl)
def fourP (ps : List (List UInt8)) : Option (Nat × Nat × Nat × Nat) := match ps with
  | [p, q, r, s] => (strictV p).bind fun a => (strictV q).bind fun b => (strictV r).bind fun c => (strictV s).bind fun d => some (a, b, c, d)
  | _ => none
def fourV (l : List UInt8) : Option (Nat × Nat × Nat × Nat) := fourP (splitS 46 l)
def fourIs (o : Option (Nat × Nat × Nat × Nat)) (r : Int × Int × Int × Int × Bool) : Prop := match o with
  | some (a, b, c, d) => r = ((a : Int), (b : Int), (c : Int), (d : Int), true)
  | none => r.2.2.2.2 = false
theorem four_f (l : List UInt8) (hl : l.length ≤ 1000000) (k : Nat) (hk : 2000100 ≤ k) : ∃ r, ip_four.f k (B l) = some r ∧ fourIs (fourV l) r := by
  obtain ⟨k, rfl⟩ : ∃ m, k = m + 5 := ⟨k - 5, by omega⟩
  rw [ip_four.f, split_f 46 (B l) (by rw [size_B]; omega), Option.bind_some, L_B, List.length_map]
  unfold fourV
  have hs : ∀ p ∈ splitS 46 l, p.length ≤ 1000000 := fun p hp => by have := splitS_le 46 l p hp; omega
  generalize splitS 46 l = ps at hs
  by_cases g : ps.length = 4
  · rw [if_pos (by omega), g]
    have st := four_step ps g hs
    match ps, g, hs, st with
    | [p, q, r, s], g, hs, st =>
      rw [show ((4 : Nat) : Int) = 4 from rfl]
      have s0 := st 0 (by omega) 0 0 0 0 (k + 4) (by omega)
      have s1 := fun a b c d => st 1 (by omega) a b c d (k + 3) (by omega)
      have s2 := fun a b c d => st 2 (by omega) a b c d (k + 2) (by omega)
      have s3 := fun a b c d => st 3 (by omega) a b c d (k + 1) (by omega)
      rw [show (([p, q, r, s] : List (List UInt8)).getD 0 []) = p from rfl] at s0
      simp only [show (([p, q, r, s] : List (List UInt8)).getD 1 []) = q from rfl] at s1
      simp only [show (([p, q, r, s] : List (List UInt8)).getD 2 []) = r from rfl] at s2
      simp only [show (([p, q, r, s] : List (List UInt8)).getD 3 []) = s from rfl] at s3
      rw [show (0 : Int) = ((0 : Nat) : Int) from rfl] 
      refine (show ∃ r', ip_four.l0 (k + 4 + 1) (List.map B [p, q, r, s]) 4 ((0 : Nat) : Int) 0 0 0 0 = some r' ∧ fourIs (fourP [p, q, r, s]) r' from ?_)
      rw [s0, fourP]
      cases strictV p with
      | none => exact ⟨_, rfl, rfl⟩
      | some a =>
        refine (show ∃ r', ip_four.l0 (k + 3 + 1) (List.map B [p, q, r, s]) 4 ((1 : Nat) : Int) a 0 0 0 = some r' ∧ _ from ?_)
        rw [s1]
        cases strictV q with
        | none => exact ⟨_, rfl, rfl⟩
        | some b =>
          refine (show ∃ r', ip_four.l0 (k + 2 + 1) (List.map B [p, q, r, s]) 4 ((2 : Nat) : Int) a b 0 0 = some r' ∧ _ from ?_)
          rw [s2]
          cases strictV r with
          | none => exact ⟨_, rfl, rfl⟩
          | some c =>
            refine (show ∃ r', ip_four.l0 (k + 1 + 1) (List.map B [p, q, r, s]) 4 ((3 : Nat) : Int) a b c 0 = some r' ∧ _ from ?_)
            rw [s3]
            cases strictV s with
            | none => exact ⟨_, rfl, rfl⟩
            | some d =>
              refine ⟨((a : Int), (b : Int), (c : Int), (d : Int), true), ?_, rfl⟩
              show ip_four.l0 (k + 1) (List.map B [p, q, r, s]) 4 ((4 : Nat) : Int) a b c d = _
              rw [ip_four.l0, if_neg (by decide)]
  · rw [if_neg (by omega)]
    refine ⟨_, rfl, ?_⟩
    have : fourP ps = none := by
      unfold fourP
      split
      · simp at g
      · rfl
    rw [this]
    rfl
/-- Groups, as bytes. -/
def groupsP (tail : Bool) : List (List UInt8) → List Int → Option (List Int)
  | [], acc => some acc
  | q :: rest, acc => match (if tail = true ∧ rest = [] then fourV q else none) with
    | some (a, b, c, d) => some (acc ++ [(a : Int), (b : Int), (c : Int), (d : Int)])
    | none => match numV 16 0 q with
      | some n => if q ≠ [] ∧ n < 65536 ∧ q.length ≤ 4 then groupsP tail rest (acc ++ [((n / 256 : Nat) : Int), ((n % 256 : Nat) : Int)]) else none
      | none => none
def groupsV (tail : Bool) (l : List UInt8) : Option (List Int) := if l = [] then some [] else groupsP tail (splitS 58 l) []
def groupsR : Option (List Int) → List Int × Bool
  | some r => (r, true)
  | none => ([], false)
theorem groups_j1 (ps : List (List UInt8)) (tail : Bool) (acc : List Int) (q : List UInt8) (hq : q.length ≤ 1000000) (i : Nat) (hi : i < ps.length) (hn : ps.length ≤ 1000000) (ha : acc.length ≤ 2 * i) (a b c d : Int) (k : Nat) (hk : 2000010 ≤ k) :
    ip_groups.j1 (k + 1) tail acc (ps.map B) (B q) (ps.map B) (ps.length : Int) (i : Int) false a b c d = match numV 16 0 q with
      | some n => if q ≠ [] ∧ n < 65536 ∧ q.length ≤ 4 then ip_groups.l0 k tail (acc ++ [((n / 256 : Nat) : Int), ((n % 256 : Nat) : Int)]) (ps.map B) (ps.map B) (ps.length : Int) ((i + 1 : Nat) : Int) else some ([], false)
      | none => some ([], false) := by
  have hnum : ip_number.f k (B q) 16 65536 = some (numP 16 65536 q) := number16 65536 (by decide) (by decide) q hq k (by omega)
  rw [ip_groups.j1, if_neg (by simp), hnum, Option.bind_some, size_B, wn1 i (by omega)]
  cases hv : numV 16 0 q with
  | none =>
    have h1 : numP 16 65536 q = (0, false) := by unfold numP; rw [hv]
    rw [h1]
    rfl
  | some n =>
    dsimp only
    by_cases g : q ≠ [] ∧ n < 65536
    · have h1 : numP 16 65536 q = ((n : Int), true) := by unfold numP; rw [hv]; exact if_pos g
      rw [h1]
      dsimp only
      rw [if_pos rfl]
      by_cases g2 : q.length ≤ 4
      · have e1 : (n : Int) / 256 % 256 = ((n / 256 : Nat) : Int) := by omega
        have e2 : (n : Int) % 256 = ((n % 256 : Nat) : Int) := by omega
        rw [if_neg (by omega), if_pos ⟨g.1, g.2, g2⟩, Option.bind_some, e1, e2, if_pos (by simp; omega)]
      · rw [if_pos (by omega), if_neg (fun h => g2 h.2.2)]
    · have h1 : numP 16 65536 q = (0, false) := by unfold numP; rw [hv]; exact if_neg g
      rw [h1, if_neg (show ¬ (q ≠ [] ∧ n < 65536 ∧ q.length ≤ 4) from fun h => g ⟨h.1, h.2.1⟩)]
      rfl
theorem groups_loop (ps : List (List UInt8)) (tail : Bool) (hs : ∀ p ∈ ps, p.length ≤ 1000000) (hn : ps.length ≤ 1000000) : ∀ (t : List (List UInt8)) (i : Nat) (acc : List Int) (k : Nat), ps.drop i = t → i ≤ ps.length → acc.length ≤ 2 * i → 2000200 + 2 * t.length ≤ k →
    ip_groups.l0 k tail acc (ps.map B) (ps.map B) (ps.length : Int) (i : Int) = some (groupsR (groupsP tail t acc))
  | [], i, acc, k, hd, hi, ha, hk => by
    obtain ⟨k, rfl⟩ : ∃ m, k = m + 1 := ⟨k - 1, by simp at hk; omega⟩
    have : ps.length ≤ i := List.drop_eq_nil_iff.1 hd
    rw [ip_groups.l0, if_neg (by omega)]
    rfl
  | q :: t, i, acc, k, hd, hi, ha, hk => by
    obtain ⟨k, rfl⟩ : ∃ m, k = m + 2 := ⟨k - 2, by simp at hk; omega⟩
    simp only [List.length_cons] at hk
    have hlt : i < ps.length := by
      rcases Nat.lt_or_ge i ps.length with h | h
      · exact h
      · rw [List.drop_eq_nil_of_le h] at hd; cases hd
    have hlen : (q :: t).length = ps.length - i := by rw [← hd, List.length_drop]
    simp only [List.length_cons] at hlen
    rw [List.drop_eq_getElem_cons hlt] at hd
    injection hd with h1 h2
    have hg : ps.getD i [] = q := by rw [List.getD_eq_getElem?_getD, List.getElem?_eq_getElem hlt, Option.getD_some, h1]
    have hq : q.length ≤ 1000000 := hs q (h1 ▸ List.getElem_mem hlt)
    obtain ⟨r, hr, hfi⟩ := four_f q hq (k + 1) (by omega)
    have hj1 := fun a b c d => groups_j1 ps tail acc q hq i hlt hn ha a b c d k (by omega)
    have hrest : ∀ n : Nat, ip_groups.l0 k tail (acc ++ [((n / 256 : Nat) : Int), ((n % 256 : Nat) : Int)]) (ps.map B) (ps.map B) (ps.length : Int) ((i + 1 : Nat) : Int) = some (groupsR (groupsP tail t (acc ++ [((n / 256 : Nat) : Int), ((n % 256 : Nat) : Int)]))) := fun n =>
      groups_loop ps tail hs hn t (i + 1) _ k h2 (by omega) (by simp; omega) (by omega)
    have hnon : ∀ a b c d, (match (if tail = true ∧ t = [] then fourV q else none) with | some _ => False | none => True) → ip_groups.j1 (k + 1) tail acc (ps.map B) (B q) (ps.map B) (ps.length : Int) (i : Int) false a b c d = some (groupsR (groupsP tail (q :: t) acc)) := by
      intro a b c d h
      rw [hj1, groupsP]
      cases hf : (if tail = true ∧ t = [] then fourV q else none) with
      | some x => rw [hf] at h; exact h.elim
      | none =>
        dsimp only
        cases numV 16 0 q with
        | none => rfl
        | some n =>
          dsimp only
          by_cases g : q ≠ [] ∧ n < 65536 ∧ q.length ≤ 4
          · rw [if_pos g, if_pos g]; exact hrest n
          · rw [if_neg g, if_neg g]; rfl
    rw [ip_groups.l0, if_pos (by omega), if_pos (by omega), if_pos (by rw [List.length_map]; omega), rdOf_map, hg, hr, Option.bind_some, List.length_map, wnsub ps.length (by omega) (by omega)]
    cases hfv : fourV q with
    | none =>
      rw [hfv] at hfi hnon
      have hfi' : r.2.2.2.2 = false := hfi
      rw [hfi', if_neg (by simp)]
      exact hnon _ _ _ _ (by split <;> simp_all)
    | some x =>
      obtain ⟨a, b, c, d⟩ := x
      rw [hfv] at hfi hnon
      obtain rfl : r = ((a : Int), (b : Int), (c : Int), (d : Int), true) := hfi
      rw [if_pos rfl]
      cases tail with
      | false =>
        rw [if_neg (by simp)]
        exact hnon _ _ _ _ (by simp)
      | true =>
        rw [if_pos rfl]
        by_cases ht : t = []
        · subst ht
          simp only [List.length_nil] at hlen
          rw [show ((i : Int) == ((ps.length - 1 : Nat) : Int)) = true from beq_iff_eq.2 (by omega), ip_groups.j1, if_pos rfl, if_pos (by simp; omega), groupsP, hfv]
          rfl
        · have hpos := List.length_pos_iff.2 ht
          rw [show ((i : Int) == ((ps.length - 1 : Nat) : Int)) = false from beq_false_of_ne (by omega)]
          exact hnon _ _ _ _ (by simp [ht])
theorem splitS_len (c : UInt8) : ∀ l : List UInt8, (splitS c l).length ≤ l.length + 1
  | [] => by simp [splitS]
  | b :: l => by
    have := splitS_len c l
    rw [splitS]
    split
    · simp; omega
    · split
      · simp
      · rename_i h t he
        rw [he] at this
        simp at this ⊢
        omega
theorem groups_f (l : List UInt8) (tail : Bool) (hl : l.length ≤ 900000) (k : Nat) (hk : 5000000 ≤ k) : ip_groups.f k (B l) tail = some (groupsR (groupsV tail l)) := by
  rw [ip_groups.f, toList_L, L_B]
  unfold groupsV
  by_cases h : l = []
  · rw [if_pos h, if_pos h]; rfl
  · have hle := splitS_len 58 l
    rw [if_neg h, if_neg h, split_f 58 (B l) (by rw [size_B]; omega), Option.bind_some, L_B, List.length_map]
    exact groups_loop _ tail (fun p hp => by have := splitS_le 58 l p hp; omega) (by omega) _ 0 [] k rfl (by omega) (by simp) (by omega)
abbrev Tup16 := Int × Int × Int × Int × Int × Int × Int × Int × Int × Int × Int × Int × Int × Int × Int × Int × Bool
def z16 : Tup16 := (0, 0, 0, 0, 0, 0, 0, 0, 0, 0, 0, 0, 0, 0, 0, 0, false)
def sixT (a b : List Int) : Tup16 := (cpy ((16 - b.length : Nat) : Int) 16 0 b (cpy 0 16 0 a 0), cpy ((16 - b.length : Nat) : Int) 16 1 b (cpy 0 16 1 a 0), cpy ((16 - b.length : Nat) : Int) 16 2 b (cpy 0 16 2 a 0), cpy ((16 - b.length : Nat) : Int) 16 3 b (cpy 0 16 3 a 0), cpy ((16 - b.length : Nat) : Int) 16 4 b (cpy 0 16 4 a 0), cpy ((16 - b.length : Nat) : Int) 16 5 b (cpy 0 16 5 a 0), cpy ((16 - b.length : Nat) : Int) 16 6 b (cpy 0 16 6 a 0), cpy ((16 - b.length : Nat) : Int) 16 7 b (cpy 0 16 7 a 0), cpy ((16 - b.length : Nat) : Int) 16 8 b (cpy 0 16 8 a 0), cpy ((16 - b.length : Nat) : Int) 16 9 b (cpy 0 16 9 a 0), cpy ((16 - b.length : Nat) : Int) 16 10 b (cpy 0 16 10 a 0), cpy ((16 - b.length : Nat) : Int) 16 11 b (cpy 0 16 11 a 0), cpy ((16 - b.length : Nat) : Int) 16 12 b (cpy 0 16 12 a 0), cpy ((16 - b.length : Nat) : Int) 16 13 b (cpy 0 16 13 a 0), cpy ((16 - b.length : Nat) : Int) 16 14 b (cpy 0 16 14 a 0), cpy ((16 - b.length : Nat) : Int) 16 15 b (cpy 0 16 15 a 0), true)
/-- Sixteen bytes: those ahead of the gap, and those behind it. -/
def sixV (l : List UInt8) : Option (List Int × List Int) := match groupsV (!(Lib.cut l [58, 58]).2.2) (Lib.cut l [58, 58]).1, groupsV true (Lib.cut l [58, 58]).2.1 with
  | some a, some b => if (Lib.cut l [58, 58]).2.2 = true then (if a.length + b.length ≤ 16 then some (a, b) else none) else (if a.length = 16 then some (a, b) else none)
  | _, _ => none
def sixR : Option (List Int × List Int) → Tup16
  | some (a, b) => sixT a b
  | none => z16
theorem cut_len (l s : List UInt8) : (Lib.cut l s).1.length ≤ l.length ∧ (Lib.cut l s).2.1.length ≤ l.length ∧ ((Lib.cut l s).2.2 = false → (Lib.cut l s).2.1 = []) := by
  unfold Lib.cut
  split
  · refine ⟨?_, ?_, fun h => by cases h⟩
    · simp [List.length_take]; omega
    · simp [List.length_drop]
  · exact ⟨Nat.le_refl _, by simp, fun _ => rfl⟩
theorem wadd (a b : Nat) (ha : a ≤ 100000000) (hb : b ≤ 100000000) : wrap64 ((a : Int) + (b : Int)) = ((a + b : Nat) : Int) := wrap_nat (a + b) (by omega) (by omega)
theorem wsub16 (b : Nat) (hb : b ≤ 16) : wrap64 (16 - (b : Int)) = ((16 - b : Nat) : Int) := wrap_nat (16 - b) (by omega) (by omega)
theorem groupsP_len (tail : Bool) : ∀ (t : List (List UInt8)) (acc r : List Int), groupsP tail t acc = some r → r.length ≤ acc.length + 4 * t.length
  | [], acc, r, h => by rw [groupsP] at h; obtain rfl := Option.some.inj h; simp
  | q :: t, acc, r, h => by
    rw [groupsP] at h
    split at h
    · obtain rfl := Option.some.inj h; simp; omega
    · split at h
      · split at h
        · have := groupsP_len tail t _ r h; simp at this ⊢; omega
        · cases h
      · cases h
theorem groupsV_len (tail : Bool) (l : List UInt8) (r : List Int) (h : groupsV tail l = some r) : r.length ≤ 4 * l.length + 4 := by
  unfold groupsV at h
  split at h
  · obtain rfl := Option.some.inj h; simp
  · have := groupsP_len tail _ _ r h
    have := splitS_len 58 l
    simp at *; omega
theorem six_f (l : List UInt8) (hl : l.length ≤ 900000) (k : Nat) (hk : 5000000 ≤ k) : ip_six.f k (B l) = some (sixR (sixV l)) := by
  obtain ⟨h1, h2, h3⟩ := cut_len l [58, 58]
  have hc : strings_Cut.f (B l) (⟨#[58, 58]⟩ : ByteArray) = some (B (Lib.cut l [58, 58]).1, B (Lib.cut l [58, 58]).2.1, (Lib.cut l [58, 58]).2.2) := by
    unfold strings_Cut.f cutOf
    rw [if_pos (by rw [size_B]; omega), show (B l).data.toList = l from L_B l]
    rfl
  unfold sixV
  generalize (Lib.cut l [58, 58]).1 = h at *
  generalize (Lib.cut l [58, 58]).2.1 = t at *
  generalize (Lib.cut l [58, 58]).2.2 = f at *
  have hg1 := groups_f h (!f) (by omega) k hk
  have hg2 := groups_f t true (by omega) k hk
  have hl1 := groupsV_len (!f) h
  have hl2 := groupsV_len true t
  rw [ip_six.f, hc, Option.bind_some, hg1, Option.bind_some, hg2, Option.bind_some]
  cases ha : groupsV (!f) h with
  | none =>
    show (if (false : Bool) = true then _ else some z16) = _
    rw [if_neg (by simp)]
    rfl
  | some a =>
    cases hb : groupsV true t with
    | none =>
      show (if (true : Bool) = true then (if (false : Bool) = true then _ else some z16) else _) = _
      rw [if_pos rfl, if_neg (by simp)]
      rfl
    | some b =>
      have la := hl1 a ha
      have lb := hl2 b hb
      rw [show groupsR (some a) = (a, true) from rfl, show groupsR (some b) = (b, true) from rfl]
      dsimp only
      rw [if_pos rfl, if_pos rfl]
      cases f with
      | true =>
        rw [if_pos rfl, if_pos rfl, wadd a.length b.length (by omega) (by omega)]
        by_cases g : a.length + b.length ≤ 16
        · rw [if_neg (by omega), if_pos g, wsub16 b.length (by omega), if_pos (by omega), if_pos (by omega)]
          rfl
        · rw [if_pos (by omega), if_neg g]
          rfl
      | false =>
        obtain rfl := h3 rfl
        have hb0 : b = [] := by
          have : groupsV true [] = some [] := rfl
          rw [this] at hb
          exact (Option.some.inj hb).symm
        subst hb0
        have hft : ¬ (false = true) := by decide
        rw [if_neg hft, if_neg hft]
        by_cases g : a.length = 16
        · rw [if_pos (by omega), if_pos g, show (([] : List Int).length : Int) = ((0 : Nat) : Int) from rfl, wsub16 0 (by decide), if_pos (by decide), if_pos (by decide)]
          rfl
        · rw [if_neg (by omega), if_neg g]
          rfl
/-- Sixteen bytes as an address of IPv6. -/
def V6T (s : Tup16) : Tup := (true, s.1, s.2.1, s.2.2.1, s.2.2.2.1, s.2.2.2.2.1, s.2.2.2.2.2.1, s.2.2.2.2.2.2.1, s.2.2.2.2.2.2.2.1, s.2.2.2.2.2.2.2.2.1, s.2.2.2.2.2.2.2.2.2.1, s.2.2.2.2.2.2.2.2.2.2.1, s.2.2.2.2.2.2.2.2.2.2.2.1, s.2.2.2.2.2.2.2.2.2.2.2.2.1, s.2.2.2.2.2.2.2.2.2.2.2.2.2.1, s.2.2.2.2.2.2.2.2.2.2.2.2.2.2.1, s.2.2.2.2.2.2.2.2.2.2.2.2.2.2.2.1)
def parseV (l : List UInt8) : Option Tup := if 64 < l.length then none else match fourV l with
  | some (a, b, c, d) => some (V4T a b c d)
  | none => match sixV l with
    | some (a, b) => if Lib.contains l [58] = true then some (V6T (sixT a b)) else none
    | none => none
def parseR : Option Tup → Bool × Int × Int × Int × Int × Int × Int × Int × Int × Int × Int × Int × Int × Int × Int × Int × Int × Int
  | some a => T18 a 0
  | none => errL
theorem Parse_f (l : List UInt8) (hl : l.length ≤ 900000) (k : Nat) (hk : 5000000 ≤ k) : ip_Parse.f k (B l) = some (parseR (parseV l)) := by
  rw [ip_Parse.f, size_B]
  unfold parseV
  by_cases h : 64 < l.length
  · rw [if_pos (by omega), if_pos h]; rfl
  · rw [if_neg (by omega), if_neg h]
    obtain ⟨r, hr, hf⟩ := four_f l (by omega) k (by omega)
    rw [hr, Option.bind_some]
    cases hv : fourV l with
    | some x =>
      obtain ⟨a, b, c, d⟩ := x
      rw [hv] at hf
      obtain rfl : r = ((a : Int), (b : Int), (c : Int), (d : Int), true) := hf
      rw [if_pos rfl]
      rfl
    | none =>
      rw [hv] at hf
      have hf' : r.2.2.2.2 = false := hf
      rw [hf', if_neg (by simp), six_f l hl k hk, Option.bind_some]
      cases sixV l with
      | none =>
        show (if (false : Bool) = true then _ else some errL) = _
        rw [if_neg (by simp)]
        rfl
      | some x =>
        obtain ⟨a, b⟩ := x
        have hc : strings_Contains.f (B l) (⟨#[58]⟩ : ByteArray) = some (Lib.contains l [58]) := by
          unfold strings_Contains.f
          rw [if_pos (by rw [size_B]; omega), show (B l).data.toList = l from L_B l]
        show (if (true : Bool) = true then _ else some errL) = _
        rw [if_pos rfl, hc, Option.bind_some]
        dsimp only
        by_cases g : Lib.contains l [58] = true
        · rw [if_pos g, if_pos g]; rfl
        · rw [if_neg g, if_neg g]; rfl
theorem aw60 : lanternlaw05_awake.f 60 = some true := by decide +kernel
theorem awake_f (k : Nat) (hk : 60 ≤ k) : lanternlaw05_awake.f k = some true := up_to lanternlaw05_awake.mono aw60 k hk
/-- A digit's sign. -/
def dc (d : Nat) : UInt8 := ([48, 49, 50, 51, 52, 53, 54, 55, 56, 57, 97, 98, 99, 100, 101, 102] : List UInt8).getD d 0
theorem dc_facts : ∀ d : Fin 16, D (dc d.val) = some d.val ∧ dc d.val ≠ 46 ∧ dc d.val ≠ 120 ∧ dc d.val ≠ 88 ∧ (dc d.val = 48 → d.val = 0) := by decide
/-- A number's digits. -/
def digL (base n : Nat) : List UInt8 := if h : n < base ∨ base < 2 then [dc (n % base)] else digL base (n / base) ++ [dc (n % base)]
termination_by n
decreasing_by exact Nat.div_lt_self (by omega) (by omega)
theorem numV_app (base : Nat) (c : UInt8) : ∀ (l : List UInt8) (acc : Nat), numV base acc (l ++ [c]) = (numV base acc l).bind fun n => numV base n [c]
  | [], acc => rfl
  | x :: l, acc => by
    rw [List.cons_append, numV, numV]
    cases D x with
    | none => rfl
    | some d =>
      dsimp only
      split
      · exact numV_app base c l _
      · rfl
theorem numV_one (base acc d : Nat) (hd : d < base) (hb : base ≤ 16) : numV base acc [dc d] = some (acc * base + d) := by
  have := (dc_facts ⟨d, by omega⟩).1
  dsimp only at this
  rw [numV, this]
  dsimp only
  rw [if_pos hd]
  rfl
theorem digL_num (base : Nat) (hb : 2 ≤ base ∧ base ≤ 16) (n : Nat) : numV base 0 (digL base n) = some n := by
  induction n using Nat.strongRecOn with
  | _ n ih =>
    rw [digL]
    have hm := Nat.mod_lt n (show 0 < base by omega)
    split
    · rename_i h
      rw [numV_one base 0 _ hm hb.2, Nat.mod_eq_of_lt (by omega), Nat.zero_mul, Nat.zero_add]
    · rename_i h
      rw [numV_app, ih _ (Nat.div_lt_self (by omega) (by omega)), Option.bind_some, numV_one base _ _ hm hb.2, Nat.div_add_mod']
theorem digL_mem (base : Nat) (hb : 2 ≤ base ∧ base ≤ 16) (n : Nat) : ∀ c ∈ digL base n, ∃ d, d < 16 ∧ c = dc d := by
  induction n using Nat.strongRecOn with
  | _ n ih =>
    rw [digL]
    have hm := Nat.mod_lt n (show 0 < base by omega)
    split
    · intro c hc; exact ⟨n % base, by omega, by simpa using hc⟩
    · intro c hc
      rcases List.mem_append.1 hc with h | h
      · exact ih _ (Nat.div_lt_self (by omega) (by omega)) c h
      · exact ⟨n % base, by omega, by simpa using h⟩
theorem digL_head (base : Nat) (hb : 2 ≤ base ∧ base ≤ 16) (n : Nat) (h0 : 0 < n) : ∃ d t, digL base n = dc d :: t ∧ 0 < d ∧ d < 16 := by
  induction n using Nat.strongRecOn with
  | _ n ih =>
    rw [digL]
    have hm := Nat.mod_lt n (show 0 < base by omega)
    split
    · rename_i h
      have : n < base := by omega
      exact ⟨n % base, [], rfl, by rw [Nat.mod_eq_of_lt this]; exact h0, by omega⟩
    · rename_i h
      obtain ⟨d, t, e, h1, h2⟩ := ih (n / base) (Nat.div_lt_self (by omega) (by omega)) (Nat.div_pos (by omega) (by omega))
      rw [e]
      exact ⟨d, t ++ [dc (n % base)], rfl, h1, h2⟩
theorem digL_len (base : Nat) (hb : 2 ≤ base ∧ base ≤ 16) (n : Nat) : ∀ m, n < 2 ^ m → (digL base n).length ≤ m + 1 := by
  induction n using Nat.strongRecOn with
  | _ n ih =>
    intro m hm
    rw [digL]
    split
    · simp
    · rename_i h
      cases m with
      | zero => simp at hm; omega
      | succ m =>
        have h2 : n / base ≤ n / 2 := Nat.div_le_div_left hb.1 (by omega)
        have := ih (n / base) (Nat.div_lt_self (by omega) (by omega)) m (by rw [Nat.pow_succ] at hm; omega)
        simp; omega
theorem tmn (n b : Nat) : Int.tmod (n : Int) (b : Int) = ((n % b : Nat) : Int) := by
  rw [Int.tmod_eq_emod_of_nonneg (Int.natCast_nonneg n)]; exact (Int.natCast_emod n b).symm
theorem tdn (n b : Nat) : Int.tdiv (n : Int) (b : Int) = ((n / b : Nat) : Int) := by
  rw [Int.tdiv_eq_ediv_of_nonneg (Int.natCast_nonneg n)]; exact (Int.natCast_ediv n b).symm
def hexB16 : List UInt8 := [48, 49, 50, 51, 52, 53, 54, 55, 56, 57, 97, 98, 99, 100, 101, 102]
theorem hex_cut : ∀ d : Fin 16, (hexB16.take (d.val + 1)).drop d.val = [dc d.val] := by decide
/-- A text that splits into its parts. -/
theorem splitS_word (c : UInt8) : ∀ w : List UInt8, (∀ b ∈ w, b ≠ c) → splitS c w = [w]
  | [], _ => rfl
  | b :: w, h => by rw [splitS, if_neg (h b (by simp)), splitS_word c w fun x hx => h x (by simp [hx])]
theorem splitS_dot (c : UInt8) (t : List UInt8) : ∀ w : List UInt8, (∀ b ∈ w, b ≠ c) → splitS c (w ++ c :: t) = w :: splitS c t
  | [], _ => by rw [List.nil_append, splitS, if_pos rfl]
  | b :: w, h => by rw [List.cons_append, splitS, if_neg (h b (by simp)), splitS_dot c t w fun x hx => h x (by simp [hx])]
theorem wl0 : wrap64 (0 + 1) = 1 := by rw [wrap_id (by decide) (by decide)]; rfl
theorem wl1 : wrap64 (1 + 1) = 2 := by rw [wrap_id (by decide) (by decide)]; rfl
theorem wl2 : wrap64 (2 + 1) = 3 := by rw [wrap_id (by decide) (by decide)]; rfl
theorem wl3 : wrap64 (3 + 1) = 4 := by rw [wrap_id (by decide) (by decide)]; rfl
theorem wl4 : wrap64 (4 + 1) = 5 := by rw [wrap_id (by decide) (by decide)]; rfl
theorem wl5 : wrap64 (5 + 1) = 6 := by rw [wrap_id (by decide) (by decide)]; rfl
theorem wl6 : wrap64 (6 + 1) = 7 := by rw [wrap_id (by decide) (by decide)]; rfl
theorem wl7 : wrap64 (7 + 1) = 8 := by rw [wrap_id (by decide) (by decide)]; rfl
theorem wl8 : wrap64 (8 + 1) = 9 := by rw [wrap_id (by decide) (by decide)]; rfl
theorem wl9 : wrap64 (9 + 1) = 10 := by rw [wrap_id (by decide) (by decide)]; rfl
theorem wl10 : wrap64 (10 + 1) = 11 := by rw [wrap_id (by decide) (by decide)]; rfl
theorem wl11 : wrap64 (11 + 1) = 12 := by rw [wrap_id (by decide) (by decide)]; rfl
theorem ite_b (x c : Int) (r : Bool) : (if x = c then some r else some false) = some ((x == c) && r) := by
  by_cases h : x = c
  · subst h; simp
  · rw [if_neg h, beq_eq_false_iff_ne.mpr h]; rfl
def mapB (b1 b2 b3 b4 b5 b6 b7 b8 b9 b10 b11 b12 : Int) : Bool := ((b1 == 0) && ((b2 == 0) && ((b3 == 0) && ((b4 == 0) && ((b5 == 0) && ((b6 == 0) && ((b7 == 0) && ((b8 == 0) && ((b9 == 0) && ((b10 == 0) && ((b11 == 255) && (b12 == 255))))))))))))
theorem rm0 (k : Nat) (b : Bool) (b1 b2 b3 b4 b5 b6 b7 b8 b9 b10 b11 b12 b13 b14 b15 b16 : Int) : lanternref05_Mapped.l0 (k + 1) 0 b b1 b2 b3 b4 b5 b6 b7 b8 b9 b10 b11 b12 b13 b14 b15 b16 = if b1 = 0 then lanternref05_Mapped.l0 k 1 b b1 b2 b3 b4 b5 b6 b7 b8 b9 b10 b11 b12 b13 b14 b15 b16 else some false := by
  rw [lanternref05_Mapped.l0, if_pos (by decide), if_pos (by decide), if_pos (by decide), if_pos (by decide), wl0, if_neg (by decide : ¬ ((0 : Int) ≥ 10))]
  rfl
theorem rm1 (k : Nat) (b : Bool) (b1 b2 b3 b4 b5 b6 b7 b8 b9 b10 b11 b12 b13 b14 b15 b16 : Int) : lanternref05_Mapped.l0 (k + 1) 1 b b1 b2 b3 b4 b5 b6 b7 b8 b9 b10 b11 b12 b13 b14 b15 b16 = if b2 = 0 then lanternref05_Mapped.l0 k 2 b b1 b2 b3 b4 b5 b6 b7 b8 b9 b10 b11 b12 b13 b14 b15 b16 else some false := by
  rw [lanternref05_Mapped.l0, if_pos (by decide), if_pos (by decide), if_pos (by decide), if_pos (by decide), wl1, if_neg (by decide : ¬ ((1 : Int) ≥ 10))]
  rfl
theorem rm2 (k : Nat) (b : Bool) (b1 b2 b3 b4 b5 b6 b7 b8 b9 b10 b11 b12 b13 b14 b15 b16 : Int) : lanternref05_Mapped.l0 (k + 1) 2 b b1 b2 b3 b4 b5 b6 b7 b8 b9 b10 b11 b12 b13 b14 b15 b16 = if b3 = 0 then lanternref05_Mapped.l0 k 3 b b1 b2 b3 b4 b5 b6 b7 b8 b9 b10 b11 b12 b13 b14 b15 b16 else some false := by
  rw [lanternref05_Mapped.l0, if_pos (by decide), if_pos (by decide), if_pos (by decide), if_pos (by decide), wl2, if_neg (by decide : ¬ ((2 : Int) ≥ 10))]
  rfl
theorem rm3 (k : Nat) (b : Bool) (b1 b2 b3 b4 b5 b6 b7 b8 b9 b10 b11 b12 b13 b14 b15 b16 : Int) : lanternref05_Mapped.l0 (k + 1) 3 b b1 b2 b3 b4 b5 b6 b7 b8 b9 b10 b11 b12 b13 b14 b15 b16 = if b4 = 0 then lanternref05_Mapped.l0 k 4 b b1 b2 b3 b4 b5 b6 b7 b8 b9 b10 b11 b12 b13 b14 b15 b16 else some false := by
  rw [lanternref05_Mapped.l0, if_pos (by decide), if_pos (by decide), if_pos (by decide), if_pos (by decide), wl3, if_neg (by decide : ¬ ((3 : Int) ≥ 10))]
  rfl
theorem rm4 (k : Nat) (b : Bool) (b1 b2 b3 b4 b5 b6 b7 b8 b9 b10 b11 b12 b13 b14 b15 b16 : Int) : lanternref05_Mapped.l0 (k + 1) 4 b b1 b2 b3 b4 b5 b6 b7 b8 b9 b10 b11 b12 b13 b14 b15 b16 = if b5 = 0 then lanternref05_Mapped.l0 k 5 b b1 b2 b3 b4 b5 b6 b7 b8 b9 b10 b11 b12 b13 b14 b15 b16 else some false := by
  rw [lanternref05_Mapped.l0, if_pos (by decide), if_pos (by decide), if_pos (by decide), if_pos (by decide), wl4, if_neg (by decide : ¬ ((4 : Int) ≥ 10))]
  rfl
theorem rm5 (k : Nat) (b : Bool) (b1 b2 b3 b4 b5 b6 b7 b8 b9 b10 b11 b12 b13 b14 b15 b16 : Int) : lanternref05_Mapped.l0 (k + 1) 5 b b1 b2 b3 b4 b5 b6 b7 b8 b9 b10 b11 b12 b13 b14 b15 b16 = if b6 = 0 then lanternref05_Mapped.l0 k 6 b b1 b2 b3 b4 b5 b6 b7 b8 b9 b10 b11 b12 b13 b14 b15 b16 else some false := by
  rw [lanternref05_Mapped.l0, if_pos (by decide), if_pos (by decide), if_pos (by decide), if_pos (by decide), wl5, if_neg (by decide : ¬ ((5 : Int) ≥ 10))]
  rfl
theorem rm6 (k : Nat) (b : Bool) (b1 b2 b3 b4 b5 b6 b7 b8 b9 b10 b11 b12 b13 b14 b15 b16 : Int) : lanternref05_Mapped.l0 (k + 1) 6 b b1 b2 b3 b4 b5 b6 b7 b8 b9 b10 b11 b12 b13 b14 b15 b16 = if b7 = 0 then lanternref05_Mapped.l0 k 7 b b1 b2 b3 b4 b5 b6 b7 b8 b9 b10 b11 b12 b13 b14 b15 b16 else some false := by
  rw [lanternref05_Mapped.l0, if_pos (by decide), if_pos (by decide), if_pos (by decide), if_pos (by decide), wl6, if_neg (by decide : ¬ ((6 : Int) ≥ 10))]
  rfl
theorem rm7 (k : Nat) (b : Bool) (b1 b2 b3 b4 b5 b6 b7 b8 b9 b10 b11 b12 b13 b14 b15 b16 : Int) : lanternref05_Mapped.l0 (k + 1) 7 b b1 b2 b3 b4 b5 b6 b7 b8 b9 b10 b11 b12 b13 b14 b15 b16 = if b8 = 0 then lanternref05_Mapped.l0 k 8 b b1 b2 b3 b4 b5 b6 b7 b8 b9 b10 b11 b12 b13 b14 b15 b16 else some false := by
  rw [lanternref05_Mapped.l0, if_pos (by decide), if_pos (by decide), if_pos (by decide), if_pos (by decide), wl7, if_neg (by decide : ¬ ((7 : Int) ≥ 10))]
  rfl
theorem rm8 (k : Nat) (b : Bool) (b1 b2 b3 b4 b5 b6 b7 b8 b9 b10 b11 b12 b13 b14 b15 b16 : Int) : lanternref05_Mapped.l0 (k + 1) 8 b b1 b2 b3 b4 b5 b6 b7 b8 b9 b10 b11 b12 b13 b14 b15 b16 = if b9 = 0 then lanternref05_Mapped.l0 k 9 b b1 b2 b3 b4 b5 b6 b7 b8 b9 b10 b11 b12 b13 b14 b15 b16 else some false := by
  rw [lanternref05_Mapped.l0, if_pos (by decide), if_pos (by decide), if_pos (by decide), if_pos (by decide), wl8, if_neg (by decide : ¬ ((8 : Int) ≥ 10))]
  rfl
theorem rm9 (k : Nat) (b : Bool) (b1 b2 b3 b4 b5 b6 b7 b8 b9 b10 b11 b12 b13 b14 b15 b16 : Int) : lanternref05_Mapped.l0 (k + 1) 9 b b1 b2 b3 b4 b5 b6 b7 b8 b9 b10 b11 b12 b13 b14 b15 b16 = if b10 = 0 then lanternref05_Mapped.l0 k 10 b b1 b2 b3 b4 b5 b6 b7 b8 b9 b10 b11 b12 b13 b14 b15 b16 else some false := by
  rw [lanternref05_Mapped.l0, if_pos (by decide), if_pos (by decide), if_pos (by decide), if_pos (by decide), wl9, if_neg (by decide : ¬ ((9 : Int) ≥ 10))]
  rfl
theorem rm10 (k : Nat) (b : Bool) (b1 b2 b3 b4 b5 b6 b7 b8 b9 b10 b11 b12 b13 b14 b15 b16 : Int) : lanternref05_Mapped.l0 (k + 1) 10 b b1 b2 b3 b4 b5 b6 b7 b8 b9 b10 b11 b12 b13 b14 b15 b16 = if b11 = 255 then lanternref05_Mapped.l0 k 11 b b1 b2 b3 b4 b5 b6 b7 b8 b9 b10 b11 b12 b13 b14 b15 b16 else some false := by
  rw [lanternref05_Mapped.l0, if_pos (by decide), if_neg (by decide), if_pos (by decide), if_pos (by decide), wl10, if_pos (by decide)]
  rfl
theorem rm11 (k : Nat) (b : Bool) (b1 b2 b3 b4 b5 b6 b7 b8 b9 b10 b11 b12 b13 b14 b15 b16 : Int) : lanternref05_Mapped.l0 (k + 1) 11 b b1 b2 b3 b4 b5 b6 b7 b8 b9 b10 b11 b12 b13 b14 b15 b16 = if b12 = 255 then lanternref05_Mapped.l0 k 12 b b1 b2 b3 b4 b5 b6 b7 b8 b9 b10 b11 b12 b13 b14 b15 b16 else some false := by
  rw [lanternref05_Mapped.l0, if_pos (by decide), if_neg (by decide), if_pos (by decide), if_pos (by decide), wl11, if_pos (by decide)]
  rfl
theorem refMapped_f (k : Nat) (hk : 20 ≤ k) (b : Bool) (b1 b2 b3 b4 b5 b6 b7 b8 b9 b10 b11 b12 b13 b14 b15 b16 : Int) : lanternref05_Mapped.f k b b1 b2 b3 b4 b5 b6 b7 b8 b9 b10 b11 b12 b13 b14 b15 b16 = some (mapB b1 b2 b3 b4 b5 b6 b7 b8 b9 b10 b11 b12 && b) := by
  obtain ⟨k, rfl⟩ : ∃ j, k = j + 13 := ⟨k - 13, by omega⟩
  have e : lanternref05_Mapped.l0 (k + 1) 12 b b1 b2 b3 b4 b5 b6 b7 b8 b9 b10 b11 b12 b13 b14 b15 b16 = some b := by rw [lanternref05_Mapped.l0, if_neg (by decide)]
  rw [lanternref05_Mapped.f, rm0, rm1, rm2, rm3, rm4, rm5, rm6, rm7, rm8, rm9, rm10, rm11, e]
  simp only [ite_b, mapB, Bool.and_assoc]
theorem mapped_f (b : Bool) (b1 b2 b3 b4 b5 b6 b7 b8 b9 b10 b11 b12 b13 b14 b15 b16 : Int) : ip_mapped.f b b1 b2 b3 b4 b5 b6 b7 b8 b9 b10 b11 b12 b13 b14 b15 b16 = some (b && mapB b1 b2 b3 b4 b5 b6 b7 b8 b9 b10 b11 b12) := by
  rw [ip_mapped.f, Option.bind_some]
  cases b
  · rfl
  · rw [if_pos rfl]
    show some (((b1 == 0) && ((b2 == 0) && ((b3 == 0) && ((b4 == 0) && ((b5 == 0) && ((b6 == 0) && ((b7 == 0) && ((b8 == 0) && ((b9 == 0) && ((b10 == 0) && ((b11 == 255) && ((b12 == 255) && ((b13 == b13) && ((b14 == b14) && ((b15 == b15) && (b16 == b16))))))))))))))))) = _
    simp [mapB]
end Go.Proofs.YtfiefecjcmcejaaDoor.Q
