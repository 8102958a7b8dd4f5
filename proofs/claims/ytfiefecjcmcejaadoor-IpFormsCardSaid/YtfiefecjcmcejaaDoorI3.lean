/- ip.Loose and the reference's Loose are one plain function. -/
import Derived.Test.YtfiefecjcmcejaaDoorI2
import Derived.Laws.Bits64b
set_option linter.unusedSimpArgs false
set_option linter.unusedVariables false
namespace Go.Proofs.YtfiefecjcmcejaaDoor.Q
open Go Go.RowKit Go.Lib Go.Proofs.YtfiefecjcmcejaaDoorW.PrintWords Go.Proofs.YtfiefecjcmcejaaDoorW.PrintMore Go.Proofs.YtfiefecjcmcejaaDoorB Go.Proofs.YtfiefecjcmcejaaDoor.E Go.Proofs.YtfiefecjcmcejaaDoorV Go.Proofs.YtfiefecjcmcejaaDoor.P

def bare (l : List UInt8) : List UInt8 := if l.getLast? = some 46 then l.dropLast else l
theorem trim_bare (l : List UInt8) : Lib.trimSuffix l [46] = bare l := by
  unfold Lib.trimSuffix Lib.hasSuffix bare
  rcases List.eq_nil_or_concat l with rfl | ⟨t, b, rfl⟩
  · rfl
  · rw [List.concat_eq_append, List.getLast?_concat]
    have e : ([46] : List UInt8).isSuffixOf (t ++ [b]) = (b == 46) := by
      rw [Bool.eq_iff_iff, List.isSuffixOf_iff_suffix, beq_iff_eq]
      constructor
      · rintro ⟨u, hu⟩
        have := congrArg List.getLast? hu
        rw [List.getLast?_concat, List.getLast?_concat] at this
        exact (Option.some.inj this).symm
      · rintro rfl
        exact ⟨t, rfl⟩
    rw [e]
    by_cases h : b = 46
    · subst h; simp
    · rw [if_neg (by simpa using h), if_neg (by simpa using h)]
theorem bare_le (l : List UInt8) : (bare l).length ≤ l.length := by
  unfold bare
  split
  · simp
  · exact Nat.le_refl _
abbrev Tup := Bool × Int × Int × Int × Int × Int × Int × Int × Int × Int × Int × Int × Int × Int × Int × Int × Int
def zT : Tup := (false, 0, 0, 0, 0, 0, 0, 0, 0, 0, 0, 0, 0, 0, 0, 0, 0)
/-- An address and what is told beside it, as one row. -/
def T18 (a : Tup) (e : Int) : Bool × Int × Int × Int × Int × Int × Int × Int × Int × Int × Int × Int × Int × Int × Int × Int × Int × Int :=
  (a.1, a.2.1, a.2.2.1, a.2.2.2.1, a.2.2.2.2.1, a.2.2.2.2.2.1, a.2.2.2.2.2.2.1, a.2.2.2.2.2.2.2.1, a.2.2.2.2.2.2.2.2.1, a.2.2.2.2.2.2.2.2.2.1, a.2.2.2.2.2.2.2.2.2.2.1, a.2.2.2.2.2.2.2.2.2.2.2.1, a.2.2.2.2.2.2.2.2.2.2.2.2.1, a.2.2.2.2.2.2.2.2.2.2.2.2.2.1, a.2.2.2.2.2.2.2.2.2.2.2.2.2.2.1, a.2.2.2.2.2.2.2.2.2.2.2.2.2.2.2.1, a.2.2.2.2.2.2.2.2.2.2.2.2.2.2.2.2, e)
/-- The limit of part i of so many, and where it stands. -/
def lim (n i : Nat) : Nat := if i + 1 = n then 256 ^ (5 - n) else 256
def sh (n i : Nat) : Nat := if i + 1 = n then 1 else 256 ^ (3 - i)
theorem rdOf_map (ps : List (List UInt8)) (i : Nat) : rdOf ByteArray.empty (ps.map B) (i : Int) = B (ps.getD i []) := by
  unfold rdOf
  rw [Int.toNat_natCast, List.getD_eq_getElem?_getD, List.getElem?_map, List.getD_eq_getElem?_getD]
  cases ps[i]? <;> rfl
def errL : Bool × Int × Int × Int × Int × Int × Int × Int × Int × Int × Int × Int × Int × Int × Int × Int × Int × Int := T18 zT 5
theorem loose_step (ps : List (List UInt8)) (hn : ps.length ≤ 4) (hs : ∀ p ∈ ps, p.length ≤ 1000000) (i acc k : Nat) (hi : i < ps.length) (ha : acc < 4294967296) (hk : 2 * 1000000 + 4 ≤ k) :
    ip_Loose.l0 (k + 2) (ps.map B) (acc : Int) (ps.map B) (ps.length : Int) (i : Int) = match partV (ps.getD i []) with
      | some n => if n < lim ps.length i then ip_Loose.l0 k (ps.map B) ((acc ||| n * sh ps.length i : Nat) : Int) (ps.map B) (ps.length : Int) ((i + 1 : Nat) : Int) else some errL
      | none => some errL := by
  have hp : (ps.getD i []).length ≤ 1000000 := by
    rw [List.getD_eq_getElem?_getD, List.getElem?_eq_getElem hi, Option.getD_some]
    exact hs _ (List.getElem_mem hi)
  have hw : wrap64 ((i : Int) + 1) = ((i + 1 : Nat) : Int) := wrap_nat (i + 1) rfl (by omega)
  have hw1 : wrap64 ((ps.length : Int) - 1) = ((ps.length - 1 : Nat) : Int) := wrap_nat (ps.length - 1) (by omega) (by omega)
  have hw2 : wrap64 (5 - (ps.length : Int)) = ((5 - ps.length : Nat) : Int) := wrap_nat (5 - ps.length) (by omega) (by omega)
  have hw3 : wrap64 (8 * ((5 - ps.length : Nat) : Int)) = ((8 * (5 - ps.length) : Nat) : Int) := wrap_nat (8 * (5 - ps.length)) (by omega) (by omega)
  have hlim : lim ps.length i ≤ 4294967296 ∧ 0 < lim ps.length i := by
    unfold lim
    have : ps.length = 1 ∨ ps.length = 2 ∨ ps.length = 3 ∨ ps.length = 4 := by omega
    rcases this with h | h | h | h <;> rw [h] <;> split <;> decide
  have hj : ip_Loose.j1 (k + 1) (ps.map B) (acc : Int) (i : Int) (B (ps.getD i [])) ((lim ps.length i : Nat) : Int) (ps.map B) (ps.length : Int) (i : Int) = match partV (ps.getD i []) with
      | some n => if n < lim ps.length i then ip_Loose.l0 k (ps.map B) ((acc ||| n * sh ps.length i : Nat) : Int) (ps.map B) (ps.length : Int) ((i + 1 : Nat) : Int) else some errL
      | none => some errL := by
    have hpf := part_f (lim ps.length i) hlim.1 hlim.2 (ps.getD i []) hp k (by omega)
    cases hpv : partV (ps.getD i []) with
    | none =>
      rw [hpv] at hpf
      rw [ip_Loose.j1, hpf]
      rfl
    | some n =>
      rw [hpv] at hpf
      dsimp only at hpf ⊢
      by_cases g : n < lim ps.length i
      · rw [if_pos g] at hpf
        rw [ip_Loose.j1, hpf, Option.bind_some, List.length_map, hw1, hw, if_pos g]
        dsimp only
        rw [if_pos rfl]
        by_cases gi : i + 1 = ps.length
        · rw [if_neg (by omega), show sh ps.length i = 1 from by unfold sh; rw [if_pos gi], Nat.mul_one, bits_or_u64_nat acc n (by omega) (by omega)]
        · have hw4 : wrap64 (3 - (i : Int)) = ((3 - i : Nat) : Int) := wrap_nat (3 - i) (by omega) (by omega)
          have hw5 : wrap64 (8 * ((3 - i : Nat) : Int)) = ((8 * (3 - i) : Nat) : Int) := wrap_nat (8 * (3 - i)) (by omega) (by omega)
          have g256 : n < 256 := by unfold lim at g; rwa [if_neg gi] at g
          have hsh : shl .u64 (n : Int) ((8 * (3 - i) : Nat) : Int) = ((n * sh ps.length i : Nat) : Int) ∧ n * sh ps.length i < 18446744073709551616 := by
            unfold sh shl
            rw [if_neg gi]
            have : i = 0 ∨ i = 1 ∨ i = 2 := by omega
            rcases this with rfl | rfl | rfl
            · refine ⟨?_, by show n * 16777216 < _; omega⟩
              show IntKind.u64.wrap ((n : Int) * 16777216) = ((n * 16777216 : Nat) : Int)
              rw [IntKind.wrap_u64]; omega
            · refine ⟨?_, by show n * 65536 < _; omega⟩
              show IntKind.u64.wrap ((n : Int) * 65536) = ((n * 65536 : Nat) : Int)
              rw [IntKind.wrap_u64]; omega
            · refine ⟨?_, by show n * 256 < _; omega⟩
              show IntKind.u64.wrap ((n : Int) * 256) = ((n * 256 : Nat) : Int)
              rw [IntKind.wrap_u64]; omega
          rw [if_pos (by omega), hw4, hw5, if_pos (by omega), hsh.1, bits_or_u64_nat acc (n * sh ps.length i) (by omega) hsh.2]
      · rw [if_neg g] at hpf
        rw [ip_Loose.j1, hpf, Option.bind_some, if_neg g]
        rfl
  rw [ip_Loose.l0, if_pos (by omega), if_pos (by omega), if_pos (by rw [List.length_map]; omega), List.length_map, hw1, rdOf_map, hw2, hw3]
  by_cases gi : i + 1 = ps.length
  · have hl : shl .u64 1 ((8 * (5 - ps.length) : Nat) : Int) = ((lim ps.length i : Nat) : Int) := by
      unfold lim shl
      rw [if_pos gi]
      have : ps.length = 1 ∨ ps.length = 2 ∨ ps.length = 3 ∨ ps.length = 4 := by omega
      rcases this with h | h | h | h <;> rw [h] <;> decide
    rw [if_pos (by omega), if_pos (by omega), hl, hj]
  · rw [if_neg (by omega), show (256 : Int) = ((lim ps.length i : Nat) : Int) from by unfold lim; rw [if_neg gi]; rfl, hj]
theorem loose_end (ps : List (List UInt8)) (acc k : Nat) (ha : acc < 4294967296) : ip_Loose.l0 (k + 1) (ps.map B) (acc : Int) (ps.map B) (ps.length : Int) ((ps.length : Nat) : Int) = some (T18 (V4N acc) 0) := by
  rw [ip_Loose.l0, if_neg (by omega)]
  rfl
/-- What an address written loosely stands for. -/
def looseV (ps : List (List UInt8)) : Option Nat := match ps with
  | [p] => (partV p).bind fun a => if a < 4294967296 then some a else none
  | [p, q] => (partV p).bind fun a => (partV q).bind fun b => if a < 256 ∧ b < 16777216 then some (a * 16777216 + b) else none
  | [p, q, r] => (partV p).bind fun a => (partV q).bind fun b => (partV r).bind fun c => if a < 256 ∧ b < 256 ∧ c < 65536 then some (a * 16777216 + b * 65536 + c) else none
  | [p, q, r, s] => (partV p).bind fun a => (partV q).bind fun b => (partV r).bind fun c => (partV s).bind fun d => if a < 256 ∧ b < 256 ∧ c < 256 ∧ d < 256 then some (a * 16777216 + b * 65536 + c * 256 + d) else none
  | _ => none
theorem or24 (a b : Nat) (h : b < 16777216) : a * 16777216 ||| b = a * 16777216 + b := by
  have := Nat.two_pow_add_eq_or_of_lt (i := 24) (b := b) (by omega) a
  rw [show (2 : Nat) ^ 24 = 16777216 from rfl, Nat.mul_comm 16777216 a] at this
  exact this.symm
theorem or16 (a b : Nat) (h : b < 65536) : a * 65536 ||| b = a * 65536 + b := by
  have := Nat.two_pow_add_eq_or_of_lt (i := 16) (b := b) (by omega) a
  rw [show (2 : Nat) ^ 16 = 65536 from rfl, Nat.mul_comm 65536 a] at this
  exact this.symm
theorem or8 (a b : Nat) (h : b < 256) : a * 256 ||| b = a * 256 + b := by
  have := Nat.two_pow_add_eq_or_of_lt (i := 8) (b := b) (by omega) a
  rw [show (2 : Nat) ^ 8 = 256 from rfl, Nat.mul_comm 256 a] at this
  exact this.symm
def looseR : Option Nat → Bool × Int × Int × Int × Int × Int × Int × Int × Int × Int × Int × Int × Int × Int × Int × Int × Int × Int
  | some n => T18 (V4N n) 0
  | none => errL
theorem loose_parts (ps : List (List UInt8)) (h0 : ps ≠ []) (hn : ps.length ≤ 4) (hs : ∀ p ∈ ps, p.length ≤ 1000000) (k : Nat) (hk : 2000100 ≤ k) :
    ip_Loose.l0 k (ps.map B) 0 (ps.map B) (ps.length : Int) 0 = some (looseR (looseV ps)) := by
  obtain ⟨k, rfl⟩ : ∃ m, k = m + 9 := ⟨k - 9, by omega⟩
  have st := loose_step ps hn hs
  match ps, h0, hn, hs, st with
  | [p], _, _, _, st =>
    have s0 := st 0 0 (k + 7) (by simp) (by decide) (by omega)
    refine s0.trans ?_
    rw [looseV]
    show (match partV p with | some n => if n < 4294967296 then ip_Loose.l0 (k + 7) ([p].map B) ((0 ||| n * 1 : Nat) : Int) ([p].map B) ([p].length : Int) ((0 + 1 : Nat) : Int) else some errL | none => some errL) = _
    cases partV p with
    | none => rfl
    | some a =>
      dsimp only [Option.bind_some]
      by_cases g : a < 4294967296
      · rw [if_pos g, if_pos g, Nat.zero_or, Nat.mul_one]
        exact loose_end [p] a (k + 6) g
      · rw [if_neg g, if_neg g]; rfl
  | [p, q], _, _, _, st =>
    have s0 := st 0 0 (k + 7) (by simp) (by decide) (by omega)
    refine s0.trans ?_
    rw [looseV]
    show (match partV p with | some n => if n < 256 then ip_Loose.l0 (k + 7) ([p, q].map B) ((0 ||| n * 16777216 : Nat) : Int) ([p, q].map B) ([p, q].length : Int) ((0 + 1 : Nat) : Int) else some errL | none => some errL) = _
    cases partV p with
    | none => rfl
    | some a =>
      dsimp only [Option.bind_some]
      by_cases g : a < 256
      · rw [if_pos g, Nat.zero_or]
        refine (st 1 (a * 16777216) (k + 5) (by simp) (by omega) (by omega)).trans ?_
        show (match partV q with | some n => if n < 16777216 then ip_Loose.l0 (k + 5) ([p, q].map B) ((a * 16777216 ||| n * 1 : Nat) : Int) ([p, q].map B) ([p, q].length : Int) ((1 + 1 : Nat) : Int) else some errL | none => some errL) = _
        cases partV q with
        | none => rfl
        | some b =>
          dsimp only [Option.bind_some]
          by_cases g2 : b < 16777216
          · rw [if_pos g2, if_pos ⟨g, g2⟩, Nat.mul_one, or24 a b g2]
            exact loose_end [p, q] _ (k + 4) (by omega)
          · rw [if_neg g2, if_neg (fun h => g2 h.2)]; rfl
      · rw [if_neg g]
        cases partV q with
        | none => rfl
        | some b => dsimp only [Option.bind_some]; rw [if_neg (fun h => g h.1)]; rfl
  | [p, q, r], _, _, _, st =>
    have s0 := st 0 0 (k + 7) (by simp) (by decide) (by omega)
    refine s0.trans ?_
    rw [looseV]
    show (match partV p with | some n => if n < 256 then ip_Loose.l0 (k + 7) ([p, q, r].map B) ((0 ||| n * 16777216 : Nat) : Int) ([p, q, r].map B) ([p, q, r].length : Int) ((0 + 1 : Nat) : Int) else some errL | none => some errL) = _
    cases partV p with
    | none => rfl
    | some a =>
      dsimp only [Option.bind_some]
      by_cases g : a < 256
      · rw [if_pos g, Nat.zero_or]
        refine (st 1 (a * 16777216) (k + 5) (by simp) (by omega) (by omega)).trans ?_
        show (match partV q with | some n => if n < 256 then ip_Loose.l0 (k + 5) ([p, q, r].map B) ((a * 16777216 ||| n * 65536 : Nat) : Int) ([p, q, r].map B) ([p, q, r].length : Int) ((1 + 1 : Nat) : Int) else some errL | none => some errL) = _
        cases partV q with
        | none => rfl
        | some b =>
          dsimp only [Option.bind_some]
          by_cases g2 : b < 256
          · rw [if_pos g2, or24 a (b * 65536) (by omega)]
            refine (st 2 (a * 16777216 + b * 65536) (k + 3) (by simp) (by omega) (by omega)).trans ?_
            show (match partV r with | some n => if n < 65536 then ip_Loose.l0 (k + 3) ([p, q, r].map B) ((a * 16777216 + b * 65536 ||| n * 1 : Nat) : Int) ([p, q, r].map B) ([p, q, r].length : Int) ((2 + 1 : Nat) : Int) else some errL | none => some errL) = _
            cases partV r with
            | none => rfl
            | some c =>
              dsimp only [Option.bind_some]
              by_cases g3 : c < 65536
              · rw [if_pos g3, if_pos ⟨g, g2, g3⟩, Nat.mul_one, show a * 16777216 + b * 65536 = (a * 256 + b) * 65536 from by omega, or16 _ c g3]
                exact loose_end [p, q, r] _ (k + 2) (by omega)
              · rw [if_neg g3, if_neg (fun h => g3 h.2.2)]; rfl
          · rw [if_neg g2]
            cases partV r with
            | none => rfl
            | some c => dsimp only [Option.bind_some]; rw [if_neg (fun h => g2 h.2.1)]; rfl
      · rw [if_neg g]
        cases partV q with
        | none => rfl
        | some b =>
          dsimp only [Option.bind_some]
          cases partV r with
          | none => rfl
          | some c => dsimp only [Option.bind_some]; rw [if_neg (fun h => g h.1)]; rfl
  | [p, q, r, s], _, _, _, st =>
    have s0 := st 0 0 (k + 7) (by simp) (by decide) (by omega)
    refine s0.trans ?_
    rw [looseV]
    show (match partV p with | some n => if n < 256 then ip_Loose.l0 (k + 7) ([p, q, r, s].map B) ((0 ||| n * 16777216 : Nat) : Int) ([p, q, r, s].map B) ([p, q, r, s].length : Int) ((0 + 1 : Nat) : Int) else some errL | none => some errL) = _
    cases partV p with
    | none => rfl
    | some a =>
      dsimp only [Option.bind_some]
      by_cases g : a < 256
      · rw [if_pos g, Nat.zero_or]
        refine (st 1 (a * 16777216) (k + 5) (by simp) (by omega) (by omega)).trans ?_
        show (match partV q with | some n => if n < 256 then ip_Loose.l0 (k + 5) ([p, q, r, s].map B) ((a * 16777216 ||| n * 65536 : Nat) : Int) ([p, q, r, s].map B) ([p, q, r, s].length : Int) ((1 + 1 : Nat) : Int) else some errL | none => some errL) = _
        cases partV q with
        | none => rfl
        | some b =>
          dsimp only [Option.bind_some]
          by_cases g2 : b < 256
          · rw [if_pos g2, or24 a (b * 65536) (by omega)]
            refine (st 2 (a * 16777216 + b * 65536) (k + 3) (by simp) (by omega) (by omega)).trans ?_
            show (match partV r with | some n => if n < 256 then ip_Loose.l0 (k + 3) ([p, q, r, s].map B) ((a * 16777216 + b * 65536 ||| n * 256 : Nat) : Int) ([p, q, r, s].map B) ([p, q, r, s].length : Int) ((2 + 1 : Nat) : Int) else some errL | none => some errL) = _
            cases partV r with
            | none => rfl
            | some c =>
              dsimp only [Option.bind_some]
              by_cases g3 : c < 256
              · rw [if_pos g3, show a * 16777216 + b * 65536 = (a * 256 + b) * 65536 from by omega, or16 _ (c * 256) (by omega)]
                refine (st 3 ((a * 256 + b) * 65536 + c * 256) (k + 1) (by simp) (by omega) (by omega)).trans ?_
                show (match partV s with | some n => if n < 256 then ip_Loose.l0 (k + 1) ([p, q, r, s].map B) (((a * 256 + b) * 65536 + c * 256 ||| n * 1 : Nat) : Int) ([p, q, r, s].map B) ([p, q, r, s].length : Int) ((3 + 1 : Nat) : Int) else some errL | none => some errL) = _
                cases partV s with
                | none => rfl
                | some d =>
                  dsimp only [Option.bind_some]
                  by_cases g4 : d < 256
                  · rw [if_pos g4, if_pos ⟨g, g2, g3, g4⟩, Nat.mul_one, show (a * 256 + b) * 65536 + c * 256 = ((a * 256 + b) * 256 + c) * 256 from by omega, or8 _ d g4]
                    exact loose_end [p, q, r, s] _ k (by omega)
                  · rw [if_neg g4, if_neg (fun h => g4 h.2.2.2)]; rfl
              · rw [if_neg g3]
                cases partV s with
                | none => rfl
                | some d => dsimp only [Option.bind_some]; rw [if_neg (fun h => g3 h.2.2.1)]; rfl
          · rw [if_neg g2]
            cases partV r with
            | none => rfl
            | some c =>
              dsimp only [Option.bind_some]
              cases partV s with
              | none => rfl
              | some d => dsimp only [Option.bind_some]; rw [if_neg (fun h => g2 h.2.1)]; rfl
      · rw [if_neg g]
        cases partV q with
        | none => rfl
        | some b =>
          dsimp only [Option.bind_some]
          cases partV r with
          | none => rfl
          | some c =>
            dsimp only [Option.bind_some]
            cases partV s with
            | none => rfl
            | some d => dsimp only [Option.bind_some]; rw [if_neg (fun h => g h.1)]; rfl
theorem splitS_ne (c : UInt8) : ∀ l : List UInt8, splitS c l ≠ []
  | [] => by simp [splitS]
  | b :: l => by
    rw [splitS]
    split
    · simp
    · split <;> simp
theorem splitS_le (c : UInt8) : ∀ l : List UInt8, ∀ p ∈ splitS c l, p.length ≤ l.length
  | [], p, h => by simp [splitS] at h; simp [h]
  | b :: l, p, h => by
    rw [splitS] at h
    split at h
    · rcases List.mem_cons.1 h with rfl | h
      · simp
      · have := splitS_le c l p h; simp; omega
    · split at h
      · rename_i he; exact absurd he (splitS_ne c l)
      · rename_i q t he
        rcases List.mem_cons.1 h with rfl | h
        · have := splitS_le c l q (by rw [he]; simp); simp; omega
        · have := splitS_le c l p (by rw [he]; simp [h]); simp; omega
def looseL (l : List UInt8) : Option Nat := looseV (splitS 46 (bare l))
theorem looseV_long {ps : List (List UInt8)} (h : 4 < ps.length) : looseV ps = none := by
  match ps, h with
  | p :: q :: r :: s :: t :: u, _ => rfl
theorem Loose_f (l : List UInt8) (hl : l.length ≤ 1000000) (k : Nat) (hk : 2000100 ≤ k) : ip_Loose.f k (B l) = some (looseR (looseL l)) := by
  have hb := bare_le l
  have ht : strings_TrimSuffix.f (B l) (⟨#[46]⟩ : ByteArray) = some (B (bare l)) := by
    unfold strings_TrimSuffix.f
    rw [if_pos (by rw [size_B]; omega), show (B l).data.toList = l from L_B l]
    show some (B (Lib.trimSuffix l [46])) = _
    rw [trim_bare]
  rw [ip_Loose.f, ht, Option.bind_some, split_f 46 (B (bare l)) (by rw [size_B]; omega), Option.bind_some, L_B, List.length_map]
  by_cases g : (splitS 46 (bare l)).length ≤ 4
  · rw [if_neg (by omega)]
    exact loose_parts _ (splitS_ne 46 _) g (fun p hp => by have := splitS_le 46 _ p hp; omega) k hk
  · rw [if_pos (by omega)]
    unfold looseL
    rw [looseV_long (by omega)]
    rfl
end Go.Proofs.YtfiefecjcmcejaaDoor.Q
