/- ip.four, ip.groups, ip.six and ip.Parse as plain functions. -/
import Derived.Test.YtfiefecjcmcejaaDoorI4
import Derived.Test.YtfiefecjcmcejaaDoorP5
set_option linter.unusedSimpArgs false
set_option linter.unusedVariables false
namespace Go.Proofs.YtfiefecjcmcejaaDoor.Q
open Go Go.RowKit Go.Lib Go.Proofs.YtfiefecjcmcejaaDoorW.PrintWords Go.Proofs.YtfiefecjcmcejaaDoorW.PrintMore Go.Proofs.YtfiefecjcmcejaaDoorB Go.Proofs.YtfiefecjcmcejaaDoor.E Go.Proofs.YtfiefecjcmcejaaDoorV Go.Proofs.YtfiefecjcmcejaaDoor.P

/-- A part's value, written strictly. -/
def strictV (p : List UInt8) : Option Nat := if p = [] ∨ (1 < p.length ∧ p.getD 0 0 = 48) then none else (numV 10 0 p).bind fun n => if n < 256 then some n else none
theorem number10 (limit : Nat) (hl : limit ≤ 4294967296) (h0 : 0 < limit) (s : List UInt8) (hs : s.length ≤ 1000000) (k : Nat) (hk : 2 * s.length + 1 ≤ k) : ip_number.f k (B s) 10 (limit : Int) = some (numP 10 limit s) := number_f 10 limit (by omega) hl h0 s hs k hk
theorem number16 (limit : Nat) (hl : limit ≤ 4294967296) (h0 : 0 < limit) (s : List UInt8) (hs : s.length ≤ 1000000) (k : Nat) (hk : 2 * s.length + 1 ≤ k) : ip_number.f k (B s) 16 (limit : Int) = some (numP 16 limit s) := number_f 16 limit (by omega) hl h0 s hs k hk
theorem four_step (ps : List (List UInt8)) (hn : ps.length = 4) (hs : ∀ p ∈ ps, p.length ≤ 1000000) (i : Nat) (hi : i < 4) (a b c d : Int) (k : Nat) (hk : 2000010 ≤ k) :
    ip_four.l0 (k + 1) (ps.map B) 4 (i : Int) a b c d = match strictV (ps.getD i []) with
      | some n => ip_four.l0 k (ps.map B) 4 ((i + 1 : Nat) : Int) (upd i 0 n a) (upd i 1 n b) (upd i 2 n c) (upd i 3 n d)
      | none => some (a, b, c, d, false) := by
  have hp : (ps.getD i []).length ≤ 1000000 := by
    rw [List.getD_eq_getElem?_getD, List.getElem?_eq_getElem (by omega), Option.getD_some]
    exact hs _ (List.getElem_mem (by omega))
  generalize hpp : ps.getD i [] = p at hp
  have hnum : ip_number.f k (B p) 10 256 = some (numP 10 256 p) := number10 256 (by decide) (by decide) p hp k (by omega)
  have hbad : numP 10 256 p = (0, false) → strictV p = none → ip_four.l0 (k + 1) (ps.map B) 4 (i : Int) a b c d = match strictV p with
      | some n => ip_four.l0 k (ps.map B) 4 ((i + 1 : Nat) : Int) (upd i 0 n a) (upd i 1 n b) (upd i 2 n c) (upd i 3 n d)
      | none => some (a, b, c, d, false) := by
    intro h1 h2
    rw [ip_four.l0, if_pos (by omega), if_pos (by omega), if_pos (by rw [List.length_map]; omega), rdOf_map, hpp, hnum, h1, Option.bind_some, h2]
    rfl
  by_cases hne : p = []
  · exact hbad (by subst hne; rfl) (by unfold strictV; rw [if_pos (Or.inl hne)])
  · cases hv : numV 10 0 p with
    | none => exact hbad (by unfold numP; rw [hv]) (by unfold strictV; rw [hv]; split <;> rfl)
    | some n =>
      by_cases g : n < 256
      · have h1 : numP 10 256 p = ((n : Int), true) := by unfold numP; rw [hv]; exact if_pos ⟨hne, g⟩
        have hm : ((n : Int)) % 256 = (n : Int) := by omega
        rw [ip_four.l0, if_pos (by omega), if_pos (by omega), if_pos (by rw [List.length_map]; omega), rdOf_map, hpp, hnum, h1, Option.bind_some, wn1 i (by omega), size_B]
        dsimp only
        rw [if_pos rfl, hm]
        by_cases g1 : 1 < p.length
        · have hb0 : bt (B p) 0 = ((p.getD 0 0).toNat : Int) := by rw [bt_B]; rfl
          rw [if_pos (by omega), if_pos (by omega), hb0]
          by_cases g2 : p.getD 0 0 = 48
          · have h2 : strictV p = none := by unfold strictV; rw [if_pos (Or.inr ⟨g1, g2⟩)]
            rw [if_pos (by rw [g2]; rfl), h2]
          · have h2 : strictV p = some n := by unfold strictV; rw [if_neg (by rintro (h | h); exact hne h; exact g2 h.2), hv, Option.bind_some, if_pos g]
            rw [if_neg (fun h => g2 (UInt8.toNat_inj.mp (by rw [show (48 : UInt8).toNat = 48 from rfl]; omega))), if_pos (by omega), h2]
        · have h2 : strictV p = some n := by unfold strictV; rw [if_neg (by rintro (h | h); exact hne h; exact g1 h.1), hv, Option.bind_some, if_pos g]
          rw [if_neg (by omega), if_pos (by omega), h2]
      · exact hbad (by unfold numP; rw [hv]; exact if_neg (fun h => g h.2)) (by unfold strictV; rw [hv, Option.bind_some, if_neg g]; split <;> rfl)
def fourP (ps : List (List UInt8)) : Option (Nat × Nat × Nat × Nat) := match ps with
  | [p, q, r, s] => (strictV p).bind fun a => (strictV q).bind fun b => (strictV r).bind fun c => (strictV s).bind fun d => some (a, b, c, d)
  | _ => none
def fourV (l : List UInt8) : Option (Nat × Nat × Nat × Nat) := fourP (splitS 46 l)
def fourIs (o : Option (Nat × Nat × Nat × Nat)) (r : Int × Int × Int × Int × Bool) : Prop := match o with
  | some (a, b, c, d) => r = ((a : Int), (b : Int), (c : Int), (d : Int), true)
  | none => r.2.2.2.2 = false
theorem four_f (l : List UInt8) (hl : l.length ≤ 1000000) (k : Nat) (hk : 2000100 ≤ k) : ∃ r, ip_four.f k (B l) = some r ∧ fourIs (fourV l) r := by
  obtain ⟨k, rfl⟩ : ∃ m, k = m + 5 := ⟨k - 5, by omega⟩
  rw [ip_four.f, split_f 46 (B l) (by rw [size_B]; omega), Option.bind_some, L_B, List.length_map]
  unfold fourV
  have hs : ∀ p ∈ splitS 46 l, p.length ≤ 1000000 := fun p hp => by have := splitS_le 46 l p hp; omega
  generalize splitS 46 l = ps at hs
  by_cases g : ps.length = 4
  · rw [if_pos (by omega), g]
    have st := four_step ps g hs
    match ps, g, hs, st with
    | [p, q, r, s], g, hs, st =>
      rw [show ((4 : Nat) : Int) = 4 from rfl]
      have s0 := st 0 (by omega) 0 0 0 0 (k + 4) (by omega)
      have s1 := fun a b c d => st 1 (by omega) a b c d (k + 3) (by omega)
      have s2 := fun a b c d => st 2 (by omega) a b c d (k + 2) (by omega)
      have s3 := fun a b c d => st 3 (by omega) a b c d (k + 1) (by omega)
      rw [show (([p, q, r, s] : List (List UInt8)).getD 0 []) = p from rfl] at s0
      simp only [show (([p, q, r, s] : List (List UInt8)).getD 1 []) = q from rfl] at s1
      simp only [show (([p, q, r, s] : List (List UInt8)).getD 2 []) = r from rfl] at s2
      simp only [show (([p, q, r, s] : List (List UInt8)).getD 3 []) = s from rfl] at s3
      rw [show (0 : Int) = ((0 : Nat) : Int) from rfl] 
      refine (show ∃ r', ip_four.l0 (k + 4 + 1) (List.map B [p, q, r, s]) 4 ((0 : Nat) : Int) 0 0 0 0 = some r' ∧ fourIs (fourP [p, q, r, s]) r' from ?_)
      rw [s0, fourP]
      cases strictV p with
      | none => exact ⟨_, rfl, rfl⟩
      | some a =>
        refine (show ∃ r', ip_four.l0 (k + 3 + 1) (List.map B [p, q, r, s]) 4 ((1 : Nat) : Int) a 0 0 0 = some r' ∧ _ from ?_)
        rw [s1]
        cases strictV q with
        | none => exact ⟨_, rfl, rfl⟩
        | some b =>
          refine (show ∃ r', ip_four.l0 (k + 2 + 1) (List.map B [p, q, r, s]) 4 ((2 : Nat) : Int) a b 0 0 = some r' ∧ _ from ?_)
          rw [s2]
          cases strictV r with
          | none => exact ⟨_, rfl, rfl⟩
          | some c =>
            refine (show ∃ r', ip_four.l0 (k + 1 + 1) (List.map B [p, q, r, s]) 4 ((3 : Nat) : Int) a b c 0 = some r' ∧ _ from ?_)
            rw [s3]
            cases strictV s with
            | none => exact ⟨_, rfl, rfl⟩
            | some d =>
              refine ⟨((a : Int), (b : Int), (c : Int), (d : Int), true), ?_, rfl⟩
              show ip_four.l0 (k + 1) (List.map B [p, q, r, s]) 4 ((4 : Nat) : Int) a b c d = _
              rw [ip_four.l0, if_neg (by decide)]
  · rw [if_neg (by omega)]
    refine ⟨_, rfl, ?_⟩
    have : fourP ps = none := by
      unfold fourP
      split
      · simp at g
      · rfl
    rw [this]
    rfl
/-- Groups, as bytes. -/
def groupsP (tail : Bool) : List (List UInt8) → List Int → Option (List Int)
  | [], acc => some acc
  | q :: rest, acc => match (if tail = true ∧ rest = [] then fourV q else none) with
    | some (a, b, c, d) => some (acc ++ [(a : Int), (b : Int), (c : Int), (d : Int)])
    | none => match numV 16 0 q with
      | some n => if q ≠ [] ∧ n < 65536 ∧ q.length ≤ 4 then groupsP tail rest (acc ++ [((n / 256 : Nat) : Int), ((n % 256 : Nat) : Int)]) else none
      | none => none
def groupsV (tail : Bool) (l : List UInt8) : Option (List Int) := if l = [] then some [] else groupsP tail (splitS 58 l) []
def groupsR : Option (List Int) → List Int × Bool
  | some r => (r, true)
  | none => ([], false)
theorem groups_j1 (ps : List (List UInt8)) (tail : Bool) (acc : List Int) (q : List UInt8) (hq : q.length ≤ 1000000) (i : Nat) (hi : i < ps.length) (hn : ps.length ≤ 1000000) (ha : acc.length ≤ 2 * i) (a b c d : Int) (k : Nat) (hk : 2000010 ≤ k) :
    ip_groups.j1 (k + 1) tail acc (ps.map B) (B q) (ps.map B) (ps.length : Int) (i : Int) false a b c d = match numV 16 0 q with
      | some n => if q ≠ [] ∧ n < 65536 ∧ q.length ≤ 4 then ip_groups.l0 k tail (acc ++ [((n / 256 : Nat) : Int), ((n % 256 : Nat) : Int)]) (ps.map B) (ps.map B) (ps.length : Int) ((i + 1 : Nat) : Int) else some ([], false)
      | none => some ([], false) := by
  have hnum : ip_number.f k (B q) 16 65536 = some (numP 16 65536 q) := number16 65536 (by decide) (by decide) q hq k (by omega)
  rw [ip_groups.j1, if_neg (by simp), hnum, Option.bind_some, size_B, wn1 i (by omega)]
  cases hv : numV 16 0 q with
  | none =>
    have h1 : numP 16 65536 q = (0, false) := by unfold numP; rw [hv]
    rw [h1]
    rfl
  | some n =>
    dsimp only
    by_cases g : q ≠ [] ∧ n < 65536
    · have h1 : numP 16 65536 q = ((n : Int), true) := by unfold numP; rw [hv]; exact if_pos g
      rw [h1]
      dsimp only
      rw [if_pos rfl]
      by_cases g2 : q.length ≤ 4
      · have e1 : (n : Int) / 256 % 256 = ((n / 256 : Nat) : Int) := by omega
        have e2 : (n : Int) % 256 = ((n % 256 : Nat) : Int) := by omega
        rw [if_neg (by omega), if_pos ⟨g.1, g.2, g2⟩, Option.bind_some, e1, e2, if_pos (by simp; omega)]
      · rw [if_pos (by omega), if_neg (fun h => g2 h.2.2)]
    · have h1 : numP 16 65536 q = (0, false) := by unfold numP; rw [hv]; exact if_neg g
      rw [h1, if_neg (show ¬ (q ≠ [] ∧ n < 65536 ∧ q.length ≤ 4) from fun h => g ⟨h.1, h.2.1⟩)]
      rfl
theorem groups_loop (ps : List (List UInt8)) (tail : Bool) (hs : ∀ p ∈ ps, p.length ≤ 1000000) (hn : ps.length ≤ 1000000) : ∀ (t : List (List UInt8)) (i : Nat) (acc : List Int) (k : Nat), ps.drop i = t → i ≤ ps.length → acc.length ≤ 2 * i → 2000200 + 2 * t.length ≤ k →
    ip_groups.l0 k tail acc (ps.map B) (ps.map B) (ps.length : Int) (i : Int) = some (groupsR (groupsP tail t acc))
  | [], i, acc, k, hd, hi, ha, hk => by
    obtain ⟨k, rfl⟩ : ∃ m, k = m + 1 := ⟨k - 1, by simp at hk; omega⟩
    have : ps.length ≤ i := List.drop_eq_nil_iff.1 hd
    rw [ip_groups.l0, if_neg (by omega)]
    rfl
  | q :: t, i, acc, k, hd, hi, ha, hk => by
    obtain ⟨k, rfl⟩ : ∃ m, k = m + 2 := ⟨k - 2, by simp at hk; omega⟩
    simp only [List.length_cons] at hk
    have hlt : i < ps.length := by
      rcases Nat.lt_or_ge i ps.length with h | h
      · exact h
      · rw [List.drop_eq_nil_of_le h] at hd; cases hd
    have hlen : (q :: t).length = ps.length - i := by rw [← hd, List.length_drop]
    simp only [List.length_cons] at hlen
    rw [List.drop_eq_getElem_cons hlt] at hd
    injection hd with h1 h2
    have hg : ps.getD i [] = q := by rw [List.getD_eq_getElem?_getD, List.getElem?_eq_getElem hlt, Option.getD_some, h1]
    have hq : q.length ≤ 1000000 := hs q (h1 ▸ List.getElem_mem hlt)
    obtain ⟨r, hr, hfi⟩ := four_f q hq (k + 1) (by omega)
    have hj1 := fun a b c d => groups_j1 ps tail acc q hq i hlt hn ha a b c d k (by omega)
    have hrest : ∀ n : Nat, ip_groups.l0 k tail (acc ++ [((n / 256 : Nat) : Int), ((n % 256 : Nat) : Int)]) (ps.map B) (ps.map B) (ps.length : Int) ((i + 1 : Nat) : Int) = some (groupsR (groupsP tail t (acc ++ [((n / 256 : Nat) : Int), ((n % 256 : Nat) : Int)]))) := fun n =>
      groups_loop ps tail hs hn t (i + 1) _ k h2 (by omega) (by simp; omega) (by omega)
    have hnon : ∀ a b c d, (match (if tail = true ∧ t = [] then fourV q else none) with | some _ => False | none => True) → ip_groups.j1 (k + 1) tail acc (ps.map B) (B q) (ps.map B) (ps.length : Int) (i : Int) false a b c d = some (groupsR (groupsP tail (q :: t) acc)) := by
      intro a b c d h
      rw [hj1, groupsP]
      cases hf : (if tail = true ∧ t = [] then fourV q else none) with
      | some x => rw [hf] at h; exact h.elim
      | none =>
        dsimp only
        cases numV 16 0 q with
        | none => rfl
        | some n =>
          dsimp only
          by_cases g : q ≠ [] ∧ n < 65536 ∧ q.length ≤ 4
          · rw [if_pos g, if_pos g]; exact hrest n
          · rw [if_neg g, if_neg g]; rfl
    rw [ip_groups.l0, if_pos (by omega), if_pos (by omega), if_pos (by rw [List.length_map]; omega), rdOf_map, hg, hr, Option.bind_some, List.length_map, wnsub ps.length (by omega) (by omega)]
    cases hfv : fourV q with
    | none =>
      rw [hfv] at hfi hnon
      have hfi' : r.2.2.2.2 = false := hfi
      rw [hfi', if_neg (by simp)]
      exact hnon _ _ _ _ (by split <;> simp_all)
    | some x =>
      obtain ⟨a, b, c, d⟩ := x
      rw [hfv] at hfi hnon
      obtain rfl : r = ((a : Int), (b : Int), (c : Int), (d : Int), true) := hfi
      rw [if_pos rfl]
      cases tail with
      | false =>
        rw [if_neg (by simp)]
        exact hnon _ _ _ _ (by simp)
      | true =>
        rw [if_pos rfl]
        by_cases ht : t = []
        · subst ht
          simp only [List.length_nil] at hlen
          rw [show ((i : Int) == ((ps.length - 1 : Nat) : Int)) = true from beq_iff_eq.2 (by omega), ip_groups.j1, if_pos rfl, if_pos (by simp; omega), groupsP, hfv]
          rfl
        · have hpos := List.length_pos_iff.2 ht
          rw [show ((i : Int) == ((ps.length - 1 : Nat) : Int)) = false from beq_false_of_ne (by omega)]
          exact hnon _ _ _ _ (by simp [ht])
theorem splitS_len (c : UInt8) : ∀ l : List UInt8, (splitS c l).length ≤ l.length + 1
  | [] => by simp [splitS]
  | b :: l => by
    have := splitS_len c l
    rw [splitS]
    split
    · simp; omega
    · split
      · simp
      · rename_i h t he
        rw [he] at this
        simp at this ⊢
        omega
theorem groups_f (l : List UInt8) (tail : Bool) (hl : l.length ≤ 900000) (k : Nat) (hk : 5000000 ≤ k) : ip_groups.f k (B l) tail = some (groupsR (groupsV tail l)) := by
  rw [ip_groups.f, toList_L, L_B]
  unfold groupsV
  by_cases h : l = []
  · rw [if_pos h, if_pos h]; rfl
  · have hle := splitS_len 58 l
    rw [if_neg h, if_neg h, split_f 58 (B l) (by rw [size_B]; omega), Option.bind_some, L_B, List.length_map]
    exact groups_loop _ tail (fun p hp => by have := splitS_le 58 l p hp; omega) (by omega) _ 0 [] k rfl (by omega) (by simp) (by omega)
end Go.Proofs.YtfiefecjcmcejaaDoor.Q
