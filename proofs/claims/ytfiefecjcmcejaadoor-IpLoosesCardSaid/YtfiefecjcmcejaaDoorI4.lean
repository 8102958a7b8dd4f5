/- The reference's Loose is the same plain function. -/
import Derived.Test.YtfiefecjcmcejaaDoorI3
set_option linter.unusedSimpArgs false
set_option linter.unusedVariables false
namespace Go.Proofs.YtfiefecjcmcejaaDoor.Q
open Go Go.RowKit Go.Lib Go.Proofs.YtfiefecjcmcejaaDoorW.PrintWords Go.Proofs.YtfiefecjcmcejaaDoorW.PrintMore Go.Proofs.YtfiefecjcmcejaaDoorB Go.Proofs.YtfiefecjcmcejaaDoor.E Go.Proofs.YtfiefecjcmcejaaDoorV Go.Proofs.YtfiefecjcmcejaaDoor.P

def errB : Bool × Int × Int × Int × Int × Int × Int × Int × Int × Int × Int × Int × Int × Int × Int × Int × Int × Bool := T18b zT false
theorem partR (ps : List (List UInt8)) (hs : ∀ p ∈ ps, p.length ≤ 1000000) (i : Nat) (hi : i < ps.length) (k : Nat) (hk : 1000008 ≤ k) : lanternref05_part.f k (rdOf ByteArray.empty (ps.map B) (i : Int)) = some (refN (partV (ps.getD i []))) := by
  have hp : (ps.getD i []).length ≤ 1000000 := by
    rw [List.getD_eq_getElem?_getD, List.getElem?_eq_getElem hi, Option.getD_some]
    exact hs _ (List.getElem_mem hi)
  rw [rdOf_map]
  exact refpart_f _ hp k (by omega)
theorem wn1 (i : Nat) (h : i ≤ 1000000000) : wrap64 ((i : Int) + 1) = ((i + 1 : Nat) : Int) := wrap_nat (i + 1) rfl (by omega)
theorem wnsub (n : Nat) (h : 1 ≤ n) (h2 : n ≤ 1000000000) : wrap64 ((n : Int) - 1) = ((n - 1 : Nat) : Int) := wrap_nat (n - 1) (by omega) (by omega)
theorem wnmul (a : Nat) (h : a ≤ 4294967296) : wrap64 ((a : Int) * 256) = ((a * 256 : Nat) : Int) := wrap_nat (a * 256) (by omega) (by omega)
theorem wnadd (a b : Nat) (h : a ≤ 1099511627776) (h2 : b ≤ 4294967296) : wrap64 ((a : Int) + (b : Int)) = ((a + b : Nat) : Int) := wrap_nat (a + b) (by omega) (by omega)
theorem refN_some (n : Nat) : refN (some n) = ((min n M32 : Nat) : Int) := rfl
theorem refN_neg (n : Nat) : ¬ refN (some n) < 0 := by rw [refN_some]; omega
theorem refN_gt (n c : Nat) (hc : c ≤ 4294967296) : (refN (some n) ≥ (c : Int)) ↔ c ≤ n := by
  have hM : (M32 : Nat) = 4294967296 := rfl
  rw [refN_some]
  omega
theorem refN_lt (n : Nat) (h : n ≤ 4294967296) : refN (some n) = (n : Int) := by
  have hM : (M32 : Nat) = 4294967296 := rfl
  rw [refN_some, Nat.min_eq_left (by omega)]
theorem refN_255 (n : Nat) : (refN (some n) > 255) ↔ 256 ≤ n := by
  have := refN_gt n 256 (by decide)
  omega
theorem rl_step (ps : List (List UInt8)) (hn : ps.length ≤ 4) (hs : ∀ p ∈ ps, p.length ≤ 1000000) (i acc k : Nat) (hi : i + 1 < ps.length) (ha : acc < 4294967296) (hk : 1000008 ≤ k) :
    lanternref05_Loose.l0 (k + 1) (ps.map B) (acc : Int) (i : Int) = match partV (ps.getD i []) with
      | some n => if n < 256 then lanternref05_Loose.l0 k (ps.map B) ((acc * 256 + n : Nat) : Int) ((i + 1 : Nat) : Int) else some errB
      | none => some errB := by
  rw [lanternref05_Loose.l0, List.length_map, wnsub ps.length (by omega) (by omega), if_pos (by omega), if_pos (by omega), if_pos (by omega), partR ps hs i (by omega) k hk, Option.bind_some, wn1 i (by omega), wnmul acc (by omega)]
  cases partV (ps.getD i []) with
  | none => rfl
  | some n =>
    dsimp only
    rw [if_neg (refN_neg n)]
    by_cases g : n < 256
    · rw [if_pos g, if_neg (fun h => Nat.not_le.2 g ((refN_255 n).1 h)), refN_lt n (by omega), wnadd (acc * 256) n (by omega) (by omega)]
    · rw [if_neg g, if_pos ((refN_255 n).2 (Nat.not_lt.1 g))]
      rfl
theorem rl_tail (ps : List (List UInt8)) (hn : ps.length ≤ 4) (hs : ∀ p ∈ ps, p.length ≤ 1000000) (acc k lm : Nat) (h0 : 0 < ps.length) (hlm : lm ≤ 4294967296) (hfit : ∀ n, n < lm → acc + n < 4294967296) (hk : 1000008 ≤ k) :
    lanternref05_Loose.l1 (k + 1) (ps.map B) (acc : Int) (lm : Int) 4 = match partV (ps.getD (ps.length - 1) []) with
      | some n => if n < lm then some (T18b (V4N (acc + n)) true) else some errB
      | none => some errB := by
  rw [lanternref05_Loose.l1, if_neg (by omega), List.length_map, wnsub ps.length (by omega) (by omega), if_pos (by omega), if_pos (by omega), partR ps hs (ps.length - 1) (by omega) k hk, Option.bind_some]
  cases partV (ps.getD (ps.length - 1) []) with
  | none => rfl
  | some n =>
    dsimp only
    rw [if_neg (refN_neg n)]
    by_cases g : n < lm
    · have hf := hfit n g
      rw [if_pos g, if_neg (fun h => Nat.not_le.2 g ((refN_gt n lm hlm).1 h)), refN_lt n (by omega), wnadd acc n (by omega) (by omega), show IntKind.u64.wrap ((acc + n : Nat) : Int) = ((acc + n : Nat) : Int) from by rw [IntKind.wrap_u64]; omega, refV4_f (acc + n) hf k (by omega)]
      rfl
    · rw [if_neg g, if_pos ((refN_gt n lm hlm).2 (Nat.not_lt.1 g))]
      rfl
theorem rl_up (ps : List (List UInt8)) (acc lm k i : Nat) (hi : i < 4) (ha : acc < 4294967296) (hl : lm < 4294967296) : lanternref05_Loose.l1 (k + 1) (ps.map B) (acc : Int) (lm : Int) (i : Int) = lanternref05_Loose.l1 k (ps.map B) ((acc * 256 : Nat) : Int) ((lm * 256 : Nat) : Int) ((i + 1 : Nat) : Int) := by
  rw [lanternref05_Loose.l1, if_pos (by omega), wn1 i (by omega), wnmul acc (by omega), wnmul lm (by omega)]
theorem rl_switch (ps : List (List UInt8)) (hn : ps.length ≤ 4) (h0 : 0 < ps.length) (acc k : Nat) : lanternref05_Loose.l0 (k + 1) (ps.map B) (acc : Int) ((ps.length - 1 : Nat) : Int) = lanternref05_Loose.l1 k (ps.map B) (acc : Int) 1 ((ps.length - 1 : Nat) : Int) := by
  rw [lanternref05_Loose.l0, List.length_map, wnsub ps.length (by omega) (by omega), if_neg (by omega)]
def looseB : Option Nat → Bool × Int × Int × Int × Int × Int × Int × Int × Int × Int × Int × Int × Int × Int × Int × Int × Int × Bool
  | some n => T18b (V4N n) true
  | none => errB
theorem rl_parts (ps : List (List UInt8)) (h0 : ps ≠ []) (hn : ps.length ≤ 4) (hs : ∀ p ∈ ps, p.length ≤ 1000000) (k : Nat) (hk : 1000100 ≤ k) :
    lanternref05_Loose.l0 k (ps.map B) 0 0 = some (looseB (looseV ps)) := by
  obtain ⟨k, rfl⟩ : ∃ m, k = m + 9 := ⟨k - 9, by omega⟩
  have st := rl_step ps hn hs
  have sw := rl_switch ps hn (List.length_pos_iff.2 h0)
  have up := rl_up ps
  have tl := rl_tail ps hn hs
  match ps, h0, hn, hs, st, sw, up, tl with
  | [p], _, _, _, st, sw, up, tl =>
    refine (sw 0 (k + 8)).trans ((up 0 1 (k + 7) 0 (by decide) (by decide) (by decide)).trans ((up 0 256 (k + 6) 1 (by decide) (by decide) (by decide)).trans ((up 0 65536 (k + 5) 2 (by decide) (by decide) (by decide)).trans ((up 0 16777216 (k + 4) 3 (by decide) (by decide) (by decide)).trans ((tl 0 (k + 3) 4294967296 (by simp) (by decide) (fun n hn => by omega) (by omega)).trans ?_)))))
    rw [looseV]
    show (match partV p with | some n => if n < 4294967296 then some (T18b (V4N (0 + n)) true) else some errB | none => some errB) = _
    cases partV p with
    | none => rfl
    | some a =>
      dsimp only [Option.bind_some]
      by_cases g : a < 4294967296
      · rw [if_pos g, if_pos g, Nat.zero_add]; rfl
      · rw [if_neg g, if_neg g]; rfl
  | [p, q], _, _, _, st, sw, up, tl =>
    refine (st 0 0 (k + 8) (by simp) (by decide) (by omega)).trans ?_
    rw [looseV]
    show (match partV p with | some n => if n < 256 then lanternref05_Loose.l0 (k + 8) ([p, q].map B) ((0 * 256 + n : Nat) : Int) ((0 + 1 : Nat) : Int) else some errB | none => some errB) = _
    cases partV p with
    | none => rfl
    | some a =>
      dsimp only [Option.bind_some]
      by_cases g : a < 256
      · rw [if_pos g, show 0 * 256 + a = a from by omega]
        refine (sw a (k + 7)).trans ((up a 1 (k + 6) 1 (by decide) (by omega) (by decide)).trans ((up (a * 256) 256 (k + 5) 2 (by decide) (by omega) (by decide)).trans ((up (a * 256 * 256) 65536 (k + 4) 3 (by decide) (by omega) (by decide)).trans ((tl (a * 256 * 256 * 256) (k + 3) 16777216 (by simp) (by decide) (fun n hn => by omega) (by omega)).trans ?_))))
        show (match partV q with | some n => if n < 16777216 then some (T18b (V4N (a * 256 * 256 * 256 + n)) true) else some errB | none => some errB) = _
        cases partV q with
        | none => rfl
        | some b =>
          dsimp only [Option.bind_some]
          by_cases g2 : b < 16777216
          · rw [if_pos g2, if_pos ⟨g, g2⟩, show a * 256 * 256 * 256 + b = a * 16777216 + b from by omega]; rfl
          · rw [if_neg g2, if_neg (fun h => g2 h.2)]; rfl
      · rw [if_neg g]
        cases partV q with
        | none => rfl
        | some b => dsimp only [Option.bind_some]; rw [if_neg (fun h => g h.1)]; rfl
  | [p, q, r], _, _, _, st, sw, up, tl =>
    refine (st 0 0 (k + 8) (by simp) (by decide) (by omega)).trans ?_
    rw [looseV]
    show (match partV p with | some n => if n < 256 then lanternref05_Loose.l0 (k + 8) ([p, q, r].map B) ((0 * 256 + n : Nat) : Int) ((0 + 1 : Nat) : Int) else some errB | none => some errB) = _
    cases partV p with
    | none => rfl
    | some a =>
      dsimp only [Option.bind_some]
      by_cases g : a < 256
      · rw [if_pos g, show 0 * 256 + a = a from by omega]
        refine (st 1 a (k + 7) (by simp) (by omega) (by omega)).trans ?_
        show (match partV q with | some n => if n < 256 then lanternref05_Loose.l0 (k + 7) ([p, q, r].map B) ((a * 256 + n : Nat) : Int) ((1 + 1 : Nat) : Int) else some errB | none => some errB) = _
        cases partV q with
        | none => rfl
        | some b =>
          dsimp only [Option.bind_some]
          by_cases g2 : b < 256
          · rw [if_pos g2]
            refine (sw (a * 256 + b) (k + 6)).trans ((up (a * 256 + b) 1 (k + 5) 2 (by decide) (by omega) (by decide)).trans ((up ((a * 256 + b) * 256) 256 (k + 4) 3 (by decide) (by omega) (by decide)).trans ((tl ((a * 256 + b) * 256 * 256) (k + 3) 65536 (by simp) (by decide) (fun n hn => by omega) (by omega)).trans ?_)))
            show (match partV r with | some n => if n < 65536 then some (T18b (V4N ((a * 256 + b) * 256 * 256 + n)) true) else some errB | none => some errB) = _
            cases partV r with
            | none => rfl
            | some c =>
              dsimp only [Option.bind_some]
              by_cases g3 : c < 65536
              · rw [if_pos g3, if_pos ⟨g, g2, g3⟩, show (a * 256 + b) * 256 * 256 + c = a * 16777216 + b * 65536 + c from by omega]; rfl
              · rw [if_neg g3, if_neg (fun h => g3 h.2.2)]; rfl
          · rw [if_neg g2]
            cases partV r with
            | none => rfl
            | some c => dsimp only [Option.bind_some]; rw [if_neg (fun h => g2 h.2.1)]; rfl
      · rw [if_neg g]
        cases partV q with
        | none => rfl
        | some b =>
          dsimp only [Option.bind_some]
          cases partV r with
          | none => rfl
          | some c => dsimp only [Option.bind_some]; rw [if_neg (fun h => g h.1)]; rfl
  | [p, q, r, s], _, _, _, st, sw, up, tl =>
    refine (st 0 0 (k + 8) (by simp) (by decide) (by omega)).trans ?_
    rw [looseV]
    show (match partV p with | some n => if n < 256 then lanternref05_Loose.l0 (k + 8) ([p, q, r, s].map B) ((0 * 256 + n : Nat) : Int) ((0 + 1 : Nat) : Int) else some errB | none => some errB) = _
    cases partV p with
    | none => rfl
    | some a =>
      dsimp only [Option.bind_some]
      by_cases g : a < 256
      · rw [if_pos g, show 0 * 256 + a = a from by omega]
        refine (st 1 a (k + 7) (by simp) (by omega) (by omega)).trans ?_
        show (match partV q with | some n => if n < 256 then lanternref05_Loose.l0 (k + 7) ([p, q, r, s].map B) ((a * 256 + n : Nat) : Int) ((1 + 1 : Nat) : Int) else some errB | none => some errB) = _
        cases partV q with
        | none => rfl
        | some b =>
          dsimp only [Option.bind_some]
          by_cases g2 : b < 256
          · rw [if_pos g2]
            refine (st 2 (a * 256 + b) (k + 6) (by simp) (by omega) (by omega)).trans ?_
            show (match partV r with | some n => if n < 256 then lanternref05_Loose.l0 (k + 6) ([p, q, r, s].map B) (((a * 256 + b) * 256 + n : Nat) : Int) ((2 + 1 : Nat) : Int) else some errB | none => some errB) = _
            cases partV r with
            | none => rfl
            | some c =>
              dsimp only [Option.bind_some]
              by_cases g3 : c < 256
              · rw [if_pos g3]
                refine (sw ((a * 256 + b) * 256 + c) (k + 5)).trans ((up ((a * 256 + b) * 256 + c) 1 (k + 4) 3 (by decide) (by omega) (by decide)).trans ((tl (((a * 256 + b) * 256 + c) * 256) (k + 3) 256 (by simp) (by decide) (fun n hn => by omega) (by omega)).trans ?_))
                show (match partV s with | some n => if n < 256 then some (T18b (V4N (((a * 256 + b) * 256 + c) * 256 + n)) true) else some errB | none => some errB) = _
                cases partV s with
                | none => rfl
                | some d =>
                  dsimp only [Option.bind_some]
                  by_cases g4 : d < 256
                  · rw [if_pos g4, if_pos ⟨g, g2, g3, g4⟩, show ((a * 256 + b) * 256 + c) * 256 + d = a * 16777216 + b * 65536 + c * 256 + d from by omega]; rfl
                  · rw [if_neg g4, if_neg (fun h => g4 h.2.2.2)]; rfl
              · rw [if_neg g3]
                cases partV s with
                | none => rfl
                | some d => dsimp only [Option.bind_some]; rw [if_neg (fun h => g3 h.2.2.1)]; rfl
          · rw [if_neg g2]
            cases partV r with
            | none => rfl
            | some c =>
              dsimp only [Option.bind_some]
              cases partV s with
              | none => rfl
              | some d => dsimp only [Option.bind_some]; rw [if_neg (fun h => g2 h.2.1)]; rfl
      · rw [if_neg g]
        cases partV q with
        | none => rfl
        | some b =>
          dsimp only [Option.bind_some]
          cases partV r with
          | none => rfl
          | some c =>
            dsimp only [Option.bind_some]
            cases partV s with
            | none => rfl
            | some d => dsimp only [Option.bind_some]; rw [if_neg (fun h => g h.1)]; rfl
theorem rl_j1 (l : List UInt8) (hl : l.length ≤ 1000000) (k : Nat) (hk : 1000200 ≤ k) : lanternref05_Loose.j1 k (B l) = some (looseB (looseV (splitS 46 l))) := by
  obtain ⟨k, rfl⟩ : ∃ m, k = m + 1 := ⟨k - 1, by omega⟩
  have hc : lanternref05_cut.f k (B l) 46 = some ((splitS 46 l).map B) := cut_f 46 l hl k (by omega)
  rw [lanternref05_Loose.j1, hc, Option.bind_some, List.length_map]
  by_cases g : (splitS 46 l).length ≤ 4
  · rw [if_neg (by omega)]
    exact rl_parts _ (splitS_ne 46 _) g (fun p hp => by have := splitS_le 46 _ p hp; omega) k (by omega)
  · rw [if_pos (by omega), looseV_long (by omega)]
    rfl
theorem refLoose_f (l : List UInt8) (hl : l.length ≤ 1000000) (k : Nat) (hk : 1000300 ≤ k) : lanternref05_Loose.f k (B l) = some (looseB (looseL l)) := by
  obtain ⟨k, rfl⟩ : ∃ m, k = m + 1 := ⟨k - 1, by omega⟩
  rw [lanternref05_Loose.f, size_B]
  unfold looseL
  rcases List.eq_nil_or_concat l with rfl | ⟨t, b, rfl⟩
  · rw [if_neg (by simp), lanternref05_Loose.j0, if_neg (by simp), rl_j1 [] (by simp) k (by omega)]
    rfl
  · rw [List.concat_eq_append] at hl ⊢
    have hlen : (t ++ [b]).length = t.length + 1 := by simp
    have hbt : bt (B (t ++ [b])) (t.length : Int) = (b.toNat : Int) := by
      rw [bt_B, Int.toNat_natCast]; simp
    rw [hlen, if_pos (by omega), wnsub (t.length + 1) (by omega) (by omega), Nat.add_sub_cancel, if_pos (by omega), if_pos (by omega), hbt]
    unfold bare
    rw [List.getLast?_concat]
    by_cases g : b = 46
    · subst g
      rw [show (((46 : UInt8).toNat : Int) == 46) = true from rfl, lanternref05_Loose.j0, if_pos rfl, size_B, hlen, wnsub (t.length + 1) (by omega) (by omega), Nat.add_sub_cancel, if_pos (by omega), if_pos (by omega), extract_B, Int.toNat_natCast, if_pos rfl]
      have e : ((t ++ [46]).take t.length).drop 0 = t := by simp
      rw [e, rl_j1 t (by omega) k (by omega)]
      simp
    · rw [beq_false_of_ne (fun h => g (UInt8.toNat_inj.mp (by simp; omega))), lanternref05_Loose.j0, if_neg (by simp), rl_j1 _ hl k (by omega), if_neg (fun h => g (Option.some.inj h))]
end Go.Proofs.YtfiefecjcmcejaaDoor.Q
