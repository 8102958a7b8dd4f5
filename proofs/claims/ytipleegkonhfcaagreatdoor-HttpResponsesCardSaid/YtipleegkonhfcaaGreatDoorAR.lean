/- Words of this session for the printed walks: elements of an array in a variable, read and stored at an index; a cut of such an array. -/
import Derived.Test.YtipleegkonhfcaaGreatDoorV
namespace Go.Proofs.YtipleegkonhfcaaGreatDoorV
open Go.RowKit Go.Proofs.YtipleegkonhfcaaGreatDoorW.PrintWords Go.Proofs.YtipleegkonhfcaaGreatDoorW.PrintLast Go.Proofs.YtipleegkonhfcaaGreatDoorW.PrintMore

section
variable {P : Program} {ops : Array Oper} {rest : List Oper} {o : Oper} {a : Act} {Q : Exit → Act → World → Prop}
end
/-- Some cells of a block, set one behind the other: what else holds. -/
theorem R_farC {α : Type} {d : Kd α} {e : Nat} {base : Nat} {ok : Nat → Prop} {v : Value} {xs : List α} {g : Nat} (hok : ∀ k, ok k → k ≠ g) {w : World} (h : d.R e w base ok v xs) (vs : List Value) (o : Nat) : d.R e (w.setCells g o vs) base ok v xs := by
  induction vs generalizing o w with
  | nil => exact h
  | cons u vs ih => exact ih (Kd.R_far (p := ⟨g, o, none⟩) h hok u) (o + 1)
theorem blk_farC {g b : Nat} {t : TypeId} {cs : Array Value} (hne : b ≠ g) : ∀ (vs : List Value) (o : Nat) {w : World}, w.heap[b]? = some (.cells cs t (0, 0)) → (w.setCells g o vs).heap[b]? = some (.cells cs t (0, 0))
  | [], _, _, h => h
  | u :: vs, o, _, h => blk_farC hne vs (o + 1) (blk_far (p := ⟨g, o, none⟩) h hne u)
theorem below_setC {w : World} {g n : Nat} (hg : n ≤ g) : ∀ (vs : List Value) (o : Nat) {W : World}, Below n w W → Below n w (W.setCells g o vs)
  | [], _, _, h => h
  | u :: vs, o, _, h => below_setC hg vs (o + 1) (h.setCell (p := ⟨g, o, none⟩) hg u)
theorem blk_part {g : Nat} {t : TypeId} : ∀ (vs mid pre post : List Value) {w : World} {cs cs' : Array Value}, w.heap[g]? = some (.cells cs t (0, 0)) → cs = (pre ++ (mid ++ post)).toArray → mid.length = vs.length → cs' = (pre ++ (vs ++ post)).toArray →
    (w.setCells g pre.length vs).heap[g]? = some (.cells cs' t (0, 0))
  | [], [], pre, post, _, _, _, h, e, _, e' => by
    rw [e', ← e]
    exact h
  | u :: vs, m :: mid, pre, post, w, _, _, h, e, hl, e' => by
    have h1 : (w.setCell ⟨g, pre.length, none⟩ u).heap[g]? = some (.cells ((pre ++ [u]) ++ (mid ++ post)).toArray t (0, 0)) := blk_put h pre.length u (by
      rw [e]
      apply Array.ext'
      rw [Array.toList_setIfInBounds]
      show (pre ++ (m :: (mid ++ post))).set pre.length u = _
      rw [List.set_append_right _ _ (Nat.le_refl _), Nat.sub_self]
      simp)
    have h2 := blk_part vs mid (pre ++ [u]) post h1 rfl (by simpa using hl) (cs' := (pre ++ (u :: vs ++ post)).toArray) (by simp)
    rw [e', World.setCells]
    simpa using h2
section
variable {P : Program} {ops : Array Oper} {rest : List Oper} {o : Oper} {a : Act} {Q : Exit → Act → World → Prop}
/-- A variable of many cells stored as a whole. -/
theorem store_all {W : World} (hgd : o.guard = none) (t : TypeId) (p : Tmp) (y : Operand) (ho : o.op = .store t (.tmp p) y) (hN : o.dst = none) (g : Nat) (cs vs : List Value) (hB : W.heap[g]? = some (.cells cs.toArray t (0, 0))) (hx : a.eval (.tmp p) = .pointer (some ⟨g, 0, none⟩)) (hy : a.eval y = .agg vs.toArray)
    (hl : cs.length = vs.length) (hi : (P.info? t).map (·.size) = some vs.length) (h1 : vs.all (·.oneCell') = true) (h : ∀ w', w' = W.setCells g 0 vs → wpList P ops Q rest a w') : wpList P ops Q (o :: rest) a W := by
  refine wpList_store_mid hgd t (.tmp p) y ho g 0 vs.toArray hx hy (fun j hj => ⟨?_, ?_⟩) hi (all_oneCell_toArray fun v hv => List.all_eq_true.1 h1 v hv) ?_
  · rw [Nat.zero_add, blk_cell hB]
    have : j < cs.length := by rw [hl]; simpa using hj
    simp [this]
  · rw [Nat.zero_add]
    exact blk_frozen hB j
  · rw [hN]
    exact h _ rfl
end
section
variable {P : Program} {w : World} {d c : Nat} {e : TypeId} {xs ys : Array Value} {i : Nat} {is : List Nat} {a b : Value} {r s : Bool}
end
end Go.Proofs.YtipleegkonhfcaaGreatDoorV
