/- Rows of bytes made of texts and appended to (their blocks bear a mark behind their cells); a slice that is read. -/
import Derived.Test.YtipleegkonhfcaaGreatDoorKH1
set_option linter.unusedVariables false
set_option linter.unusedSimpArgs false
namespace Go.Proofs.YtipleegkonhfcaaGreatDoor.RM
open Go Go.RowKit Go.Shelf Go.Lib Go.Proofs.YtipleegkonhfcaaGreatDoorW.PrintWords Go.Proofs.YtipleegkonhfcaaGreatDoorW.PrintLast Go.Proofs.YtipleegkonhfcaaGreatDoorW.PrintMore Go.Proofs.YtipleegkonhfcaaGreatDoorV

def cellsB (xs : List Int) : List Value := xs.map (Value.int .u8)
/-- A row of bytes from block 'base' on, whose block may bear a mark behind its cells. -/
def Rm (w : World) (base : Nat) (v : Value) (xs : List Int) : Prop :=
  ∃ g cap cur fz, v = .slice (some ⟨g, 0, none⟩) xs.length cap ∧ base ≤ g ∧ w.heap[g]? = some (.cells cur 5 fz) ∧ (fz = (0, 0) ∨ cap ≤ fz.1) ∧ xs.length ≤ cap ∧ cur.size = cap ∧ cur.toList.take xs.length = cellsB xs
theorem Rm.cell {w : World} {g cap : Nat} {cur : Array Value} {fz : Nat × Nat} {xs : List Int} (hg : w.heap[g]? = some (.cells cur 5 fz)) (ht : cur.toList.take xs.length = cellsB xs) (j : Nat) (p : Int) (hp : xs[j]? = some p) : w.cell? ⟨g, j, none⟩ = some (.int .u8 p) := by
  unfold World.cell?
  rw [hg]
  have hj := (List.getElem?_eq_some_iff.1 hp).1
  have h2 : (cur.toList.take xs.length)[j]? = some (.int .u8 p) := by rw [ht, cellsB, List.getElem?_map, hp]; rfl
  rw [List.getElem?_take_of_lt hj] at h2
  simpa using h2
theorem Rm.reads {w : World} {base : Nat} {v : Value} {xs : List Int} (h : Rm w base v xs) (hm : xs.length ≤ 9223372036854775807) : ∃ A c, v = .slice A xs.length c ∧ Kd.C (Kd.int .u8) w A xs.length xs ∧ xs.length ≤ c := by
  obtain ⟨g, cap, cur, fz, e, _, hg, _, hc, _, ht⟩ := h
  exact ⟨_, _, e, C_bytes hm (Rm.cell (cap := cap) hg ht), hc⟩
theorem Rm.old {w w' : World} {base : Nat} {v : Value} {xs : List Int} (h : Rm w base v xs) (hb : Below w.heap.size w w') : Rm w' base v xs := by
  obtain ⟨g, cap, cur, fz, e, h1, hg, h2⟩ := h
  have hlt : g < w.heap.size := (Array.getElem?_eq_some_iff.1 hg).1
  exact ⟨g, cap, cur, fz, e, h1, (hb.block g hlt).trans hg, h2⟩
theorem Rm.conv (W : World) (base : Nat) (hb : base ≤ W.heap.size) (s : ByteArray) : Rm (Lib.bytesWorld W 5 s) base (.slice (some ⟨W.heap.size, 0, none⟩) s.size (grownCap W s.size 0 5)) (Go.Proofs.YtipleegkonhfcaaGreatDoorW.PrintWords.bytesOf s) := by
  have hl : (Go.Proofs.YtipleegkonhfcaaGreatDoorW.PrintWords.bytesOf s).length = s.size := bytesOf_length s
  have hge := grownCap_ge W s.size 0 5
  have hsz : (Lib.bytesCells W 5 s).size = grownCap W s.size 0 5 := by
    unfold Lib.bytesCells
    rw [Array.size_append, Array.size_map, Array.size_replicate]
    show s.size + _ = _
    omega
  refine ⟨_, _, _, _, by rw [hl], hb, Lib.bytesWorld_at_new W 5 s, Or.inr (by rw [hsz]; exact Nat.le_refl _), by rw [hl]; exact hge, hsz, ?_⟩
  unfold Lib.bytesCells cellsB
  have e : (s.data.map fun b => Value.int .u8 b.toNat).toList = (Go.Proofs.YtipleegkonhfcaaGreatDoorW.PrintWords.bytesOf s).map (Value.int .u8) := by
    rw [Array.toList_map, Go.Proofs.YtipleegkonhfcaaGreatDoorW.PrintWords.bytesOf, List.map_map]
    rfl
  rw [Array.toList_append, e, List.take_append_of_le_length (by rw [List.length_map]; exact Nat.le_refl _), List.take_of_length_le (by rw [List.length_map]; exact Nat.le_refl _)]
theorem setCells_heap (b : Nat) (t : TypeId) (fz : Nat × Nat) : ∀ (vs : List Value) (o : Nat) (w : World) (cur : Array Value), w.heap[b]? = some (.cells cur t fz) → ∃ cur' : Array Value, (w.setCells b o vs).heap[b]? = some (.cells cur' t fz) ∧ cur'.size = cur.size ∧ (∀ j, j < o → cur'[j]? = cur[j]?) ∧ (∀ j (hj : j < vs.length), o + j < cur.size → cur'[o + j]? = some vs[j])
  | [], o, w, cur, h => ⟨cur, h, rfl, fun _ _ => rfl, fun j hj => by simp at hj⟩
  | v :: r, o, w, cur, h => by
    have h1 : (w.setCell ⟨b, o, none⟩ v).heap[b]? = some (.cells (cur.setIfInBounds o v) t fz) := by
      rw [setCell_eq_setRow w b o cur t fz v h]
      exact setRow_heap w b cur _ t fz h
    obtain ⟨cur', q1, q2, q3, q4⟩ := setCells_heap b t fz r (o + 1) _ _ h1
    refine ⟨cur', q1, by rw [q2, Array.size_setIfInBounds], fun j hj => ?_, fun j hj hlt => ?_⟩
    · rw [q3 j (by omega), Array.getElem?_setIfInBounds_ne (by omega)]
    · cases j with
      | zero =>
        rw [Nat.add_zero, q3 o (by omega), Array.getElem?_setIfInBounds_self]
        rw [if_pos (by omega)]
        rfl
      | succ j =>
        rw [show o + (j + 1) = o + 1 + j from by omega]
        exact q4 j (by simpa using hj) (by rw [Array.size_setIfInBounds]; omega)
theorem below_setCells' {w : World} {base g : Nat} (hg : base ≤ g) (vs : List Value) (o : Nat) : Below base w (w.setCells g o vs) := by
  obtain ⟨q1, q2, q3, q4⟩ := setCells_same g vs o w
  exact ⟨q1, q2, q3, by rw [q4]; exact Nat.le_refl _, fun k hk => setCells_far vs o k (by omega)⟩
section
variable {P : Program}
/-- What is appended to such a row. -/
theorem Rm.append {w : World} {base : Nat} {v : Value} {xs ys : List Int} {A : Option Addr} {c : Nat} (t ty : TypeId) (ht : P.underlying t = some (.slice 5)) (hinfo : (P.info? 5).map (fun i => (i.zero, i.size, i.bytes)) = some (some (.int .u8 0), 1, 1))
    (h : Rm w base v xs) (hr : Kd.C (Kd.int .u8) w A ys.length ys) (hl : xs.length + ys.length ≤ 140737488355328) (hbase : base ≤ w.heap.size) :
    ∃ v' w', (Builtin.append_ #[t, t] ty #[v, .slice A ys.length c]).run P w = .ok v' w' ∧ Rm w' base v' (xs ++ ys) ∧ Below base w w' := by
  obtain ⟨i0, hi, hzz⟩ := Option.map_eq_some_iff.1 hinfo
  simp only [Prod.mk.injEq] at hzz
  obtain ⟨hz0, hz1, hz2⟩ := hzz
  obtain ⟨g, cap, cur, fz, rfl, hbg, hg, hfz, hnc, hcs, htake⟩ := h
  cases A with
  | none =>
    have h0 : ys = [] := by
      cases ys with
      | nil => rfl
      | cons y ys =>
        obtain ⟨ad, e, _⟩ := hr.2.2 (by simp)
        cases e
    subst h0
    refine ⟨.slice (some ⟨g, 0, none⟩) xs.length cap, w, ?_, ?_, Below.refl _ _⟩
    · simp [Builtin.append_, run_underlying ht, sizeOf, typeInfo, hi, Builtin.lenOf, Builtin.firstCells, hnc, storeCells]
    · rw [List.append_nil]
      exact ⟨g, cap, cur, fz, rfl, hbg, hg, hfz, hnc, hcs, htake⟩
  | some a =>
    have hnews : ∀ j u, (cellsB ys)[j]? = some u → w.cell? (a.add j) = some u := by
      intro j u hu
      have hR := Kd.reads_of_C (enc := Value.int .u8) (d := (0 : Int)) (h1 := fun _ => rfl) hr
      have hj : j < ys.length := by
        have := (List.getElem?_eq_some_iff.1 hu).1
        unfold cellsB at this
        simpa using this
      obtain ⟨ad, ea, hc⟩ := hR.2.2 (by omega)
      injection ea with ea
      subst ea
      have := hc j hj
      unfold cellsB at hu
      rw [List.getElem?_map, List.getElem?_eq_getElem hj] at hu
      rw [← hu, this, List.getD_eq_getElem?_getD, List.getElem?_eq_getElem hj]
      rfl
    have hone : ∀ u ∈ cellsB ys, u.oneCell' = true := by
      intro u hu
      obtain ⟨x, _, rfl⟩ := List.mem_map.1 hu
      rfl
    have hln : (cellsB ys).length = ys.length := List.length_map _
    have hf := run_firstCells_some (P := P) w i0.size ys.length a ys.length c (cellsB ys) (by rw [hz1, hln, Nat.mul_one]) hnews
    by_cases hroom : xs.length + ys.length ≤ cap
    · have hcell : ∀ j, j < cap → (w.cell? ⟨g, j, none⟩).isSome = true := by
        intro j hj
        unfold World.cell?
        rw [hg]
        have : j < cur.size := by omega
        simp [this]
      have hfro : ∀ j, j < cap → w.frozen? ⟨g, j, none⟩ = false := by
        intro j hj
        unfold World.frozen?
        rw [hg]
        rcases hfz with rfl | hfz
        · simp
        · obtain ⟨lo, hi'⟩ := fz
          simp only [Bool.and_eq_false_iff, decide_eq_false_iff_not]
          simp only at hfz
          omega
      have hst := run_storeCells_cells (P := P) g xs.length (cellsB ys) 0 w (fun j hj => hcell _ (by rw [hln] at hj; omega)) (fun j hj => hfro _ (by rw [hln] at hj; omega)) hone
      simp only [Nat.add_zero] at hst
      refine ⟨.slice (some ⟨g, 0, none⟩) (xs.length + ys.length) cap, w.setCells g xs.length (cellsB ys), ?_, ?_, below_setCells' hbg _ _⟩
      · have hst' : (storeCells ((⟨g, 0, none⟩ : Addr).add (xs.length * i0.size)) (cellsB ys) 0).run P w = .ok () (w.setCells g xs.length (cellsB ys)) := by
          rw [hz1, Nat.mul_one, show (⟨g, 0, none⟩ : Addr).add xs.length = ⟨g, xs.length, none⟩ from add_at0 g xs.length]
          exact hst
        simp [Builtin.append_, run_underlying ht, sizeOf, typeInfo, hi, Builtin.lenOf, hroom, hf, hst']
      · obtain ⟨cur', q1, q2, q3, q4⟩ := setCells_heap g 5 fz (cellsB ys) xs.length w cur hg
        refine ⟨g, cap, cur', fz, by rw [List.length_append], hbg, q1, hfz, by rw [List.length_append]; exact hroom, by rw [q2, hcs], ?_⟩
        apply List.ext_getElem?
        intro j
        rw [List.length_append, cellsB, List.map_append]
        rcases Nat.lt_or_ge j (xs.length + ys.length) with hj | hj
        · rw [List.getElem?_take_of_lt hj, Array.getElem?_toList]
          rcases Nat.lt_or_ge j xs.length with hj1 | hj1
          · rw [q3 j hj1, List.getElem?_append_left (by rw [List.length_map]; exact hj1)]
            have := congrArg (fun l => l[j]?) htake
            simp only [List.getElem?_take_of_lt hj1] at this
            rw [← Array.getElem?_toList]
            exact this
          · have hq := q4 (j - xs.length) (by rw [hln]; omega) (by omega)
            rw [show xs.length + (j - xs.length) = j from by omega] at hq
            rw [hq, List.getElem?_append_right (by rw [List.length_map]; exact hj1), List.length_map]
            show some (cellsB ys)[j - xs.length] = (cellsB ys)[j - xs.length]?
            rw [List.getElem?_eq_getElem]
        · rw [List.getElem?_eq_none (by rw [List.length_take]; omega), List.getElem?_eq_none (by rw [List.length_append, List.length_map, List.length_map]; omega)]
    · have hg2 := run_append_grow (P := P) w t ty 5 i0 (.int .u8 0) ht hi hz0 ⟨g, 0, none⟩ xs.length cap (cellsB xs) (by rw [hz1, Nat.mul_one]; exact List.length_map _)
        (fun j u hu => by
          rw [add_at0]
          unfold cellsB at hu
          rw [List.getElem?_map] at hu
          obtain ⟨p, hp, rfl⟩ := Option.map_eq_some_iff.1 hu
          exact Rm.cell (cap := cap) hg htake j p hp)
        a ys.length c (cellsB ys) (by rw [hz1, hln, Nat.mul_one]) hnews (by omega) (by omega) (growslice_fits (by omega) (by rw [hz2]; omega))
      have hge := grownCap_ge w (xs.length + ys.length) cap 5
      refine ⟨_, _, hg2, ⟨w.heap.size, _, _, (0, 0), by rw [List.length_append], hbase, heap_alloc_new w.drew _, Or.inl rfl, by rw [List.length_append]; exact hge, ?_, ?_⟩, ?_⟩
      · simp only [Array.size_append, List.size_toArray, size_zeroCells]
        show (cellsB xs).length + (cellsB ys).length + _ * 1 = _
        rw [hln, show (cellsB xs).length = xs.length from List.length_map _]
        omega
      · simp only [Array.toList_append, List.append_assoc]
        rw [← List.append_assoc, List.length_append, show xs.length + ys.length = (cellsB xs ++ cellsB ys).length from by rw [List.length_append, hln]; show _ = (List.map _ xs).length + _; rw [List.length_map], List.take_left]
        unfold cellsB
        rw [List.map_append]
      · exact ⟨rfl, rfl, rfl, by simp, fun k hk => heap_alloc_old w.drew _ (show k < w.drew.heap.size by show k < w.heap.size; omega)⟩
end
end Go.Proofs.YtipleegkonhfcaaGreatDoor.RM
set_option linter.unusedVariables false
set_option linter.unusedSimpArgs false
namespace Go.Proofs.YtipleegkonhfcaaGreatDoor.E
open Go Go.RowKit Go.Shelf Go.Lib Go.Proofs.YtipleegkonhfcaaGreatDoorW.PrintWords Go.Proofs.YtipleegkonhfcaaGreatDoorW.PrintLast Go.Proofs.YtipleegkonhfcaaGreatDoorW.PrintMore Go.Proofs.YtipleegkonhfcaaGreatDoorV Go.Proofs.YtipleegkonhfcaaGreatDoor.RM
namespace Ko
def R (w : World) (base : Nat) (ok : Nat → Prop) (v : Value) (xs : List Int) : Prop := Rm w base v xs ∧ xs.length ≤ 9223372036854775807 ∧ ∀ k, v.ownBlock = some k → ok k
section
variable {w w1 W : World} {base : Nat} {ok ok' : Nat → Prop} {u v : Value} {xs : List Int}
theorem R_step (h : R w base ok v xs) (hm : ∀ k, ok k → k < w.heap.size → w1.heap[k]? = w.heap[k]?) : R w1 base ok v xs := by
  obtain ⟨⟨g, cap, cur, fz, e, h1, hg, h2⟩, hl, hok⟩ := h
  have hlt : g < w.heap.size := (Array.getElem?_eq_some_iff.1 hg).1
  have ho : ok g := hok g (by rw [e]; rfl)
  exact ⟨⟨g, cap, cur, fz, e, h1, (hm g ho hlt).trans hg, h2⟩, hl, hok⟩
theorem R_mono (h : R w base ok v xs) (hok : ∀ k, ok k → ok' k) : R w base ok' v xs := ⟨h.1, h.2.1, fun k hk => hok k (h.2.2 k hk)⟩
theorem R_below (h : R w base ok v xs) (hb : Below w.heap.size w w1) : R w1 base ok v xs := R_step h (fun k _ hk => hb.block k hk)
theorem R_alloc (h : R w base ok v xs) (o : Obj) : R (w.alloc o) base ok v xs := R_below h (below_alloc (Below.refl _ _) o)
theorem R_drewN (h : R w base ok v xs) (m : Nat) : R (w.drewN m) base ok v xs := R_below h (pw_below_drewN (Below.refl _ _) m)
theorem R_drew (h : R w base ok v xs) : R w.drew base ok v xs := R_below h (below_drew (Below.refl _ _))
theorem R_bound (h : R w base ok v xs) : R w base (fun k => ok k ∧ base ≤ k ∧ k < w.heap.size ∧ ∃ cells fz, w.heap[k]? = some (.cells cells 5 fz)) v xs := by
  obtain ⟨⟨g, cap, cur, fz, e, h1, hg, h2⟩, hl, hok⟩ := h
  refine ⟨⟨g, cap, cur, fz, e, h1, hg, h2⟩, hl, fun k hk => ?_⟩
  have hkg : k = g := by
    rw [e] at hk
    injection hk with hk
    exact hk.symm
  subst hkg
  exact ⟨hok k hk, h1, (Array.getElem?_eq_some_iff.1 hg).1, cur, fz, hg⟩
theorem R_lt (h : R w base ok v xs) : ∀ k, v.ownBlock = some k → k < w.heap.size := fun k hk => ((R_bound h).2.2 k hk).2.2.1
theorem R_base (h : R w base ok v xs) : ∀ k, v.ownBlock = some k → base ≤ k := fun k hk => ((R_bound h).2.2 k hk).2.1
theorem R_lower {base' : Nat} (h : R w base ok v xs) (hb : base' ≤ base) : R w base' ok v xs := by
  obtain ⟨⟨g, cap, cur, fz, e, h1, h2⟩, hl, hok⟩ := h
  exact ⟨⟨g, cap, cur, fz, e, Nat.le_trans hb h1, h2⟩, hl, hok⟩
theorem R_elder' (hu : R W base ok u xs) (hbase : ∀ k, v.ownBlock = some k → W.heap.size ≤ k) (hb : Below W.heap.size W w1) : R w1 base (fun k => ok k ∧ some k ≠ v.ownBlock) u xs :=
  R_below (R_mono (R_bound hu) (fun k hk => ⟨hk.1, fun he => by have := hbase k he.symm; have := hk.2.2.1; omega⟩)) hb
theorem R_new' (h : R w1 W.heap.size ok v xs) (hlt : ∀ k, u.ownBlock = some k → k < W.heap.size) : R w1 W.heap.size (fun k => ok k ∧ some k ≠ u.ownBlock) v xs :=
  R_mono (R_bound h) (fun k hk => ⟨hk.1, fun he => by have := hlt k he.symm; have := hk.2.1; omega⟩)
theorem R_after {v1 : Value} (h : R W base (fun k => ok k ∧ some k ≠ v.ownBlock) u xs) (hg : W.grownBy w1 v.ownBlock) (hat : v1.ownBlock = v.ownBlock ∨ ∃ b, v1.ownBlock = some b ∧ W.heap.size ≤ b) : R w1 base (fun k => ok k ∧ some k ≠ v1.ownBlock) u xs := by
  have h1 : R W base (fun k => (ok k ∧ some k ≠ v.ownBlock) ∧ k < W.heap.size) u xs := R_mono (R_bound h) (fun k hk => ⟨hk.1, hk.2.2.1⟩)
  have h2 : R w1 base (fun k => (ok k ∧ some k ≠ v.ownBlock) ∧ k < W.heap.size) u xs := R_step h1 (fun k ho hk => hg.block k hk ho.1.2)
  refine R_mono h2 (fun k hk => ⟨hk.1.1, ?_⟩)
  rcases hat with hat | ⟨b, hb, hle⟩
  · rw [hat]
    exact hk.1.2
  · rw [hb]
    intro he
    injection he with he
    have := hk.2
    omega
theorem R_types (h : R w base ok v xs) {g t : Nat} {cells : Array Value} (hb : w.heap[g]? = some (.cells cells t (0, 0))) (ht : 5 ≠ t) : R w base (fun k => ok k ∧ k ≠ g) v xs :=
  R_mono (R_bound h) (fun k hk => ⟨hk.1, by
    obtain ⟨_, _, _, cells', fz, hc⟩ := hk
    rintro rfl
    rw [hc] at hb
    injection hb with hb
    injection hb with _ hb
    exact ht hb⟩)
theorem R_far (h : R w base ok v xs) {p : Addr} (hok : ∀ k, ok k → k ≠ p.block) (u : Value) : R (w.setCell p u) base ok v xs := R_step h (fun k ho _ => Below.heap_setCell w p u k (hok k ho))
theorem R_farC {g : Nat} (hok : ∀ k, ok k → k ≠ g) (h : R w base ok v xs) (vs : List Value) (o : Nat) : R (w.setCells g o vs) base ok v xs := by
  induction vs generalizing o w with
  | nil => exact h
  | cons u vs ih => exact ih (R_far (p := ⟨g, o, none⟩) h hok u) (o + 1)
theorem R_slice (h : R w base ok v xs) : ∃ A c, v = .slice A xs.length c := by
  obtain ⟨⟨g, cap, cur, fz, e, _⟩, _⟩ := h
  exact ⟨_, _, e⟩
theorem R_reads' {A : Option Addr} {n c : Nat} (h : R w base ok (.slice A n c) xs) : n = xs.length ∧ n ≤ c ∧ Kd.C (Kd.int .u8) w A xs.length xs := by
  obtain ⟨A', c', e, h1, h2⟩ := Rm.reads h.1 h.2.1
  injection e with e1 e2 e3
  subst e1 e2 e3
  exact ⟨rfl, h2, h1⟩
theorem string_ {P : Program} {src dst e : TypeId} (hs : P.underlying src = some (.slice e)) (he : P.underlying e = some (.int .u8)) (hd : P.underlying dst = some .string) (h : R w base ok v xs) : (convert src dst v).run P w = .ok (.string (strOfNums xs)) w := by
  obtain ⟨A', c', e', h1, h2⟩ := Rm.reads h.1 h.2.1
  subst e'
  exact Kd.C_string hs he hd h1
end
end Ko
end Go.Proofs.YtipleegkonhfcaaGreatDoor.E
set_option linter.unusedVariables false
set_option linter.unusedSimpArgs false
namespace Go.Proofs.YtipleegkonhfcaaGreatDoor.RM
open Go Go.RowKit Go.Shelf Go.Lib Go.Proofs.YtipleegkonhfcaaGreatDoorW.PrintWords Go.Proofs.YtipleegkonhfcaaGreatDoorW.PrintLast Go.Proofs.YtipleegkonhfcaaGreatDoorW.PrintMore Go.Proofs.YtipleegkonhfcaaGreatDoorV
section
variable {P : Program} {ops : Array Oper} {rest : List Oper} {o : Oper} {a : Act} {Q : Exit → Act → World → Prop}
/-- '[]byte(s)', as a row of the call's own. -/
theorem conv_row {W : World} (hgd : o.guard = none) {N : Tmp} (_hd : o.dst = some N) (src dst : TypeId) (s : ByteArray) (hs : P.underlying src = some .string) (hdst : P.underlying dst = some (.slice 5)) (he : P.underlying 5 = some (.int .u8))
    (hrun : (execOp a.eval o).run P W = ((convert src dst (.string s)).run P W).andThen (fun v w => .ok (.value v) w)) (base : Nat) (hb : base ≤ W.heap.size)
    (h : ∀ v w1, Rm w1 base v (Go.Proofs.YtipleegkonhfcaaGreatDoorW.PrintWords.bytesOf s) → Below W.heap.size W w1 → wpList P ops Q rest (a.put o.dst v) w1) : wpList P ops Q (o :: rest) a W := by
  have hc := Lib.run_convert_string_bytes (P := P) W src dst 5 s hs hdst he
  rw [hc] at hrun
  refine Kd.event_run hgd hrun (h _ _ (Rm.conv W base hb s) ⟨rfl, rfl, rfl, by rw [Lib.bytesWorld_size]; omega, fun k hk => Lib.bytesWorld_at_old W 5 s k hk⟩)
theorem append_row {w0 W : World} (base : Nat) (hgd : o.guard = none) (s x : Operand) (t : TypeId)
    (ho : o.op = .call { callee := .builtin .append, args := #[s, x], argTypes := #[t, t] })
    (ht : P.underlying t = some (.slice 5)) (hinfo : (P.info? 5).map (fun i => (i.zero, i.size, i.bytes)) = some (some (.int .u8 0), 1, 1))
    (v : Value) (xs ys : List Int) (A : Option Addr) (c : Nat) (hs : a.eval s = v) (hx : a.eval x = .slice A ys.length c)
    (HO : Rm W base v xs) (HR : Kd.C (Kd.int .u8) W A ys.length ys) (HB : Below base w0 W) (hbase : base ≤ W.heap.size) (hl : xs.length + ys.length ≤ 140737488355328)
    (h : ∀ v1 w1, Rm w1 base v1 (xs ++ ys) → Below base w0 w1 → wpList P ops Q rest (a.put o.dst v1) w1) : wpList P ops Q (o :: rest) a W := by
  obtain ⟨v1, w1, hr1, h1, hb⟩ := Rm.append (P := P) t o.type ht hinfo HO HR (c := c) hl hbase
  refine Kd.event_run (v := v1) (w1 := w1) hgd ?_ (h v1 w1 h1 (HB.trans hb))
  unfold execOp
  simp only [ho, resolve, invoke, builtin, Sem.run_bind, Sem.run_pure, Result.andThen_ok, List.map_toArray, List.map_cons, List.map_nil, hs, hx, hr1]
end
end Go.Proofs.YtipleegkonhfcaaGreatDoor.RM
namespace Go.Proofs.YtipleegkonhfcaaGreatDoor.E
open Go Go.RowKit Go.Shelf Go.Lib Go.Proofs.YtipleegkonhfcaaGreatDoorW.PrintWords Go.Proofs.YtipleegkonhfcaaGreatDoorW.PrintLast Go.Proofs.YtipleegkonhfcaaGreatDoorW.PrintMore Go.Proofs.YtipleegkonhfcaaGreatDoorV Go.Proofs.YtipleegkonhfcaaGreatDoor.RM Go.Proofs.YtipleegkonhfcaaGreatDoor.KH Go.Proofs.YtipleegkonhfcaaGreatDoor.U
def lanternref11_join.f (k : Nat) (a0 : ByteArray) (l1 : List S67) (l2 : List Int) : Option (List Int) := (lanternref09_Print.f k l1).bind fun h => if a0.size + 2 + h.length + l2.length ≤ 140737488355328 then some (Go.Proofs.YtipleegkonhfcaaGreatDoorW.PrintWords.bytesOf a0 ++ [13, 10] ++ h ++ l2) else none
theorem lanternref11_join.mono : ∀ a0 a1 a2 k, LeO (lanternref11_join.f k a0 a1 a2) (lanternref11_join.f (k + 1) a0 a1 a2) := by
  intro a0 a1 a2 k
  unfold lanternref11_join.f
  exact LeO.bind (lanternref09_Print.mono a1 k) (fun _ => LeO.refl _)
theorem infoB9 : (Tryz.prog.info? 5).map (fun i => (i.zero, i.size, i.bytes)) = some (some (.int .u8 0), 1, 1) := by kernel_rfl
set_option maxHeartbeats 4000000 in
set_option maxRecDepth 100000 in
theorem lanternref11_join.calls (k : Nat) (a0 : ByteArray) (A1 : Option Addr) (c1 : Nat) (l1 : List S67) (A2 : Option Addr) (c2 : Nat) (l2 r : List Int) (w : World) (hLW : LW w) (hr1 : Kd.C k67 w A1 l1.length l1) (hc1 : l1.length ≤ c1) (hr2 : Kd.C (Kd.int .u8) w A2 l2.length l2) (hc2 : l2.length ≤ c2) (h : lanternref11_join.f k a0 l1 l2 = some r) :
    Calls Tryz.prog 41 #[.string a0, .slice A1 l1.length c1, .slice A2 l2.length c2] w fun e w' => ∃ v0_ : Value, e = .returned v0_ ∧ Ko.R w' w.heap.size (fun _ => True) v0_ r ∧ Below w.heap.size w w' := by
  obtain ⟨hd, he, hr⟩ := Option.bind_eq_some_iff.mp h
  clear h
  split at hr
  · rename_i hsz
    injection hr with hr
    subst hr
    have hbl : (Go.Proofs.YtipleegkonhfcaaGreatDoorW.PrintWords.bytesOf a0).length = a0.size := bytesOf_length a0
    obtain ⟨yl, hyl⟩ : ∃ y : List Int, y = [13, 10] := ⟨_, rfl⟩
    rw [← hyl]
    have hyn : yl.length = 2 := by rw [hyl]; rfl
    have HSZ := Aside0.mk (show (Go.Proofs.YtipleegkonhfcaaGreatDoorW.PrintWords.bytesOf a0).length + yl.length + hd.length + l2.length ≤ 140737488355328 by rw [hbl, hyn]; exact hsz)
    have HYL := Aside0.mk hyl
    have HE := Aside0.mk he
    have HLW := Aside0.mk hLW
    have HR1 := Aside0.mk hr1
    have HC1 := Aside0.mk hc1
    have HR2 := Aside0.mk hr2
    have HB0 := Aside0.mk (Below.refl w.heap.size w)
    clear he hLW hr1 hc1 hr2 hc2 hsz hbl hyl hyn
    go_enter Tryz.func41, Tryz.ntmps41
    go_wp2_with (first
      | ((with_reducible refine gate_dst (N := 9) rfl ?_); refine conv_row ?hg (N := 9) ?hd 9 22 a0 Tryz.underlying9 Tryz.underlying22 Tryz.underlying5 ?hr w.heap.size (Nat.le_refl _) ?_; (case hd => rfl); (case hg => rfl); (case hr => first | rfl | (go_simp; done) | (go_simp; rfl)); intro v9 w1 ho hb; have HO1 := Aside0.mk ho; have HB1 := Aside0.mk hb; clear ho hb)
      | ((with_reducible refine gate_dst (N := 10) rfl ?_); refine Kd.R_lit (Kd.int .u8) _ 5 ?hg (N := 10) ?hd (xs := ([13, 10] : List Int)) (inner := [.int .u8 13, .int .u8 10]) (ok := fun _ => True) (okp := fun _ => True) ?hr ?hp (fun _ hk => hk) trivial (Below.refl _ _) (Nat.le_refl _) (by simp) ?_; (case hd => rfl); (case hg => rfl); (case hr => first | (go_simp; done) | (go_simp; rfl)); (case hp => exact (Reps.one (show Kd.M (Kd.int .u8) _ _ _ 13 [.int .u8 13] from rfl) (Reps.one (show Kd.M (Kd.int .u8) _ _ _ 10 [.int .u8 10] from rfl) (Reps.none _ _)))); intro v10 w2 ho hb hg_ hnew_; clear hg_ hnew_; rw [← HYL.out] at ho; have HO2 := Aside0.mk (HO1.out.old hb); have HB2 := Aside0.mk (below_step HB1.out hb); obtain ⟨A10, c10, e10⟩ := Kd.R_slice ho; subst e10; have HL2 := Aside0.mk (Kd.R_reads' ho).2.2; clear ho hb)
      | ((with_reducible refine gate_builtin (b := .append) (xs := #[.tmp 9, .tmp 10]) rfl ?_); at_builtin; refine append_row (w0 := w) w.heap.size rfl (.tmp 9) (.tmp 10) 22 rfl Tryz.underlying22 infoB9 v9 _ yl _ _ rfl rfl HO2.out HL2.out HB2.out HB2.out.size (by have := HSZ.out; omega) ?_; intro v11 w3 ho hb; have HO3 := Aside0.mk ho; have HB3 := Aside0.mk hb; clear ho hb)
      | (go_at_call 68; refine (lanternref09_Print.calls k A1 c1 l1 hd _ (LW.below HLW.out HB3.out) (Kd.C_below HR1.out HB3.out) HC1.out HE.out).mono ?_; rintro e w4 ⟨v14, rfl, ho0, hb⟩; have HO4 := Aside0.mk (HO3.out.old hb); have HB4 := Aside0.mk (below_step HB3.out hb); obtain ⟨A14, c14, e14⟩ := Kd.R_slice ho0; subst e14; have HL4 := Aside0.mk (Kd.R_reads' ho0).2.2; clear ho0 hb)
      | ((with_reducible refine gate_builtin (b := .append) (xs := #[.tmp 12, .tmp 14]) rfl ?_); at_builtin; refine append_row (w0 := w) w.heap.size rfl (.tmp 12) (.tmp 14) 22 rfl Tryz.underlying22 infoB9 v11 _ hd _ _ rfl rfl HO4.out HL4.out HB4.out HB4.out.size (by have := HSZ.out; rw [List.length_append]; omega) ?_; intro v15 w5 ho hb; have HO5 := Aside0.mk ho; have HB5 := Aside0.mk hb; clear ho hb)
      | ((with_reducible refine gate_builtin (b := .append) (xs := #[.tmp 16, .tmp 17]) rfl ?_); at_builtin; refine append_row (w0 := w) w.heap.size rfl (.tmp 16) (.tmp 17) 22 rfl Tryz.underlying22 infoB9 v15 _ l2 _ _ rfl rfl HO5.out (Kd.C_below HR2.out HB5.out) HB5.out HB5.out.size (by have := HSZ.out; rw [List.length_append, List.length_append]; omega) ?_; intro v18 w6 ho hb; have HO6 := Aside0.mk ho; have HB6 := Aside0.mk hb; clear ho hb))
    go_ret
    refine ⟨_, rfl, ?_, HB6.out⟩
    exact ⟨HO6.out, by have := HSZ.out; rw [List.length_append, List.length_append, List.length_append]; omega, fun _ _ => trivial⟩
  · cases hr
end Go.Proofs.YtipleegkonhfcaaGreatDoor.E
