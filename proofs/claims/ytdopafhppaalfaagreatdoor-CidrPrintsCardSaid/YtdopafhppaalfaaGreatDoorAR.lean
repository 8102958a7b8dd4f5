/- Words of this session for the printed walks: elements of an array in a variable, read and stored at an index; a cut of such an array. -/
import Derived.Test.YtdopafhppaalfaaGreatDoorV
import Derived.Laws.IdiomCopy
import Derived.ChangeKeysEq
import Derived.Deep.MidRow
namespace Go.Proofs.YtdopafhppaalfaaGreatDoorV
open Go.RowKit Go.Proofs.YtdopafhppaalfaaGreatDoorW.PrintWords Go.Proofs.YtdopafhppaalfaaGreatDoorW.PrintLast Go.Proofs.YtdopafhppaalfaaGreatDoorW.PrintMore

/-- Place k of an array behind a store of v at j. -/
def upd (j : Int) (k : Nat) (v c : Int) : Int := if j = (k : Int) then v else c
def updL (j v : Int) : Nat → List Int → List Int
  | _, [] => []
  | i, c :: l => upd j i v c :: updL j v (i + 1) l
theorem updL_set (j v : Int) : ∀ (l : List Int) (i n : Nat), j = ((i + n : Nat) : Int) → updL j v i l = l.set n v
  | [], _, _, _ => rfl
  | c :: l, i, 0, h => by
    have hs : ∀ (l : List Int) (m : Nat), i < m → updL j v m l = l := by
      intro l
      induction l with
      | nil => intros; rfl
      | cons c l ih =>
        intro m hm
        rw [updL, ih (m + 1) (by omega), upd, if_neg (by omega)]
    rw [updL, upd, if_pos (by simpa using h), hs l (i + 1) (by omega)]
    rfl
  | c :: l, i, n + 1, h => by
    rw [updL, upd, if_neg (by omega), updL_set j v l (i + 1) n (by rw [h]; omega)]
    rfl
theorem blk_idx {w : World} {g : Nat} {t : TypeId} {cs : Array Value} (h : w.heap[g]? = some (.cells cs t (0, 0))) (k : IntKind) (pre : List Value) (l : List Int) (post : List Value)
    (e : cs = (pre ++ (l.map (Value.int k) ++ post)).toArray) (j : Int) (h0 : 0 ≤ j) (h1 : j < (l.length : Int)) {q : Nat} (hq : q = pre.length + j.toNat) : w.cell? ⟨g, q, none⟩ = some (.int k (rd l j)) := by
  rw [blk_cell h, e, hq]
  have hl : j.toNat < l.length := by omega
  simp [List.getElem?_append_right, List.getElem?_append_left, hl, rd, List.getD]
theorem upd_set (k : IntKind) (pre : List Value) (l : List Int) (post : List Value) {cs cs' : Array Value} (e : cs = (pre ++ (l.map (Value.int k) ++ post)).toArray) (j : Int) (h0 : 0 ≤ j) (h1 : j < (l.length : Int))
    {q : Nat} (hq : q = pre.length + j.toNat) (v : Int) (e' : cs' = (pre ++ ((updL j v 0 l).map (Value.int k) ++ post)).toArray) : cs.setIfInBounds q (.int k v) = cs' := by
  have hl : j.toNat < l.length := by omega
  rw [e, e', hq, updL_set j v l 0 j.toNat (by omega), List.map_set]
  apply Array.ext'
  rw [Array.toList_setIfInBounds]
  show (pre ++ (l.map (Value.int k) ++ post)).set (pre.length + j.toNat) (.int k v) = pre ++ ((l.map (Value.int k)).set j.toNat (.int k v) ++ post)
  rw [List.set_append_right _ _ (by omega), Nat.add_sub_cancel_left, List.set_append_left _ _ (by simpa using hl)]
theorem C_arr {w : World} {g : Nat} {t : TypeId} {cs : Array Value} (h : w.heap[g]? = some (.cells cs t (0, 0))) (k : IntKind) (pre : List Value) (l : List Int) (post : List Value)
    (e : cs = (pre ++ (l.map (Value.int k) ++ post)).toArray) {q : Nat} (hq : q = pre.length) (hm : l.length ≤ 9223372036854775807) : Kd.C (Kd.int k) w (some ⟨g, q, none⟩) l.length l := by
  refine ⟨rfl, hm, fun _ => ⟨_, rfl, fun j p hp => ⟨[.int k p], rfl, rfl, fun i u hu => ?_⟩⟩⟩
  cases i with
  | zero =>
    obtain rfl : Value.int k p = u := by simpa using hu
    have e2 : j * (Kd.int k).sz + 0 = j := by show j * 1 + 0 = j; omega
    obtain ⟨hj, rfl⟩ := List.getElem?_eq_some_iff.1 hp
    rw [e2, hq, show (⟨g, pre.length, none⟩ : Addr).add j = ⟨g, pre.length + j, none⟩ from by unfold Addr.add; split <;> simp_all, blk_cell h, e]
    simp [List.getElem?_append_right, List.getElem?_append_left, hj]
  | succ i => simp at hu
section
variable {P : Program} {ops : Array Oper} {rest : List Oper} {o : Oper} {a : Act} {Q : Exit → Act → World → Prop}
/-- An event whose run is known. -/
theorem run_ev {W w1 : World} (hgd : o.guard = none) {N : Tmp} (_hd : o.dst = some N) (v : Value) (hrun : (execOp a.eval o).run P W = .ok (.value v) w1) (h : ∀ w2, w2 = w1 → wpList P ops Q rest (a.put o.dst v) w2) : wpList P ops Q (o :: rest) a W :=
  Kd.event_run hgd hrun (h _ rfl)
end
/-- Place i of an array behind a copy of xs to its places from lo up to hi. -/
def cpy (lo : Int) (hi i : Nat) (xs : List Int) (c : Int) : Int := if lo.toNat ≤ i ∧ i < hi ∧ i - lo.toNat < xs.length then xs.getD (i - lo.toNat) 0 else c
def cpyL (lo : Int) (hi : Nat) (xs : List Int) : Nat → List Int → List Int
  | _, [] => []
  | i, c :: l => cpy lo hi i xs c :: cpyL lo hi xs (i + 1) l
theorem cpyL_get (lo : Int) (hi : Nat) (xs : List Int) : ∀ (l : List Int) (i j : Nat), (cpyL lo hi xs i l)[j]? = (l[j]?).map (cpy lo hi (i + j) xs)
  | [], _, _ => rfl
  | c :: l, i, 0 => by simp [cpyL]
  | c :: l, i, j + 1 => by
    rw [cpyL, List.getElem?_cons_succ, List.getElem?_cons_succ, cpyL_get lo hi xs l (i + 1) j, show i + 1 + j = i + (j + 1) from by omega]
theorem setCell_id {w : World} {a : Addr} {v : Value} (h : w.cell? a = some v) : w.setCell a v = w := by
  have e : w.heap.modify a.block (fun | .cells c elem frozen => .cells (if a.spot.isSome then c else c.setIfInBounds a.off v) elem frozen | o => o) = w.heap := by
    apply Array.ext
    · simp
    · intro i h1 h2
      rw [Array.getElem_modify]
      split
      · rename_i hi
        subst hi
        unfold World.cell? at h
        rw [Array.getElem?_eq_getElem h2] at h
        cases ho : w.heap[a.block] with
        | cells c el fr =>
          rw [ho] at h
          cases hs : a.spot.isSome with
          | true => simp
          | false =>
            rw [hs] at h
            have h' : c[a.off]? = some v := h
            obtain ⟨hb, hv⟩ := Array.getElem?_eq_some_iff.1 h'
            have : c.setIfInBounds a.off v = c := by
              apply Array.ext
              · simp
              · intro j g1 g2
                rw [Array.getElem_setIfInBounds]
                split
                · rename_i e; subst e; exact hv.symm
                · rfl
            simp [this]
        | _ => rfl
      · rfl
  exact congrArg (fun h => ({ w with heap := h } : World)) e
theorem setCells_id (b : Nat) : ∀ (vs : List Value) (o : Nat) (w : World), (∀ j v, vs[j]? = some v → w.cell? ⟨b, o + j, none⟩ = some v) → w.setCells b o vs = w
  | [], _, _, _ => rfl
  | v :: r, o, w, h => by
    have h0 : w.cell? ⟨b, o, none⟩ = some v := h 0 v rfl
    rw [World.setCells, setCell_id h0]
    refine setCells_id b r (o + 1) w fun j u hu => ?_
    rw [show o + 1 + j = o + (j + 1) from by omega]
    exact h (j + 1) u hu
theorem setCells_append (b : Nat) : ∀ (us vs : List Value) (o : Nat) (w : World), w.setCells b o (us ++ vs) = (w.setCells b o us).setCells b (o + us.length) vs
  | [], _, _, _ => rfl
  | u :: us, vs, o, w => by
    rw [List.cons_append, World.setCells, setCells_append b us vs (o + 1), World.setCells, List.length_cons, show o + 1 + us.length = o + (us.length + 1) from by omega]
/-- A copy into an array's places, as a store of all of it. -/
theorem copy_world {P : Program} {W : World} {dT sT ty elem : TypeId} (hu : P.underlying dT = some (.slice elem)) (hs : (P.info? elem).map (·.size) = some 1) {g : Nat} {t : TypeId} {cs : Array Value} (hB : W.heap[g]? = some (.cells cs t (0, 0))) (k : IntKind)
    (pre : List Value) (l : List Int) (post : List Value) (e : cs = (pre ++ (l.map (Value.int k) ++ post)).toArray) (lo : Int) (hi dLen dCap : Nat) (hlo : lo.toNat ≤ hi) (hdl : dLen = hi - lo.toNat) (hhi : hi ≤ l.length) {A : Option Addr} {m c : Nat} {xs : List Int}
    (hC : Kd.C (Kd.int k) W A m xs) {q : Nat} (hq : q = pre.length + lo.toNat ∨ dLen = 0) :
    ∃ v, (Builtin.copy_ #[dT, sT] ty #[.slice (some ⟨g, q, none⟩) dLen dCap, .slice A m c]).run P W = .ok v (W.setCells g pre.length ((cpyL lo hi xs 0 l).map (Value.int k))) := by
  have hm : xs.length = m := hC.1
  have hcell : ∀ j, j < l.length → W.cell? ⟨g, pre.length + j, none⟩ = some (.int k (l.getD j 0)) := by
    intro j hj
    rw [blk_cell hB, e]
    simp [List.getElem?_append_right, List.getElem?_append_left, hj, List.getD]
  by_cases h0 : Nat.min m dLen = 0
  · refine ⟨goInt 0, ?_⟩
    rw [run_copy_none W dT sT ty elem (some ⟨g, q, none⟩) A dLen dCap m c hu hs h0, setCells_id]
    intro j v hv
    rw [List.getElem?_map, cpyL_get, Option.map_map] at hv
    obtain ⟨x, hx, rfl⟩ := Option.map_eq_some_iff.1 hv
    obtain ⟨hj, rfl⟩ := List.getElem?_eq_some_iff.1 hx
    rw [hcell j hj]
    have : ¬ (lo.toNat ≤ 0 + j ∧ 0 + j < hi ∧ 0 + j - lo.toNat < xs.length) := by
      intro ⟨g1, g2, g3⟩
      have h1 : Nat.min m dLen = min m dLen := rfl
      rw [h1] at h0
      omega
    show some (Value.int k (l.getD j 0)) = some (Value.int k (cpy lo hi (0 + j) xs l[j]))
    rw [cpy, if_neg this, List.getD, List.getElem?_eq_getElem hj]
    rfl
  · have hd0 : dLen ≠ 0 := fun h => h0 (by rw [h]; exact Nat.min_zero _)
    have hm0 : 0 < m := Nat.pos_of_ne_zero fun h => h0 (by rw [h]; exact Nat.zero_min _)
    obtain rfl : q = pre.length + lo.toNat := hq.resolve_right hd0
    obtain ⟨ad, rfl, hR⟩ := hC.2.2 hm0
    have hmin : Nat.min m dLen = min m dLen := rfl
    have hsrc : ∀ j v, ((xs.take dLen).map (Value.int k))[j]? = some v → W.cell? (ad.add j) = some v := by
      intro j v hv
      rw [List.getElem?_map] at hv
      obtain ⟨x, hx, rfl⟩ := Option.map_eq_some_iff.1 hv
      have hx' : xs[j]? = some x := by
        rw [List.getElem?_take] at hx
        split at hx
        · exact hx
        · cases hx
      obtain ⟨cl, _, hk, hu⟩ := hR j x hx'
      have hk' : cl = [Value.int k x] := hk
      subst hk'
      have := hu 0 _ rfl
      rw [show j * (Kd.int k).sz + 0 = j from by show j * 1 + 0 = j; omega] at this
      exact this
    have hlen : ((xs.take dLen).map (Value.int k)).length = Nat.min m dLen := by rw [List.length_map, List.length_take, hm, hmin]; omega
    have hls : (xs.take dLen).length = min m dLen := by rw [List.length_take, hm]; omega
    have hA1 : ∀ j, j < ((xs.take dLen).map (Value.int k)).length → (W.cell? ⟨g, pre.length + lo.toNat + j, none⟩).isSome = true := by
      intro j hj
      rw [hlen, hmin] at hj
      rw [Nat.add_assoc, hcell (lo.toNat + j) (by omega)]
      rfl
    have hA2 : ∀ v ∈ (xs.take dLen).map (Value.int k), v.oneCell' = true := by
      intro v hv
      obtain ⟨b, _, rfl⟩ := List.mem_map.1 hv
      rfl
    refine ⟨goInt ((xs.take dLen).map (Value.int k)).length, ?_⟩
    rw [run_copy_cells W dT sT ty elem g (pre.length + lo.toNat) dLen dCap ad m c ((xs.take dLen).map (Value.int k)) hu hs hlen hsrc hA1 (fun j _ => blk_frozen hB _) hA2]
    · have hfull : (cpyL lo hi xs 0 l) = l.take lo.toNat ++ (xs.take dLen ++ l.drop (lo.toNat + min m dLen)) := by
        apply List.ext_getElem?
        intro j
        rw [cpyL_get, Nat.zero_add]
        rcases Nat.lt_or_ge j l.length with hj | hj
        · rw [List.getElem?_eq_getElem hj, Option.map_some]
          by_cases h1 : j < lo.toNat
          · rw [List.getElem?_append_left (by rw [List.length_take]; omega), List.getElem?_take, if_pos h1, List.getElem?_eq_getElem hj, cpy, if_neg (by omega)]
          · rw [List.getElem?_append_right (by rw [List.length_take]; omega), List.length_take, show min lo.toNat l.length = lo.toNat from by omega]
            by_cases h2 : j - lo.toNat < min m dLen
            · rw [List.getElem?_append_left (by rw [hls]; exact h2), List.getElem?_take, if_pos (by omega), cpy, if_pos (by omega), List.getD, List.getElem?_eq_getElem (by omega), Option.getD_some]
            · rw [List.getElem?_append_right (by rw [hls]; omega), hls, List.getElem?_drop, show lo.toNat + min m dLen + (j - lo.toNat - min m dLen) = j from by omega, List.getElem?_eq_getElem hj, cpy, if_neg (by omega)]
        · rw [List.getElem?_eq_none hj, Option.map_none]
          refine (List.getElem?_eq_none ?_).symm
          simp only [List.length_append, List.length_take, List.length_drop]
          omega
      have ht : ((l.take lo.toNat).map (Value.int k)).length = lo.toNat := by rw [List.length_map, List.length_take]; omega
      rw [hfull, List.map_append, List.map_append, setCells_append, setCells_append, setCells_id g ((l.take lo.toNat).map (Value.int k)), ht, setCells_id g ((l.drop (lo.toNat + min m dLen)).map (Value.int k))]
      · intro j v hv
        rw [List.getElem?_map, List.getElem?_drop] at hv
        obtain ⟨x, hx, rfl⟩ := Option.map_eq_some_iff.1 hv
        obtain ⟨hj, rfl⟩ := List.getElem?_eq_some_iff.1 hx
        rw [World.cell?_setCells_out g _ _ _ _ (fun _ _ => Or.inr (by show pre.length + lo.toNat + _ ≤ pre.length + lo.toNat + _ + j; omega)), hlen, hmin, show pre.length + lo.toNat + min m dLen + j = pre.length + (lo.toNat + min m dLen + j) from by omega, hcell _ hj]
        simp [List.getD, hj]
      · intro j v hv
        rw [List.getElem?_map, List.getElem?_take] at hv
        obtain ⟨x, hx, rfl⟩ := Option.map_eq_some_iff.1 hv
        split at hx
        · obtain ⟨hj, rfl⟩ := List.getElem?_eq_some_iff.1 hx
          rw [hcell j hj]
          simp [List.getD, hj]
        · cases hx
/-- Where a cut of an array begins. -/
def cutAt (o n : Nat) (lo : Int) : Nat := if n = lo.toNat then o else o + lo.toNat
theorem cutAt_or (o n : Nat) (lo : Int) : cutAt o n lo = o + lo.toNat ∨ n - lo.toNat = 0 := by
  unfold cutAt
  split
  · exact Or.inr (by omega)
  · exact Or.inl rfl
theorem sl_arr {P : Program} (T e : TypeId) (n : Nat) (hT : P.underlying T = some (.array n e)) (hz : (P.info? e).map (·.size) = some 1) (g o : Nat) (lo : Int) (h0 : 0 ≤ lo) (h1 : lo ≤ n) (W : World) :
    (Instr.sliceAt T (.pointer (some ⟨g, o, none⟩)) (some (.int .i64 lo)) none none).run P W = .ok (.slice (some ⟨g, cutAt o n lo, none⟩) (n - lo.toNat) (n - lo.toNat)) W := by
  have hal : P.arrayLen T = n := by simp [Program.arrayLen, hT]
  have hel : P.elem T = e := by simp [Program.elem, hT]
  have hsz : (Go.sizeOf e).run P W = .ok 1 W := by
    cases hq : P.info? e with
    | none => simp [hq] at hz
    | some i =>
      have hi : i.size = 1 := by simpa [hq] using hz
      simp [sizeOf, typeInfo, hq, hi]
  rw [run_sliceAt_array_l W T ⟨g, o, none⟩ (by rw [hal, hel]; exact hT) .i64 lo h0 (by rw [hal]; exact h1), hal, hel, hsz]
  show Result.ok (slicedAt ⟨g, o, none⟩ lo.toNat n n 1) W = _
  unfold cutAt slicedAt
  by_cases h : n = lo.toNat
  · rw [if_pos h, if_pos h]
  · rw [if_neg h, if_neg h, Nat.mul_one, show (⟨g, o, none⟩ : Addr).add lo.toNat = ⟨g, o + lo.toNat, none⟩ from by unfold Addr.add; split <;> simp_all]
/-- Some cells of a block, set one behind the other: what else holds. -/
theorem R_farC {α : Type} {d : Kd α} {e : Nat} {base : Nat} {ok : Nat → Prop} {v : Value} {xs : List α} {g : Nat} (hok : ∀ k, ok k → k ≠ g) {w : World} (h : d.R e w base ok v xs) (vs : List Value) (o : Nat) : d.R e (w.setCells g o vs) base ok v xs := by
  induction vs generalizing o w with
  | nil => exact h
  | cons u vs ih => exact ih (Kd.R_far (p := ⟨g, o, none⟩) h hok u) (o + 1)
theorem blk_farC {g b : Nat} {t : TypeId} {cs : Array Value} (hne : b ≠ g) : ∀ (vs : List Value) (o : Nat) {w : World}, w.heap[b]? = some (.cells cs t (0, 0)) → (w.setCells g o vs).heap[b]? = some (.cells cs t (0, 0))
  | [], _, _, h => h
  | u :: vs, o, _, h => blk_farC hne vs (o + 1) (blk_far (p := ⟨g, o, none⟩) h hne u)
theorem below_setC {w : World} {g n : Nat} (hg : n ≤ g) : ∀ (vs : List Value) (o : Nat) {W : World}, Below n w W → Below n w (W.setCells g o vs)
  | [], _, _, h => h
  | u :: vs, o, _, h => below_setC hg vs (o + 1) (h.setCell (p := ⟨g, o, none⟩) hg u)
theorem blk_part {g : Nat} {t : TypeId} : ∀ (vs mid pre post : List Value) {w : World} {cs cs' : Array Value}, w.heap[g]? = some (.cells cs t (0, 0)) → cs = (pre ++ (mid ++ post)).toArray → mid.length = vs.length → cs' = (pre ++ (vs ++ post)).toArray →
    (w.setCells g pre.length vs).heap[g]? = some (.cells cs' t (0, 0))
  | [], [], pre, post, _, _, _, h, e, _, e' => by
    rw [e', ← e]
    exact h
  | u :: vs, m :: mid, pre, post, w, _, _, h, e, hl, e' => by
    have h1 : (w.setCell ⟨g, pre.length, none⟩ u).heap[g]? = some (.cells ((pre ++ [u]) ++ (mid ++ post)).toArray t (0, 0)) := blk_put h pre.length u (by
      rw [e]
      apply Array.ext'
      rw [Array.toList_setIfInBounds]
      show (pre ++ (m :: (mid ++ post))).set pre.length u = _
      rw [List.set_append_right _ _ (Nat.le_refl _), Nat.sub_self]
      simp)
    have h2 := blk_part vs mid (pre ++ [u]) post h1 rfl (by simpa using hl) (cs' := (pre ++ (u :: vs ++ post)).toArray) (by simp)
    rw [e', World.setCells]
    simpa using h2
theorem box_range {w : World} {g : Nat} {t : TypeId} {cs : Array Value} (h : w.heap[g]? = some (.cells cs t (0, 0))) (pre mid post : List Value) (e : cs = (pre ++ (mid ++ post)).toArray) {o : Nat} (ho : o = pre.length) : w.rangeAt g o mid := by
  intro j v hv
  obtain ⟨hj, rfl⟩ := List.getElem?_eq_some_iff.1 hv
  rw [blk_cell h, e, ho]
  simp [List.getElem?_append_right, List.getElem?_append_left, hj]
/-- A variable of many cells, or a part of one, read as a whole. -/
theorem run_load_box {P : Program} {w : World} {g : Nat} {t : TypeId} {cs : Array Value} (h : w.heap[g]? = some (.cells cs t (0, 0))) (ty : TypeId) (pre mid post : List Value) (e : cs = (pre ++ (mid ++ post)).toArray) (o : Nat) (ho : o = pre.length) {d : TypeDesc}
    (hu : P.underlying ty = some d) (hd : d.isRow = true) (hi : (P.info? ty).map (·.size) = some mid.length) : (Instr.loadAt ty (.pointer (some ⟨g, o, none⟩))).run P w = .ok (.agg mid.toArray) w :=
  run_loadAt_mid w g o ty mid d (box_range h pre mid post e ho) hu hd hi
section
variable {P : Program} {ops : Array Oper} {rest : List Oper} {o : Oper} {a : Act} {Q : Exit → Act → World → Prop}
theorem load_box {w : World} {g : Nat} {t : TypeId} {cs : Array Value} (hgd : o.guard = none) (ty : TypeId) (x : Operand) (ho : o.op = .load ty x) (h : w.heap[g]? = some (.cells cs t (0, 0))) (pre mid post : List Value) (e : cs = (pre ++ (mid ++ post)).toArray) (off : Nat) (hoff : off = pre.length)
    (hx : a.eval x = .pointer (some ⟨g, off, none⟩)) {d : TypeDesc} (hu : P.underlying ty = some d) (hd : d.isRow = true) (hi : (P.info? ty).map (·.size) = some mid.length) (hh : wpList P ops Q rest (a.put o.dst (.agg mid.toArray)) w) : wpList P ops Q (o :: rest) a w :=
  wpList_load_mid hgd ty x ho g off hx mid d (box_range h pre mid post e hoff) hu hd hi hh
/-- A variable of many cells stored as a whole. -/
theorem store_all {W : World} (hgd : o.guard = none) (t : TypeId) (p : Tmp) (y : Operand) (ho : o.op = .store t (.tmp p) y) (hN : o.dst = none) (g : Nat) (cs vs : List Value) (hB : W.heap[g]? = some (.cells cs.toArray t (0, 0))) (hx : a.eval (.tmp p) = .pointer (some ⟨g, 0, none⟩)) (hy : a.eval y = .agg vs.toArray)
    (hl : cs.length = vs.length) (hi : (P.info? t).map (·.size) = some vs.length) (h1 : vs.all (·.oneCell') = true) (h : ∀ w', w' = W.setCells g 0 vs → wpList P ops Q rest a w') : wpList P ops Q (o :: rest) a W := by
  refine wpList_store_mid hgd t (.tmp p) y ho g 0 vs.toArray hx hy (fun j hj => ⟨?_, ?_⟩) hi (all_oneCell_toArray fun v hv => List.all_eq_true.1 h1 v hv) ?_
  · rw [Nat.zero_add, blk_cell hB]
    have : j < cs.length := by rw [hl]; simpa using hj
    simp [this]
  · rw [Nat.zero_add]
    exact blk_frozen hB j
  · rw [hN]
    exact h _ rfl
end
theorem load_exec {P : Program} {o : Oper} {a : Act} {w : World} {ty : TypeId} {x : Operand} {p v : Value} (ho : o.op = .load ty x) (hx : a.eval x = p) (h : (Instr.loadAt ty p).run P w = .ok v w) : (execOp a.eval o).run P w = .ok (.value v) w := by
  unfold execOp
  simp only [ho, hx, Sem.run_bind, h, Result.andThen_ok, Sem.run_pure]
theorem info_size {P : Program} {e : TypeId} {z : Option Value} {n b : Nat} (h : (P.info? e).map (fun i => (i.zero, i.size, i.bytes)) = some (z, n, b)) : (P.info? e).map (·.size) = some n := by
  cases h' : P.info? e with
  | none => rw [h'] at h; cases h
  | some i =>
    rw [h'] at h
    simp only [Option.map_some, Option.some.injEq, Prod.mk.injEq] at h
    simp [h.2.1]
theorem cut_le {lo : Int} {hi : Nat} (h : lo ≤ (hi : Int)) : lo.toNat ≤ hi := by omega
section
variable {P : Program} {w : World} {d c : Nat} {e : TypeId} {xs ys : Array Value} {i : Nat} {is : List Nat} {a b : Value} {r s : Bool}
theorem eqi_cons (ha : (part e xs (i * c)).run P w = .ok a w) (hb : (part e ys (i * c)).run P w = .ok b w) (he : (Op.equalIn d e a b).run P w = .ok r w) (hr : (Op.eqItems d e c xs ys is).run P w = .ok s w) : (Op.eqItems d e c xs ys (i :: is)).run P w = .ok (r && s) w := by
  simp only [Op.eqItems, Sem.run_bind, ha, hb, he, Result.andThen_ok]
  cases r
  · simp
  · simpa using hr
theorem eqi_last (ha : (part e xs (i * c)).run P w = .ok a w) (hb : (part e ys (i * c)).run P w = .ok b w) (he : (Op.equalIn d e a b).run P w = .ok r w) : (Op.eqItems d e c xs ys [i]).run P w = .ok r w := by
  have h := eqi_cons ha hb he (is := []) (s := true) (by simp [Op.eqItems])
  rwa [Bool.and_true] at h
theorem eqI_of {t : TypeId} {n : Nat} (hu : P.underlying t = some (.array n e)) (hi : (P.info? e).isSome = true) (hc : P.cellsOf e = c) (his : List.range n = is) (h : (Op.eqItems d e c xs ys is).run P w = .ok r w) : (Op.equalIn (d + 1) t (.agg xs) (.agg ys)).run P w = .ok r w := by
  obtain ⟨i, hi⟩ := Option.isSome_iff_exists.1 hi
  rw [run_equalIn_array w d xs ys hu hi, hc, his]
  exact h
end
end Go.Proofs.YtdopafhppaalfaaGreatDoorV
