/- The contract of header.Without, by hand: slices.DeleteFunc. -/
import Derived.Test.YtfjfpgihgaiacaaDoorHY
set_option linter.unusedVariables false
set_option linter.unusedSimpArgs false
namespace Go.Proofs.YtfjfpgihgaiacaaDoor.E
open Go Go.RowKit Go.Shelf Go.Lib Go.Proofs.YtfjfpgihgaiacaaDoorW.PrintWords Go.Proofs.YtfjfpgihgaiacaaDoorW.PrintLast Go.Proofs.YtfjfpgihgaiacaaDoorW.PrintMore Go.Proofs.YtfjfpgihgaiacaaDoor.P

theorem blk_set2 {w : World} {B : Nat} {t : TypeId} {l : List S39} {tl : List Value} (h : w.heap[B]? = some (.cells (enc2 l ++ tl).toArray t (0, 0))) (i : Nat) (hi : i < l.length) (u : S39) :
    ((w.setCell ⟨B, i * 2, none⟩ (.string u.f0)).setCell ⟨B, i * 2 + 1, none⟩ (.string u.f1)).heap[B]? = some (.cells (enc2 (l.set i u) ++ tl).toArray t (0, 0)) := by
  refine blk_put (blk_put h (i * 2) (.string u.f0) rfl) (i * 2 + 1) (.string u.f1) ?_
  rw [List.setIfInBounds_toArray, List.setIfInBounds_toArray, enc2_set tl u l i hi]
theorem blk_cell2 {w : World} {B : Nat} {t : TypeId} {l : List S39} {tl : List Value} (h : w.heap[B]? = some (.cells (enc2 l ++ tl).toArray t (0, 0))) (j : Nat) (hj : j < l.length) :
    w.cell? ⟨B, j * 2, none⟩ = some (.string l[j].f0) ∧ w.cell? ⟨B, j * 2 + 1, none⟩ = some (.string l[j].f1) := by
  obtain ⟨h0, h1⟩ := enc2_get tl l j hj
  refine ⟨(blk_cell h _).trans ?_, (blk_cell h _).trans ?_⟩
  · rw [List.getElem?_toArray]; exact h0
  · rw [List.getElem?_toArray]; exact h1
theorem below_setC2 {w : World} {g n : Nat} (hg : n ≤ g) : ∀ (vs : List Value) (o : Nat) {W : World}, Below n w W → Below n w (W.setCells g o vs)
  | [], _, _, h => h
  | u :: vs, o, _, h => below_setC2 hg vs (o + 1) (h.setCell (p := ⟨g, o, none⟩) hg u)
theorem enc2_take (tl : List Value) (l : List S39) (i : Nat) (h : i ≤ l.length) : (enc2 l ++ tl).take (i * 2) = enc2 (l.take i) := by
  have hl : (enc2 (l.take i)).length = i * 2 := by rw [enc2_len, List.length_take, Nat.min_eq_left h]
  conv => lhs; rw [← List.take_append_drop i l, enc2_app, List.append_assoc, ← hl]
  rw [List.take_left]
theorem enc2_drop (tl : List Value) (l : List S39) (n : Nat) (h : n = l.length * 2) : (enc2 l ++ tl).drop n = tl := by
  rw [h, ← enc2_len, List.drop_left]
theorem blk_clear2 {w : World} {B : Nat} {t : TypeId} {l : List S39} {tl : List Value} {n : Nat} (h : w.heap[B]? = some (.cells (enc2 l ++ tl).toArray t (0, 0))) (i : Nat) (hi : i ≤ n) (hn : l.length = n) :
    (w.setCells B (i * 2) (zer2 (n - i))).heap[B]? = some (.cells (enc2 (l.take i ++ List.replicate (n - i) z39) ++ tl).toArray t (0, 0)) := by
  have hz : (zer2 (n - i)).length = (n - i) * 2 := by unfold zer2; rw [enc2_len, List.length_replicate]
  obtain ⟨cur', h1, _, h3⟩ := setCells_row (zer2 (n - i)) (i * 2) w _ h (by rw [hz]; simp only [List.size_toArray, List.length_append]; rw [enc2_len]; omega)
  rw [h1]
  congr 2
  apply Array.ext'
  rw [h3, List.toList_toArray, enc2_take tl l i (by omega), enc2_drop tl l _ (by rw [hz]; omega), enc2_app]
  rfl
theorem wrap_suc (i : Nat) (h : i < 9223372036854775807) : wrap64 ((i : Int) + 1) = ((i + 1 : Nat) : Int) := by unfold wrap64; omega
theorem idx_spec (p : S39 → Bool) : ∀ (l : List S39) (i : Nat), (Lib.idxByFrom (fun _ y => p y) default l i = -1 ∧ ∀ x ∈ l, p x = false) ∨ ∃ k, k < l.length ∧ Lib.idxByFrom (fun _ y => p y) default l i = ((i + k : Nat) : Int) ∧ p l[k]! = true ∧ ∀ j, j < k → p l[j]! = false
  | [], _ => .inl ⟨rfl, fun x hx => by simp at hx⟩
  | y :: r, i => by
    cases h : p y with
    | true => exact .inr ⟨0, by simp, by simp [Lib.idxByFrom, h], by simpa using h, fun j hj => absurd hj (Nat.not_lt_zero _)⟩
    | false =>
      rcases idx_spec p r (i + 1) with ⟨e, ha⟩ | ⟨k, hk, e, ht, ha⟩
      · refine .inl ⟨by simp [Lib.idxByFrom, h, e], fun x hx => ?_⟩
        rcases List.mem_cons.1 hx with rfl | hx
        · exact h
        · exact ha x hx
      · refine .inr ⟨k + 1, by simpa using hk, by simp only [Lib.idxByFrom, h]; rw [show (if false = true then (i : Int) else Lib.idxByFrom (fun _ y => p y) default r (i + 1)) = Lib.idxByFrom (fun _ y => p y) default r (i + 1) from rfl, e]; congr 1; omega, by simpa using ht, fun j hj => ?_⟩
        cases j with
        | zero => simpa using h
        | succ j => simpa using ha j (by omega)
theorem filter_step (f : S39 → Bool) (l : List S39) (j : Nat) (h : j < l.length) : (l.take (j + 1)).filter f = (l.take j).filter f ++ (if f l[j] = true then [l[j]] else []) := by
  rw [List.take_succ_eq_append_getElem h, List.filter_append]
  simp only [List.filter_cons, List.filter_nil]
theorem filter_head (f : S39 → Bool) (l : List S39) : ∀ k, k ≤ l.length → (∀ j, j < k → f l[j]! = true) → (l.take k).filter f = l.take k
  | 0, _, _ => by simp
  | k + 1, hk, h => by
    have hk' : k < l.length := by omega
    have := h k (by omega)
    rw [getElem!_pos l k hk'] at this
    rw [filter_step f l k hk', filter_head f l k (by omega) (fun j hj => h j (by omega)), if_pos this, List.take_succ_eq_append_getElem hk']
set_option maxHeartbeats 4000000 in
set_option maxRecDepth 100000 in
theorem del_calls (Bn : Nat) (A1 : Option Addr) (c1 : Nat) (ns : List ByteArray) (B cap : Nat) (l : List S39) (tl : List Value) (w : World) (hLW : LW w) (hr : Kd.C Kd.string w A1 ns.length ns) (hc : ns.length ≤ c1) (hns : ∀ x ∈ ns, x.size ≤ MB)
    (hv : w.cell? ⟨Bn, 0, none⟩ = some (.slice A1 ns.length c1)) (hl : ∀ h ∈ l, h.f0.size ≤ MB) (hr0 : Kd.C k39 w (some ⟨B, 0, none⟩) l.length l)
    (hb : w.heap[B]? = some (.cells (enc2 l ++ tl).toArray 39 (0, 0))) (hcap : l.length ≤ cap) (hcap2 : cap ≤ 9223372036854775807)
    (b0 : Nat) (hb0 : b0 ≤ B) (hBn : Bn < B) (hLB : ∀ W, Below B w W → LW W ∧ Kd.C Kd.string W A1 ns.length ns) :
    Calls Tryd.prog 34 #[.slice (some ⟨B, 0, none⟩) l.length cap, .func (.func 36) #[] #[.pointer (some ⟨Bn, 0, none⟩)]] w
      fun e w' => e = .returned (.slice (some ⟨B, 0, none⟩) (l.filter fun x => !anyB x.f0 ns).length cap) ∧ (∃ cur : List S39, cur.length = l.length ∧ cur.take (l.filter fun x => !anyB x.f0 ns).length = (l.filter fun x => !anyB x.f0 ns) ∧ w'.heap[B]? = some (.cells (enc2 cur ++ tl).toArray 39 (0, 0))) ∧ Below B w w' := by
  have eg : ∀ args W, (callFunc 36 args).run Tryd.prog W = .ok (.enter 36 args) W := enters_of Tryd.func36 (by kernel_rfl) rfl
  have hu39 := Tryd.underlying39
  have hBw : B < w.heap.size := blk_lt hb
  have HIF := Aside0.mk (idxH_calls Bn A1 c1 ns (some ⟨B, 0, none⟩) cap l w hLW hr hc hns hv hl hr0)
  have HB := Aside0.mk hb
  have HLB := Aside0.mk hLB
  have HV := Aside0.mk hv
  have HL := Aside0.mk hl
  have HNS := Aside0.mk hns
  clear hb hLB hv hl hr hLW hr0 hns
  rcases idx_spec (fun y => anyB y.f0 ns) l 0 with ⟨e1, hall⟩ | ⟨k0, hk0, e1, ht, hne⟩
  · have e2 : Lib.idxBy (fun _ y => anyB y.f0 ns) l default = -1 := e1
    rw [e2] at HIF
    have hf : (l.filter fun x => !anyB x.f0 ns) = l := List.filter_eq_self.2 fun x hx => by rw [hall x hx]; rfl
    rw [hf]
    clear hall e1 e2 hf
    go_enter Tryd.func34, Tryd.ntmps34
    go_wp2_with (go_at_call 57; refine HIF.out.mono ?_; rintro e w1 ⟨rfl, hb1⟩)
    go_ret
    exact ⟨rfl, ⟨l, rfl, List.take_length .., (hb1.block B hBw).trans HB.out⟩, hb1.mono (Nat.le_of_lt hBw)⟩
  · have e2 : Lib.idxBy (fun _ y => anyB y.f0 ns) l default = (k0 : Int) := by unfold Lib.idxBy; rw [e1]; simp
    rw [e2] at HIF
    have hne1 : ((k0 : Int) == -1) = false := beq_eq_false_iff_ne.2 (by omega)
    have hst : (l.take (k0 + 1)).filter (fun x => !anyB x.f0 ns) = l.take k0 := by
      rw [filter_step _ l k0 hk0, filter_head _ l k0 (by omega) (fun j hj => by have := hne j hj; rw [this]; rfl)]
      have : anyB l[k0].f0 ns = true := by rw [← getElem!_pos l k0 hk0]; exact ht
      rw [if_neg (by rw [this]; decide), List.append_nil]
    have HST := Aside0.mk hst
    clear e1 e2 ht hne hst
    go_enter Tryd.func34, Tryd.ntmps34
    go_wp2_with (go_at_call 57; refine HIF.out.mono ?_; rintro e w1 ⟨rfl, hb1⟩)
    have HB1 := Aside0.mk (hb1.mono (Nat.le_of_lt hBw))
    have HBK1 := Aside0.mk ((hb1.block B hBw).trans HB.out)
    clear hb1
    go_loopg [5, 6, 7] l.length (fun gg s5 s6 _ wr => ∃ (i j : Nat) (cur : List S39), s5 = .int .i64 i ∧ s6 = .int .i64 j ∧ i < j ∧ j ≤ l.length ∧ l.length - j ≤ gg ∧ Aside0 (Below B w wr) ∧ Aside0 (wr.heap[B]? = some (.cells (enc2 cur ++ tl).toArray 39 (0, 0))) ∧ Aside0 (cur.length = l.length ∧ cur.take i = (l.take j).filter (fun x => !anyB x.f0 ns) ∧ cur.drop j = l.drop j))
    case atStart => exact ⟨k0, k0 + 1, l, rfl, by go_num, by omega, by omega, by omega, HB1, HBK1, ⟨rfl, HST.out.symm, rfl⟩⟩
    case round =>
      obtain ⟨i, j, cur, rfl, rfl, hij, hjl, hgg, BW, BK, I⟩ := hrel
      by_cases hlt : j < l.length
      · have hltz : (j : Int) < (l.length : Int) := by omega
        have p1 : 0 ≤ (j : Int) := by omega
        have hcl : cur.length = l.length := I.out.1
        have hjc : j < cur.length := by omega
        have hcj : cur[j] = l[j] := by
          have e3 := congrArg List.head? I.out.2.2
          rw [List.head?_drop, List.head?_drop, List.getElem?_eq_getElem hjc, List.getElem?_eq_getElem hlt] at e3
          exact Option.some.inj e3
        obtain ⟨hx0, hx1⟩ := blk_cell2 BK.out j hjc
        rw [hcj] at hx0 hx1
        have hmem : l[j] ∈ l := List.getElem_mem hlt
        have hcall := fun (W : World) (hW : Below B w W) => outer_calls Bn A1 c1 ns l[j] W (HLB.out _ hW).1 (HLB.out _ hW).2 hc (HL.out _ hmem) HNS.out ((hW.cell (p := ⟨Bn, 0, none⟩) hBn).trans HV.out)
        have hBwr : B < wr.heap.size := blk_lt BK.out
        have hBle : B ≤ wr.heap.size := Nat.le_of_lt hBwr
        have hfs := filter_step (fun x => !anyB x.f0 ns) l j hlt
        clear hmem hcj
        generalize hu : l[j] = u at hx0 hx1 hcall hfs
        have HU := Aside0.mk hu
        have HFS := Aside0.mk hfs
        have HCALL := Aside0.mk hcall
        have hi1 : 0 ≤ (i : Int) := by omega
        have hi2 : (i : Int) < (l.length : Int) := by omega
        have hic : i < cur.length := by omega
        clear hu hfs hcall
        cases hq : anyB u.f0 ns with
        | true =>
          rw [hq] at HCALL
          go_wp2_with (first | ((with_reducible refine gate_dst (N := 7) rfl ?_); refine box_event ?hg (N := 7) ?hd (cs := #[.string (⟨#[]⟩ : ByteArray), .string (⟨#[]⟩ : ByteArray)]) (t := 39) ?hr ?_; (case hd => rfl); (case hg => rfl); (case hr => first | (go_simp; done) | (go_simp; rfl)); intro gb hg w7 hbox hb; have HGE := Aside0.mk (show wr.heap.size ≤ gb by rw [hg]; exact Nat.le_refl _); have BK7 := Aside0.mk hbox; have HB7 := Aside0.mk hb; have hz0 : w7.cell? ⟨gb, 0, none⟩ = some (.string (⟨#[]⟩ : ByteArray)) := (blk_cell hbox 0).trans rfl; have hz1 : w7.cell? ⟨gb, 1, none⟩ = some (.string (⟨#[]⟩ : ByteArray)) := (blk_cell hbox 1).trans rfl; have hf0 := blk_frozen hbox 0; have hf1 := blk_frozen hbox 1; clear hbox hb hg) | (go_at_fn 36; refine (HCALL.out _ (BW.out.trans ((((HB7.out.setCell (p := ⟨gb, 0, none⟩) HGE.out _).setCell (p := ⟨gb, 1, none⟩) HGE.out _)).mono hBle))).mono ?_; rintro e w' ⟨rfl, hb'⟩))
          have HB8 := Aside0.mk ((HB7.out.setCell (p := ⟨gb, 0, none⟩) HGE.out (.string u.f0)).setCell (p := ⟨gb, 1, none⟩) HGE.out (.string u.f1))
          have BW' := Aside0.mk (BW.out.trans ((HB8.out.mono hBle).trans (hb'.mono (Nat.le_trans hBle HB8.out.size))))
          have BK' := Aside0.mk ((hb'.block B (Nat.lt_of_lt_of_le hBwr HB8.out.size)).trans ((HB8.out.block B hBwr).trans BK.out))
          clear hb' 
          go_roundg (l.length - (j + 1))
          case measure => omega
          case rel =>
            refine ⟨i, j + 1, cur, rfl, by go_num, by omega, by omega, Nat.le_refl _, BW', BK', ⟨hcl, ?_, ?_⟩⟩
            · rw [HFS.out, if_neg (by rw [hq]; decide), List.append_nil]; exact I.out.2.1
            · rw [← List.drop_drop, I.out.2.2, List.drop_drop]
        | false =>
          rw [hq] at HCALL
          go_wp2_with (first | ((with_reducible refine gate_dst (N := 7) rfl ?_); refine box_event ?hg (N := 7) ?hd (cs := #[.string (⟨#[]⟩ : ByteArray), .string (⟨#[]⟩ : ByteArray)]) (t := 39) ?hr ?_; (case hd => rfl); (case hg => rfl); (case hr => first | (go_simp; done) | (go_simp; rfl)); intro gb hg w7 hbox hb; have HGE := Aside0.mk (show wr.heap.size ≤ gb by rw [hg]; exact Nat.le_refl _); have BK7 := Aside0.mk hbox; have HB7 := Aside0.mk hb; have hz0 : w7.cell? ⟨gb, 0, none⟩ = some (.string (⟨#[]⟩ : ByteArray)) := (blk_cell hbox 0).trans rfl; have hz1 : w7.cell? ⟨gb, 1, none⟩ = some (.string (⟨#[]⟩ : ByteArray)) := (blk_cell hbox 1).trans rfl; have hf0 := blk_frozen hbox 0; have hf1 := blk_frozen hbox 1; clear hbox hb hg) | (go_at_fn 36; refine (HCALL.out _ (BW.out.trans ((((HB7.out.setCell (p := ⟨gb, 0, none⟩) HGE.out _).setCell (p := ⟨gb, 1, none⟩) HGE.out _)).mono hBle))).mono ?_; rintro e w' ⟨rfl, hb'⟩; have HB8 := Aside0.mk ((HB7.out.setCell (p := ⟨gb, 0, none⟩) HGE.out (.string u.f0)).setCell (p := ⟨gb, 1, none⟩) HGE.out (.string u.f1)); have HB9 := Aside0.mk hb'; have BK9 := Aside0.mk ((hb'.block B (Nat.lt_of_lt_of_le hBwr HB8.out.size)).trans ((HB8.out.block B hBwr).trans BK.out)); have BG8 := blk_put (blk_put BK7.out 0 (.string u.f0) rfl) 1 (.string u.f1) rfl; have BG9 := (hb'.block gb (blk_lt BG8)).trans BG8; have hv0 : w'.cell? ⟨gb, 0, none⟩ = some (.string u.f0) := (blk_cell BG9 0).trans rfl; have hv1 : w'.cell? ⟨gb, 1, none⟩ = some (.string u.f1) := (blk_cell BG9 1).trans rfl; obtain ⟨hs0, hs1⟩ := blk_cell2 BK9.out i hic; have hs2 := blk_frozen BK9.out (i * 2); have hs3 := blk_frozen BK9.out (i * 2 + 1); clear BG8 BG9 hb'))
          go_roundg (l.length - (j + 1))
          case measure => omega
          case rel =>
            refine ⟨i + 1, j + 1, cur.set i u, by go_num, by go_num, by omega, by omega, Nat.le_refl _, ⟨?_⟩, ⟨blk_set2 BK9.out i hic u⟩, ⟨?_, ?_, ?_⟩⟩
            · exact ((BW.out.trans ((HB8.out.mono hBle).trans (HB9.out.mono (Nat.le_trans hBle HB8.out.size)))).setCell (p := ⟨B, i * 2, none⟩) (Nat.le_refl _) _).setCell (p := ⟨B, i * 2 + 1, none⟩) (Nat.le_refl _) _
            · rw [List.length_set]; exact hcl
            · rw [HFS.out, if_pos (by rw [hq]; rfl), List.take_succ_eq_append_getElem (by rw [List.length_set]; exact hic), List.getElem_set_self, List.take_set_of_le (Nat.le_refl _), I.out.2.1]
            · rw [List.drop_set_of_lt (by omega), ← List.drop_drop, I.out.2.2, List.drop_drop]
      · obtain rfl : j = l.length := by omega
        have hltz : ¬ (l.length : Int) < (l.length : Int) := by omega
        have hcl : cur.length = l.length := I.out.1
        have hfi : (l.filter fun x => !anyB x.f0 ns).length = i := by
          have e3 := I.out.2.1
          rw [List.take_length] at e3
          rw [← e3, List.length_take]
          omega
        have e4 : cur.take i = l.filter fun x => !anyB x.f0 ns := by
          have e3 := I.out.2.1
          rwa [List.take_length] at e3
        have hi1 : 0 ≤ (i : Int) := by omega
        have hi2 : (i : Int) ≤ (l.length : Int) := by omega
        have hi3 : (i : Int) ≤ (cap : Int) := by omega
        have hclr : ∀ ty, (Builtin.clear_ #[24] ty #[.slice (some ⟨B, i * 2, none⟩) (l.length - i) (cap - i)]).run Tryd.prog wr = .ok (.tuple #[]) (wr.setCells B (i * 2) (zer2 (l.length - i))) :=
          fun ty => run_clear2 wr 24 39 ty Tryd.underlying24 (by intro w; kernel_rfl) B (i * 2) (l.length - i) (cap - i) (by omega)
            (fun t ht => by
              rw [blk_cell BK.out, List.getElem?_toArray, List.getElem?_append_left (by rw [enc2_len]; omega)]
              rw [List.getElem?_eq_getElem (by rw [enc2_len]; omega)]
              rfl)
            (fun t ht => blk_frozen BK.out _)
        have E4 := Aside0.mk e4
        clear e4
        go_wp2
        go_ret
        refine ⟨rfl, ⟨cur.take i ++ List.replicate (l.length - i) z39, ?_, ?_, ?_⟩, below_setC2 (Nat.le_refl _) _ _ BW.out⟩
        · rw [List.length_append, List.length_take, List.length_replicate]; omega
        · rw [List.take_append_of_le_length (by rw [List.length_take]; omega), List.take_take, Nat.min_self]; exact E4.out
        · exact blk_clear2 BK.out i (by omega) (by omega)
end Go.Proofs.YtfjfpgihgaiacaaDoor.E
