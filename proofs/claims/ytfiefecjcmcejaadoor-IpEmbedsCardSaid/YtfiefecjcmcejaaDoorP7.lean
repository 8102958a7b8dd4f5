-- Written by a program of this session (wip/gen/lprint.py over the kit's print.py) out of the translation. Lean checks it.
import Derived.Test.YtfiefecjcmcejaaDoorP0
import Derived.Test.YtfiefecjcmcejaaDoorP5
namespace Go.Proofs.YtfiefecjcmcejaaDoor.P
open Go.Proofs.YtfiefecjcmcejaaDoor.E Go.Proofs.YtfiefecjcmcejaaDoorV
open Go.RowKit Go.Proofs.YtfiefecjcmcejaaDoorW.PrintWords Go.Proofs.YtfiefecjcmcejaaDoorW.PrintLast Go.Proofs.YtfiefecjcmcejaaDoorW.PrintMore
attribute [local go_sem] max2_int min2_int max_two min_two max_three min_three max_four min_four   -- for this text's walks alone
set_option linter.unusedVariables false
set_option linter.unusedSimpArgs false

def lanternref05_Mapped.l0 : Nat → Int → Bool → Int → Int → Int → Int → Int → Int → Int → Int → Int → Int → Int → Int → Int → Int → Int → Int → Option (Bool)
 | 0, _, _, _, _, _, _, _, _, _, _, _, _, _, _, _, _, _, _ => none
 | k + 1, x3, x409000, x409001, x409002, x409003, x409004, x409005, x409006, x409007, x409008, x409009, x409010, x409011, x409012, x409013, x409014, x409015, x409016 => if x3 < 12 then (if x3 < 10 then (if 0 ≤ x3 then (if x3 < 16 then (if (rd [x409001, x409002, x409003, x409004, x409005, x409006, x409007, x409008, x409009, x409010, x409011, x409012, x409013, x409014, x409015, x409016] x3) = 0 then (if x3 ≥ 10 then (if (rd [x409001, x409002, x409003, x409004, x409005, x409006, x409007, x409008, x409009, x409010, x409011, x409012, x409013, x409014, x409015, x409016] x3) = 255 then (lanternref05_Mapped.l0 k (wrap64 (x3 + 1)) x409000 x409001 x409002 x409003 x409004 x409005 x409006 x409007 x409008 x409009 x409010 x409011 x409012 x409013 x409014 x409015 x409016) else (some false)) else (lanternref05_Mapped.l0 k (wrap64 (x3 + 1)) x409000 x409001 x409002 x409003 x409004 x409005 x409006 x409007 x409008 x409009 x409010 x409011 x409012 x409013 x409014 x409015 x409016)) else (some false)) else (none)) else (none)) else (if x3 ≥ 10 then (if 0 ≤ x3 then (if x3 < 16 then (if (rd [x409001, x409002, x409003, x409004, x409005, x409006, x409007, x409008, x409009, x409010, x409011, x409012, x409013, x409014, x409015, x409016] x3) = 255 then (lanternref05_Mapped.l0 k (wrap64 (x3 + 1)) x409000 x409001 x409002 x409003 x409004 x409005 x409006 x409007 x409008 x409009 x409010 x409011 x409012 x409013 x409014 x409015 x409016) else (some false)) else (none)) else (none)) else (lanternref05_Mapped.l0 k (wrap64 (x3 + 1)) x409000 x409001 x409002 x409003 x409004 x409005 x409006 x409007 x409008 x409009 x409010 x409011 x409012 x409013 x409014 x409015 x409016))) else (some x409000)
def lanternref05_Mapped.f (k : Nat) (a0_0 : Bool) (a0_1 : Int) (a0_2 : Int) (a0_3 : Int) (a0_4 : Int) (a0_5 : Int) (a0_6 : Int) (a0_7 : Int) (a0_8 : Int) (a0_9 : Int) (a0_10 : Int) (a0_11 : Int) (a0_12 : Int) (a0_13 : Int) (a0_14 : Int) (a0_15 : Int) (a0_16 : Int) : Option (Bool) := lanternref05_Mapped.l0 k 0 a0_0 a0_1 a0_2 a0_3 a0_4 a0_5 a0_6 a0_7 a0_8 a0_9 a0_10 a0_11 a0_12 a0_13 a0_14 a0_15 a0_16
theorem lanternref05_Mapped.mono_l : ∀ k, (∀ y0 y1 y2 y3 y4 y5 y6 y7 y8 y9 y10 y11 y12 y13 y14 y15 y16 y17, LeO (lanternref05_Mapped.l0 k y0 y1 y2 y3 y4 y5 y6 y7 y8 y9 y10 y11 y12 y13 y14 y15 y16 y17) (lanternref05_Mapped.l0 (k + 1) y0 y1 y2 y3 y4 y5 y6 y7 y8 y9 y10 y11 y12 y13 y14 y15 y16 y17))
 | 0 => fun _ _ _ _ _ _ _ _ _ _ _ _ _ _ _ _ _ _ r h => by simp [lanternref05_Mapped.l0] at h
 | k + 1 => by
  have ih0 := lanternref05_Mapped.mono_l k
  ·intro y0 y1 y2 y3 y4 y5 y6 y7 y8 y9 y10 y11 y12 y13 y14 y15 y16 y17
   unfold lanternref05_Mapped.l0
   repeat' first
   | (with_reducible exact ih0 _ _ _ _ _ _ _ _ _ _ _ _ _ _ _ _ _ _)
   | (with_reducible exact LeO.refl _)
   | (with_reducible exact LeO.none _)
   | (with_reducible refine LeO.ite ?_ ?_)
   | (with_reducible refine LeO.bind ?_ (fun _ => ?_))
   | exact ih0 _ _ _ _ _ _ _ _ _ _ _ _ _ _ _ _ _ _
   | exact LeO.none _
   | refine LeO.ite ?_ ?_
   | refine LeO.bind ?_ (fun _ => ?_)
theorem lanternref05_Mapped.mono : ∀ a0 a1 a2 a3 a4 a5 a6 a7 a8 a9 a10 a11 a12 a13 a14 a15 a16 k, LeO (lanternref05_Mapped.f k a0 a1 a2 a3 a4 a5 a6 a7 a8 a9 a10 a11 a12 a13 a14 a15 a16) (lanternref05_Mapped.f (k + 1) a0 a1 a2 a3 a4 a5 a6 a7 a8 a9 a10 a11 a12 a13 a14 a15 a16) := by
 intro a0 a1 a2 a3 a4 a5 a6 a7 a8 a9 a10 a11 a12 a13 a14 a15 a16 k
 have ih0 := lanternref05_Mapped.mono_l k
 unfold lanternref05_Mapped.f
 repeat' first
   | (with_reducible exact ih0 _ _ _ _ _ _ _ _ _ _ _ _ _ _ _ _ _ _)
   | (with_reducible exact LeO.refl _)
   | (with_reducible exact LeO.none _)
   | (with_reducible refine LeO.ite ?_ ?_)
   | (with_reducible refine LeO.bind ?_ (fun _ => ?_))
   | exact ih0 _ _ _ _ _ _ _ _ _ _ _ _ _ _ _ _ _ _
   | exact LeO.none _
   | refine LeO.ite ?_ ?_
   | refine LeO.bind ?_ (fun _ => ?_)
set_option maxHeartbeats 8000000 in
set_option maxRecDepth 100000 in
theorem lanternref05_Mapped.calls (k : Nat) (a0_0 : Bool) (a0_1 : Int) (a0_2 : Int) (a0_3 : Int) (a0_4 : Int) (a0_5 : Int) (a0_6 : Int) (a0_7 : Int) (a0_8 : Int) (a0_9 : Int) (a0_10 : Int) (a0_11 : Int) (a0_12 : Int) (a0_13 : Int) (a0_14 : Int) (a0_15 : Int) (a0_16 : Int) (r : Bool) (w : World) (hLW : LW w) (h : lanternref05_Mapped.f k a0_0 a0_1 a0_2 a0_3 a0_4 a0_5 a0_6 a0_7 a0_8 a0_9 a0_10 a0_11 a0_12 a0_13 a0_14 a0_15 a0_16 = some r) :
  Calls Tryd.prog 21 #[.agg #[.bool a0_0, .int .u8 a0_1, .int .u8 a0_2, .int .u8 a0_3, .int .u8 a0_4, .int .u8 a0_5, .int .u8 a0_6, .int .u8 a0_7, .int .u8 a0_8, .int .u8 a0_9, .int .u8 a0_10, .int .u8 a0_11, .int .u8 a0_12, .int .u8 a0_13, .int .u8 a0_14, .int .u8 a0_15, .int .u8 a0_16]] w fun e w' => e = .returned (.bool r) ∧ Below w.heap.size w w' := by
 have hu25 := Tryd.underlying25
 have HLW := Aside0.mk hLW
 clear hLW
 have HB := Aside0.mk (Below.refl w.heap.size w)
 have H : (lanternref05_Mapped.l0 k 0 a0_0 a0_1 a0_2 a0_3 a0_4 a0_5 a0_6 a0_7 a0_8 a0_9 a0_10 a0_11 a0_12 a0_13 a0_14 a0_15 a0_16) = some r := h
 clear h
 have H' := Aside0.mk H
 clear H
 go_enter Tryd.func21, Tryd.ntmps21
 go_wp2_with (first | ((with_reducible refine gate_dst (N := 1) rfl ?_); refine box_event ?hg (N := 1) ?hd (cs := #[.bool a0_0, .int .u8 a0_1, .int .u8 a0_2, .int .u8 a0_3, .int .u8 a0_4, .int .u8 a0_5, .int .u8 a0_6, .int .u8 a0_7, .int .u8 a0_8, .int .u8 a0_9, .int .u8 a0_10, .int .u8 a0_11, .int .u8 a0_12, .int .u8 a0_13, .int .u8 a0_14, .int .u8 a0_15, .int .u8 a0_16]) (t := 25) ?hr ?_; (case hd => rfl); (case hg => rfl); (case hr => first | (go_simp; done) | (go_simp; rfl)); intro gb408 hg w2 hbox hb; have n0_ := Aside0.mk (below_step (by repeat (first | (with_reducible first | exact HB.out | apply below_alloc | apply pw_below_drewN | apply below_drew1) | exact HB.out)) hb); have n1_ := Aside0.mk (hbox); have n2_ := Aside0.mk ((by rw [hg]; exact (below_size (by repeat (first | (with_reducible first | exact HB.out | apply below_alloc | apply pw_below_drewN | apply below_drew1) | exact HB.out))) : w.heap.size ≤ gb408)); have n3_ := Aside0.mk ((by rw [hg]; exact (below_size (by repeat (first | (with_reducible first | exact HB.out | apply below_alloc | apply pw_below_drewN | apply below_drew1) | exact HB.out))) : w.heap.size ≤ gb408)); clear HB; have HB := n0_; have BK408 := n1_; have GW408 := n2_; have GE408 := n3_; clear n0_ n1_ n2_ n3_; clear hb hbox hg))
 go_loopg [3] k (fun kq v3 w' => ∃ (x3_1 : Int), v3 = .int .i64 x3_1 ∧ Aside0 (lanternref05_Mapped.l0 kq x3_1 a0_0 a0_1 a0_2 a0_3 a0_4 a0_5 a0_6 a0_7 a0_8 a0_9 a0_10 a0_11 a0_12 a0_13 a0_14 a0_15 a0_16 = some r) ∧ Aside0 (kq ≤ k) ∧ Aside0 (w'.heap[gb408]? = some (.cells #[.bool a0_0, .int .u8 a0_1, .int .u8 a0_2, .int .u8 a0_3, .int .u8 a0_4, .int .u8 a0_5, .int .u8 a0_6, .int .u8 a0_7, .int .u8 a0_8, .int .u8 a0_9, .int .u8 a0_10, .int .u8 a0_11, .int .u8 a0_12, .int .u8 a0_13, .int .u8 a0_14, .int .u8 a0_15, .int .u8 a0_16] 25 (0, 0))) ∧ Aside0 (Below w.heap.size w w'))
 case atStart => exact ⟨(0), (by first | rfl | (simp; done) | (simp [*]; done) | (simp; exact isEmpty_bne _) | (simp; exact isEmpty_beq _)), H', ⟨Nat.le_refl _⟩, ⟨by (with_reducible repeat (first | refine blk_drewN ?_ _ | refine blk_drew ?_ | refine blk_alloc ?_ _)); exact BK408.out⟩, ⟨by repeat (first | (with_reducible first | exact HB.out | apply below_alloc | apply pw_below_drewN | apply below_drew1 | refine below_set ?_ GE408.out) | exact HB.out)⟩⟩
 case round =>
  clear H'
  try clear c2
  try clear p2
  obtain ⟨x3_1, rfl, HA, HK1, BK408, HB⟩ := hrel
  cases gk with
  | zero => exact absurd HA.out (by simp [lanternref05_Mapped.l0])
  | succ k1 =>
   have H := HA.out
   clear HA
   simp only [lanternref05_Mapped.l0] at H
   by_cases c3 : x3_1 < 12
   ·rw [if_pos c3] at H
    have c3b0 : decide (x3_1 < 12) = true := decide_eq_true c3
    clear c3
    by_cases c4 : x3_1 < 10
    ·rw [if_pos c4] at H
     have c4b0 : decide (x3_1 < 10) = true := decide_eq_true c4
     clear c4
     by_cases c5 : 0 ≤ x3_1
     ·rw [if_pos c5] at H
      have c5b0 : decide (0 ≤ x3_1) = true := decide_eq_true c5
      clear c5
      by_cases c6 : x3_1 < 16
      ·rw [if_pos c6] at H
       have c6b0 : decide (x3_1 < 16) = true := decide_eq_true c6
       clear c6
       by_cases c7 : (rd [a0_1, a0_2, a0_3, a0_4, a0_5, a0_6, a0_7, a0_8, a0_9, a0_10, a0_11, a0_12, a0_13, a0_14, a0_15, a0_16] x3_1) = 0
       ·rw [if_pos c7] at H
        have c7b0 : ((rd [a0_1, a0_2, a0_3, a0_4, a0_5, a0_6, a0_7, a0_8, a0_9, a0_10, a0_11, a0_12, a0_13, a0_14, a0_15, a0_16] x3_1) == 0) = true := beq_iff_eq.mpr c7
        have c7b1 : ((rd [a0_1, a0_2, a0_3, a0_4, a0_5, a0_6, a0_7, a0_8, a0_9, a0_10, a0_11, a0_12, a0_13, a0_14, a0_15, a0_16] x3_1) != 0) = false := bne_eq_false_iff_eq.mpr c7
        clear c7
        by_cases c8 : x3_1 ≥ 10
        ·rw [if_pos c8] at H
         have c8b0 : decide (10 ≤ x3_1) = true := decide_eq_true c8
         clear c8
         by_cases c9 : (rd [a0_1, a0_2, a0_3, a0_4, a0_5, a0_6, a0_7, a0_8, a0_9, a0_10, a0_11, a0_12, a0_13, a0_14, a0_15, a0_16] x3_1) = 255
         ·rw [if_pos c9] at H
          have c9b0 : ((rd [a0_1, a0_2, a0_3, a0_4, a0_5, a0_6, a0_7, a0_8, a0_9, a0_10, a0_11, a0_12, a0_13, a0_14, a0_15, a0_16] x3_1) == 255) = true := beq_iff_eq.mpr c9
          have c9b1 : ((rd [a0_1, a0_2, a0_3, a0_4, a0_5, a0_6, a0_7, a0_8, a0_9, a0_10, a0_11, a0_12, a0_13, a0_14, a0_15, a0_16] x3_1) != 255) = false := bne_eq_false_iff_eq.mpr c9
          clear c9
          have H' := Aside0.mk H
          clear H
          have par10 : (0 ≤ x3_1) = True := eq_true (of_decide_eq_true (by first | (with_reducible assumption) | assumption))
          have qar10 : (x3_1 < 16) = True := eq_true (of_decide_eq_true (by first | (with_reducible assumption) | assumption))
          have hcz11_0 : wr.cell? ⟨gb408, 0, none⟩ = some (.bool a0_0) := (blk_cell BK408.out 0).trans rfl
          have hcz11_1 : wr.cell? ⟨gb408, 1, none⟩ = some (.int .u8 a0_1) := (blk_cell BK408.out 1).trans rfl
          have hcz11_2 : wr.cell? ⟨gb408, 2, none⟩ = some (.int .u8 a0_2) := (blk_cell BK408.out 2).trans rfl
          have hcz11_3 : wr.cell? ⟨gb408, 3, none⟩ = some (.int .u8 a0_3) := (blk_cell BK408.out 3).trans rfl
          have hcz11_4 : wr.cell? ⟨gb408, 4, none⟩ = some (.int .u8 a0_4) := (blk_cell BK408.out 4).trans rfl
          have hcz11_5 : wr.cell? ⟨gb408, 5, none⟩ = some (.int .u8 a0_5) := (blk_cell BK408.out 5).trans rfl
          have hcz11_6 : wr.cell? ⟨gb408, 6, none⟩ = some (.int .u8 a0_6) := (blk_cell BK408.out 6).trans rfl
          have hcz11_7 : wr.cell? ⟨gb408, 7, none⟩ = some (.int .u8 a0_7) := (blk_cell BK408.out 7).trans rfl
          have hcz11_8 : wr.cell? ⟨gb408, 8, none⟩ = some (.int .u8 a0_8) := (blk_cell BK408.out 8).trans rfl
          have hcz11_9 : wr.cell? ⟨gb408, 9, none⟩ = some (.int .u8 a0_9) := (blk_cell BK408.out 9).trans rfl
          have hcz11_10 : wr.cell? ⟨gb408, 10, none⟩ = some (.int .u8 a0_10) := (blk_cell BK408.out 10).trans rfl
          have hcz11_11 : wr.cell? ⟨gb408, 11, none⟩ = some (.int .u8 a0_11) := (blk_cell BK408.out 11).trans rfl
          have hcz11_12 : wr.cell? ⟨gb408, 12, none⟩ = some (.int .u8 a0_12) := (blk_cell BK408.out 12).trans rfl
          have hcz11_13 : wr.cell? ⟨gb408, 13, none⟩ = some (.int .u8 a0_13) := (blk_cell BK408.out 13).trans rfl
          have hcz11_14 : wr.cell? ⟨gb408, 14, none⟩ = some (.int .u8 a0_14) := (blk_cell BK408.out 14).trans rfl
          have hcz11_15 : wr.cell? ⟨gb408, 15, none⟩ = some (.int .u8 a0_15) := (blk_cell BK408.out 15).trans rfl
          have hcz11_16 : wr.cell? ⟨gb408, 16, none⟩ = some (.int .u8 a0_16) := (blk_cell BK408.out 16).trans rfl
          have hfz11_0 := blk_frozen BK408.out 0
          have hfz11_1 := blk_frozen BK408.out 1
          have hfz11_2 := blk_frozen BK408.out 2
          have hfz11_3 := blk_frozen BK408.out 3
          have hfz11_4 := blk_frozen BK408.out 4
          have hfz11_5 := blk_frozen BK408.out 5
          have hfz11_6 := blk_frozen BK408.out 6
          have hfz11_7 := blk_frozen BK408.out 7
          have hfz11_8 := blk_frozen BK408.out 8
          have hfz11_9 := blk_frozen BK408.out 9
          have hfz11_10 := blk_frozen BK408.out 10
          have hfz11_11 := blk_frozen BK408.out 11
          have hfz11_12 := blk_frozen BK408.out 12
          have hfz11_13 := blk_frozen BK408.out 13
          have hfz11_14 := blk_frozen BK408.out 14
          have hfz11_15 := blk_frozen BK408.out 15
          have hfz11_16 := blk_frozen BK408.out 16
          have hxar10 : wr.cell? ⟨gb408, 1 + (x3_1).toNat, none⟩ = some (.int .u8 (rd [a0_1, a0_2, a0_3, a0_4, a0_5, a0_6, a0_7, a0_8, a0_9, a0_10, a0_11, a0_12, a0_13, a0_14, a0_15, a0_16] x3_1)) := (blk_idx BK408.out .u8 [.bool a0_0] [a0_1, a0_2, a0_3, a0_4, a0_5, a0_6, a0_7, a0_8, a0_9, a0_10, a0_11, a0_12, a0_13, a0_14, a0_15, a0_16] [] rfl x3_1 (of_decide_eq_true (by first | (with_reducible assumption) | assumption)) (of_decide_eq_true (by first | (with_reducible assumption) | assumption)) rfl)
          have hfar10 := blk_frozen BK408.out (1 + (x3_1).toNat)
          have par12 : (0 ≤ x3_1) = True := eq_true (of_decide_eq_true (by first | (with_reducible assumption) | assumption))
          have qar12 : (x3_1 < 16) = True := eq_true (of_decide_eq_true (by first | (with_reducible assumption) | assumption))
          have hxar12 : wr.cell? ⟨gb408, 1 + (x3_1).toNat, none⟩ = some (.int .u8 (rd [a0_1, a0_2, a0_3, a0_4, a0_5, a0_6, a0_7, a0_8, a0_9, a0_10, a0_11, a0_12, a0_13, a0_14, a0_15, a0_16] x3_1)) := (blk_idx BK408.out .u8 [.bool a0_0] [a0_1, a0_2, a0_3, a0_4, a0_5, a0_6, a0_7, a0_8, a0_9, a0_10, a0_11, a0_12, a0_13, a0_14, a0_15, a0_16] [] rfl x3_1 (of_decide_eq_true (by first | (with_reducible assumption) | assumption)) (of_decide_eq_true (by first | (with_reducible assumption) | assumption)) rfl)
          have hfar12 := blk_frozen BK408.out (1 + (x3_1).toNat)
          go_wp2
          go_roundg k1
          case measure => have := HK1.out; omega
          case rel => exact ⟨(wrap64 (x3_1 + 1)), (by first | rfl | (simp; done) | (simp [*]; done) | (simp; exact isEmpty_bne _) | (simp; exact isEmpty_beq _)), H', ⟨by have := HK1.out; omega⟩, ⟨by (with_reducible repeat (first | refine blk_drewN ?_ _ | refine blk_drew ?_ | refine blk_alloc ?_ _)); exact BK408.out⟩, ⟨by repeat (first | (with_reducible first | exact HB.out | apply below_alloc | apply pw_below_drewN | apply below_drew1 | refine below_set ?_ GE408.out) | exact HB.out)⟩⟩
         ·rw [if_neg c9] at H
          have c9b0 : ((rd [a0_1, a0_2, a0_3, a0_4, a0_5, a0_6, a0_7, a0_8, a0_9, a0_10, a0_11, a0_12, a0_13, a0_14, a0_15, a0_16] x3_1) == 255) = false := beq_eq_false_iff_ne.mpr c9
          have c9b1 : ((rd [a0_1, a0_2, a0_3, a0_4, a0_5, a0_6, a0_7, a0_8, a0_9, a0_10, a0_11, a0_12, a0_13, a0_14, a0_15, a0_16] x3_1) != 255) = true := bne_iff_ne.mpr c9
          obtain rfl := Option.some.inj H
          have par13 : (0 ≤ x3_1) = True := eq_true (of_decide_eq_true (by first | (with_reducible assumption) | assumption))
          have qar13 : (x3_1 < 16) = True := eq_true (of_decide_eq_true (by first | (with_reducible assumption) | assumption))
          have hcz14_0 : wr.cell? ⟨gb408, 0, none⟩ = some (.bool a0_0) := (blk_cell BK408.out 0).trans rfl
          have hcz14_1 : wr.cell? ⟨gb408, 1, none⟩ = some (.int .u8 a0_1) := (blk_cell BK408.out 1).trans rfl
          have hcz14_2 : wr.cell? ⟨gb408, 2, none⟩ = some (.int .u8 a0_2) := (blk_cell BK408.out 2).trans rfl
          have hcz14_3 : wr.cell? ⟨gb408, 3, none⟩ = some (.int .u8 a0_3) := (blk_cell BK408.out 3).trans rfl
          have hcz14_4 : wr.cell? ⟨gb408, 4, none⟩ = some (.int .u8 a0_4) := (blk_cell BK408.out 4).trans rfl
          have hcz14_5 : wr.cell? ⟨gb408, 5, none⟩ = some (.int .u8 a0_5) := (blk_cell BK408.out 5).trans rfl
          have hcz14_6 : wr.cell? ⟨gb408, 6, none⟩ = some (.int .u8 a0_6) := (blk_cell BK408.out 6).trans rfl
          have hcz14_7 : wr.cell? ⟨gb408, 7, none⟩ = some (.int .u8 a0_7) := (blk_cell BK408.out 7).trans rfl
          have hcz14_8 : wr.cell? ⟨gb408, 8, none⟩ = some (.int .u8 a0_8) := (blk_cell BK408.out 8).trans rfl
          have hcz14_9 : wr.cell? ⟨gb408, 9, none⟩ = some (.int .u8 a0_9) := (blk_cell BK408.out 9).trans rfl
          have hcz14_10 : wr.cell? ⟨gb408, 10, none⟩ = some (.int .u8 a0_10) := (blk_cell BK408.out 10).trans rfl
          have hcz14_11 : wr.cell? ⟨gb408, 11, none⟩ = some (.int .u8 a0_11) := (blk_cell BK408.out 11).trans rfl
          have hcz14_12 : wr.cell? ⟨gb408, 12, none⟩ = some (.int .u8 a0_12) := (blk_cell BK408.out 12).trans rfl
          have hcz14_13 : wr.cell? ⟨gb408, 13, none⟩ = some (.int .u8 a0_13) := (blk_cell BK408.out 13).trans rfl
          have hcz14_14 : wr.cell? ⟨gb408, 14, none⟩ = some (.int .u8 a0_14) := (blk_cell BK408.out 14).trans rfl
          have hcz14_15 : wr.cell? ⟨gb408, 15, none⟩ = some (.int .u8 a0_15) := (blk_cell BK408.out 15).trans rfl
          have hcz14_16 : wr.cell? ⟨gb408, 16, none⟩ = some (.int .u8 a0_16) := (blk_cell BK408.out 16).trans rfl
          have hfz14_0 := blk_frozen BK408.out 0
          have hfz14_1 := blk_frozen BK408.out 1
          have hfz14_2 := blk_frozen BK408.out 2
          have hfz14_3 := blk_frozen BK408.out 3
          have hfz14_4 := blk_frozen BK408.out 4
          have hfz14_5 := blk_frozen BK408.out 5
          have hfz14_6 := blk_frozen BK408.out 6
          have hfz14_7 := blk_frozen BK408.out 7
          have hfz14_8 := blk_frozen BK408.out 8
          have hfz14_9 := blk_frozen BK408.out 9
          have hfz14_10 := blk_frozen BK408.out 10
          have hfz14_11 := blk_frozen BK408.out 11
          have hfz14_12 := blk_frozen BK408.out 12
          have hfz14_13 := blk_frozen BK408.out 13
          have hfz14_14 := blk_frozen BK408.out 14
          have hfz14_15 := blk_frozen BK408.out 15
          have hfz14_16 := blk_frozen BK408.out 16
          have hxar13 : wr.cell? ⟨gb408, 1 + (x3_1).toNat, none⟩ = some (.int .u8 (rd [a0_1, a0_2, a0_3, a0_4, a0_5, a0_6, a0_7, a0_8, a0_9, a0_10, a0_11, a0_12, a0_13, a0_14, a0_15, a0_16] x3_1)) := (blk_idx BK408.out .u8 [.bool a0_0] [a0_1, a0_2, a0_3, a0_4, a0_5, a0_6, a0_7, a0_8, a0_9, a0_10, a0_11, a0_12, a0_13, a0_14, a0_15, a0_16] [] rfl x3_1 (of_decide_eq_true (by first | (with_reducible assumption) | assumption)) (of_decide_eq_true (by first | (with_reducible assumption) | assumption)) rfl)
          have hfar13 := blk_frozen BK408.out (1 + (x3_1).toNat)
          have par15 : (0 ≤ x3_1) = True := eq_true (of_decide_eq_true (by first | (with_reducible assumption) | assumption))
          have qar15 : (x3_1 < 16) = True := eq_true (of_decide_eq_true (by first | (with_reducible assumption) | assumption))
          have hxar15 : wr.cell? ⟨gb408, 1 + (x3_1).toNat, none⟩ = some (.int .u8 (rd [a0_1, a0_2, a0_3, a0_4, a0_5, a0_6, a0_7, a0_8, a0_9, a0_10, a0_11, a0_12, a0_13, a0_14, a0_15, a0_16] x3_1)) := (blk_idx BK408.out .u8 [.bool a0_0] [a0_1, a0_2, a0_3, a0_4, a0_5, a0_6, a0_7, a0_8, a0_9, a0_10, a0_11, a0_12, a0_13, a0_14, a0_15, a0_16] [] rfl x3_1 (of_decide_eq_true (by first | (with_reducible assumption) | assumption)) (of_decide_eq_true (by first | (with_reducible assumption) | assumption)) rfl)
          have hfar15 := blk_frozen BK408.out (1 + (x3_1).toNat)
          go_wp2
          go_ret
          exact ⟨by first | rfl | (simp [errW_none, errW_some] <;> rfl) | (simp [*, errW_none, errW_some] <;> rfl) | (simp [errW_none, errW_some]; first | exact isEmpty_bne _ | exact isEmpty_beq _ | exact (isEmpty_bne _).symm), by repeat (first | (with_reducible first | exact HB.out | apply below_alloc | apply pw_below_drewN | apply below_drew1 | refine below_set ?_ GE408.out) | exact HB.out)⟩
        ·rw [if_neg c8] at H
         have c8b0 : decide (10 ≤ x3_1) = false := decide_eq_false c8
         clear c8
         have H' := Aside0.mk H
         clear H
         have par16 : (0 ≤ x3_1) = True := eq_true (of_decide_eq_true (by first | (with_reducible assumption) | assumption))
         have qar16 : (x3_1 < 16) = True := eq_true (of_decide_eq_true (by first | (with_reducible assumption) | assumption))
         have hcz17_0 : wr.cell? ⟨gb408, 0, none⟩ = some (.bool a0_0) := (blk_cell BK408.out 0).trans rfl
         have hcz17_1 : wr.cell? ⟨gb408, 1, none⟩ = some (.int .u8 a0_1) := (blk_cell BK408.out 1).trans rfl
         have hcz17_2 : wr.cell? ⟨gb408, 2, none⟩ = some (.int .u8 a0_2) := (blk_cell BK408.out 2).trans rfl
         have hcz17_3 : wr.cell? ⟨gb408, 3, none⟩ = some (.int .u8 a0_3) := (blk_cell BK408.out 3).trans rfl
         have hcz17_4 : wr.cell? ⟨gb408, 4, none⟩ = some (.int .u8 a0_4) := (blk_cell BK408.out 4).trans rfl
         have hcz17_5 : wr.cell? ⟨gb408, 5, none⟩ = some (.int .u8 a0_5) := (blk_cell BK408.out 5).trans rfl
         have hcz17_6 : wr.cell? ⟨gb408, 6, none⟩ = some (.int .u8 a0_6) := (blk_cell BK408.out 6).trans rfl
         have hcz17_7 : wr.cell? ⟨gb408, 7, none⟩ = some (.int .u8 a0_7) := (blk_cell BK408.out 7).trans rfl
         have hcz17_8 : wr.cell? ⟨gb408, 8, none⟩ = some (.int .u8 a0_8) := (blk_cell BK408.out 8).trans rfl
         have hcz17_9 : wr.cell? ⟨gb408, 9, none⟩ = some (.int .u8 a0_9) := (blk_cell BK408.out 9).trans rfl
         have hcz17_10 : wr.cell? ⟨gb408, 10, none⟩ = some (.int .u8 a0_10) := (blk_cell BK408.out 10).trans rfl
         have hcz17_11 : wr.cell? ⟨gb408, 11, none⟩ = some (.int .u8 a0_11) := (blk_cell BK408.out 11).trans rfl
         have hcz17_12 : wr.cell? ⟨gb408, 12, none⟩ = some (.int .u8 a0_12) := (blk_cell BK408.out 12).trans rfl
         have hcz17_13 : wr.cell? ⟨gb408, 13, none⟩ = some (.int .u8 a0_13) := (blk_cell BK408.out 13).trans rfl
         have hcz17_14 : wr.cell? ⟨gb408, 14, none⟩ = some (.int .u8 a0_14) := (blk_cell BK408.out 14).trans rfl
         have hcz17_15 : wr.cell? ⟨gb408, 15, none⟩ = some (.int .u8 a0_15) := (blk_cell BK408.out 15).trans rfl
         have hcz17_16 : wr.cell? ⟨gb408, 16, none⟩ = some (.int .u8 a0_16) := (blk_cell BK408.out 16).trans rfl
         have hfz17_0 := blk_frozen BK408.out 0
         have hfz17_1 := blk_frozen BK408.out 1
         have hfz17_2 := blk_frozen BK408.out 2
         have hfz17_3 := blk_frozen BK408.out 3
         have hfz17_4 := blk_frozen BK408.out 4
         have hfz17_5 := blk_frozen BK408.out 5
         have hfz17_6 := blk_frozen BK408.out 6
         have hfz17_7 := blk_frozen BK408.out 7
         have hfz17_8 := blk_frozen BK408.out 8
         have hfz17_9 := blk_frozen BK408.out 9
         have hfz17_10 := blk_frozen BK408.out 10
         have hfz17_11 := blk_frozen BK408.out 11
         have hfz17_12 := blk_frozen BK408.out 12
         have hfz17_13 := blk_frozen BK408.out 13
         have hfz17_14 := blk_frozen BK408.out 14
         have hfz17_15 := blk_frozen BK408.out 15
         have hfz17_16 := blk_frozen BK408.out 16
         have hxar16 : wr.cell? ⟨gb408, 1 + (x3_1).toNat, none⟩ = some (.int .u8 (rd [a0_1, a0_2, a0_3, a0_4, a0_5, a0_6, a0_7, a0_8, a0_9, a0_10, a0_11, a0_12, a0_13, a0_14, a0_15, a0_16] x3_1)) := (blk_idx BK408.out .u8 [.bool a0_0] [a0_1, a0_2, a0_3, a0_4, a0_5, a0_6, a0_7, a0_8, a0_9, a0_10, a0_11, a0_12, a0_13, a0_14, a0_15, a0_16] [] rfl x3_1 (of_decide_eq_true (by first | (with_reducible assumption) | assumption)) (of_decide_eq_true (by first | (with_reducible assumption) | assumption)) rfl)
         have hfar16 := blk_frozen BK408.out (1 + (x3_1).toNat)
         go_wp2
         go_roundg k1
         case measure => have := HK1.out; omega
         case rel => exact ⟨(wrap64 (x3_1 + 1)), (by first | rfl | (simp; done) | (simp [*]; done) | (simp; exact isEmpty_bne _) | (simp; exact isEmpty_beq _)), H', ⟨by have := HK1.out; omega⟩, ⟨by (with_reducible repeat (first | refine blk_drewN ?_ _ | refine blk_drew ?_ | refine blk_alloc ?_ _)); exact BK408.out⟩, ⟨by repeat (first | (with_reducible first | exact HB.out | apply below_alloc | apply pw_below_drewN | apply below_drew1 | refine below_set ?_ GE408.out) | exact HB.out)⟩⟩
       ·rw [if_neg c7] at H
        have c7b0 : ((rd [a0_1, a0_2, a0_3, a0_4, a0_5, a0_6, a0_7, a0_8, a0_9, a0_10, a0_11, a0_12, a0_13, a0_14, a0_15, a0_16] x3_1) == 0) = false := beq_eq_false_iff_ne.mpr c7
        have c7b1 : ((rd [a0_1, a0_2, a0_3, a0_4, a0_5, a0_6, a0_7, a0_8, a0_9, a0_10, a0_11, a0_12, a0_13, a0_14, a0_15, a0_16] x3_1) != 0) = true := bne_iff_ne.mpr c7
        obtain rfl := Option.some.inj H
        have par18 : (0 ≤ x3_1) = True := eq_true (of_decide_eq_true (by first | (with_reducible assumption) | assumption))
        have qar18 : (x3_1 < 16) = True := eq_true (of_decide_eq_true (by first | (with_reducible assumption) | assumption))
        have hcz19_0 : wr.cell? ⟨gb408, 0, none⟩ = some (.bool a0_0) := (blk_cell BK408.out 0).trans rfl
        have hcz19_1 : wr.cell? ⟨gb408, 1, none⟩ = some (.int .u8 a0_1) := (blk_cell BK408.out 1).trans rfl
        have hcz19_2 : wr.cell? ⟨gb408, 2, none⟩ = some (.int .u8 a0_2) := (blk_cell BK408.out 2).trans rfl
        have hcz19_3 : wr.cell? ⟨gb408, 3, none⟩ = some (.int .u8 a0_3) := (blk_cell BK408.out 3).trans rfl
        have hcz19_4 : wr.cell? ⟨gb408, 4, none⟩ = some (.int .u8 a0_4) := (blk_cell BK408.out 4).trans rfl
        have hcz19_5 : wr.cell? ⟨gb408, 5, none⟩ = some (.int .u8 a0_5) := (blk_cell BK408.out 5).trans rfl
        have hcz19_6 : wr.cell? ⟨gb408, 6, none⟩ = some (.int .u8 a0_6) := (blk_cell BK408.out 6).trans rfl
        have hcz19_7 : wr.cell? ⟨gb408, 7, none⟩ = some (.int .u8 a0_7) := (blk_cell BK408.out 7).trans rfl
        have hcz19_8 : wr.cell? ⟨gb408, 8, none⟩ = some (.int .u8 a0_8) := (blk_cell BK408.out 8).trans rfl
        have hcz19_9 : wr.cell? ⟨gb408, 9, none⟩ = some (.int .u8 a0_9) := (blk_cell BK408.out 9).trans rfl
        have hcz19_10 : wr.cell? ⟨gb408, 10, none⟩ = some (.int .u8 a0_10) := (blk_cell BK408.out 10).trans rfl
        have hcz19_11 : wr.cell? ⟨gb408, 11, none⟩ = some (.int .u8 a0_11) := (blk_cell BK408.out 11).trans rfl
        have hcz19_12 : wr.cell? ⟨gb408, 12, none⟩ = some (.int .u8 a0_12) := (blk_cell BK408.out 12).trans rfl
        have hcz19_13 : wr.cell? ⟨gb408, 13, none⟩ = some (.int .u8 a0_13) := (blk_cell BK408.out 13).trans rfl
        have hcz19_14 : wr.cell? ⟨gb408, 14, none⟩ = some (.int .u8 a0_14) := (blk_cell BK408.out 14).trans rfl
        have hcz19_15 : wr.cell? ⟨gb408, 15, none⟩ = some (.int .u8 a0_15) := (blk_cell BK408.out 15).trans rfl
        have hcz19_16 : wr.cell? ⟨gb408, 16, none⟩ = some (.int .u8 a0_16) := (blk_cell BK408.out 16).trans rfl
        have hfz19_0 := blk_frozen BK408.out 0
        have hfz19_1 := blk_frozen BK408.out 1
        have hfz19_2 := blk_frozen BK408.out 2
        have hfz19_3 := blk_frozen BK408.out 3
        have hfz19_4 := blk_frozen BK408.out 4
        have hfz19_5 := blk_frozen BK408.out 5
        have hfz19_6 := blk_frozen BK408.out 6
        have hfz19_7 := blk_frozen BK408.out 7
        have hfz19_8 := blk_frozen BK408.out 8
        have hfz19_9 := blk_frozen BK408.out 9
        have hfz19_10 := blk_frozen BK408.out 10
        have hfz19_11 := blk_frozen BK408.out 11
        have hfz19_12 := blk_frozen BK408.out 12
        have hfz19_13 := blk_frozen BK408.out 13
        have hfz19_14 := blk_frozen BK408.out 14
        have hfz19_15 := blk_frozen BK408.out 15
        have hfz19_16 := blk_frozen BK408.out 16
        have hxar18 : wr.cell? ⟨gb408, 1 + (x3_1).toNat, none⟩ = some (.int .u8 (rd [a0_1, a0_2, a0_3, a0_4, a0_5, a0_6, a0_7, a0_8, a0_9, a0_10, a0_11, a0_12, a0_13, a0_14, a0_15, a0_16] x3_1)) := (blk_idx BK408.out .u8 [.bool a0_0] [a0_1, a0_2, a0_3, a0_4, a0_5, a0_6, a0_7, a0_8, a0_9, a0_10, a0_11, a0_12, a0_13, a0_14, a0_15, a0_16] [] rfl x3_1 (of_decide_eq_true (by first | (with_reducible assumption) | assumption)) (of_decide_eq_true (by first | (with_reducible assumption) | assumption)) rfl)
        have hfar18 := blk_frozen BK408.out (1 + (x3_1).toNat)
        go_wp2
        go_ret
        exact ⟨by first | rfl | (simp [errW_none, errW_some] <;> rfl) | (simp [*, errW_none, errW_some] <;> rfl) | (simp [errW_none, errW_some]; first | exact isEmpty_bne _ | exact isEmpty_beq _ | exact (isEmpty_bne _).symm), by repeat (first | (with_reducible first | exact HB.out | apply below_alloc | apply pw_below_drewN | apply below_drew1 | refine below_set ?_ GE408.out) | exact HB.out)⟩
      ·rw [if_neg c6] at H
       exact absurd H (by simp)
     ·rw [if_neg c5] at H
      exact absurd H (by simp)
    ·rw [if_neg c4] at H
     have c4b0 : decide (x3_1 < 10) = false := decide_eq_false c4
     clear c4
     by_cases c20 : x3_1 ≥ 10
     ·rw [if_pos c20] at H
      have c20b0 : decide (10 ≤ x3_1) = true := decide_eq_true c20
      clear c20
      by_cases c21 : 0 ≤ x3_1
      ·rw [if_pos c21] at H
       have c21b0 : decide (0 ≤ x3_1) = true := decide_eq_true c21
       clear c21
       by_cases c22 : x3_1 < 16
       ·rw [if_pos c22] at H
        have c22b0 : decide (x3_1 < 16) = true := decide_eq_true c22
        clear c22
        by_cases c23 : (rd [a0_1, a0_2, a0_3, a0_4, a0_5, a0_6, a0_7, a0_8, a0_9, a0_10, a0_11, a0_12, a0_13, a0_14, a0_15, a0_16] x3_1) = 255
        ·rw [if_pos c23] at H
         have c23b0 : ((rd [a0_1, a0_2, a0_3, a0_4, a0_5, a0_6, a0_7, a0_8, a0_9, a0_10, a0_11, a0_12, a0_13, a0_14, a0_15, a0_16] x3_1) == 255) = true := beq_iff_eq.mpr c23
         have c23b1 : ((rd [a0_1, a0_2, a0_3, a0_4, a0_5, a0_6, a0_7, a0_8, a0_9, a0_10, a0_11, a0_12, a0_13, a0_14, a0_15, a0_16] x3_1) != 255) = false := bne_eq_false_iff_eq.mpr c23
         clear c23
         have H' := Aside0.mk H
         clear H
         have par24 : (0 ≤ x3_1) = True := eq_true (of_decide_eq_true (by first | (with_reducible assumption) | assumption))
         have qar24 : (x3_1 < 16) = True := eq_true (of_decide_eq_true (by first | (with_reducible assumption) | assumption))
         have hcz25_0 : wr.cell? ⟨gb408, 0, none⟩ = some (.bool a0_0) := (blk_cell BK408.out 0).trans rfl
         have hcz25_1 : wr.cell? ⟨gb408, 1, none⟩ = some (.int .u8 a0_1) := (blk_cell BK408.out 1).trans rfl
         have hcz25_2 : wr.cell? ⟨gb408, 2, none⟩ = some (.int .u8 a0_2) := (blk_cell BK408.out 2).trans rfl
         have hcz25_3 : wr.cell? ⟨gb408, 3, none⟩ = some (.int .u8 a0_3) := (blk_cell BK408.out 3).trans rfl
         have hcz25_4 : wr.cell? ⟨gb408, 4, none⟩ = some (.int .u8 a0_4) := (blk_cell BK408.out 4).trans rfl
         have hcz25_5 : wr.cell? ⟨gb408, 5, none⟩ = some (.int .u8 a0_5) := (blk_cell BK408.out 5).trans rfl
         have hcz25_6 : wr.cell? ⟨gb408, 6, none⟩ = some (.int .u8 a0_6) := (blk_cell BK408.out 6).trans rfl
         have hcz25_7 : wr.cell? ⟨gb408, 7, none⟩ = some (.int .u8 a0_7) := (blk_cell BK408.out 7).trans rfl
         have hcz25_8 : wr.cell? ⟨gb408, 8, none⟩ = some (.int .u8 a0_8) := (blk_cell BK408.out 8).trans rfl
         have hcz25_9 : wr.cell? ⟨gb408, 9, none⟩ = some (.int .u8 a0_9) := (blk_cell BK408.out 9).trans rfl
         have hcz25_10 : wr.cell? ⟨gb408, 10, none⟩ = some (.int .u8 a0_10) := (blk_cell BK408.out 10).trans rfl
         have hcz25_11 : wr.cell? ⟨gb408, 11, none⟩ = some (.int .u8 a0_11) := (blk_cell BK408.out 11).trans rfl
         have hcz25_12 : wr.cell? ⟨gb408, 12, none⟩ = some (.int .u8 a0_12) := (blk_cell BK408.out 12).trans rfl
         have hcz25_13 : wr.cell? ⟨gb408, 13, none⟩ = some (.int .u8 a0_13) := (blk_cell BK408.out 13).trans rfl
         have hcz25_14 : wr.cell? ⟨gb408, 14, none⟩ = some (.int .u8 a0_14) := (blk_cell BK408.out 14).trans rfl
         have hcz25_15 : wr.cell? ⟨gb408, 15, none⟩ = some (.int .u8 a0_15) := (blk_cell BK408.out 15).trans rfl
         have hcz25_16 : wr.cell? ⟨gb408, 16, none⟩ = some (.int .u8 a0_16) := (blk_cell BK408.out 16).trans rfl
         have hfz25_0 := blk_frozen BK408.out 0
         have hfz25_1 := blk_frozen BK408.out 1
         have hfz25_2 := blk_frozen BK408.out 2
         have hfz25_3 := blk_frozen BK408.out 3
         have hfz25_4 := blk_frozen BK408.out 4
         have hfz25_5 := blk_frozen BK408.out 5
         have hfz25_6 := blk_frozen BK408.out 6
         have hfz25_7 := blk_frozen BK408.out 7
         have hfz25_8 := blk_frozen BK408.out 8
         have hfz25_9 := blk_frozen BK408.out 9
         have hfz25_10 := blk_frozen BK408.out 10
         have hfz25_11 := blk_frozen BK408.out 11
         have hfz25_12 := blk_frozen BK408.out 12
         have hfz25_13 := blk_frozen BK408.out 13
         have hfz25_14 := blk_frozen BK408.out 14
         have hfz25_15 := blk_frozen BK408.out 15
         have hfz25_16 := blk_frozen BK408.out 16
         have hxar24 : wr.cell? ⟨gb408, 1 + (x3_1).toNat, none⟩ = some (.int .u8 (rd [a0_1, a0_2, a0_3, a0_4, a0_5, a0_6, a0_7, a0_8, a0_9, a0_10, a0_11, a0_12, a0_13, a0_14, a0_15, a0_16] x3_1)) := (blk_idx BK408.out .u8 [.bool a0_0] [a0_1, a0_2, a0_3, a0_4, a0_5, a0_6, a0_7, a0_8, a0_9, a0_10, a0_11, a0_12, a0_13, a0_14, a0_15, a0_16] [] rfl x3_1 (of_decide_eq_true (by first | (with_reducible assumption) | assumption)) (of_decide_eq_true (by first | (with_reducible assumption) | assumption)) rfl)
         have hfar24 := blk_frozen BK408.out (1 + (x3_1).toNat)
         go_wp2
         go_roundg k1
         case measure => have := HK1.out; omega
         case rel => exact ⟨(wrap64 (x3_1 + 1)), (by first | rfl | (simp; done) | (simp [*]; done) | (simp; exact isEmpty_bne _) | (simp; exact isEmpty_beq _)), H', ⟨by have := HK1.out; omega⟩, ⟨by (with_reducible repeat (first | refine blk_drewN ?_ _ | refine blk_drew ?_ | refine blk_alloc ?_ _)); exact BK408.out⟩, ⟨by repeat (first | (with_reducible first | exact HB.out | apply below_alloc | apply pw_below_drewN | apply below_drew1 | refine below_set ?_ GE408.out) | exact HB.out)⟩⟩
        ·rw [if_neg c23] at H
         have c23b0 : ((rd [a0_1, a0_2, a0_3, a0_4, a0_5, a0_6, a0_7, a0_8, a0_9, a0_10, a0_11, a0_12, a0_13, a0_14, a0_15, a0_16] x3_1) == 255) = false := beq_eq_false_iff_ne.mpr c23
         have c23b1 : ((rd [a0_1, a0_2, a0_3, a0_4, a0_5, a0_6, a0_7, a0_8, a0_9, a0_10, a0_11, a0_12, a0_13, a0_14, a0_15, a0_16] x3_1) != 255) = true := bne_iff_ne.mpr c23
         obtain rfl := Option.some.inj H
         have par26 : (0 ≤ x3_1) = True := eq_true (of_decide_eq_true (by first | (with_reducible assumption) | assumption))
         have qar26 : (x3_1 < 16) = True := eq_true (of_decide_eq_true (by first | (with_reducible assumption) | assumption))
         have hcz27_0 : wr.cell? ⟨gb408, 0, none⟩ = some (.bool a0_0) := (blk_cell BK408.out 0).trans rfl
         have hcz27_1 : wr.cell? ⟨gb408, 1, none⟩ = some (.int .u8 a0_1) := (blk_cell BK408.out 1).trans rfl
         have hcz27_2 : wr.cell? ⟨gb408, 2, none⟩ = some (.int .u8 a0_2) := (blk_cell BK408.out 2).trans rfl
         have hcz27_3 : wr.cell? ⟨gb408, 3, none⟩ = some (.int .u8 a0_3) := (blk_cell BK408.out 3).trans rfl
         have hcz27_4 : wr.cell? ⟨gb408, 4, none⟩ = some (.int .u8 a0_4) := (blk_cell BK408.out 4).trans rfl
         have hcz27_5 : wr.cell? ⟨gb408, 5, none⟩ = some (.int .u8 a0_5) := (blk_cell BK408.out 5).trans rfl
         have hcz27_6 : wr.cell? ⟨gb408, 6, none⟩ = some (.int .u8 a0_6) := (blk_cell BK408.out 6).trans rfl
         have hcz27_7 : wr.cell? ⟨gb408, 7, none⟩ = some (.int .u8 a0_7) := (blk_cell BK408.out 7).trans rfl
         have hcz27_8 : wr.cell? ⟨gb408, 8, none⟩ = some (.int .u8 a0_8) := (blk_cell BK408.out 8).trans rfl
         have hcz27_9 : wr.cell? ⟨gb408, 9, none⟩ = some (.int .u8 a0_9) := (blk_cell BK408.out 9).trans rfl
         have hcz27_10 : wr.cell? ⟨gb408, 10, none⟩ = some (.int .u8 a0_10) := (blk_cell BK408.out 10).trans rfl
         have hcz27_11 : wr.cell? ⟨gb408, 11, none⟩ = some (.int .u8 a0_11) := (blk_cell BK408.out 11).trans rfl
         have hcz27_12 : wr.cell? ⟨gb408, 12, none⟩ = some (.int .u8 a0_12) := (blk_cell BK408.out 12).trans rfl
         have hcz27_13 : wr.cell? ⟨gb408, 13, none⟩ = some (.int .u8 a0_13) := (blk_cell BK408.out 13).trans rfl
         have hcz27_14 : wr.cell? ⟨gb408, 14, none⟩ = some (.int .u8 a0_14) := (blk_cell BK408.out 14).trans rfl
         have hcz27_15 : wr.cell? ⟨gb408, 15, none⟩ = some (.int .u8 a0_15) := (blk_cell BK408.out 15).trans rfl
         have hcz27_16 : wr.cell? ⟨gb408, 16, none⟩ = some (.int .u8 a0_16) := (blk_cell BK408.out 16).trans rfl
         have hfz27_0 := blk_frozen BK408.out 0
         have hfz27_1 := blk_frozen BK408.out 1
         have hfz27_2 := blk_frozen BK408.out 2
         have hfz27_3 := blk_frozen BK408.out 3
         have hfz27_4 := blk_frozen BK408.out 4
         have hfz27_5 := blk_frozen BK408.out 5
         have hfz27_6 := blk_frozen BK408.out 6
         have hfz27_7 := blk_frozen BK408.out 7
         have hfz27_8 := blk_frozen BK408.out 8
         have hfz27_9 := blk_frozen BK408.out 9
         have hfz27_10 := blk_frozen BK408.out 10
         have hfz27_11 := blk_frozen BK408.out 11
         have hfz27_12 := blk_frozen BK408.out 12
         have hfz27_13 := blk_frozen BK408.out 13
         have hfz27_14 := blk_frozen BK408.out 14
         have hfz27_15 := blk_frozen BK408.out 15
         have hfz27_16 := blk_frozen BK408.out 16
         have hxar26 : wr.cell? ⟨gb408, 1 + (x3_1).toNat, none⟩ = some (.int .u8 (rd [a0_1, a0_2, a0_3, a0_4, a0_5, a0_6, a0_7, a0_8, a0_9, a0_10, a0_11, a0_12, a0_13, a0_14, a0_15, a0_16] x3_1)) := (blk_idx BK408.out .u8 [.bool a0_0] [a0_1, a0_2, a0_3, a0_4, a0_5, a0_6, a0_7, a0_8, a0_9, a0_10, a0_11, a0_12, a0_13, a0_14, a0_15, a0_16] [] rfl x3_1 (of_decide_eq_true (by first | (with_reducible assumption) | assumption)) (of_decide_eq_true (by first | (with_reducible assumption) | assumption)) rfl)
         have hfar26 := blk_frozen BK408.out (1 + (x3_1).toNat)
         go_wp2
         go_ret
         exact ⟨by first | rfl | (simp [errW_none, errW_some] <;> rfl) | (simp [*, errW_none, errW_some] <;> rfl) | (simp [errW_none, errW_some]; first | exact isEmpty_bne _ | exact isEmpty_beq _ | exact (isEmpty_bne _).symm), by repeat (first | (with_reducible first | exact HB.out | apply below_alloc | apply pw_below_drewN | apply below_drew1 | refine below_set ?_ GE408.out) | exact HB.out)⟩
       ·rw [if_neg c22] at H
        exact absurd H (by simp)
      ·rw [if_neg c21] at H
       exact absurd H (by simp)
     ·rw [if_neg c20] at H
      have c20b0 : decide (10 ≤ x3_1) = false := decide_eq_false c20
      clear c20
      have H' := Aside0.mk H
      clear H
      go_wp2
      go_roundg k1
      case measure => have := HK1.out; omega
      case rel => exact ⟨(wrap64 (x3_1 + 1)), (by first | rfl | (simp; done) | (simp [*]; done) | (simp; exact isEmpty_bne _) | (simp; exact isEmpty_beq _)), H', ⟨by have := HK1.out; omega⟩, ⟨by (with_reducible repeat (first | refine blk_drewN ?_ _ | refine blk_drew ?_ | refine blk_alloc ?_ _)); exact BK408.out⟩, ⟨by repeat (first | (with_reducible first | exact HB.out | apply below_alloc | apply pw_below_drewN | apply below_drew1 | refine below_set ?_ GE408.out) | exact HB.out)⟩⟩
   ·rw [if_neg c3] at H
    have c3b0 : decide (x3_1 < 12) = false := decide_eq_false c3
    clear c3
    obtain rfl := Option.some.inj H
    have hcz28_0 : wr.cell? ⟨gb408, 0, none⟩ = some (.bool a0_0) := (blk_cell BK408.out 0).trans rfl
    have hcz28_1 : wr.cell? ⟨gb408, 1, none⟩ = some (.int .u8 a0_1) := (blk_cell BK408.out 1).trans rfl
    have hcz28_2 : wr.cell? ⟨gb408, 2, none⟩ = some (.int .u8 a0_2) := (blk_cell BK408.out 2).trans rfl
    have hcz28_3 : wr.cell? ⟨gb408, 3, none⟩ = some (.int .u8 a0_3) := (blk_cell BK408.out 3).trans rfl
    have hcz28_4 : wr.cell? ⟨gb408, 4, none⟩ = some (.int .u8 a0_4) := (blk_cell BK408.out 4).trans rfl
    have hcz28_5 : wr.cell? ⟨gb408, 5, none⟩ = some (.int .u8 a0_5) := (blk_cell BK408.out 5).trans rfl
    have hcz28_6 : wr.cell? ⟨gb408, 6, none⟩ = some (.int .u8 a0_6) := (blk_cell BK408.out 6).trans rfl
    have hcz28_7 : wr.cell? ⟨gb408, 7, none⟩ = some (.int .u8 a0_7) := (blk_cell BK408.out 7).trans rfl
    have hcz28_8 : wr.cell? ⟨gb408, 8, none⟩ = some (.int .u8 a0_8) := (blk_cell BK408.out 8).trans rfl
    have hcz28_9 : wr.cell? ⟨gb408, 9, none⟩ = some (.int .u8 a0_9) := (blk_cell BK408.out 9).trans rfl
    have hcz28_10 : wr.cell? ⟨gb408, 10, none⟩ = some (.int .u8 a0_10) := (blk_cell BK408.out 10).trans rfl
    have hcz28_11 : wr.cell? ⟨gb408, 11, none⟩ = some (.int .u8 a0_11) := (blk_cell BK408.out 11).trans rfl
    have hcz28_12 : wr.cell? ⟨gb408, 12, none⟩ = some (.int .u8 a0_12) := (blk_cell BK408.out 12).trans rfl
    have hcz28_13 : wr.cell? ⟨gb408, 13, none⟩ = some (.int .u8 a0_13) := (blk_cell BK408.out 13).trans rfl
    have hcz28_14 : wr.cell? ⟨gb408, 14, none⟩ = some (.int .u8 a0_14) := (blk_cell BK408.out 14).trans rfl
    have hcz28_15 : wr.cell? ⟨gb408, 15, none⟩ = some (.int .u8 a0_15) := (blk_cell BK408.out 15).trans rfl
    have hcz28_16 : wr.cell? ⟨gb408, 16, none⟩ = some (.int .u8 a0_16) := (blk_cell BK408.out 16).trans rfl
    have hfz28_0 := blk_frozen BK408.out 0
    have hfz28_1 := blk_frozen BK408.out 1
    have hfz28_2 := blk_frozen BK408.out 2
    have hfz28_3 := blk_frozen BK408.out 3
    have hfz28_4 := blk_frozen BK408.out 4
    have hfz28_5 := blk_frozen BK408.out 5
    have hfz28_6 := blk_frozen BK408.out 6
    have hfz28_7 := blk_frozen BK408.out 7
    have hfz28_8 := blk_frozen BK408.out 8
    have hfz28_9 := blk_frozen BK408.out 9
    have hfz28_10 := blk_frozen BK408.out 10
    have hfz28_11 := blk_frozen BK408.out 11
    have hfz28_12 := blk_frozen BK408.out 12
    have hfz28_13 := blk_frozen BK408.out 13
    have hfz28_14 := blk_frozen BK408.out 14
    have hfz28_15 := blk_frozen BK408.out 15
    have hfz28_16 := blk_frozen BK408.out 16
    go_wp2
    go_ret
    exact ⟨by first | rfl | (simp [errW_none, errW_some] <;> rfl) | (simp [*, errW_none, errW_some] <;> rfl) | (simp [errW_none, errW_some]; first | exact isEmpty_bne _ | exact isEmpty_beq _ | exact (isEmpty_bne _).symm), by repeat (first | (with_reducible first | exact HB.out | apply below_alloc | apply pw_below_drewN | apply below_drew1 | refine below_set ?_ GE408.out) | exact HB.out)⟩

def lanternref05_Tail.l0 : Nat → Int → Int → Int → Bool → Int → Int → Int → Int → Int → Int → Int → Int → Int → Int → Int → Int → Int → Int → Int → Int → Option (Bool × Int × Int × Int × Int × Int × Int × Int × Int × Int × Int × Int × Int × Int × Int × Int × Int)
 | 0, _, _, _, _, _, _, _, _, _, _, _, _, _, _, _, _, _, _, _, _ => none
 | k + 1, x1, x5, x6, x413000, x413001, x413002, x413003, x413004, x413005, x413006, x413007, x413008, x413009, x413010, x413011, x413012, x413013, x413014, x413015, x413016 => if x6 < 4 then (if 0 ≤ (wrap64 (x1 + x6)) then (if (wrap64 (x1 + x6)) < 16 then (lanternref05_Tail.l0 k x1 (IntKind.u64.wrap ((IntKind.u64.wrap (x5 * 256)) + (IntKind.u64.wrap (rd [x413001, x413002, x413003, x413004, x413005, x413006, x413007, x413008, x413009, x413010, x413011, x413012, x413013, x413014, x413015, x413016] (wrap64 (x1 + x6)))))) (wrap64 (x6 + 1)) x413000 x413001 x413002 x413003 x413004 x413005 x413006 x413007 x413008 x413009 x413010 x413011 x413012 x413013 x413014 x413015 x413016) else (none)) else (none)) else ((lanternref05_V4.f k x5).bind fun bt415 => (some (bt415.1, bt415.2.1, bt415.2.2.1, bt415.2.2.2.1, bt415.2.2.2.2.1, bt415.2.2.2.2.2.1, bt415.2.2.2.2.2.2.1, bt415.2.2.2.2.2.2.2.1, bt415.2.2.2.2.2.2.2.2.1, bt415.2.2.2.2.2.2.2.2.2.1, bt415.2.2.2.2.2.2.2.2.2.2.1, bt415.2.2.2.2.2.2.2.2.2.2.2.1, bt415.2.2.2.2.2.2.2.2.2.2.2.2.1, bt415.2.2.2.2.2.2.2.2.2.2.2.2.2.1, bt415.2.2.2.2.2.2.2.2.2.2.2.2.2.2.1, bt415.2.2.2.2.2.2.2.2.2.2.2.2.2.2.2.1, bt415.2.2.2.2.2.2.2.2.2.2.2.2.2.2.2.2)))
def lanternref05_Tail.f (k : Nat) (a0_0 : Bool) (a0_1 : Int) (a0_2 : Int) (a0_3 : Int) (a0_4 : Int) (a0_5 : Int) (a0_6 : Int) (a0_7 : Int) (a0_8 : Int) (a0_9 : Int) (a0_10 : Int) (a0_11 : Int) (a0_12 : Int) (a0_13 : Int) (a0_14 : Int) (a0_15 : Int) (a0_16 : Int) (a1 : Int) : Option (Bool × Int × Int × Int × Int × Int × Int × Int × Int × Int × Int × Int × Int × Int × Int × Int × Int) := lanternref05_Tail.l0 k a1 0 0 a0_0 a0_1 a0_2 a0_3 a0_4 a0_5 a0_6 a0_7 a0_8 a0_9 a0_10 a0_11 a0_12 a0_13 a0_14 a0_15 a0_16
theorem lanternref05_Tail.mono_l : ∀ k, (∀ y0 y1 y2 y3 y4 y5 y6 y7 y8 y9 y10 y11 y12 y13 y14 y15 y16 y17 y18 y19, LeO (lanternref05_Tail.l0 k y0 y1 y2 y3 y4 y5 y6 y7 y8 y9 y10 y11 y12 y13 y14 y15 y16 y17 y18 y19) (lanternref05_Tail.l0 (k + 1) y0 y1 y2 y3 y4 y5 y6 y7 y8 y9 y10 y11 y12 y13 y14 y15 y16 y17 y18 y19))
 | 0 => fun _ _ _ _ _ _ _ _ _ _ _ _ _ _ _ _ _ _ _ _ r h => by simp [lanternref05_Tail.l0] at h
 | k + 1 => by
  have ih0 := lanternref05_Tail.mono_l k
  ·intro y0 y1 y2 y3 y4 y5 y6 y7 y8 y9 y10 y11 y12 y13 y14 y15 y16 y17 y18 y19
   unfold lanternref05_Tail.l0
   repeat' first
   | (with_reducible exact ih0 _ _ _ _ _ _ _ _ _ _ _ _ _ _ _ _ _ _ _ _)
   | (with_reducible exact lanternref05_V4.mono _ _)
   | (with_reducible exact LeO.refl _)
   | (with_reducible exact LeO.none _)
   | (with_reducible refine LeO.ite ?_ ?_)
   | (with_reducible refine LeO.bind ?_ (fun _ => ?_))
   | exact ih0 _ _ _ _ _ _ _ _ _ _ _ _ _ _ _ _ _ _ _ _
   | exact lanternref05_V4.mono _ _
   | exact LeO.none _
   | refine LeO.ite ?_ ?_
   | refine LeO.bind ?_ (fun _ => ?_)
theorem lanternref05_Tail.mono : ∀ a0 a1 a2 a3 a4 a5 a6 a7 a8 a9 a10 a11 a12 a13 a14 a15 a16 a17 k, LeO (lanternref05_Tail.f k a0 a1 a2 a3 a4 a5 a6 a7 a8 a9 a10 a11 a12 a13 a14 a15 a16 a17) (lanternref05_Tail.f (k + 1) a0 a1 a2 a3 a4 a5 a6 a7 a8 a9 a10 a11 a12 a13 a14 a15 a16 a17) := by
 intro a0 a1 a2 a3 a4 a5 a6 a7 a8 a9 a10 a11 a12 a13 a14 a15 a16 a17 k
 have ih0 := lanternref05_Tail.mono_l k
 unfold lanternref05_Tail.f
 repeat' first
   | (with_reducible exact ih0 _ _ _ _ _ _ _ _ _ _ _ _ _ _ _ _ _ _ _ _)
   | (with_reducible exact lanternref05_V4.mono _ _)
   | (with_reducible exact LeO.refl _)
   | (with_reducible exact LeO.none _)
   | (with_reducible refine LeO.ite ?_ ?_)
   | (with_reducible refine LeO.bind ?_ (fun _ => ?_))
   | exact ih0 _ _ _ _ _ _ _ _ _ _ _ _ _ _ _ _ _ _ _ _
   | exact lanternref05_V4.mono _ _
   | exact LeO.none _
   | refine LeO.ite ?_ ?_
   | refine LeO.bind ?_ (fun _ => ?_)
set_option maxHeartbeats 8000000 in
set_option maxRecDepth 100000 in
theorem lanternref05_Tail.calls (k : Nat) (a0_0 : Bool) (a0_1 : Int) (a0_2 : Int) (a0_3 : Int) (a0_4 : Int) (a0_5 : Int) (a0_6 : Int) (a0_7 : Int) (a0_8 : Int) (a0_9 : Int) (a0_10 : Int) (a0_11 : Int) (a0_12 : Int) (a0_13 : Int) (a0_14 : Int) (a0_15 : Int) (a0_16 : Int) (a1 : Int) (r1 : Bool) (r2 : Int) (r3 : Int) (r4 : Int) (r5 : Int) (r6 : Int) (r7 : Int) (r8 : Int) (r9 : Int) (r10 : Int) (r11 : Int) (r12 : Int) (r13 : Int) (r14 : Int) (r15 : Int) (r16 : Int) (r17 : Int) (w : World) (hLW : LW w) (h : lanternref05_Tail.f k a0_0 a0_1 a0_2 a0_3 a0_4 a0_5 a0_6 a0_7 a0_8 a0_9 a0_10 a0_11 a0_12 a0_13 a0_14 a0_15 a0_16 a1 = some (r1, r2, r3, r4, r5, r6, r7, r8, r9, r10, r11, r12, r13, r14, r15, r16, r17)) :
  Calls Tryd.prog 22 #[.agg #[.bool a0_0, .int .u8 a0_1, .int .u8 a0_2, .int .u8 a0_3, .int .u8 a0_4, .int .u8 a0_5, .int .u8 a0_6, .int .u8 a0_7, .int .u8 a0_8, .int .u8 a0_9, .int .u8 a0_10, .int .u8 a0_11, .int .u8 a0_12, .int .u8 a0_13, .int .u8 a0_14, .int .u8 a0_15, .int .u8 a0_16], .int .i64 a1] w fun e w' => e = .returned (.agg #[.bool r1, .int .u8 r2, .int .u8 r3, .int .u8 r4, .int .u8 r5, .int .u8 r6, .int .u8 r7, .int .u8 r8, .int .u8 r9, .int .u8 r10, .int .u8 r11, .int .u8 r12, .int .u8 r13, .int .u8 r14, .int .u8 r15, .int .u8 r16, .int .u8 r17]) ∧ Below w.heap.size w w' := by
 have hu25 := Tryd.underlying25
 have HLW := Aside0.mk hLW
 clear hLW
 have HB := Aside0.mk (Below.refl w.heap.size w)
 have H : (lanternref05_Tail.l0 k a1 0 0 a0_0 a0_1 a0_2 a0_3 a0_4 a0_5 a0_6 a0_7 a0_8 a0_9 a0_10 a0_11 a0_12 a0_13 a0_14 a0_15 a0_16) = some (r1, r2, r3, r4, r5, r6, r7, r8, r9, r10, r11, r12, r13, r14, r15, r16, r17) := h
 clear h
 have H' := Aside0.mk H
 clear H
 go_enter Tryd.func22, Tryd.ntmps22
 go_wp2_with (first | ((with_reducible refine gate_dst (N := 2) rfl ?_); refine box_event ?hg (N := 2) ?hd (cs := #[.bool a0_0, .int .u8 a0_1, .int .u8 a0_2, .int .u8 a0_3, .int .u8 a0_4, .int .u8 a0_5, .int .u8 a0_6, .int .u8 a0_7, .int .u8 a0_8, .int .u8 a0_9, .int .u8 a0_10, .int .u8 a0_11, .int .u8 a0_12, .int .u8 a0_13, .int .u8 a0_14, .int .u8 a0_15, .int .u8 a0_16]) (t := 25) ?hr ?_; (case hd => rfl); (case hg => rfl); (case hr => first | (go_simp; done) | (go_simp; rfl)); intro gb412 hg w3 hbox hb; have n0_ := Aside0.mk (below_step (by repeat (first | (with_reducible first | exact HB.out | apply below_alloc | apply pw_below_drewN | apply below_drew1) | exact HB.out)) hb); have n1_ := Aside0.mk (hbox); have n2_ := Aside0.mk ((by rw [hg]; exact (below_size (by repeat (first | (with_reducible first | exact HB.out | apply below_alloc | apply pw_below_drewN | apply below_drew1) | exact HB.out))) : w.heap.size ≤ gb412)); have n3_ := Aside0.mk ((by rw [hg]; exact (below_size (by repeat (first | (with_reducible first | exact HB.out | apply below_alloc | apply pw_below_drewN | apply below_drew1) | exact HB.out))) : w.heap.size ≤ gb412)); clear HB; have HB := n0_; have BK412 := n1_; have GW412 := n2_; have GE412 := n3_; clear n0_ n1_ n2_ n3_; clear hb hbox hg) | ((with_reducible refine gate_dst (N := 4) rfl ?_); refine box_event ?hg (N := 4) ?hd (cs := #[.bool false, .int .u8 0, .int .u8 0, .int .u8 0, .int .u8 0, .int .u8 0, .int .u8 0, .int .u8 0, .int .u8 0, .int .u8 0, .int .u8 0, .int .u8 0, .int .u8 0, .int .u8 0, .int .u8 0, .int .u8 0, .int .u8 0]) (t := 25) ?hr ?_; (case hd => rfl); (case hg => rfl); (case hr => first | (go_simp; done) | (go_simp; rfl)); intro gb413 hg w4 hbox hb; have n0_ := Aside0.mk (blk_below (g := gb412) (o := .cells #[.bool a0_0, .int .u8 a0_1, .int .u8 a0_2, .int .u8 a0_3, .int .u8 a0_4, .int .u8 a0_5, .int .u8 a0_6, .int .u8 a0_7, .int .u8 a0_8, .int .u8 a0_9, .int .u8 a0_10, .int .u8 a0_11, .int .u8 a0_12, .int .u8 a0_13, .int .u8 a0_14, .int .u8 a0_15, .int .u8 a0_16] 25 (0, 0)) (by (with_reducible repeat (first | refine blk_drewN ?_ _ | refine blk_drew ?_ | refine blk_alloc ?_ _)); exact BK412.out) hb); have n1_ := Aside0.mk (below_step (by repeat (first | (with_reducible first | exact HB.out | apply below_alloc | apply pw_below_drewN | apply below_drew1 | refine below_set ?_ GE412.out) | exact HB.out)) hb); have n2_ := Aside0.mk (hbox); have n3_ := Aside0.mk ((by rw [hg]; exact (below_size (by repeat (first | (with_reducible first | exact HB.out | apply below_alloc | apply pw_below_drewN | apply below_drew1 | refine below_set ?_ GE412.out) | exact HB.out))) : w.heap.size ≤ gb413)); have n4_ := Aside0.mk ((by rw [hg]; exact (below_size (by repeat (first | (with_reducible first | exact HB.out | apply below_alloc | apply pw_below_drewN | apply below_drew1 | refine below_set ?_ GE412.out) | exact HB.out))) : w.heap.size ≤ gb413)); have n5_ := Aside0.mk ((by rw [hg]; exact Nat.ne_of_lt (blk_lt (g := gb412) (o := .cells #[.bool a0_0, .int .u8 a0_1, .int .u8 a0_2, .int .u8 a0_3, .int .u8 a0_4, .int .u8 a0_5, .int .u8 a0_6, .int .u8 a0_7, .int .u8 a0_8, .int .u8 a0_9, .int .u8 a0_10, .int .u8 a0_11, .int .u8 a0_12, .int .u8 a0_13, .int .u8 a0_14, .int .u8 a0_15, .int .u8 a0_16] 25 (0, 0)) (by (with_reducible repeat (first | refine blk_drewN ?_ _ | refine blk_drew ?_ | refine blk_alloc ?_ _)); exact BK412.out)) : gb412 ≠ gb413)); have n6_ := Aside0.mk ((by rw [hg]; exact Nat.ne_of_gt (blk_lt (g := gb412) (o := .cells #[.bool a0_0, .int .u8 a0_1, .int .u8 a0_2, .int .u8 a0_3, .int .u8 a0_4, .int .u8 a0_5, .int .u8 a0_6, .int .u8 a0_7, .int .u8 a0_8, .int .u8 a0_9, .int .u8 a0_10, .int .u8 a0_11, .int .u8 a0_12, .int .u8 a0_13, .int .u8 a0_14, .int .u8 a0_15, .int .u8 a0_16] 25 (0, 0)) (by (with_reducible repeat (first | refine blk_drewN ?_ _ | refine blk_drew ?_ | refine blk_alloc ?_ _)); exact BK412.out)) : gb413 ≠ gb412)); clear BK412; clear HB; have BK412 := n0_; have HB := n1_; have BK413 := n2_; have GW413 := n3_; have GE413 := n4_; have NB412_413 := n5_; have NB413_412 := n6_; clear n0_ n1_ n2_ n3_ n4_ n5_ n6_; clear hb hbox hg))
 go_loopg [5, 6] k (fun kq v5 v6 w' => ∃ (x5_1 : Int) (x6_1 : Int), v5 = .int .u64 x5_1 ∧ v6 = .int .i64 x6_1 ∧ Aside0 (lanternref05_Tail.l0 kq a1 x5_1 x6_1 a0_0 a0_1 a0_2 a0_3 a0_4 a0_5 a0_6 a0_7 a0_8 a0_9 a0_10 a0_11 a0_12 a0_13 a0_14 a0_15 a0_16 = some (r1, r2, r3, r4, r5, r6, r7, r8, r9, r10, r11, r12, r13, r14, r15, r16, r17)) ∧ Aside0 (kq ≤ k) ∧ Aside0 (w'.heap[gb412]? = some (.cells #[.bool a0_0, .int .u8 a0_1, .int .u8 a0_2, .int .u8 a0_3, .int .u8 a0_4, .int .u8 a0_5, .int .u8 a0_6, .int .u8 a0_7, .int .u8 a0_8, .int .u8 a0_9, .int .u8 a0_10, .int .u8 a0_11, .int .u8 a0_12, .int .u8 a0_13, .int .u8 a0_14, .int .u8 a0_15, .int .u8 a0_16] 25 (0, 0))) ∧ Aside0 (w'.heap[gb413]? = some (.cells #[.bool false, .int .u8 0, .int .u8 0, .int .u8 0, .int .u8 0, .int .u8 0, .int .u8 0, .int .u8 0, .int .u8 0, .int .u8 0, .int .u8 0, .int .u8 0, .int .u8 0, .int .u8 0, .int .u8 0, .int .u8 0, .int .u8 0] 25 (0, 0))) ∧ Aside0 (Below w.heap.size w w'))
 case atStart => exact ⟨(0), (0), (by first | rfl | (simp; done) | (simp [*]; done) | (simp; exact isEmpty_bne _) | (simp; exact isEmpty_beq _)), (by first | rfl | (simp; done) | (simp [*]; done) | (simp; exact isEmpty_bne _) | (simp; exact isEmpty_beq _)), H', ⟨Nat.le_refl _⟩, ⟨by (with_reducible repeat (first | refine blk_drewN ?_ _ | refine blk_drew ?_ | refine blk_alloc ?_ _)); exact BK412.out⟩, ⟨by (with_reducible repeat (first | refine blk_drewN ?_ _ | refine blk_drew ?_ | refine blk_alloc ?_ _)); exact BK413.out⟩, ⟨by repeat (first | (with_reducible first | exact HB.out | apply below_alloc | apply pw_below_drewN | apply below_drew1 | refine below_set ?_ GE412.out | refine below_set ?_ GE413.out) | exact HB.out)⟩⟩
 case round =>
  clear H'
  try clear c2
  try clear p2
  obtain ⟨x5_1, x6_1, rfl, rfl, HA, HK1, BK412, BK413, HB⟩ := hrel
  cases gk with
  | zero => exact absurd HA.out (by simp [lanternref05_Tail.l0])
  | succ k1 =>
   have H := HA.out
   clear HA
   simp only [lanternref05_Tail.l0] at H
   by_cases c5 : x6_1 < 4
   ·rw [if_pos c5] at H
    have c5b0 : decide (x6_1 < 4) = true := decide_eq_true c5
    clear c5
    obtain ⟨ji6, hji6⟩ : ∃ j_ : Int, (wrap64 (a1 + x6_1)) = j_ := ⟨_, rfl⟩
    replace H : (if 0 ≤ (ji6) then (if (ji6) < 16 then (lanternref05_Tail.l0 k1 a1 (IntKind.u64.wrap ((IntKind.u64.wrap (x5_1 * 256)) + (IntKind.u64.wrap (rd [a0_1, a0_2, a0_3, a0_4, a0_5, a0_6, a0_7, a0_8, a0_9, a0_10, a0_11, a0_12, a0_13, a0_14, a0_15, a0_16] (ji6))))) (wrap64 (x6_1 + 1)) a0_0 a0_1 a0_2 a0_3 a0_4 a0_5 a0_6 a0_7 a0_8 a0_9 a0_10 a0_11 a0_12 a0_13 a0_14 a0_15 a0_16) else (none)) else (none)) = some (r1, r2, r3, r4, r5, r6, r7, r8, r9, r10, r11, r12, r13, r14, r15, r16, r17) := by first | (rw [hji6] at H; exact H) | (simp only [hji6] at H ⊢; exact H)
    have hji6w : (IntKind.i64.wrap (a1 + x6_1)) = ji6 := (i64_w _).trans hji6
    by_cases c7 : 0 ≤ (ji6)
    ·rw [if_pos c7] at H
     have c7b0 : decide (0 ≤ (ji6)) = true := decide_eq_true c7
     clear c7
     by_cases c8 : (ji6) < 16
     ·rw [if_pos c8] at H
      have c8b0 : decide ((ji6) < 16) = true := decide_eq_true c8
      clear c8
      have H' := Aside0.mk H
      clear H
      have par9 : (0 ≤ (ji6)) = True := eq_true (of_decide_eq_true (by first | (with_reducible assumption) | assumption))
      have qar9 : ((ji6) < 16) = True := eq_true (of_decide_eq_true (by first | (with_reducible assumption) | assumption))
      have hnb10 := NB412_413.out
      have hnc10 := NB413_412.out
      have hcz11_0 : wr.cell? ⟨gb412, 0, none⟩ = some (.bool a0_0) := (blk_cell BK412.out 0).trans rfl
      have hcz11_1 : wr.cell? ⟨gb412, 1, none⟩ = some (.int .u8 a0_1) := (blk_cell BK412.out 1).trans rfl
      have hcz11_2 : wr.cell? ⟨gb412, 2, none⟩ = some (.int .u8 a0_2) := (blk_cell BK412.out 2).trans rfl
      have hcz11_3 : wr.cell? ⟨gb412, 3, none⟩ = some (.int .u8 a0_3) := (blk_cell BK412.out 3).trans rfl
      have hcz11_4 : wr.cell? ⟨gb412, 4, none⟩ = some (.int .u8 a0_4) := (blk_cell BK412.out 4).trans rfl
      have hcz11_5 : wr.cell? ⟨gb412, 5, none⟩ = some (.int .u8 a0_5) := (blk_cell BK412.out 5).trans rfl
      have hcz11_6 : wr.cell? ⟨gb412, 6, none⟩ = some (.int .u8 a0_6) := (blk_cell BK412.out 6).trans rfl
      have hcz11_7 : wr.cell? ⟨gb412, 7, none⟩ = some (.int .u8 a0_7) := (blk_cell BK412.out 7).trans rfl
      have hcz11_8 : wr.cell? ⟨gb412, 8, none⟩ = some (.int .u8 a0_8) := (blk_cell BK412.out 8).trans rfl
      have hcz11_9 : wr.cell? ⟨gb412, 9, none⟩ = some (.int .u8 a0_9) := (blk_cell BK412.out 9).trans rfl
      have hcz11_10 : wr.cell? ⟨gb412, 10, none⟩ = some (.int .u8 a0_10) := (blk_cell BK412.out 10).trans rfl
      have hcz11_11 : wr.cell? ⟨gb412, 11, none⟩ = some (.int .u8 a0_11) := (blk_cell BK412.out 11).trans rfl
      have hcz11_12 : wr.cell? ⟨gb412, 12, none⟩ = some (.int .u8 a0_12) := (blk_cell BK412.out 12).trans rfl
      have hcz11_13 : wr.cell? ⟨gb412, 13, none⟩ = some (.int .u8 a0_13) := (blk_cell BK412.out 13).trans rfl
      have hcz11_14 : wr.cell? ⟨gb412, 14, none⟩ = some (.int .u8 a0_14) := (blk_cell BK412.out 14).trans rfl
      have hcz11_15 : wr.cell? ⟨gb412, 15, none⟩ = some (.int .u8 a0_15) := (blk_cell BK412.out 15).trans rfl
      have hcz11_16 : wr.cell? ⟨gb412, 16, none⟩ = some (.int .u8 a0_16) := (blk_cell BK412.out 16).trans rfl
      have hfz11_0 := blk_frozen BK412.out 0
      have hfz11_1 := blk_frozen BK412.out 1
      have hfz11_2 := blk_frozen BK412.out 2
      have hfz11_3 := blk_frozen BK412.out 3
      have hfz11_4 := blk_frozen BK412.out 4
      have hfz11_5 := blk_frozen BK412.out 5
      have hfz11_6 := blk_frozen BK412.out 6
      have hfz11_7 := blk_frozen BK412.out 7
      have hfz11_8 := blk_frozen BK412.out 8
      have hfz11_9 := blk_frozen BK412.out 9
      have hfz11_10 := blk_frozen BK412.out 10
      have hfz11_11 := blk_frozen BK412.out 11
      have hfz11_12 := blk_frozen BK412.out 12
      have hfz11_13 := blk_frozen BK412.out 13
      have hfz11_14 := blk_frozen BK412.out 14
      have hfz11_15 := blk_frozen BK412.out 15
      have hfz11_16 := blk_frozen BK412.out 16
      have hxar9 : wr.cell? ⟨gb412, 1 + ((ji6)).toNat, none⟩ = some (.int .u8 (rd [a0_1, a0_2, a0_3, a0_4, a0_5, a0_6, a0_7, a0_8, a0_9, a0_10, a0_11, a0_12, a0_13, a0_14, a0_15, a0_16] (ji6))) := (blk_idx BK412.out .u8 [.bool a0_0] [a0_1, a0_2, a0_3, a0_4, a0_5, a0_6, a0_7, a0_8, a0_9, a0_10, a0_11, a0_12, a0_13, a0_14, a0_15, a0_16] [] rfl (ji6) (of_decide_eq_true (by first | (with_reducible assumption) | assumption)) (of_decide_eq_true (by first | (with_reducible assumption) | assumption)) rfl)
      have hfar9 := blk_frozen BK412.out (1 + ((ji6)).toNat)
      go_wp2
      go_roundg k1
      case measure => have := HK1.out; omega
      case rel => exact ⟨(IntKind.u64.wrap ((IntKind.u64.wrap (x5_1 * 256)) + (IntKind.u64.wrap (rd [a0_1, a0_2, a0_3, a0_4, a0_5, a0_6, a0_7, a0_8, a0_9, a0_10, a0_11, a0_12, a0_13, a0_14, a0_15, a0_16] (ji6))))), (wrap64 (x6_1 + 1)), (by first | rfl | (simp; done) | (simp only [← hji6] <;> (first | rfl | simp)) | (simp [*]; done)), (by first | rfl | (simp; done) | (simp [*]; done) | (simp; exact isEmpty_bne _) | (simp; exact isEmpty_beq _)), H', ⟨by have := HK1.out; omega⟩, ⟨by (with_reducible repeat (first | refine blk_drewN ?_ _ | refine blk_drew ?_ | refine blk_alloc ?_ _)); exact BK412.out⟩, ⟨by (with_reducible repeat (first | refine blk_drewN ?_ _ | refine blk_drew ?_ | refine blk_alloc ?_ _)); exact BK413.out⟩, ⟨by repeat (first | (with_reducible first | exact HB.out | apply below_alloc | apply pw_below_drewN | apply below_drew1 | refine below_set ?_ GE412.out | refine below_set ?_ GE413.out) | exact HB.out)⟩⟩
     ·rw [if_neg c8] at H
      exact absurd H (by simp)
    ·rw [if_neg c7] at H
     exact absurd H (by simp)
   ·rw [if_neg c5] at H
    have c5b0 : decide (x6_1 < 4) = false := decide_eq_false c5
    clear c5
    replace H := Option.bind_eq_some_iff.mp H
    obtain ⟨⟨t415, t416, t417, t418, t419, t420, t421, t422, t423, t424, t425, t426, t427, t428, t429, t430, t431⟩, A120, H⟩ := H
    replace H : (some (t415, t416, t417, t418, t419, t420, t421, t422, t423, t424, t425, t426, t427, t428, t429, t430, t431)) = some (r1, r2, r3, r4, r5, r6, r7, r8, r9, r10, r11, r12, r13, r14, r15, r16, r17) := H
    have A12 := Aside0.mk A120
    clear A120
    simp only [Option.some.injEq, Prod.mk.injEq] at H
    obtain ⟨rfl, rfl, rfl, rfl, rfl, rfl, rfl, rfl, rfl, rfl, rfl, rfl, rfl, rfl, rfl, rfl, rfl⟩ := H
    go_wp2_with (first | ((with_reducible refine gate_callee (f := 16) rfl ?_); refine goesL_ (some 22) rfl rfl Tryd.func16 (by kernel_rfl) rfl #[.int .u64 x5_1] rfl (by (try simp only [List.map_toArray, List.map_cons, List.map_nil]); first | done | rfl | (simp only [List.length_drop, List.length_take]; rfl)) ?_; (with_reducible refine (lanternref05_V4.calls k1 x5_1 t415 t416 t417 t418 t419 t420 t421 t422 t423 t424 t425 t426 t427 t428 t429 t430 t431 _ ?side1 A12.out).mono ?_); (case side1 => exact LW.below HLW.out (by repeat (first | (with_reducible first | exact HB.out | apply below_alloc | apply pw_below_drewN | apply below_drew1 | refine below_set ?_ GE412.out | refine below_set ?_ GE413.out) | exact HB.out))); rintro e w13 ⟨rfl, hb⟩; refine ⟨_, rfl, ?_⟩; have n0_ := Aside0.mk (blk_below (g := gb412) (o := .cells #[.bool a0_0, .int .u8 a0_1, .int .u8 a0_2, .int .u8 a0_3, .int .u8 a0_4, .int .u8 a0_5, .int .u8 a0_6, .int .u8 a0_7, .int .u8 a0_8, .int .u8 a0_9, .int .u8 a0_10, .int .u8 a0_11, .int .u8 a0_12, .int .u8 a0_13, .int .u8 a0_14, .int .u8 a0_15, .int .u8 a0_16] 25 (0, 0)) (by (with_reducible repeat (first | refine blk_drewN ?_ _ | refine blk_drew ?_ | refine blk_alloc ?_ _)); exact BK412.out) hb); have n1_ := Aside0.mk (blk_below (g := gb413) (o := .cells #[.bool false, .int .u8 0, .int .u8 0, .int .u8 0, .int .u8 0, .int .u8 0, .int .u8 0, .int .u8 0, .int .u8 0, .int .u8 0, .int .u8 0, .int .u8 0, .int .u8 0, .int .u8 0, .int .u8 0, .int .u8 0, .int .u8 0] 25 (0, 0)) (by (with_reducible repeat (first | refine blk_drewN ?_ _ | refine blk_drew ?_ | refine blk_alloc ?_ _)); exact BK413.out) hb); have n2_ := Aside0.mk (below_step (by repeat (first | (with_reducible first | exact HB.out | apply below_alloc | apply pw_below_drewN | apply below_drew1 | refine below_set ?_ GE412.out | refine below_set ?_ GE413.out) | exact HB.out)) hb); clear BK412; clear BK413; clear HB; have BK412 := n0_; have BK413 := n1_; have HB := n2_; clear n0_ n1_ n2_; (try clear hb); (try clear hb2); (try clear hk); (try clear hi); have hnb14 := NB413_412.out; have hnc14 := NB412_413.out; have hcz15_0 : w13.cell? ⟨gb413, 0, none⟩ = some (.bool false) := (blk_cell BK413.out 0).trans rfl; have hcz15_1 : w13.cell? ⟨gb413, 1, none⟩ = some (.int .u8 0) := (blk_cell BK413.out 1).trans rfl; have hcz15_2 : w13.cell? ⟨gb413, 2, none⟩ = some (.int .u8 0) := (blk_cell BK413.out 2).trans rfl; have hcz15_3 : w13.cell? ⟨gb413, 3, none⟩ = some (.int .u8 0) := (blk_cell BK413.out 3).trans rfl; have hcz15_4 : w13.cell? ⟨gb413, 4, none⟩ = some (.int .u8 0) := (blk_cell BK413.out 4).trans rfl; have hcz15_5 : w13.cell? ⟨gb413, 5, none⟩ = some (.int .u8 0) := (blk_cell BK413.out 5).trans rfl; have hcz15_6 : w13.cell? ⟨gb413, 6, none⟩ = some (.int .u8 0) := (blk_cell BK413.out 6).trans rfl; have hcz15_7 : w13.cell? ⟨gb413, 7, none⟩ = some (.int .u8 0) := (blk_cell BK413.out 7).trans rfl; have hcz15_8 : w13.cell? ⟨gb413, 8, none⟩ = some (.int .u8 0) := (blk_cell BK413.out 8).trans rfl; have hcz15_9 : w13.cell? ⟨gb413, 9, none⟩ = some (.int .u8 0) := (blk_cell BK413.out 9).trans rfl; have hcz15_10 : w13.cell? ⟨gb413, 10, none⟩ = some (.int .u8 0) := (blk_cell BK413.out 10).trans rfl; have hcz15_11 : w13.cell? ⟨gb413, 11, none⟩ = some (.int .u8 0) := (blk_cell BK413.out 11).trans rfl; have hcz15_12 : w13.cell? ⟨gb413, 12, none⟩ = some (.int .u8 0) := (blk_cell BK413.out 12).trans rfl; have hcz15_13 : w13.cell? ⟨gb413, 13, none⟩ = some (.int .u8 0) := (blk_cell BK413.out 13).trans rfl; have hcz15_14 : w13.cell? ⟨gb413, 14, none⟩ = some (.int .u8 0) := (blk_cell BK413.out 14).trans rfl; have hcz15_15 : w13.cell? ⟨gb413, 15, none⟩ = some (.int .u8 0) := (blk_cell BK413.out 15).trans rfl; have hcz15_16 : w13.cell? ⟨gb413, 16, none⟩ = some (.int .u8 0) := (blk_cell BK413.out 16).trans rfl; have hfz15_0 := blk_frozen BK413.out 0; have hfz15_1 := blk_frozen BK413.out 1; have hfz15_2 := blk_frozen BK413.out 2; have hfz15_3 := blk_frozen BK413.out 3; have hfz15_4 := blk_frozen BK413.out 4; have hfz15_5 := blk_frozen BK413.out 5; have hfz15_6 := blk_frozen BK413.out 6; have hfz15_7 := blk_frozen BK413.out 7; have hfz15_8 := blk_frozen BK413.out 8; have hfz15_9 := blk_frozen BK413.out 9; have hfz15_10 := blk_frozen BK413.out 10; have hfz15_11 := blk_frozen BK413.out 11; have hfz15_12 := blk_frozen BK413.out 12; have hfz15_13 := blk_frozen BK413.out 13; have hfz15_14 := blk_frozen BK413.out 14; have hfz15_15 := blk_frozen BK413.out 15; have hfz15_16 := blk_frozen BK413.out 16) | ((with_reducible refine gate_store (t := 25) (p := 4) rfl ?_); refine store_all ?hg 25 4 _ rfl rfl gb413 [.bool false, .int .u8 0, .int .u8 0, .int .u8 0, .int .u8 0, .int .u8 0, .int .u8 0, .int .u8 0, .int .u8 0, .int .u8 0, .int .u8 0, .int .u8 0, .int .u8 0, .int .u8 0, .int .u8 0, .int .u8 0, .int .u8 0] [.bool t415, .int .u8 t416, .int .u8 t417, .int .u8 t418, .int .u8 t419, .int .u8 t420, .int .u8 t421, .int .u8 t422, .int .u8 t423, .int .u8 t424, .int .u8 t425, .int .u8 t426, .int .u8 t427, .int .u8 t428, .int .u8 t429, .int .u8 t430, .int .u8 t431] BK413.out rfl rfl rfl (by kernel_rfl) rfl ?_; (case hg => rfl); intro w16 hw; have n0_ : Aside0 (w16.heap[gb412]? = some (.cells #[.bool a0_0, .int .u8 a0_1, .int .u8 a0_2, .int .u8 a0_3, .int .u8 a0_4, .int .u8 a0_5, .int .u8 a0_6, .int .u8 a0_7, .int .u8 a0_8, .int .u8 a0_9, .int .u8 a0_10, .int .u8 a0_11, .int .u8 a0_12, .int .u8 a0_13, .int .u8 a0_14, .int .u8 a0_15, .int .u8 a0_16] 25 (0, 0))) := ⟨(by rw [hw]; exact (by (with_reducible repeat (first | refine blk_drewN ?_ _ | refine blk_drew ?_ | refine blk_alloc ?_ _)); refine blk_farC NB412_413.out _ _ ?_; (with_reducible repeat (first | refine blk_drewN ?_ _ | refine blk_drew ?_ | refine blk_alloc ?_ _)); exact BK412.out))⟩; have n1_ : Aside0 (w16.heap[gb413]? = some (.cells #[.bool t415, .int .u8 t416, .int .u8 t417, .int .u8 t418, .int .u8 t419, .int .u8 t420, .int .u8 t421, .int .u8 t422, .int .u8 t423, .int .u8 t424, .int .u8 t425, .int .u8 t426, .int .u8 t427, .int .u8 t428, .int .u8 t429, .int .u8 t430, .int .u8 t431] 25 (0, 0))) := ⟨(by rw [hw]; exact (by (with_reducible repeat (first | refine blk_drewN ?_ _ | refine blk_drew ?_ | refine blk_alloc ?_ _)); refine blk_part [.bool t415, .int .u8 t416, .int .u8 t417, .int .u8 t418, .int .u8 t419, .int .u8 t420, .int .u8 t421, .int .u8 t422, .int .u8 t423, .int .u8 t424, .int .u8 t425, .int .u8 t426, .int .u8 t427, .int .u8 t428, .int .u8 t429, .int .u8 t430, .int .u8 t431] [.bool false, .int .u8 0, .int .u8 0, .int .u8 0, .int .u8 0, .int .u8 0, .int .u8 0, .int .u8 0, .int .u8 0, .int .u8 0, .int .u8 0, .int .u8 0, .int .u8 0, .int .u8 0, .int .u8 0, .int .u8 0, .int .u8 0] [] [] (cs := #[.bool false, .int .u8 0, .int .u8 0, .int .u8 0, .int .u8 0, .int .u8 0, .int .u8 0, .int .u8 0, .int .u8 0, .int .u8 0, .int .u8 0, .int .u8 0, .int .u8 0, .int .u8 0, .int .u8 0, .int .u8 0, .int .u8 0]) ?_ rfl rfl rfl; (with_reducible repeat (first | refine blk_drewN ?_ _ | refine blk_drew ?_ | refine blk_alloc ?_ _)); exact BK413.out))⟩; have n2_ : Aside0 (Below w.heap.size w w16) := ⟨(by rw [hw]; exact (by repeat (first | (with_reducible first | exact HB.out | apply below_alloc | apply pw_below_drewN | apply below_drew1 | refine below_set ?_ GE412.out | refine below_set ?_ GE413.out | refine below_setC GE412.out _ _ ?_ | refine below_setC GE413.out _ _ ?_) | exact HB.out)))⟩; clear hw; clear BK412; clear BK413; clear HB; have BK412 := n0_; have BK413 := n1_; have HB := n2_; clear n0_ n1_ n2_))
    refine bodyPost_ret (results_cell_row rfl _ _ gb413 25 #[.bool t415, .int .u8 t416, .int .u8 t417, .int .u8 t418, .int .u8 t419, .int .u8 t420, .int .u8 t421, .int .u8 t422, .int .u8 t423, .int .u8 t424, .int .u8 t425, .int .u8 t426, .int .u8 t427, .int .u8 t428, .int .u8 t429, .int .u8 t430, .int .u8 t431] (0, 0) _ rfl (by (with_reducible repeat (first | refine blk_drewN ?_ _ | refine blk_drew ?_ | refine blk_alloc ?_ _)); exact BK413.out) Tryd.underlying25 rfl (by kernel_rfl)) rfl ?_
    exact ⟨by first | rfl | (simp [errW_none, errW_some] <;> rfl) | (simp [*, errW_none, errW_some] <;> rfl) | (simp [errW_none, errW_some]; first | exact isEmpty_bne _ | exact isEmpty_beq _ | exact (isEmpty_bne _).symm), by repeat (first | (with_reducible first | exact HB.out | apply below_alloc | apply pw_below_drewN | apply below_drew1 | refine below_set ?_ GE412.out | refine below_set ?_ GE413.out) | exact HB.out)⟩

end Go.Proofs.YtfiefecjcmcejaaDoor.P
