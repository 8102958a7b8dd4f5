-- Written by a program of this session (wip/gen/lprint.py over the kit's print.py) out of the translation. Lean checks it.
import Derived.Test.YtfiefecjcmcejaaDoorP0
namespace Go.Proofs.YtfiefecjcmcejaaDoor.P
open Go.Proofs.YtfiefecjcmcejaaDoor.E Go.Proofs.YtfiefecjcmcejaaDoorV
open Go.RowKit Go.Proofs.YtfiefecjcmcejaaDoorW.PrintWords Go.Proofs.YtfiefecjcmcejaaDoorW.PrintLast Go.Proofs.YtfiefecjcmcejaaDoorW.PrintMore
attribute [local go_sem] max2_int min2_int max_two min_two max_three min_three max_four min_four   -- for this text's walks alone
set_option linter.unusedVariables false
set_option linter.unusedSimpArgs false

mutual
def lanternref05_May.l0 : Nat → Int → Bool → Int → Int → Int → Int → Int → Int → Int → Int → Int → Int → Int → Int → Int → Int → Int → Int → Option (Bool)
 | 0, _, _, _, _, _, _, _, _, _, _, _, _, _, _, _, _, _, _ => none
 | k + 1, x3, x324000, x324001, x324002, x324003, x324004, x324005, x324006, x324007, x324008, x324009, x324010, x324011, x324012, x324013, x324014, x324015, x324016 => if x3 < 12 then (lanternref05_May.j1 k x3 (!x324000) x324000 x324001 x324002 x324003 x324004 x324005 x324006 x324007 x324008 x324009 x324010 x324011 x324012 x324013 x324014 x324015 x324016) else (lanternref05_May.j1 k x3 false x324000 x324001 x324002 x324003 x324004 x324005 x324006 x324007 x324008 x324009 x324010 x324011 x324012 x324013 x324014 x324015 x324016)
def lanternref05_May.j1 : Nat → Int → Bool → Bool → Int → Int → Int → Int → Int → Int → Int → Int → Int → Int → Int → Int → Int → Int → Int → Int → Option (Bool)
 | 0, _, _, _, _, _, _, _, _, _, _, _, _, _, _, _, _, _, _, _ => none
 | k + 1, x3, x10, x324000, x324001, x324002, x324003, x324004, x324005, x324006, x324007, x324008, x324009, x324010, x324011, x324012, x324013, x324014, x324015, x324016 => if x10 = true then (if 0 ≤ x3 then (if x3 < 16 then (if (rd [x324001, x324002, x324003, x324004, x324005, x324006, x324007, x324008, x324009, x324010, x324011, x324012, x324013, x324014, x324015, x324016] x3) = 0 then (lanternref05_May.l0 k (wrap64 (x3 + 1)) x324000 x324001 x324002 x324003 x324004 x324005 x324006 x324007 x324008 x324009 x324010 x324011 x324012 x324013 x324014 x324015 x324016) else (some false)) else (none)) else (none)) else (some true)
end
def lanternref05_May.f (k : Nat) (a0_0 : Bool) (a0_1 : Int) (a0_2 : Int) (a0_3 : Int) (a0_4 : Int) (a0_5 : Int) (a0_6 : Int) (a0_7 : Int) (a0_8 : Int) (a0_9 : Int) (a0_10 : Int) (a0_11 : Int) (a0_12 : Int) (a0_13 : Int) (a0_14 : Int) (a0_15 : Int) (a0_16 : Int) : Option (Bool) := lanternref05_May.l0 k 0 a0_0 a0_1 a0_2 a0_3 a0_4 a0_5 a0_6 a0_7 a0_8 a0_9 a0_10 a0_11 a0_12 a0_13 a0_14 a0_15 a0_16
theorem lanternref05_May.mono_l : ∀ k, (∀ y0 y1 y2 y3 y4 y5 y6 y7 y8 y9 y10 y11 y12 y13 y14 y15 y16 y17, LeO (lanternref05_May.l0 k y0 y1 y2 y3 y4 y5 y6 y7 y8 y9 y10 y11 y12 y13 y14 y15 y16 y17) (lanternref05_May.l0 (k + 1) y0 y1 y2 y3 y4 y5 y6 y7 y8 y9 y10 y11 y12 y13 y14 y15 y16 y17)) ∧ (∀ y0 y1 y2 y3 y4 y5 y6 y7 y8 y9 y10 y11 y12 y13 y14 y15 y16 y17 y18, LeO (lanternref05_May.j1 k y0 y1 y2 y3 y4 y5 y6 y7 y8 y9 y10 y11 y12 y13 y14 y15 y16 y17 y18) (lanternref05_May.j1 (k + 1) y0 y1 y2 y3 y4 y5 y6 y7 y8 y9 y10 y11 y12 y13 y14 y15 y16 y17 y18))
 | 0 => ⟨fun _ _ _ _ _ _ _ _ _ _ _ _ _ _ _ _ _ _ r h => by simp [lanternref05_May.l0] at h, fun _ _ _ _ _ _ _ _ _ _ _ _ _ _ _ _ _ _ _ r h => by simp [lanternref05_May.j1] at h⟩
 | k + 1 => by
  obtain ⟨ih0, ih1⟩ := lanternref05_May.mono_l k
  refine ⟨?_, ?_⟩
  ·intro y0 y1 y2 y3 y4 y5 y6 y7 y8 y9 y10 y11 y12 y13 y14 y15 y16 y17
   unfold lanternref05_May.l0
   repeat' first
   | (with_reducible exact ih0 _ _ _ _ _ _ _ _ _ _ _ _ _ _ _ _ _ _)
   | (with_reducible exact ih1 _ _ _ _ _ _ _ _ _ _ _ _ _ _ _ _ _ _ _)
   | (with_reducible exact LeO.refl _)
   | (with_reducible exact LeO.none _)
   | (with_reducible refine LeO.ite ?_ ?_)
   | (with_reducible refine LeO.bind ?_ (fun _ => ?_))
   | exact ih0 _ _ _ _ _ _ _ _ _ _ _ _ _ _ _ _ _ _
   | exact ih1 _ _ _ _ _ _ _ _ _ _ _ _ _ _ _ _ _ _ _
   | exact LeO.none _
   | refine LeO.ite ?_ ?_
   | refine LeO.bind ?_ (fun _ => ?_)
  ·intro y0 y1 y2 y3 y4 y5 y6 y7 y8 y9 y10 y11 y12 y13 y14 y15 y16 y17 y18
   unfold lanternref05_May.j1
   repeat' first
   | (with_reducible exact ih0 _ _ _ _ _ _ _ _ _ _ _ _ _ _ _ _ _ _)
   | (with_reducible exact ih1 _ _ _ _ _ _ _ _ _ _ _ _ _ _ _ _ _ _ _)
   | (with_reducible exact LeO.refl _)
   | (with_reducible exact LeO.none _)
   | (with_reducible refine LeO.ite ?_ ?_)
   | (with_reducible refine LeO.bind ?_ (fun _ => ?_))
   | exact ih0 _ _ _ _ _ _ _ _ _ _ _ _ _ _ _ _ _ _
   | exact ih1 _ _ _ _ _ _ _ _ _ _ _ _ _ _ _ _ _ _ _
   | exact LeO.none _
   | refine LeO.ite ?_ ?_
   | refine LeO.bind ?_ (fun _ => ?_)
theorem lanternref05_May.mono : ∀ a0 a1 a2 a3 a4 a5 a6 a7 a8 a9 a10 a11 a12 a13 a14 a15 a16 k, LeO (lanternref05_May.f k a0 a1 a2 a3 a4 a5 a6 a7 a8 a9 a10 a11 a12 a13 a14 a15 a16) (lanternref05_May.f (k + 1) a0 a1 a2 a3 a4 a5 a6 a7 a8 a9 a10 a11 a12 a13 a14 a15 a16) := by
 intro a0 a1 a2 a3 a4 a5 a6 a7 a8 a9 a10 a11 a12 a13 a14 a15 a16 k
 obtain ⟨ih0, ih1⟩ := lanternref05_May.mono_l k
 unfold lanternref05_May.f
 repeat' first
   | (with_reducible exact ih0 _ _ _ _ _ _ _ _ _ _ _ _ _ _ _ _ _ _)
   | (with_reducible exact ih1 _ _ _ _ _ _ _ _ _ _ _ _ _ _ _ _ _ _ _)
   | (with_reducible exact LeO.refl _)
   | (with_reducible exact LeO.none _)
   | (with_reducible refine LeO.ite ?_ ?_)
   | (with_reducible refine LeO.bind ?_ (fun _ => ?_))
   | exact ih0 _ _ _ _ _ _ _ _ _ _ _ _ _ _ _ _ _ _
   | exact ih1 _ _ _ _ _ _ _ _ _ _ _ _ _ _ _ _ _ _ _
   | exact LeO.none _
   | refine LeO.ite ?_ ?_
   | refine LeO.bind ?_ (fun _ => ?_)
set_option maxHeartbeats 8000000 in
set_option maxRecDepth 100000 in
theorem lanternref05_May.calls (k : Nat) (a0_0 : Bool) (a0_1 : Int) (a0_2 : Int) (a0_3 : Int) (a0_4 : Int) (a0_5 : Int) (a0_6 : Int) (a0_7 : Int) (a0_8 : Int) (a0_9 : Int) (a0_10 : Int) (a0_11 : Int) (a0_12 : Int) (a0_13 : Int) (a0_14 : Int) (a0_15 : Int) (a0_16 : Int) (r : Bool) (w : World) (hLW : LW w) (h : lanternref05_May.f k a0_0 a0_1 a0_2 a0_3 a0_4 a0_5 a0_6 a0_7 a0_8 a0_9 a0_10 a0_11 a0_12 a0_13 a0_14 a0_15 a0_16 = some r) :
  Calls Tryd.prog 12 #[.agg #[.bool a0_0, .int .u8 a0_1, .int .u8 a0_2, .int .u8 a0_3, .int .u8 a0_4, .int .u8 a0_5, .int .u8 a0_6, .int .u8 a0_7, .int .u8 a0_8, .int .u8 a0_9, .int .u8 a0_10, .int .u8 a0_11, .int .u8 a0_12, .int .u8 a0_13, .int .u8 a0_14, .int .u8 a0_15, .int .u8 a0_16]] w fun e w' => e = .returned (.bool r) ∧ Below w.heap.size w w' := by
 have hu25 := Tryd.underlying25
 have HLW := Aside0.mk hLW
 clear hLW
 have HB := Aside0.mk (Below.refl w.heap.size w)
 have H : (lanternref05_May.l0 k 0 a0_0 a0_1 a0_2 a0_3 a0_4 a0_5 a0_6 a0_7 a0_8 a0_9 a0_10 a0_11 a0_12 a0_13 a0_14 a0_15 a0_16) = some r := h
 clear h
 have H' := Aside0.mk H
 clear H
 go_enter Tryd.func12, Tryd.ntmps12
 go_wp2_with (first | ((with_reducible refine gate_dst (N := 1) rfl ?_); refine box_event ?hg (N := 1) ?hd (cs := #[.bool a0_0, .int .u8 a0_1, .int .u8 a0_2, .int .u8 a0_3, .int .u8 a0_4, .int .u8 a0_5, .int .u8 a0_6, .int .u8 a0_7, .int .u8 a0_8, .int .u8 a0_9, .int .u8 a0_10, .int .u8 a0_11, .int .u8 a0_12, .int .u8 a0_13, .int .u8 a0_14, .int .u8 a0_15, .int .u8 a0_16]) (t := 25) ?hr ?_; (case hd => rfl); (case hg => rfl); (case hr => first | (go_simp; done) | (go_simp; rfl)); intro gb323 hg w2 hbox hb; have n0_ := Aside0.mk (below_step (by repeat (first | (with_reducible first | exact HB.out | apply below_alloc | apply pw_below_drewN | apply below_drew1) | exact HB.out)) hb); have n1_ := Aside0.mk (hbox); have n2_ := Aside0.mk ((by rw [hg]; exact (below_size (by repeat (first | (with_reducible first | exact HB.out | apply below_alloc | apply pw_below_drewN | apply below_drew1) | exact HB.out))) : w.heap.size ≤ gb323)); have n3_ := Aside0.mk ((by rw [hg]; exact (below_size (by repeat (first | (with_reducible first | exact HB.out | apply below_alloc | apply pw_below_drewN | apply below_drew1) | exact HB.out))) : w.heap.size ≤ gb323)); clear HB; have HB := n0_; have BK323 := n1_; have GW323 := n2_; have GE323 := n3_; clear n0_ n1_ n2_ n3_; clear hb hbox hg))
 go_loopg [3] k (fun kq v3 w' => ∃ (x3_1 : Int), v3 = .int .i64 x3_1 ∧ Aside0 (lanternref05_May.l0 kq x3_1 a0_0 a0_1 a0_2 a0_3 a0_4 a0_5 a0_6 a0_7 a0_8 a0_9 a0_10 a0_11 a0_12 a0_13 a0_14 a0_15 a0_16 = some r) ∧ Aside0 (kq ≤ k) ∧ Aside0 (w'.heap[gb323]? = some (.cells #[.bool a0_0, .int .u8 a0_1, .int .u8 a0_2, .int .u8 a0_3, .int .u8 a0_4, .int .u8 a0_5, .int .u8 a0_6, .int .u8 a0_7, .int .u8 a0_8, .int .u8 a0_9, .int .u8 a0_10, .int .u8 a0_11, .int .u8 a0_12, .int .u8 a0_13, .int .u8 a0_14, .int .u8 a0_15, .int .u8 a0_16] 25 (0, 0))) ∧ Aside0 (Below w.heap.size w w'))
 case atStart => exact ⟨(0), (by first | rfl | (simp; done) | (simp [*]; done) | (simp; exact isEmpty_bne _) | (simp; exact isEmpty_beq _)), H', ⟨Nat.le_refl _⟩, ⟨by (with_reducible repeat (first | refine blk_drewN ?_ _ | refine blk_drew ?_ | refine blk_alloc ?_ _)); exact BK323.out⟩, ⟨by repeat (first | (with_reducible first | exact HB.out | apply below_alloc | apply pw_below_drewN | apply below_drew1 | refine below_set ?_ GE323.out) | exact HB.out)⟩⟩
 case round =>
  clear H'
  try clear c1
  try clear p2
  obtain ⟨x3_1, rfl, HA, HK1, BK323, HB⟩ := hrel
  cases gk with
  | zero => exact absurd HA.out (by simp [lanternref05_May.l0])
  | succ k1 =>
   have H := HA.out
   clear HA
   simp only [lanternref05_May.l0] at H
   have HC3 := Aside0.mk H
   clear H
   go_upto_region 2 with (fail)
   go_cut [10] (fun v10 wc => ∃ (kq : Nat) (x10_2 : Bool), v10 = .bool x10_2 ∧ Aside0 (lanternref05_May.j1 kq x3_1 x10_2 a0_0 a0_1 a0_2 a0_3 a0_4 a0_5 a0_6 a0_7 a0_8 a0_9 a0_10 a0_11 a0_12 a0_13 a0_14 a0_15 a0_16 = some r) ∧ Aside0 (kq ≤ k1) ∧ Aside0 (wc.heap[gb323]? = some (.cells #[.bool a0_0, .int .u8 a0_1, .int .u8 a0_2, .int .u8 a0_3, .int .u8 a0_4, .int .u8 a0_5, .int .u8 a0_6, .int .u8 a0_7, .int .u8 a0_8, .int .u8 a0_9, .int .u8 a0_10, .int .u8 a0_11, .int .u8 a0_12, .int .u8 a0_13, .int .u8 a0_14, .int .u8 a0_15, .int .u8 a0_16] 25 (0, 0))) ∧ Aside0 (Below w.heap.size w wc))
   case first =>
    have H := HC3.out
    clear HC3
    by_cases c4 : x3_1 < 12
    ·rw [if_pos c4] at H
     have c4b0 : decide (x3_1 < 12) = true := decide_eq_true c4
     clear c4
     (first | rw [c4b0] | (simp only [i64_w, i32_w]; rw [c4b0]) | skip)
     have H' := Aside0.mk H
     clear H
     have hcz5_0 : wr.cell? ⟨gb323, 0, none⟩ = some (.bool a0_0) := (blk_cell BK323.out 0).trans rfl
     have hcz5_1 : wr.cell? ⟨gb323, 1, none⟩ = some (.int .u8 a0_1) := (blk_cell BK323.out 1).trans rfl
     have hcz5_2 : wr.cell? ⟨gb323, 2, none⟩ = some (.int .u8 a0_2) := (blk_cell BK323.out 2).trans rfl
     have hcz5_3 : wr.cell? ⟨gb323, 3, none⟩ = some (.int .u8 a0_3) := (blk_cell BK323.out 3).trans rfl
     have hcz5_4 : wr.cell? ⟨gb323, 4, none⟩ = some (.int .u8 a0_4) := (blk_cell BK323.out 4).trans rfl
     have hcz5_5 : wr.cell? ⟨gb323, 5, none⟩ = some (.int .u8 a0_5) := (blk_cell BK323.out 5).trans rfl
     have hcz5_6 : wr.cell? ⟨gb323, 6, none⟩ = some (.int .u8 a0_6) := (blk_cell BK323.out 6).trans rfl
     have hcz5_7 : wr.cell? ⟨gb323, 7, none⟩ = some (.int .u8 a0_7) := (blk_cell BK323.out 7).trans rfl
     have hcz5_8 : wr.cell? ⟨gb323, 8, none⟩ = some (.int .u8 a0_8) := (blk_cell BK323.out 8).trans rfl
     have hcz5_9 : wr.cell? ⟨gb323, 9, none⟩ = some (.int .u8 a0_9) := (blk_cell BK323.out 9).trans rfl
     have hcz5_10 : wr.cell? ⟨gb323, 10, none⟩ = some (.int .u8 a0_10) := (blk_cell BK323.out 10).trans rfl
     have hcz5_11 : wr.cell? ⟨gb323, 11, none⟩ = some (.int .u8 a0_11) := (blk_cell BK323.out 11).trans rfl
     have hcz5_12 : wr.cell? ⟨gb323, 12, none⟩ = some (.int .u8 a0_12) := (blk_cell BK323.out 12).trans rfl
     have hcz5_13 : wr.cell? ⟨gb323, 13, none⟩ = some (.int .u8 a0_13) := (blk_cell BK323.out 13).trans rfl
     have hcz5_14 : wr.cell? ⟨gb323, 14, none⟩ = some (.int .u8 a0_14) := (blk_cell BK323.out 14).trans rfl
     have hcz5_15 : wr.cell? ⟨gb323, 15, none⟩ = some (.int .u8 a0_15) := (blk_cell BK323.out 15).trans rfl
     have hcz5_16 : wr.cell? ⟨gb323, 16, none⟩ = some (.int .u8 a0_16) := (blk_cell BK323.out 16).trans rfl
     have hfz5_0 := blk_frozen BK323.out 0
     have hfz5_1 := blk_frozen BK323.out 1
     have hfz5_2 := blk_frozen BK323.out 2
     have hfz5_3 := blk_frozen BK323.out 3
     have hfz5_4 := blk_frozen BK323.out 4
     have hfz5_5 := blk_frozen BK323.out 5
     have hfz5_6 := blk_frozen BK323.out 6
     have hfz5_7 := blk_frozen BK323.out 7
     have hfz5_8 := blk_frozen BK323.out 8
     have hfz5_9 := blk_frozen BK323.out 9
     have hfz5_10 := blk_frozen BK323.out 10
     have hfz5_11 := blk_frozen BK323.out 11
     have hfz5_12 := blk_frozen BK323.out 12
     have hfz5_13 := blk_frozen BK323.out 13
     have hfz5_14 := blk_frozen BK323.out 14
     have hfz5_15 := blk_frozen BK323.out 15
     have hfz5_16 := blk_frozen BK323.out 16
     go_wp2
     go_meet
     case rel => exact ⟨_, (!a0_0), (by first | rfl | (simp; done) | (simp [*]; done) | (simp; exact isEmpty_bne _) | (simp; exact isEmpty_beq _)), H', ⟨by have := HK1.out; first | omega | exact Nat.le_refl _⟩, ⟨by (with_reducible repeat (first | refine blk_drewN ?_ _ | refine blk_drew ?_ | refine blk_alloc ?_ _)); exact BK323.out⟩, ⟨by repeat (first | (with_reducible first | exact HB.out | apply below_alloc | apply pw_below_drewN | apply below_drew1 | refine below_set ?_ GE323.out) | exact HB.out)⟩⟩
    ·rw [if_neg c4] at H
     have c4b0 : decide (x3_1 < 12) = false := decide_eq_false c4
     clear c4
     (first | rw [c4b0] | (simp only [i64_w, i32_w]; rw [c4b0]) | skip)
     have H' := Aside0.mk H
     clear H
     go_wp2
     go_meet
     case rel => exact ⟨_, (false), (by first | rfl | (simp; done) | (simp [*]; done) | (simp; exact isEmpty_bne _) | (simp; exact isEmpty_beq _)), H', ⟨by have := HK1.out; first | omega | exact Nat.le_refl _⟩, ⟨by (with_reducible repeat (first | refine blk_drewN ?_ _ | refine blk_drew ?_ | refine blk_alloc ?_ _)); exact BK323.out⟩, ⟨by repeat (first | (with_reducible first | exact HB.out | apply below_alloc | apply pw_below_drewN | apply below_drew1 | refine below_set ?_ GE323.out) | exact HB.out)⟩⟩
   case rest =>
    clear HC3
    try clear c1
    try clear p2
    try clear c4
    try clear c4b0
    try clear hcz5_0
    try clear hcz5_1
    try clear hcz5_10
    try clear hcz5_11
    try clear hcz5_12
    try clear hcz5_13
    try clear hcz5_14
    try clear hcz5_15
    try clear hcz5_16
    try clear hcz5_2
    try clear hcz5_3
    try clear hcz5_4
    try clear hcz5_5
    try clear hcz5_6
    try clear hcz5_7
    try clear hcz5_8
    try clear hcz5_9
    try clear hfz5_0
    try clear hfz5_1
    try clear hfz5_10
    try clear hfz5_11
    try clear hfz5_12
    try clear hfz5_13
    try clear hfz5_14
    try clear hfz5_15
    try clear hfz5_16
    try clear hfz5_2
    try clear hfz5_3
    try clear hfz5_4
    try clear hfz5_5
    try clear hfz5_6
    try clear hfz5_7
    try clear hfz5_8
    try clear hfz5_9
    try clear p2
    obtain ⟨kq, x10_2, rfl, HA, HJ2, BK323, HB⟩ := hcut
    cases kq with
    | zero => exact absurd HA.out (by simp [lanternref05_May.j1])
    | succ kj2 =>
     have H := HA.out
     clear HA
     simp only [lanternref05_May.j1] at H
     by_cases c6 : x10_2 = true
     ·subst c6
      have H1 : (if 0 ≤ x3_1 then (if x3_1 < 16 then (if (rd [a0_1, a0_2, a0_3, a0_4, a0_5, a0_6, a0_7, a0_8, a0_9, a0_10, a0_11, a0_12, a0_13, a0_14, a0_15, a0_16] x3_1) = 0 then (lanternref05_May.l0 kj2 (wrap64 (x3_1 + 1)) a0_0 a0_1 a0_2 a0_3 a0_4 a0_5 a0_6 a0_7 a0_8 a0_9 a0_10 a0_11 a0_12 a0_13 a0_14 a0_15 a0_16) else (some false)) else (none)) else (none)) = some r := by rw [if_pos rfl] at H; exact H
      clear H
      have H := H1
      clear H1
      by_cases c7 : 0 ≤ x3_1
      ·rw [if_pos c7] at H
       have c7b0 : decide (0 ≤ x3_1) = true := decide_eq_true c7
       clear c7
       by_cases c8 : x3_1 < 16
       ·rw [if_pos c8] at H
        have c8b0 : decide (x3_1 < 16) = true := decide_eq_true c8
        clear c8
        by_cases c9 : (rd [a0_1, a0_2, a0_3, a0_4, a0_5, a0_6, a0_7, a0_8, a0_9, a0_10, a0_11, a0_12, a0_13, a0_14, a0_15, a0_16] x3_1) = 0
        ·rw [if_pos c9] at H
         have c9b0 : ((rd [a0_1, a0_2, a0_3, a0_4, a0_5, a0_6, a0_7, a0_8, a0_9, a0_10, a0_11, a0_12, a0_13, a0_14, a0_15, a0_16] x3_1) == 0) = true := beq_iff_eq.mpr c9
         have c9b1 : ((rd [a0_1, a0_2, a0_3, a0_4, a0_5, a0_6, a0_7, a0_8, a0_9, a0_10, a0_11, a0_12, a0_13, a0_14, a0_15, a0_16] x3_1) != 0) = false := bne_eq_false_iff_eq.mpr c9
         clear c9
         have H' := Aside0.mk H
         clear H
         have par10 : (0 ≤ x3_1) = True := eq_true (of_decide_eq_true (by first | (with_reducible assumption) | assumption))
         have qar10 : (x3_1 < 16) = True := eq_true (of_decide_eq_true (by first | (with_reducible assumption) | assumption))
         have hcz11_0 : wc.cell? ⟨gb323, 0, none⟩ = some (.bool a0_0) := (blk_cell BK323.out 0).trans rfl
         have hcz11_1 : wc.cell? ⟨gb323, 1, none⟩ = some (.int .u8 a0_1) := (blk_cell BK323.out 1).trans rfl
         have hcz11_2 : wc.cell? ⟨gb323, 2, none⟩ = some (.int .u8 a0_2) := (blk_cell BK323.out 2).trans rfl
         have hcz11_3 : wc.cell? ⟨gb323, 3, none⟩ = some (.int .u8 a0_3) := (blk_cell BK323.out 3).trans rfl
         have hcz11_4 : wc.cell? ⟨gb323, 4, none⟩ = some (.int .u8 a0_4) := (blk_cell BK323.out 4).trans rfl
         have hcz11_5 : wc.cell? ⟨gb323, 5, none⟩ = some (.int .u8 a0_5) := (blk_cell BK323.out 5).trans rfl
         have hcz11_6 : wc.cell? ⟨gb323, 6, none⟩ = some (.int .u8 a0_6) := (blk_cell BK323.out 6).trans rfl
         have hcz11_7 : wc.cell? ⟨gb323, 7, none⟩ = some (.int .u8 a0_7) := (blk_cell BK323.out 7).trans rfl
         have hcz11_8 : wc.cell? ⟨gb323, 8, none⟩ = some (.int .u8 a0_8) := (blk_cell BK323.out 8).trans rfl
         have hcz11_9 : wc.cell? ⟨gb323, 9, none⟩ = some (.int .u8 a0_9) := (blk_cell BK323.out 9).trans rfl
         have hcz11_10 : wc.cell? ⟨gb323, 10, none⟩ = some (.int .u8 a0_10) := (blk_cell BK323.out 10).trans rfl
         have hcz11_11 : wc.cell? ⟨gb323, 11, none⟩ = some (.int .u8 a0_11) := (blk_cell BK323.out 11).trans rfl
         have hcz11_12 : wc.cell? ⟨gb323, 12, none⟩ = some (.int .u8 a0_12) := (blk_cell BK323.out 12).trans rfl
         have hcz11_13 : wc.cell? ⟨gb323, 13, none⟩ = some (.int .u8 a0_13) := (blk_cell BK323.out 13).trans rfl
         have hcz11_14 : wc.cell? ⟨gb323, 14, none⟩ = some (.int .u8 a0_14) := (blk_cell BK323.out 14).trans rfl
         have hcz11_15 : wc.cell? ⟨gb323, 15, none⟩ = some (.int .u8 a0_15) := (blk_cell BK323.out 15).trans rfl
         have hcz11_16 : wc.cell? ⟨gb323, 16, none⟩ = some (.int .u8 a0_16) := (blk_cell BK323.out 16).trans rfl
         have hfz11_0 := blk_frozen BK323.out 0
         have hfz11_1 := blk_frozen BK323.out 1
         have hfz11_2 := blk_frozen BK323.out 2
         have hfz11_3 := blk_frozen BK323.out 3
         have hfz11_4 := blk_frozen BK323.out 4
         have hfz11_5 := blk_frozen BK323.out 5
         have hfz11_6 := blk_frozen BK323.out 6
         have hfz11_7 := blk_frozen BK323.out 7
         have hfz11_8 := blk_frozen BK323.out 8
         have hfz11_9 := blk_frozen BK323.out 9
         have hfz11_10 := blk_frozen BK323.out 10
         have hfz11_11 := blk_frozen BK323.out 11
         have hfz11_12 := blk_frozen BK323.out 12
         have hfz11_13 := blk_frozen BK323.out 13
         have hfz11_14 := blk_frozen BK323.out 14
         have hfz11_15 := blk_frozen BK323.out 15
         have hfz11_16 := blk_frozen BK323.out 16
         have hxar10 : wc.cell? ⟨gb323, 1 + (x3_1).toNat, none⟩ = some (.int .u8 (rd [a0_1, a0_2, a0_3, a0_4, a0_5, a0_6, a0_7, a0_8, a0_9, a0_10, a0_11, a0_12, a0_13, a0_14, a0_15, a0_16] x3_1)) := (blk_idx BK323.out .u8 [.bool a0_0] [a0_1, a0_2, a0_3, a0_4, a0_5, a0_6, a0_7, a0_8, a0_9, a0_10, a0_11, a0_12, a0_13, a0_14, a0_15, a0_16] [] rfl x3_1 (of_decide_eq_true (by first | (with_reducible assumption) | assumption)) (of_decide_eq_true (by first | (with_reducible assumption) | assumption)) rfl)
         have hfar10 := blk_frozen BK323.out (1 + (x3_1).toNat)
         go_wp2
         go_roundg kj2
         case measure => have := HK1.out; have := HJ2.out; omega
         case rel => exact ⟨(wrap64 (x3_1 + 1)), (by first | rfl | (simp; done) | (simp [*]; done) | (simp; exact isEmpty_bne _) | (simp; exact isEmpty_beq _)), H', ⟨by have := HK1.out; have := HJ2.out; omega⟩, ⟨by (with_reducible repeat (first | refine blk_drewN ?_ _ | refine blk_drew ?_ | refine blk_alloc ?_ _)); exact BK323.out⟩, ⟨by repeat (first | (with_reducible first | exact HB.out | apply below_alloc | apply pw_below_drewN | apply below_drew1 | refine below_set ?_ GE323.out) | exact HB.out)⟩⟩
        ·rw [if_neg c9] at H
         have c9b0 : ((rd [a0_1, a0_2, a0_3, a0_4, a0_5, a0_6, a0_7, a0_8, a0_9, a0_10, a0_11, a0_12, a0_13, a0_14, a0_15, a0_16] x3_1) == 0) = false := beq_eq_false_iff_ne.mpr c9
         have c9b1 : ((rd [a0_1, a0_2, a0_3, a0_4, a0_5, a0_6, a0_7, a0_8, a0_9, a0_10, a0_11, a0_12, a0_13, a0_14, a0_15, a0_16] x3_1) != 0) = true := bne_iff_ne.mpr c9
         obtain rfl := Option.some.inj H
         have par12 : (0 ≤ x3_1) = True := eq_true (of_decide_eq_true (by first | (with_reducible assumption) | assumption))
         have qar12 : (x3_1 < 16) = True := eq_true (of_decide_eq_true (by first | (with_reducible assumption) | assumption))
         have hcz13_0 : wc.cell? ⟨gb323, 0, none⟩ = some (.bool a0_0) := (blk_cell BK323.out 0).trans rfl
         have hcz13_1 : wc.cell? ⟨gb323, 1, none⟩ = some (.int .u8 a0_1) := (blk_cell BK323.out 1).trans rfl
         have hcz13_2 : wc.cell? ⟨gb323, 2, none⟩ = some (.int .u8 a0_2) := (blk_cell BK323.out 2).trans rfl
         have hcz13_3 : wc.cell? ⟨gb323, 3, none⟩ = some (.int .u8 a0_3) := (blk_cell BK323.out 3).trans rfl
         have hcz13_4 : wc.cell? ⟨gb323, 4, none⟩ = some (.int .u8 a0_4) := (blk_cell BK323.out 4).trans rfl
         have hcz13_5 : wc.cell? ⟨gb323, 5, none⟩ = some (.int .u8 a0_5) := (blk_cell BK323.out 5).trans rfl
         have hcz13_6 : wc.cell? ⟨gb323, 6, none⟩ = some (.int .u8 a0_6) := (blk_cell BK323.out 6).trans rfl
         have hcz13_7 : wc.cell? ⟨gb323, 7, none⟩ = some (.int .u8 a0_7) := (blk_cell BK323.out 7).trans rfl
         have hcz13_8 : wc.cell? ⟨gb323, 8, none⟩ = some (.int .u8 a0_8) := (blk_cell BK323.out 8).trans rfl
         have hcz13_9 : wc.cell? ⟨gb323, 9, none⟩ = some (.int .u8 a0_9) := (blk_cell BK323.out 9).trans rfl
         have hcz13_10 : wc.cell? ⟨gb323, 10, none⟩ = some (.int .u8 a0_10) := (blk_cell BK323.out 10).trans rfl
         have hcz13_11 : wc.cell? ⟨gb323, 11, none⟩ = some (.int .u8 a0_11) := (blk_cell BK323.out 11).trans rfl
         have hcz13_12 : wc.cell? ⟨gb323, 12, none⟩ = some (.int .u8 a0_12) := (blk_cell BK323.out 12).trans rfl
         have hcz13_13 : wc.cell? ⟨gb323, 13, none⟩ = some (.int .u8 a0_13) := (blk_cell BK323.out 13).trans rfl
         have hcz13_14 : wc.cell? ⟨gb323, 14, none⟩ = some (.int .u8 a0_14) := (blk_cell BK323.out 14).trans rfl
         have hcz13_15 : wc.cell? ⟨gb323, 15, none⟩ = some (.int .u8 a0_15) := (blk_cell BK323.out 15).trans rfl
         have hcz13_16 : wc.cell? ⟨gb323, 16, none⟩ = some (.int .u8 a0_16) := (blk_cell BK323.out 16).trans rfl
         have hfz13_0 := blk_frozen BK323.out 0
         have hfz13_1 := blk_frozen BK323.out 1
         have hfz13_2 := blk_frozen BK323.out 2
         have hfz13_3 := blk_frozen BK323.out 3
         have hfz13_4 := blk_frozen BK323.out 4
         have hfz13_5 := blk_frozen BK323.out 5
         have hfz13_6 := blk_frozen BK323.out 6
         have hfz13_7 := blk_frozen BK323.out 7
         have hfz13_8 := blk_frozen BK323.out 8
         have hfz13_9 := blk_frozen BK323.out 9
         have hfz13_10 := blk_frozen BK323.out 10
         have hfz13_11 := blk_frozen BK323.out 11
         have hfz13_12 := blk_frozen BK323.out 12
         have hfz13_13 := blk_frozen BK323.out 13
         have hfz13_14 := blk_frozen BK323.out 14
         have hfz13_15 := blk_frozen BK323.out 15
         have hfz13_16 := blk_frozen BK323.out 16
         have hxar12 : wc.cell? ⟨gb323, 1 + (x3_1).toNat, none⟩ = some (.int .u8 (rd [a0_1, a0_2, a0_3, a0_4, a0_5, a0_6, a0_7, a0_8, a0_9, a0_10, a0_11, a0_12, a0_13, a0_14, a0_15, a0_16] x3_1)) := (blk_idx BK323.out .u8 [.bool a0_0] [a0_1, a0_2, a0_3, a0_4, a0_5, a0_6, a0_7, a0_8, a0_9, a0_10, a0_11, a0_12, a0_13, a0_14, a0_15, a0_16] [] rfl x3_1 (of_decide_eq_true (by first | (with_reducible assumption) | assumption)) (of_decide_eq_true (by first | (with_reducible assumption) | assumption)) rfl)
         have hfar12 := blk_frozen BK323.out (1 + (x3_1).toNat)
         go_wp2
         go_ret
         exact ⟨by first | rfl | (simp [errW_none, errW_some] <;> rfl) | (simp [*, errW_none, errW_some] <;> rfl) | (simp [errW_none, errW_some]; first | exact isEmpty_bne _ | exact isEmpty_beq _ | exact (isEmpty_bne _).symm), by repeat (first | (with_reducible first | exact HB.out | apply below_alloc | apply pw_below_drewN | apply below_drew1 | refine below_set ?_ GE323.out) | exact HB.out)⟩
       ·rw [if_neg c8] at H
        exact absurd H (by simp)
      ·rw [if_neg c7] at H
       exact absurd H (by simp)
     ·replace c6 := Bool.eq_false_iff.mpr c6
      subst c6
      have H1 : (some true) = some r := by rw [if_neg (show ¬ (false = true) by decide)] at H; exact H
      clear H
      have H := H1
      clear H1
      obtain rfl := Option.some.inj H
      go_wp2
      go_ret
      exact ⟨by first | rfl | (simp [errW_none, errW_some] <;> rfl) | (simp [*, errW_none, errW_some] <;> rfl) | (simp [errW_none, errW_some]; first | exact isEmpty_bne _ | exact isEmpty_beq _ | exact (isEmpty_bne _).symm), by repeat (first | (with_reducible first | exact HB.out | apply below_alloc | apply pw_below_drewN | apply below_drew1 | refine below_set ?_ GE323.out) | exact HB.out)⟩

def lanternref05_Mapped.l0 : Nat → Int → Bool → Int → Int → Int → Int → Int → Int → Int → Int → Int → Int → Int → Int → Int → Int → Int → Int → Option (Bool)
 | 0, _, _, _, _, _, _, _, _, _, _, _, _, _, _, _, _, _, _ => none
 | k + 1, x3, x326000, x326001, x326002, x326003, x326004, x326005, x326006, x326007, x326008, x326009, x326010, x326011, x326012, x326013, x326014, x326015, x326016 => if x3 < 12 then (if x3 < 10 then (if 0 ≤ x3 then (if x3 < 16 then (if (rd [x326001, x326002, x326003, x326004, x326005, x326006, x326007, x326008, x326009, x326010, x326011, x326012, x326013, x326014, x326015, x326016] x3) = 0 then (if x3 ≥ 10 then (if (rd [x326001, x326002, x326003, x326004, x326005, x326006, x326007, x326008, x326009, x326010, x326011, x326012, x326013, x326014, x326015, x326016] x3) = 255 then (lanternref05_Mapped.l0 k (wrap64 (x3 + 1)) x326000 x326001 x326002 x326003 x326004 x326005 x326006 x326007 x326008 x326009 x326010 x326011 x326012 x326013 x326014 x326015 x326016) else (some false)) else (lanternref05_Mapped.l0 k (wrap64 (x3 + 1)) x326000 x326001 x326002 x326003 x326004 x326005 x326006 x326007 x326008 x326009 x326010 x326011 x326012 x326013 x326014 x326015 x326016)) else (some false)) else (none)) else (none)) else (if x3 ≥ 10 then (if 0 ≤ x3 then (if x3 < 16 then (if (rd [x326001, x326002, x326003, x326004, x326005, x326006, x326007, x326008, x326009, x326010, x326011, x326012, x326013, x326014, x326015, x326016] x3) = 255 then (lanternref05_Mapped.l0 k (wrap64 (x3 + 1)) x326000 x326001 x326002 x326003 x326004 x326005 x326006 x326007 x326008 x326009 x326010 x326011 x326012 x326013 x326014 x326015 x326016) else (some false)) else (none)) else (none)) else (lanternref05_Mapped.l0 k (wrap64 (x3 + 1)) x326000 x326001 x326002 x326003 x326004 x326005 x326006 x326007 x326008 x326009 x326010 x326011 x326012 x326013 x326014 x326015 x326016))) else (some x326000)
def lanternref05_Mapped.f (k : Nat) (a0_0 : Bool) (a0_1 : Int) (a0_2 : Int) (a0_3 : Int) (a0_4 : Int) (a0_5 : Int) (a0_6 : Int) (a0_7 : Int) (a0_8 : Int) (a0_9 : Int) (a0_10 : Int) (a0_11 : Int) (a0_12 : Int) (a0_13 : Int) (a0_14 : Int) (a0_15 : Int) (a0_16 : Int) : Option (Bool) := lanternref05_Mapped.l0 k 0 a0_0 a0_1 a0_2 a0_3 a0_4 a0_5 a0_6 a0_7 a0_8 a0_9 a0_10 a0_11 a0_12 a0_13 a0_14 a0_15 a0_16
theorem lanternref05_Mapped.mono_l : ∀ k, (∀ y0 y1 y2 y3 y4 y5 y6 y7 y8 y9 y10 y11 y12 y13 y14 y15 y16 y17, LeO (lanternref05_Mapped.l0 k y0 y1 y2 y3 y4 y5 y6 y7 y8 y9 y10 y11 y12 y13 y14 y15 y16 y17) (lanternref05_Mapped.l0 (k + 1) y0 y1 y2 y3 y4 y5 y6 y7 y8 y9 y10 y11 y12 y13 y14 y15 y16 y17))
 | 0 => fun _ _ _ _ _ _ _ _ _ _ _ _ _ _ _ _ _ _ r h => by simp [lanternref05_Mapped.l0] at h
 | k + 1 => by
  have ih0 := lanternref05_Mapped.mono_l k
  ·intro y0 y1 y2 y3 y4 y5 y6 y7 y8 y9 y10 y11 y12 y13 y14 y15 y16 y17
   unfold lanternref05_Mapped.l0
   repeat' first
   | (with_reducible exact ih0 _ _ _ _ _ _ _ _ _ _ _ _ _ _ _ _ _ _)
   | (with_reducible exact LeO.refl _)
   | (with_reducible exact LeO.none _)
   | (with_reducible refine LeO.ite ?_ ?_)
   | (with_reducible refine LeO.bind ?_ (fun _ => ?_))
   | exact ih0 _ _ _ _ _ _ _ _ _ _ _ _ _ _ _ _ _ _
   | exact LeO.none _
   | refine LeO.ite ?_ ?_
   | refine LeO.bind ?_ (fun _ => ?_)
theorem lanternref05_Mapped.mono : ∀ a0 a1 a2 a3 a4 a5 a6 a7 a8 a9 a10 a11 a12 a13 a14 a15 a16 k, LeO (lanternref05_Mapped.f k a0 a1 a2 a3 a4 a5 a6 a7 a8 a9 a10 a11 a12 a13 a14 a15 a16) (lanternref05_Mapped.f (k + 1) a0 a1 a2 a3 a4 a5 a6 a7 a8 a9 a10 a11 a12 a13 a14 a15 a16) := by
 intro a0 a1 a2 a3 a4 a5 a6 a7 a8 a9 a10 a11 a12 a13 a14 a15 a16 k
 have ih0 := lanternref05_Mapped.mono_l k
 unfold lanternref05_Mapped.f
 repeat' first
   | (with_reducible exact ih0 _ _ _ _ _ _ _ _ _ _ _ _ _ _ _ _ _ _)
   | (with_reducible exact LeO.refl _)
   | (with_reducible exact LeO.none _)
   | (with_reducible refine LeO.ite ?_ ?_)
   | (with_reducible refine LeO.bind ?_ (fun _ => ?_))
   | exact ih0 _ _ _ _ _ _ _ _ _ _ _ _ _ _ _ _ _ _
   | exact LeO.none _
   | refine LeO.ite ?_ ?_
   | refine LeO.bind ?_ (fun _ => ?_)
set_option maxHeartbeats 8000000 in
set_option maxRecDepth 100000 in
theorem lanternref05_Mapped.calls (k : Nat) (a0_0 : Bool) (a0_1 : Int) (a0_2 : Int) (a0_3 : Int) (a0_4 : Int) (a0_5 : Int) (a0_6 : Int) (a0_7 : Int) (a0_8 : Int) (a0_9 : Int) (a0_10 : Int) (a0_11 : Int) (a0_12 : Int) (a0_13 : Int) (a0_14 : Int) (a0_15 : Int) (a0_16 : Int) (r : Bool) (w : World) (hLW : LW w) (h : lanternref05_Mapped.f k a0_0 a0_1 a0_2 a0_3 a0_4 a0_5 a0_6 a0_7 a0_8 a0_9 a0_10 a0_11 a0_12 a0_13 a0_14 a0_15 a0_16 = some r) :
  Calls Tryd.prog 21 #[.agg #[.bool a0_0, .int .u8 a0_1, .int .u8 a0_2, .int .u8 a0_3, .int .u8 a0_4, .int .u8 a0_5, .int .u8 a0_6, .int .u8 a0_7, .int .u8 a0_8, .int .u8 a0_9, .int .u8 a0_10, .int .u8 a0_11, .int .u8 a0_12, .int .u8 a0_13, .int .u8 a0_14, .int .u8 a0_15, .int .u8 a0_16]] w fun e w' => e = .returned (.bool r) ∧ Below w.heap.size w w' := by
 have hu25 := Tryd.underlying25
 have HLW := Aside0.mk hLW
 clear hLW
 have HB := Aside0.mk (Below.refl w.heap.size w)
 have H : (lanternref05_Mapped.l0 k 0 a0_0 a0_1 a0_2 a0_3 a0_4 a0_5 a0_6 a0_7 a0_8 a0_9 a0_10 a0_11 a0_12 a0_13 a0_14 a0_15 a0_16) = some r := h
 clear h
 have H' := Aside0.mk H
 clear H
 go_enter Tryd.func21, Tryd.ntmps21
 go_wp2_with (first | ((with_reducible refine gate_dst (N := 1) rfl ?_); refine box_event ?hg (N := 1) ?hd (cs := #[.bool a0_0, .int .u8 a0_1, .int .u8 a0_2, .int .u8 a0_3, .int .u8 a0_4, .int .u8 a0_5, .int .u8 a0_6, .int .u8 a0_7, .int .u8 a0_8, .int .u8 a0_9, .int .u8 a0_10, .int .u8 a0_11, .int .u8 a0_12, .int .u8 a0_13, .int .u8 a0_14, .int .u8 a0_15, .int .u8 a0_16]) (t := 25) ?hr ?_; (case hd => rfl); (case hg => rfl); (case hr => first | (go_simp; done) | (go_simp; rfl)); intro gb325 hg w2 hbox hb; have n0_ := Aside0.mk (below_step (by repeat (first | (with_reducible first | exact HB.out | apply below_alloc | apply pw_below_drewN | apply below_drew1) | exact HB.out)) hb); have n1_ := Aside0.mk (hbox); have n2_ := Aside0.mk ((by rw [hg]; exact (below_size (by repeat (first | (with_reducible first | exact HB.out | apply below_alloc | apply pw_below_drewN | apply below_drew1) | exact HB.out))) : w.heap.size ≤ gb325)); have n3_ := Aside0.mk ((by rw [hg]; exact (below_size (by repeat (first | (with_reducible first | exact HB.out | apply below_alloc | apply pw_below_drewN | apply below_drew1) | exact HB.out))) : w.heap.size ≤ gb325)); clear HB; have HB := n0_; have BK325 := n1_; have GW325 := n2_; have GE325 := n3_; clear n0_ n1_ n2_ n3_; clear hb hbox hg))
 go_loopg [3] k (fun kq v3 w' => ∃ (x3_1 : Int), v3 = .int .i64 x3_1 ∧ Aside0 (lanternref05_Mapped.l0 kq x3_1 a0_0 a0_1 a0_2 a0_3 a0_4 a0_5 a0_6 a0_7 a0_8 a0_9 a0_10 a0_11 a0_12 a0_13 a0_14 a0_15 a0_16 = some r) ∧ Aside0 (kq ≤ k) ∧ Aside0 (w'.heap[gb325]? = some (.cells #[.bool a0_0, .int .u8 a0_1, .int .u8 a0_2, .int .u8 a0_3, .int .u8 a0_4, .int .u8 a0_5, .int .u8 a0_6, .int .u8 a0_7, .int .u8 a0_8, .int .u8 a0_9, .int .u8 a0_10, .int .u8 a0_11, .int .u8 a0_12, .int .u8 a0_13, .int .u8 a0_14, .int .u8 a0_15, .int .u8 a0_16] 25 (0, 0))) ∧ Aside0 (Below w.heap.size w w'))
 case atStart => exact ⟨(0), (by first | rfl | (simp; done) | (simp [*]; done) | (simp; exact isEmpty_bne _) | (simp; exact isEmpty_beq _)), H', ⟨Nat.le_refl _⟩, ⟨by (with_reducible repeat (first | refine blk_drewN ?_ _ | refine blk_drew ?_ | refine blk_alloc ?_ _)); exact BK325.out⟩, ⟨by repeat (first | (with_reducible first | exact HB.out | apply below_alloc | apply pw_below_drewN | apply below_drew1 | refine below_set ?_ GE325.out) | exact HB.out)⟩⟩
 case round =>
  clear H'
  try clear c2
  try clear p2
  obtain ⟨x3_1, rfl, HA, HK1, BK325, HB⟩ := hrel
  cases gk with
  | zero => exact absurd HA.out (by simp [lanternref05_Mapped.l0])
  | succ k1 =>
   have H := HA.out
   clear HA
   simp only [lanternref05_Mapped.l0] at H
   by_cases c3 : x3_1 < 12
   ·rw [if_pos c3] at H
    have c3b0 : decide (x3_1 < 12) = true := decide_eq_true c3
    clear c3
    by_cases c4 : x3_1 < 10
    ·rw [if_pos c4] at H
     have c4b0 : decide (x3_1 < 10) = true := decide_eq_true c4
     clear c4
     by_cases c5 : 0 ≤ x3_1
     ·rw [if_pos c5] at H
      have c5b0 : decide (0 ≤ x3_1) = true := decide_eq_true c5
      clear c5
      by_cases c6 : x3_1 < 16
      ·rw [if_pos c6] at H
       have c6b0 : decide (x3_1 < 16) = true := decide_eq_true c6
       clear c6
       by_cases c7 : (rd [a0_1, a0_2, a0_3, a0_4, a0_5, a0_6, a0_7, a0_8, a0_9, a0_10, a0_11, a0_12, a0_13, a0_14, a0_15, a0_16] x3_1) = 0
       ·rw [if_pos c7] at H
        have c7b0 : ((rd [a0_1, a0_2, a0_3, a0_4, a0_5, a0_6, a0_7, a0_8, a0_9, a0_10, a0_11, a0_12, a0_13, a0_14, a0_15, a0_16] x3_1) == 0) = true := beq_iff_eq.mpr c7
        have c7b1 : ((rd [a0_1, a0_2, a0_3, a0_4, a0_5, a0_6, a0_7, a0_8, a0_9, a0_10, a0_11, a0_12, a0_13, a0_14, a0_15, a0_16] x3_1) != 0) = false := bne_eq_false_iff_eq.mpr c7
        clear c7
        by_cases c8 : x3_1 ≥ 10
        ·rw [if_pos c8] at H
         have c8b0 : decide (10 ≤ x3_1) = true := decide_eq_true c8
         clear c8
         by_cases c9 : (rd [a0_1, a0_2, a0_3, a0_4, a0_5, a0_6, a0_7, a0_8, a0_9, a0_10, a0_11, a0_12, a0_13, a0_14, a0_15, a0_16] x3_1) = 255
         ·rw [if_pos c9] at H
          have c9b0 : ((rd [a0_1, a0_2, a0_3, a0_4, a0_5, a0_6, a0_7, a0_8, a0_9, a0_10, a0_11, a0_12, a0_13, a0_14, a0_15, a0_16] x3_1) == 255) = true := beq_iff_eq.mpr c9
          have c9b1 : ((rd [a0_1, a0_2, a0_3, a0_4, a0_5, a0_6, a0_7, a0_8, a0_9, a0_10, a0_11, a0_12, a0_13, a0_14, a0_15, a0_16] x3_1) != 255) = false := bne_eq_false_iff_eq.mpr c9
          clear c9
          have H' := Aside0.mk H
          clear H
          have par10 : (0 ≤ x3_1) = True := eq_true (of_decide_eq_true (by first | (with_reducible assumption) | assumption))
          have qar10 : (x3_1 < 16) = True := eq_true (of_decide_eq_true (by first | (with_reducible assumption) | assumption))
          have hcz11_0 : wr.cell? ⟨gb325, 0, none⟩ = some (.bool a0_0) := (blk_cell BK325.out 0).trans rfl
          have hcz11_1 : wr.cell? ⟨gb325, 1, none⟩ = some (.int .u8 a0_1) := (blk_cell BK325.out 1).trans rfl
          have hcz11_2 : wr.cell? ⟨gb325, 2, none⟩ = some (.int .u8 a0_2) := (blk_cell BK325.out 2).trans rfl
          have hcz11_3 : wr.cell? ⟨gb325, 3, none⟩ = some (.int .u8 a0_3) := (blk_cell BK325.out 3).trans rfl
          have hcz11_4 : wr.cell? ⟨gb325, 4, none⟩ = some (.int .u8 a0_4) := (blk_cell BK325.out 4).trans rfl
          have hcz11_5 : wr.cell? ⟨gb325, 5, none⟩ = some (.int .u8 a0_5) := (blk_cell BK325.out 5).trans rfl
          have hcz11_6 : wr.cell? ⟨gb325, 6, none⟩ = some (.int .u8 a0_6) := (blk_cell BK325.out 6).trans rfl
          have hcz11_7 : wr.cell? ⟨gb325, 7, none⟩ = some (.int .u8 a0_7) := (blk_cell BK325.out 7).trans rfl
          have hcz11_8 : wr.cell? ⟨gb325, 8, none⟩ = some (.int .u8 a0_8) := (blk_cell BK325.out 8).trans rfl
          have hcz11_9 : wr.cell? ⟨gb325, 9, none⟩ = some (.int .u8 a0_9) := (blk_cell BK325.out 9).trans rfl
          have hcz11_10 : wr.cell? ⟨gb325, 10, none⟩ = some (.int .u8 a0_10) := (blk_cell BK325.out 10).trans rfl
          have hcz11_11 : wr.cell? ⟨gb325, 11, none⟩ = some (.int .u8 a0_11) := (blk_cell BK325.out 11).trans rfl
          have hcz11_12 : wr.cell? ⟨gb325, 12, none⟩ = some (.int .u8 a0_12) := (blk_cell BK325.out 12).trans rfl
          have hcz11_13 : wr.cell? ⟨gb325, 13, none⟩ = some (.int .u8 a0_13) := (blk_cell BK325.out 13).trans rfl
          have hcz11_14 : wr.cell? ⟨gb325, 14, none⟩ = some (.int .u8 a0_14) := (blk_cell BK325.out 14).trans rfl
          have hcz11_15 : wr.cell? ⟨gb325, 15, none⟩ = some (.int .u8 a0_15) := (blk_cell BK325.out 15).trans rfl
          have hcz11_16 : wr.cell? ⟨gb325, 16, none⟩ = some (.int .u8 a0_16) := (blk_cell BK325.out 16).trans rfl
          have hfz11_0 := blk_frozen BK325.out 0
          have hfz11_1 := blk_frozen BK325.out 1
          have hfz11_2 := blk_frozen BK325.out 2
          have hfz11_3 := blk_frozen BK325.out 3
          have hfz11_4 := blk_frozen BK325.out 4
          have hfz11_5 := blk_frozen BK325.out 5
          have hfz11_6 := blk_frozen BK325.out 6
          have hfz11_7 := blk_frozen BK325.out 7
          have hfz11_8 := blk_frozen BK325.out 8
          have hfz11_9 := blk_frozen BK325.out 9
          have hfz11_10 := blk_frozen BK325.out 10
          have hfz11_11 := blk_frozen BK325.out 11
          have hfz11_12 := blk_frozen BK325.out 12
          have hfz11_13 := blk_frozen BK325.out 13
          have hfz11_14 := blk_frozen BK325.out 14
          have hfz11_15 := blk_frozen BK325.out 15
          have hfz11_16 := blk_frozen BK325.out 16
          have hxar10 : wr.cell? ⟨gb325, 1 + (x3_1).toNat, none⟩ = some (.int .u8 (rd [a0_1, a0_2, a0_3, a0_4, a0_5, a0_6, a0_7, a0_8, a0_9, a0_10, a0_11, a0_12, a0_13, a0_14, a0_15, a0_16] x3_1)) := (blk_idx BK325.out .u8 [.bool a0_0] [a0_1, a0_2, a0_3, a0_4, a0_5, a0_6, a0_7, a0_8, a0_9, a0_10, a0_11, a0_12, a0_13, a0_14, a0_15, a0_16] [] rfl x3_1 (of_decide_eq_true (by first | (with_reducible assumption) | assumption)) (of_decide_eq_true (by first | (with_reducible assumption) | assumption)) rfl)
          have hfar10 := blk_frozen BK325.out (1 + (x3_1).toNat)
          have par12 : (0 ≤ x3_1) = True := eq_true (of_decide_eq_true (by first | (with_reducible assumption) | assumption))
          have qar12 : (x3_1 < 16) = True := eq_true (of_decide_eq_true (by first | (with_reducible assumption) | assumption))
          have hxar12 : wr.cell? ⟨gb325, 1 + (x3_1).toNat, none⟩ = some (.int .u8 (rd [a0_1, a0_2, a0_3, a0_4, a0_5, a0_6, a0_7, a0_8, a0_9, a0_10, a0_11, a0_12, a0_13, a0_14, a0_15, a0_16] x3_1)) := (blk_idx BK325.out .u8 [.bool a0_0] [a0_1, a0_2, a0_3, a0_4, a0_5, a0_6, a0_7, a0_8, a0_9, a0_10, a0_11, a0_12, a0_13, a0_14, a0_15, a0_16] [] rfl x3_1 (of_decide_eq_true (by first | (with_reducible assumption) | assumption)) (of_decide_eq_true (by first | (with_reducible assumption) | assumption)) rfl)
          have hfar12 := blk_frozen BK325.out (1 + (x3_1).toNat)
          go_wp2
          go_roundg k1
          case measure => have := HK1.out; omega
          case rel => exact ⟨(wrap64 (x3_1 + 1)), (by first | rfl | (simp; done) | (simp [*]; done) | (simp; exact isEmpty_bne _) | (simp; exact isEmpty_beq _)), H', ⟨by have := HK1.out; omega⟩, ⟨by (with_reducible repeat (first | refine blk_drewN ?_ _ | refine blk_drew ?_ | refine blk_alloc ?_ _)); exact BK325.out⟩, ⟨by repeat (first | (with_reducible first | exact HB.out | apply below_alloc | apply pw_below_drewN | apply below_drew1 | refine below_set ?_ GE325.out) | exact HB.out)⟩⟩
         ·rw [if_neg c9] at H
          have c9b0 : ((rd [a0_1, a0_2, a0_3, a0_4, a0_5, a0_6, a0_7, a0_8, a0_9, a0_10, a0_11, a0_12, a0_13, a0_14, a0_15, a0_16] x3_1) == 255) = false := beq_eq_false_iff_ne.mpr c9
          have c9b1 : ((rd [a0_1, a0_2, a0_3, a0_4, a0_5, a0_6, a0_7, a0_8, a0_9, a0_10, a0_11, a0_12, a0_13, a0_14, a0_15, a0_16] x3_1) != 255) = true := bne_iff_ne.mpr c9
          obtain rfl := Option.some.inj H
          have par13 : (0 ≤ x3_1) = True := eq_true (of_decide_eq_true (by first | (with_reducible assumption) | assumption))
          have qar13 : (x3_1 < 16) = True := eq_true (of_decide_eq_true (by first | (with_reducible assumption) | assumption))
          have hcz14_0 : wr.cell? ⟨gb325, 0, none⟩ = some (.bool a0_0) := (blk_cell BK325.out 0).trans rfl
          have hcz14_1 : wr.cell? ⟨gb325, 1, none⟩ = some (.int .u8 a0_1) := (blk_cell BK325.out 1).trans rfl
          have hcz14_2 : wr.cell? ⟨gb325, 2, none⟩ = some (.int .u8 a0_2) := (blk_cell BK325.out 2).trans rfl
          have hcz14_3 : wr.cell? ⟨gb325, 3, none⟩ = some (.int .u8 a0_3) := (blk_cell BK325.out 3).trans rfl
          have hcz14_4 : wr.cell? ⟨gb325, 4, none⟩ = some (.int .u8 a0_4) := (blk_cell BK325.out 4).trans rfl
          have hcz14_5 : wr.cell? ⟨gb325, 5, none⟩ = some (.int .u8 a0_5) := (blk_cell BK325.out 5).trans rfl
          have hcz14_6 : wr.cell? ⟨gb325, 6, none⟩ = some (.int .u8 a0_6) := (blk_cell BK325.out 6).trans rfl
          have hcz14_7 : wr.cell? ⟨gb325, 7, none⟩ = some (.int .u8 a0_7) := (blk_cell BK325.out 7).trans rfl
          have hcz14_8 : wr.cell? ⟨gb325, 8, none⟩ = some (.int .u8 a0_8) := (blk_cell BK325.out 8).trans rfl
          have hcz14_9 : wr.cell? ⟨gb325, 9, none⟩ = some (.int .u8 a0_9) := (blk_cell BK325.out 9).trans rfl
          have hcz14_10 : wr.cell? ⟨gb325, 10, none⟩ = some (.int .u8 a0_10) := (blk_cell BK325.out 10).trans rfl
          have hcz14_11 : wr.cell? ⟨gb325, 11, none⟩ = some (.int .u8 a0_11) := (blk_cell BK325.out 11).trans rfl
          have hcz14_12 : wr.cell? ⟨gb325, 12, none⟩ = some (.int .u8 a0_12) := (blk_cell BK325.out 12).trans rfl
          have hcz14_13 : wr.cell? ⟨gb325, 13, none⟩ = some (.int .u8 a0_13) := (blk_cell BK325.out 13).trans rfl
          have hcz14_14 : wr.cell? ⟨gb325, 14, none⟩ = some (.int .u8 a0_14) := (blk_cell BK325.out 14).trans rfl
          have hcz14_15 : wr.cell? ⟨gb325, 15, none⟩ = some (.int .u8 a0_15) := (blk_cell BK325.out 15).trans rfl
          have hcz14_16 : wr.cell? ⟨gb325, 16, none⟩ = some (.int .u8 a0_16) := (blk_cell BK325.out 16).trans rfl
          have hfz14_0 := blk_frozen BK325.out 0
          have hfz14_1 := blk_frozen BK325.out 1
          have hfz14_2 := blk_frozen BK325.out 2
          have hfz14_3 := blk_frozen BK325.out 3
          have hfz14_4 := blk_frozen BK325.out 4
          have hfz14_5 := blk_frozen BK325.out 5
          have hfz14_6 := blk_frozen BK325.out 6
          have hfz14_7 := blk_frozen BK325.out 7
          have hfz14_8 := blk_frozen BK325.out 8
          have hfz14_9 := blk_frozen BK325.out 9
          have hfz14_10 := blk_frozen BK325.out 10
          have hfz14_11 := blk_frozen BK325.out 11
          have hfz14_12 := blk_frozen BK325.out 12
          have hfz14_13 := blk_frozen BK325.out 13
          have hfz14_14 := blk_frozen BK325.out 14
          have hfz14_15 := blk_frozen BK325.out 15
          have hfz14_16 := blk_frozen BK325.out 16
          have hxar13 : wr.cell? ⟨gb325, 1 + (x3_1).toNat, none⟩ = some (.int .u8 (rd [a0_1, a0_2, a0_3, a0_4, a0_5, a0_6, a0_7, a0_8, a0_9, a0_10, a0_11, a0_12, a0_13, a0_14, a0_15, a0_16] x3_1)) := (blk_idx BK325.out .u8 [.bool a0_0] [a0_1, a0_2, a0_3, a0_4, a0_5, a0_6, a0_7, a0_8, a0_9, a0_10, a0_11, a0_12, a0_13, a0_14, a0_15, a0_16] [] rfl x3_1 (of_decide_eq_true (by first | (with_reducible assumption) | assumption)) (of_decide_eq_true (by first | (with_reducible assumption) | assumption)) rfl)
          have hfar13 := blk_frozen BK325.out (1 + (x3_1).toNat)
          have par15 : (0 ≤ x3_1) = True := eq_true (of_decide_eq_true (by first | (with_reducible assumption) | assumption))
          have qar15 : (x3_1 < 16) = True := eq_true (of_decide_eq_true (by first | (with_reducible assumption) | assumption))
          have hxar15 : wr.cell? ⟨gb325, 1 + (x3_1).toNat, none⟩ = some (.int .u8 (rd [a0_1, a0_2, a0_3, a0_4, a0_5, a0_6, a0_7, a0_8, a0_9, a0_10, a0_11, a0_12, a0_13, a0_14, a0_15, a0_16] x3_1)) := (blk_idx BK325.out .u8 [.bool a0_0] [a0_1, a0_2, a0_3, a0_4, a0_5, a0_6, a0_7, a0_8, a0_9, a0_10, a0_11, a0_12, a0_13, a0_14, a0_15, a0_16] [] rfl x3_1 (of_decide_eq_true (by first | (with_reducible assumption) | assumption)) (of_decide_eq_true (by first | (with_reducible assumption) | assumption)) rfl)
          have hfar15 := blk_frozen BK325.out (1 + (x3_1).toNat)
          go_wp2
          go_ret
          exact ⟨by first | rfl | (simp [errW_none, errW_some] <;> rfl) | (simp [*, errW_none, errW_some] <;> rfl) | (simp [errW_none, errW_some]; first | exact isEmpty_bne _ | exact isEmpty_beq _ | exact (isEmpty_bne _).symm), by repeat (first | (with_reducible first | exact HB.out | apply below_alloc | apply pw_below_drewN | apply below_drew1 | refine below_set ?_ GE325.out) | exact HB.out)⟩
        ·rw [if_neg c8] at H
         have c8b0 : decide (10 ≤ x3_1) = false := decide_eq_false c8
         clear c8
         have H' := Aside0.mk H
         clear H
         have par16 : (0 ≤ x3_1) = True := eq_true (of_decide_eq_true (by first | (with_reducible assumption) | assumption))
         have qar16 : (x3_1 < 16) = True := eq_true (of_decide_eq_true (by first | (with_reducible assumption) | assumption))
         have hcz17_0 : wr.cell? ⟨gb325, 0, none⟩ = some (.bool a0_0) := (blk_cell BK325.out 0).trans rfl
         have hcz17_1 : wr.cell? ⟨gb325, 1, none⟩ = some (.int .u8 a0_1) := (blk_cell BK325.out 1).trans rfl
         have hcz17_2 : wr.cell? ⟨gb325, 2, none⟩ = some (.int .u8 a0_2) := (blk_cell BK325.out 2).trans rfl
         have hcz17_3 : wr.cell? ⟨gb325, 3, none⟩ = some (.int .u8 a0_3) := (blk_cell BK325.out 3).trans rfl
         have hcz17_4 : wr.cell? ⟨gb325, 4, none⟩ = some (.int .u8 a0_4) := (blk_cell BK325.out 4).trans rfl
         have hcz17_5 : wr.cell? ⟨gb325, 5, none⟩ = some (.int .u8 a0_5) := (blk_cell BK325.out 5).trans rfl
         have hcz17_6 : wr.cell? ⟨gb325, 6, none⟩ = some (.int .u8 a0_6) := (blk_cell BK325.out 6).trans rfl
         have hcz17_7 : wr.cell? ⟨gb325, 7, none⟩ = some (.int .u8 a0_7) := (blk_cell BK325.out 7).trans rfl
         have hcz17_8 : wr.cell? ⟨gb325, 8, none⟩ = some (.int .u8 a0_8) := (blk_cell BK325.out 8).trans rfl
         have hcz17_9 : wr.cell? ⟨gb325, 9, none⟩ = some (.int .u8 a0_9) := (blk_cell BK325.out 9).trans rfl
         have hcz17_10 : wr.cell? ⟨gb325, 10, none⟩ = some (.int .u8 a0_10) := (blk_cell BK325.out 10).trans rfl
         have hcz17_11 : wr.cell? ⟨gb325, 11, none⟩ = some (.int .u8 a0_11) := (blk_cell BK325.out 11).trans rfl
         have hcz17_12 : wr.cell? ⟨gb325, 12, none⟩ = some (.int .u8 a0_12) := (blk_cell BK325.out 12).trans rfl
         have hcz17_13 : wr.cell? ⟨gb325, 13, none⟩ = some (.int .u8 a0_13) := (blk_cell BK325.out 13).trans rfl
         have hcz17_14 : wr.cell? ⟨gb325, 14, none⟩ = some (.int .u8 a0_14) := (blk_cell BK325.out 14).trans rfl
         have hcz17_15 : wr.cell? ⟨gb325, 15, none⟩ = some (.int .u8 a0_15) := (blk_cell BK325.out 15).trans rfl
         have hcz17_16 : wr.cell? ⟨gb325, 16, none⟩ = some (.int .u8 a0_16) := (blk_cell BK325.out 16).trans rfl
         have hfz17_0 := blk_frozen BK325.out 0
         have hfz17_1 := blk_frozen BK325.out 1
         have hfz17_2 := blk_frozen BK325.out 2
         have hfz17_3 := blk_frozen BK325.out 3
         have hfz17_4 := blk_frozen BK325.out 4
         have hfz17_5 := blk_frozen BK325.out 5
         have hfz17_6 := blk_frozen BK325.out 6
         have hfz17_7 := blk_frozen BK325.out 7
         have hfz17_8 := blk_frozen BK325.out 8
         have hfz17_9 := blk_frozen BK325.out 9
         have hfz17_10 := blk_frozen BK325.out 10
         have hfz17_11 := blk_frozen BK325.out 11
         have hfz17_12 := blk_frozen BK325.out 12
         have hfz17_13 := blk_frozen BK325.out 13
         have hfz17_14 := blk_frozen BK325.out 14
         have hfz17_15 := blk_frozen BK325.out 15
         have hfz17_16 := blk_frozen BK325.out 16
         have hxar16 : wr.cell? ⟨gb325, 1 + (x3_1).toNat, none⟩ = some (.int .u8 (rd [a0_1, a0_2, a0_3, a0_4, a0_5, a0_6, a0_7, a0_8, a0_9, a0_10, a0_11, a0_12, a0_13, a0_14, a0_15, a0_16] x3_1)) := (blk_idx BK325.out .u8 [.bool a0_0] [a0_1, a0_2, a0_3, a0_4, a0_5, a0_6, a0_7, a0_8, a0_9, a0_10, a0_11, a0_12, a0_13, a0_14, a0_15, a0_16] [] rfl x3_1 (of_decide_eq_true (by first | (with_reducible assumption) | assumption)) (of_decide_eq_true (by first | (with_reducible assumption) | assumption)) rfl)
         have hfar16 := blk_frozen BK325.out (1 + (x3_1).toNat)
         go_wp2
         go_roundg k1
         case measure => have := HK1.out; omega
         case rel => exact ⟨(wrap64 (x3_1 + 1)), (by first | rfl | (simp; done) | (simp [*]; done) | (simp; exact isEmpty_bne _) | (simp; exact isEmpty_beq _)), H', ⟨by have := HK1.out; omega⟩, ⟨by (with_reducible repeat (first | refine blk_drewN ?_ _ | refine blk_drew ?_ | refine blk_alloc ?_ _)); exact BK325.out⟩, ⟨by repeat (first | (with_reducible first | exact HB.out | apply below_alloc | apply pw_below_drewN | apply below_drew1 | refine below_set ?_ GE325.out) | exact HB.out)⟩⟩
       ·rw [if_neg c7] at H
        have c7b0 : ((rd [a0_1, a0_2, a0_3, a0_4, a0_5, a0_6, a0_7, a0_8, a0_9, a0_10, a0_11, a0_12, a0_13, a0_14, a0_15, a0_16] x3_1) == 0) = false := beq_eq_false_iff_ne.mpr c7
        have c7b1 : ((rd [a0_1, a0_2, a0_3, a0_4, a0_5, a0_6, a0_7, a0_8, a0_9, a0_10, a0_11, a0_12, a0_13, a0_14, a0_15, a0_16] x3_1) != 0) = true := bne_iff_ne.mpr c7
        obtain rfl := Option.some.inj H
        have par18 : (0 ≤ x3_1) = True := eq_true (of_decide_eq_true (by first | (with_reducible assumption) | assumption))
        have qar18 : (x3_1 < 16) = True := eq_true (of_decide_eq_true (by first | (with_reducible assumption) | assumption))
        have hcz19_0 : wr.cell? ⟨gb325, 0, none⟩ = some (.bool a0_0) := (blk_cell BK325.out 0).trans rfl
        have hcz19_1 : wr.cell? ⟨gb325, 1, none⟩ = some (.int .u8 a0_1) := (blk_cell BK325.out 1).trans rfl
        have hcz19_2 : wr.cell? ⟨gb325, 2, none⟩ = some (.int .u8 a0_2) := (blk_cell BK325.out 2).trans rfl
        have hcz19_3 : wr.cell? ⟨gb325, 3, none⟩ = some (.int .u8 a0_3) := (blk_cell BK325.out 3).trans rfl
        have hcz19_4 : wr.cell? ⟨gb325, 4, none⟩ = some (.int .u8 a0_4) := (blk_cell BK325.out 4).trans rfl
        have hcz19_5 : wr.cell? ⟨gb325, 5, none⟩ = some (.int .u8 a0_5) := (blk_cell BK325.out 5).trans rfl
        have hcz19_6 : wr.cell? ⟨gb325, 6, none⟩ = some (.int .u8 a0_6) := (blk_cell BK325.out 6).trans rfl
        have hcz19_7 : wr.cell? ⟨gb325, 7, none⟩ = some (.int .u8 a0_7) := (blk_cell BK325.out 7).trans rfl
        have hcz19_8 : wr.cell? ⟨gb325, 8, none⟩ = some (.int .u8 a0_8) := (blk_cell BK325.out 8).trans rfl
        have hcz19_9 : wr.cell? ⟨gb325, 9, none⟩ = some (.int .u8 a0_9) := (blk_cell BK325.out 9).trans rfl
        have hcz19_10 : wr.cell? ⟨gb325, 10, none⟩ = some (.int .u8 a0_10) := (blk_cell BK325.out 10).trans rfl
        have hcz19_11 : wr.cell? ⟨gb325, 11, none⟩ = some (.int .u8 a0_11) := (blk_cell BK325.out 11).trans rfl
        have hcz19_12 : wr.cell? ⟨gb325, 12, none⟩ = some (.int .u8 a0_12) := (blk_cell BK325.out 12).trans rfl
        have hcz19_13 : wr.cell? ⟨gb325, 13, none⟩ = some (.int .u8 a0_13) := (blk_cell BK325.out 13).trans rfl
        have hcz19_14 : wr.cell? ⟨gb325, 14, none⟩ = some (.int .u8 a0_14) := (blk_cell BK325.out 14).trans rfl
        have hcz19_15 : wr.cell? ⟨gb325, 15, none⟩ = some (.int .u8 a0_15) := (blk_cell BK325.out 15).trans rfl
        have hcz19_16 : wr.cell? ⟨gb325, 16, none⟩ = some (.int .u8 a0_16) := (blk_cell BK325.out 16).trans rfl
        have hfz19_0 := blk_frozen BK325.out 0
        have hfz19_1 := blk_frozen BK325.out 1
        have hfz19_2 := blk_frozen BK325.out 2
        have hfz19_3 := blk_frozen BK325.out 3
        have hfz19_4 := blk_frozen BK325.out 4
        have hfz19_5 := blk_frozen BK325.out 5
        have hfz19_6 := blk_frozen BK325.out 6
        have hfz19_7 := blk_frozen BK325.out 7
        have hfz19_8 := blk_frozen BK325.out 8
        have hfz19_9 := blk_frozen BK325.out 9
        have hfz19_10 := blk_frozen BK325.out 10
        have hfz19_11 := blk_frozen BK325.out 11
        have hfz19_12 := blk_frozen BK325.out 12
        have hfz19_13 := blk_frozen BK325.out 13
        have hfz19_14 := blk_frozen BK325.out 14
        have hfz19_15 := blk_frozen BK325.out 15
        have hfz19_16 := blk_frozen BK325.out 16
        have hxar18 : wr.cell? ⟨gb325, 1 + (x3_1).toNat, none⟩ = some (.int .u8 (rd [a0_1, a0_2, a0_3, a0_4, a0_5, a0_6, a0_7, a0_8, a0_9, a0_10, a0_11, a0_12, a0_13, a0_14, a0_15, a0_16] x3_1)) := (blk_idx BK325.out .u8 [.bool a0_0] [a0_1, a0_2, a0_3, a0_4, a0_5, a0_6, a0_7, a0_8, a0_9, a0_10, a0_11, a0_12, a0_13, a0_14, a0_15, a0_16] [] rfl x3_1 (of_decide_eq_true (by first | (with_reducible assumption) | assumption)) (of_decide_eq_true (by first | (with_reducible assumption) | assumption)) rfl)
        have hfar18 := blk_frozen BK325.out (1 + (x3_1).toNat)
        go_wp2
        go_ret
        exact ⟨by first | rfl | (simp [errW_none, errW_some] <;> rfl) | (simp [*, errW_none, errW_some] <;> rfl) | (simp [errW_none, errW_some]; first | exact isEmpty_bne _ | exact isEmpty_beq _ | exact (isEmpty_bne _).symm), by repeat (first | (with_reducible first | exact HB.out | apply below_alloc | apply pw_below_drewN | apply below_drew1 | refine below_set ?_ GE325.out) | exact HB.out)⟩
      ·rw [if_neg c6] at H
       exact absurd H (by simp)
     ·rw [if_neg c5] at H
      exact absurd H (by simp)
    ·rw [if_neg c4] at H
     have c4b0 : decide (x3_1 < 10) = false := decide_eq_false c4
     clear c4
     by_cases c20 : x3_1 ≥ 10
     ·rw [if_pos c20] at H
      have c20b0 : decide (10 ≤ x3_1) = true := decide_eq_true c20
      clear c20
      by_cases c21 : 0 ≤ x3_1
      ·rw [if_pos c21] at H
       have c21b0 : decide (0 ≤ x3_1) = true := decide_eq_true c21
       clear c21
       by_cases c22 : x3_1 < 16
       ·rw [if_pos c22] at H
        have c22b0 : decide (x3_1 < 16) = true := decide_eq_true c22
        clear c22
        by_cases c23 : (rd [a0_1, a0_2, a0_3, a0_4, a0_5, a0_6, a0_7, a0_8, a0_9, a0_10, a0_11, a0_12, a0_13, a0_14, a0_15, a0_16] x3_1) = 255
        ·rw [if_pos c23] at H
         have c23b0 : ((rd [a0_1, a0_2, a0_3, a0_4, a0_5, a0_6, a0_7, a0_8, a0_9, a0_10, a0_11, a0_12, a0_13, a0_14, a0_15, a0_16] x3_1) == 255) = true := beq_iff_eq.mpr c23
         have c23b1 : ((rd [a0_1, a0_2, a0_3, a0_4, a0_5, a0_6, a0_7, a0_8, a0_9, a0_10, a0_11, a0_12, a0_13, a0_14, a0_15, a0_16] x3_1) != 255) = false := bne_eq_false_iff_eq.mpr c23
         clear c23
         have H' := Aside0.mk H
         clear H
         have par24 : (0 ≤ x3_1) = True := eq_true (of_decide_eq_true (by first | (with_reducible assumption) | assumption))
         have qar24 : (x3_1 < 16) = True := eq_true (of_decide_eq_true (by first | (with_reducible assumption) | assumption))
         have hcz25_0 : wr.cell? ⟨gb325, 0, none⟩ = some (.bool a0_0) := (blk_cell BK325.out 0).trans rfl
         have hcz25_1 : wr.cell? ⟨gb325, 1, none⟩ = some (.int .u8 a0_1) := (blk_cell BK325.out 1).trans rfl
         have hcz25_2 : wr.cell? ⟨gb325, 2, none⟩ = some (.int .u8 a0_2) := (blk_cell BK325.out 2).trans rfl
         have hcz25_3 : wr.cell? ⟨gb325, 3, none⟩ = some (.int .u8 a0_3) := (blk_cell BK325.out 3).trans rfl
         have hcz25_4 : wr.cell? ⟨gb325, 4, none⟩ = some (.int .u8 a0_4) := (blk_cell BK325.out 4).trans rfl
         have hcz25_5 : wr.cell? ⟨gb325, 5, none⟩ = some (.int .u8 a0_5) := (blk_cell BK325.out 5).trans rfl
         have hcz25_6 : wr.cell? ⟨gb325, 6, none⟩ = some (.int .u8 a0_6) := (blk_cell BK325.out 6).trans rfl
         have hcz25_7 : wr.cell? ⟨gb325, 7, none⟩ = some (.int .u8 a0_7) := (blk_cell BK325.out 7).trans rfl
         have hcz25_8 : wr.cell? ⟨gb325, 8, none⟩ = some (.int .u8 a0_8) := (blk_cell BK325.out 8).trans rfl
         have hcz25_9 : wr.cell? ⟨gb325, 9, none⟩ = some (.int .u8 a0_9) := (blk_cell BK325.out 9).trans rfl
         have hcz25_10 : wr.cell? ⟨gb325, 10, none⟩ = some (.int .u8 a0_10) := (blk_cell BK325.out 10).trans rfl
         have hcz25_11 : wr.cell? ⟨gb325, 11, none⟩ = some (.int .u8 a0_11) := (blk_cell BK325.out 11).trans rfl
         have hcz25_12 : wr.cell? ⟨gb325, 12, none⟩ = some (.int .u8 a0_12) := (blk_cell BK325.out 12).trans rfl
         have hcz25_13 : wr.cell? ⟨gb325, 13, none⟩ = some (.int .u8 a0_13) := (blk_cell BK325.out 13).trans rfl
         have hcz25_14 : wr.cell? ⟨gb325, 14, none⟩ = some (.int .u8 a0_14) := (blk_cell BK325.out 14).trans rfl
         have hcz25_15 : wr.cell? ⟨gb325, 15, none⟩ = some (.int .u8 a0_15) := (blk_cell BK325.out 15).trans rfl
         have hcz25_16 : wr.cell? ⟨gb325, 16, none⟩ = some (.int .u8 a0_16) := (blk_cell BK325.out 16).trans rfl
         have hfz25_0 := blk_frozen BK325.out 0
         have hfz25_1 := blk_frozen BK325.out 1
         have hfz25_2 := blk_frozen BK325.out 2
         have hfz25_3 := blk_frozen BK325.out 3
         have hfz25_4 := blk_frozen BK325.out 4
         have hfz25_5 := blk_frozen BK325.out 5
         have hfz25_6 := blk_frozen BK325.out 6
         have hfz25_7 := blk_frozen BK325.out 7
         have hfz25_8 := blk_frozen BK325.out 8
         have hfz25_9 := blk_frozen BK325.out 9
         have hfz25_10 := blk_frozen BK325.out 10
         have hfz25_11 := blk_frozen BK325.out 11
         have hfz25_12 := blk_frozen BK325.out 12
         have hfz25_13 := blk_frozen BK325.out 13
         have hfz25_14 := blk_frozen BK325.out 14
         have hfz25_15 := blk_frozen BK325.out 15
         have hfz25_16 := blk_frozen BK325.out 16
         have hxar24 : wr.cell? ⟨gb325, 1 + (x3_1).toNat, none⟩ = some (.int .u8 (rd [a0_1, a0_2, a0_3, a0_4, a0_5, a0_6, a0_7, a0_8, a0_9, a0_10, a0_11, a0_12, a0_13, a0_14, a0_15, a0_16] x3_1)) := (blk_idx BK325.out .u8 [.bool a0_0] [a0_1, a0_2, a0_3, a0_4, a0_5, a0_6, a0_7, a0_8, a0_9, a0_10, a0_11, a0_12, a0_13, a0_14, a0_15, a0_16] [] rfl x3_1 (of_decide_eq_true (by first | (with_reducible assumption) | assumption)) (of_decide_eq_true (by first | (with_reducible assumption) | assumption)) rfl)
         have hfar24 := blk_frozen BK325.out (1 + (x3_1).toNat)
         go_wp2
         go_roundg k1
         case measure => have := HK1.out; omega
         case rel => exact ⟨(wrap64 (x3_1 + 1)), (by first | rfl | (simp; done) | (simp [*]; done) | (simp; exact isEmpty_bne _) | (simp; exact isEmpty_beq _)), H', ⟨by have := HK1.out; omega⟩, ⟨by (with_reducible repeat (first | refine blk_drewN ?_ _ | refine blk_drew ?_ | refine blk_alloc ?_ _)); exact BK325.out⟩, ⟨by repeat (first | (with_reducible first | exact HB.out | apply below_alloc | apply pw_below_drewN | apply below_drew1 | refine below_set ?_ GE325.out) | exact HB.out)⟩⟩
        ·rw [if_neg c23] at H
         have c23b0 : ((rd [a0_1, a0_2, a0_3, a0_4, a0_5, a0_6, a0_7, a0_8, a0_9, a0_10, a0_11, a0_12, a0_13, a0_14, a0_15, a0_16] x3_1) == 255) = false := beq_eq_false_iff_ne.mpr c23
         have c23b1 : ((rd [a0_1, a0_2, a0_3, a0_4, a0_5, a0_6, a0_7, a0_8, a0_9, a0_10, a0_11, a0_12, a0_13, a0_14, a0_15, a0_16] x3_1) != 255) = true := bne_iff_ne.mpr c23
         obtain rfl := Option.some.inj H
         have par26 : (0 ≤ x3_1) = True := eq_true (of_decide_eq_true (by first | (with_reducible assumption) | assumption))
         have qar26 : (x3_1 < 16) = True := eq_true (of_decide_eq_true (by first | (with_reducible assumption) | assumption))
         have hcz27_0 : wr.cell? ⟨gb325, 0, none⟩ = some (.bool a0_0) := (blk_cell BK325.out 0).trans rfl
         have hcz27_1 : wr.cell? ⟨gb325, 1, none⟩ = some (.int .u8 a0_1) := (blk_cell BK325.out 1).trans rfl
         have hcz27_2 : wr.cell? ⟨gb325, 2, none⟩ = some (.int .u8 a0_2) := (blk_cell BK325.out 2).trans rfl
         have hcz27_3 : wr.cell? ⟨gb325, 3, none⟩ = some (.int .u8 a0_3) := (blk_cell BK325.out 3).trans rfl
         have hcz27_4 : wr.cell? ⟨gb325, 4, none⟩ = some (.int .u8 a0_4) := (blk_cell BK325.out 4).trans rfl
         have hcz27_5 : wr.cell? ⟨gb325, 5, none⟩ = some (.int .u8 a0_5) := (blk_cell BK325.out 5).trans rfl
         have hcz27_6 : wr.cell? ⟨gb325, 6, none⟩ = some (.int .u8 a0_6) := (blk_cell BK325.out 6).trans rfl
         have hcz27_7 : wr.cell? ⟨gb325, 7, none⟩ = some (.int .u8 a0_7) := (blk_cell BK325.out 7).trans rfl
         have hcz27_8 : wr.cell? ⟨gb325, 8, none⟩ = some (.int .u8 a0_8) := (blk_cell BK325.out 8).trans rfl
         have hcz27_9 : wr.cell? ⟨gb325, 9, none⟩ = some (.int .u8 a0_9) := (blk_cell BK325.out 9).trans rfl
         have hcz27_10 : wr.cell? ⟨gb325, 10, none⟩ = some (.int .u8 a0_10) := (blk_cell BK325.out 10).trans rfl
         have hcz27_11 : wr.cell? ⟨gb325, 11, none⟩ = some (.int .u8 a0_11) := (blk_cell BK325.out 11).trans rfl
         have hcz27_12 : wr.cell? ⟨gb325, 12, none⟩ = some (.int .u8 a0_12) := (blk_cell BK325.out 12).trans rfl
         have hcz27_13 : wr.cell? ⟨gb325, 13, none⟩ = some (.int .u8 a0_13) := (blk_cell BK325.out 13).trans rfl
         have hcz27_14 : wr.cell? ⟨gb325, 14, none⟩ = some (.int .u8 a0_14) := (blk_cell BK325.out 14).trans rfl
         have hcz27_15 : wr.cell? ⟨gb325, 15, none⟩ = some (.int .u8 a0_15) := (blk_cell BK325.out 15).trans rfl
         have hcz27_16 : wr.cell? ⟨gb325, 16, none⟩ = some (.int .u8 a0_16) := (blk_cell BK325.out 16).trans rfl
         have hfz27_0 := blk_frozen BK325.out 0
         have hfz27_1 := blk_frozen BK325.out 1
         have hfz27_2 := blk_frozen BK325.out 2
         have hfz27_3 := blk_frozen BK325.out 3
         have hfz27_4 := blk_frozen BK325.out 4
         have hfz27_5 := blk_frozen BK325.out 5
         have hfz27_6 := blk_frozen BK325.out 6
         have hfz27_7 := blk_frozen BK325.out 7
         have hfz27_8 := blk_frozen BK325.out 8
         have hfz27_9 := blk_frozen BK325.out 9
         have hfz27_10 := blk_frozen BK325.out 10
         have hfz27_11 := blk_frozen BK325.out 11
         have hfz27_12 := blk_frozen BK325.out 12
         have hfz27_13 := blk_frozen BK325.out 13
         have hfz27_14 := blk_frozen BK325.out 14
         have hfz27_15 := blk_frozen BK325.out 15
         have hfz27_16 := blk_frozen BK325.out 16
         have hxar26 : wr.cell? ⟨gb325, 1 + (x3_1).toNat, none⟩ = some (.int .u8 (rd [a0_1, a0_2, a0_3, a0_4, a0_5, a0_6, a0_7, a0_8, a0_9, a0_10, a0_11, a0_12, a0_13, a0_14, a0_15, a0_16] x3_1)) := (blk_idx BK325.out .u8 [.bool a0_0] [a0_1, a0_2, a0_3, a0_4, a0_5, a0_6, a0_7, a0_8, a0_9, a0_10, a0_11, a0_12, a0_13, a0_14, a0_15, a0_16] [] rfl x3_1 (of_decide_eq_true (by first | (with_reducible assumption) | assumption)) (of_decide_eq_true (by first | (with_reducible assumption) | assumption)) rfl)
         have hfar26 := blk_frozen BK325.out (1 + (x3_1).toNat)
         go_wp2
         go_ret
         exact ⟨by first | rfl | (simp [errW_none, errW_some] <;> rfl) | (simp [*, errW_none, errW_some] <;> rfl) | (simp [errW_none, errW_some]; first | exact isEmpty_bne _ | exact isEmpty_beq _ | exact (isEmpty_bne _).symm), by repeat (first | (with_reducible first | exact HB.out | apply below_alloc | apply pw_below_drewN | apply below_drew1 | refine below_set ?_ GE325.out) | exact HB.out)⟩
       ·rw [if_neg c22] at H
        exact absurd H (by simp)
      ·rw [if_neg c21] at H
       exact absurd H (by simp)
     ·rw [if_neg c20] at H
      have c20b0 : decide (10 ≤ x3_1) = false := decide_eq_false c20
      clear c20
      have H' := Aside0.mk H
      clear H
      go_wp2
      go_roundg k1
      case measure => have := HK1.out; omega
      case rel => exact ⟨(wrap64 (x3_1 + 1)), (by first | rfl | (simp; done) | (simp [*]; done) | (simp; exact isEmpty_bne _) | (simp; exact isEmpty_beq _)), H', ⟨by have := HK1.out; omega⟩, ⟨by (with_reducible repeat (first | refine blk_drewN ?_ _ | refine blk_drew ?_ | refine blk_alloc ?_ _)); exact BK325.out⟩, ⟨by repeat (first | (with_reducible first | exact HB.out | apply below_alloc | apply pw_below_drewN | apply below_drew1 | refine below_set ?_ GE325.out) | exact HB.out)⟩⟩
   ·rw [if_neg c3] at H
    have c3b0 : decide (x3_1 < 12) = false := decide_eq_false c3
    clear c3
    obtain rfl := Option.some.inj H
    have hcz28_0 : wr.cell? ⟨gb325, 0, none⟩ = some (.bool a0_0) := (blk_cell BK325.out 0).trans rfl
    have hcz28_1 : wr.cell? ⟨gb325, 1, none⟩ = some (.int .u8 a0_1) := (blk_cell BK325.out 1).trans rfl
    have hcz28_2 : wr.cell? ⟨gb325, 2, none⟩ = some (.int .u8 a0_2) := (blk_cell BK325.out 2).trans rfl
    have hcz28_3 : wr.cell? ⟨gb325, 3, none⟩ = some (.int .u8 a0_3) := (blk_cell BK325.out 3).trans rfl
    have hcz28_4 : wr.cell? ⟨gb325, 4, none⟩ = some (.int .u8 a0_4) := (blk_cell BK325.out 4).trans rfl
    have hcz28_5 : wr.cell? ⟨gb325, 5, none⟩ = some (.int .u8 a0_5) := (blk_cell BK325.out 5).trans rfl
    have hcz28_6 : wr.cell? ⟨gb325, 6, none⟩ = some (.int .u8 a0_6) := (blk_cell BK325.out 6).trans rfl
    have hcz28_7 : wr.cell? ⟨gb325, 7, none⟩ = some (.int .u8 a0_7) := (blk_cell BK325.out 7).trans rfl
    have hcz28_8 : wr.cell? ⟨gb325, 8, none⟩ = some (.int .u8 a0_8) := (blk_cell BK325.out 8).trans rfl
    have hcz28_9 : wr.cell? ⟨gb325, 9, none⟩ = some (.int .u8 a0_9) := (blk_cell BK325.out 9).trans rfl
    have hcz28_10 : wr.cell? ⟨gb325, 10, none⟩ = some (.int .u8 a0_10) := (blk_cell BK325.out 10).trans rfl
    have hcz28_11 : wr.cell? ⟨gb325, 11, none⟩ = some (.int .u8 a0_11) := (blk_cell BK325.out 11).trans rfl
    have hcz28_12 : wr.cell? ⟨gb325, 12, none⟩ = some (.int .u8 a0_12) := (blk_cell BK325.out 12).trans rfl
    have hcz28_13 : wr.cell? ⟨gb325, 13, none⟩ = some (.int .u8 a0_13) := (blk_cell BK325.out 13).trans rfl
    have hcz28_14 : wr.cell? ⟨gb325, 14, none⟩ = some (.int .u8 a0_14) := (blk_cell BK325.out 14).trans rfl
    have hcz28_15 : wr.cell? ⟨gb325, 15, none⟩ = some (.int .u8 a0_15) := (blk_cell BK325.out 15).trans rfl
    have hcz28_16 : wr.cell? ⟨gb325, 16, none⟩ = some (.int .u8 a0_16) := (blk_cell BK325.out 16).trans rfl
    have hfz28_0 := blk_frozen BK325.out 0
    have hfz28_1 := blk_frozen BK325.out 1
    have hfz28_2 := blk_frozen BK325.out 2
    have hfz28_3 := blk_frozen BK325.out 3
    have hfz28_4 := blk_frozen BK325.out 4
    have hfz28_5 := blk_frozen BK325.out 5
    have hfz28_6 := blk_frozen BK325.out 6
    have hfz28_7 := blk_frozen BK325.out 7
    have hfz28_8 := blk_frozen BK325.out 8
    have hfz28_9 := blk_frozen BK325.out 9
    have hfz28_10 := blk_frozen BK325.out 10
    have hfz28_11 := blk_frozen BK325.out 11
    have hfz28_12 := blk_frozen BK325.out 12
    have hfz28_13 := blk_frozen BK325.out 13
    have hfz28_14 := blk_frozen BK325.out 14
    have hfz28_15 := blk_frozen BK325.out 15
    have hfz28_16 := blk_frozen BK325.out 16
    go_wp2
    go_ret
    exact ⟨by first | rfl | (simp [errW_none, errW_some] <;> rfl) | (simp [*, errW_none, errW_some] <;> rfl) | (simp [errW_none, errW_some]; first | exact isEmpty_bne _ | exact isEmpty_beq _ | exact (isEmpty_bne _).symm), by repeat (first | (with_reducible first | exact HB.out | apply below_alloc | apply pw_below_drewN | apply below_drew1 | refine below_set ?_ GE325.out) | exact HB.out)⟩

def lanternref05_digits.f : Nat → Int → Int → Option (ByteArray)
 | 0, _, _ => none
 | k + 1, a0, a1 => if a1 = 0 then (none) else (if 0 ≤ (Int.tmod a0 a1) then (if (Int.tmod a0 a1) ≤ (wrap64 ((Int.tmod a0 a1) + 1)) then (if (wrap64 ((Int.tmod a0 a1) + 1)) ≤ 16 then (if a0 < a1 then (some ((⟨#[48, 49, 50, 51, 52, 53, 54, 55, 56, 57, 97, 98, 99, 100, 101, 102]⟩ : ByteArray).extract ((Int.tmod a0 a1) : Int).toNat ((wrap64 ((Int.tmod a0 a1) + 1)) : Int).toNat)) else ((lanternref05_digits.f k (wrap64 (Int.tdiv a0 a1)) a1).bind fun t329 => (if t329.size + ((⟨#[48, 49, 50, 51, 52, 53, 54, 55, 56, 57, 97, 98, 99, 100, 101, 102]⟩ : ByteArray).extract ((Int.tmod a0 a1) : Int).toNat ((wrap64 ((Int.tmod a0 a1) + 1)) : Int).toNat).size ≤ 9223372036854775807 then (some (t329 ++ ((⟨#[48, 49, 50, 51, 52, 53, 54, 55, 56, 57, 97, 98, 99, 100, 101, 102]⟩ : ByteArray).extract ((Int.tmod a0 a1) : Int).toNat ((wrap64 ((Int.tmod a0 a1) + 1)) : Int).toNat))) else (none)))) else (none)) else (none)) else (none))
theorem lanternref05_digits.mono_l : ∀ k, (∀ y0 y1, LeO (lanternref05_digits.f k y0 y1) (lanternref05_digits.f (k + 1) y0 y1))
 | 0 => fun _ _ r h => by simp [lanternref05_digits.f] at h
 | k + 1 => by
  have ih0 := lanternref05_digits.mono_l k
  ·intro y0 y1
   unfold lanternref05_digits.f
   repeat' first
   | (with_reducible exact ih0 _ _)
   | (with_reducible exact LeO.refl _)
   | (with_reducible exact LeO.none _)
   | (with_reducible refine LeO.ite ?_ ?_)
   | (with_reducible refine LeO.bind ?_ (fun _ => ?_))
   | exact ih0 _ _
   | exact LeO.none _
   | refine LeO.ite ?_ ?_
   | refine LeO.bind ?_ (fun _ => ?_)
theorem lanternref05_digits.mono : ∀ a0 a1 k, LeO (lanternref05_digits.f k a0 a1) (lanternref05_digits.f (k + 1) a0 a1) := by
 intro a0 a1 k
 have ih0 := lanternref05_digits.mono_l k
 exact ih0 a0 a1
set_option maxHeartbeats 8000000 in
set_option maxRecDepth 100000 in
theorem lanternref05_digits.calls (k : Nat) : ∀ (a0 : Int) (a1 : Int) (r : ByteArray) (w : World) (hLW : LW w) (h : lanternref05_digits.f k a0 a1 = some r),
  Calls Tryd.prog 36 #[.int .i64 a0, .int .i64 a1] w fun e w' => e = .returned (.string r) ∧ Drawn0 w w' := by
 induction k using Nat.strongRecOn with
 | _ k ih =>
 intro a0 a1 r w hLW h
 cases k with
 | zero => exact absurd h (by simp [lanternref05_digits.f])
 | succ k =>
 simp only [lanternref05_digits.f] at h
 have HLW := Aside0.mk hLW
 clear hLW
 have H : (if a1 = 0 then (none) else (if 0 ≤ (Int.tmod a0 a1) then (if (Int.tmod a0 a1) ≤ (wrap64 ((Int.tmod a0 a1) + 1)) then (if (wrap64 ((Int.tmod a0 a1) + 1)) ≤ 16 then (if a0 < a1 then (some ((⟨#[48, 49, 50, 51, 52, 53, 54, 55, 56, 57, 97, 98, 99, 100, 101, 102]⟩ : ByteArray).extract ((Int.tmod a0 a1) : Int).toNat ((wrap64 ((Int.tmod a0 a1) + 1)) : Int).toNat)) else ((lanternref05_digits.f k (wrap64 (Int.tdiv a0 a1)) a1).bind fun t329 => (if t329.size + ((⟨#[48, 49, 50, 51, 52, 53, 54, 55, 56, 57, 97, 98, 99, 100, 101, 102]⟩ : ByteArray).extract ((Int.tmod a0 a1) : Int).toNat ((wrap64 ((Int.tmod a0 a1) + 1)) : Int).toNat).size ≤ 9223372036854775807 then (some (t329 ++ ((⟨#[48, 49, 50, 51, 52, 53, 54, 55, 56, 57, 97, 98, 99, 100, 101, 102]⟩ : ByteArray).extract ((Int.tmod a0 a1) : Int).toNat ((wrap64 ((Int.tmod a0 a1) + 1)) : Int).toNat))) else (none)))) else (none)) else (none)) else (none))) = some r := h
 clear h
 by_cases c3 : a1 = 0
 ·rw [if_pos c3] at H
  exact absurd H (by simp)
 ·rw [if_neg c3] at H
  have c3b0 : (a1 == 0) = false := beq_eq_false_iff_ne.mpr c3
  have c3b1 : (a1 != 0) = true := bne_iff_ne.mpr c3
  obtain ⟨ji4, hji4⟩ : ∃ j_ : Int, (Int.tmod a0 a1) = j_ := ⟨_, rfl⟩
  replace H : (if 0 ≤ (ji4) then (if (ji4) ≤ (wrap64 ((ji4) + 1)) then (if (wrap64 ((ji4) + 1)) ≤ 16 then (if a0 < a1 then (some ((⟨#[48, 49, 50, 51, 52, 53, 54, 55, 56, 57, 97, 98, 99, 100, 101, 102]⟩ : ByteArray).extract ((ji4) : Int).toNat ((wrap64 ((ji4) + 1)) : Int).toNat)) else ((lanternref05_digits.f k (wrap64 (Int.tdiv a0 a1)) a1).bind fun t329 => (if t329.size + ((⟨#[48, 49, 50, 51, 52, 53, 54, 55, 56, 57, 97, 98, 99, 100, 101, 102]⟩ : ByteArray).extract ((ji4) : Int).toNat ((wrap64 ((ji4) + 1)) : Int).toNat).size ≤ 9223372036854775807 then (some (t329 ++ ((⟨#[48, 49, 50, 51, 52, 53, 54, 55, 56, 57, 97, 98, 99, 100, 101, 102]⟩ : ByteArray).extract ((ji4) : Int).toNat ((wrap64 ((ji4) + 1)) : Int).toNat))) else (none)))) else (none)) else (none)) else (none)) = some r := by first | (rw [hji4] at H; exact H) | (simp only [hji4] at H ⊢; exact H)
  by_cases c5 : 0 ≤ (ji4)
  ·rw [if_pos c5] at H
   have c5b0 := eq_true c5
   have c5b1 : decide (0 ≤ (ji4)) = true := decide_eq_true c5
   clear c5
   by_cases c6 : (ji4) ≤ (wrap64 ((ji4) + 1))
   ·rw [if_pos c6] at H
    have c6b0 := eq_true c6
    have c6b1 : decide ((ji4) ≤ (wrap64 ((ji4) + 1))) = true := decide_eq_true c6
    by_cases c7 : (wrap64 ((ji4) + 1)) ≤ 16
    ·rw [if_pos c7] at H
     have c7b0 := eq_true c7
     have c7b1 : decide ((wrap64 ((ji4) + 1)) ≤ 16) = true := decide_eq_true c7
     by_cases c8 : a0 < a1
     ·rw [if_pos c8] at H
      have c8b0 : decide (a0 < a1) = true := decide_eq_true c8
      clear c8
      obtain rfl := Option.some.inj H
      go_enter Tryd.func36, Tryd.ntmps36
      go_wp2
      repeat (go_quiet (fail); try go_wp2)
      go_ret
      exact ⟨by first | rfl | (simp; done) | (simp only [← hji4] <;> (first | rfl | simp)) | (simp [*]; done), by repeat (first | exact Drawn0.refl _ | apply Drawn0.step)⟩
     ·rw [if_neg c8] at H
      have c8b0 : decide (a0 < a1) = false := decide_eq_false c8
      clear c8
      replace H := Option.bind_eq_some_iff.mp H
      obtain ⟨t329, A90, H⟩ := H
      replace H : (if t329.size + ((⟨#[48, 49, 50, 51, 52, 53, 54, 55, 56, 57, 97, 98, 99, 100, 101, 102]⟩ : ByteArray).extract ((ji4) : Int).toNat ((wrap64 ((ji4) + 1)) : Int).toNat).size ≤ 9223372036854775807 then (some (t329 ++ ((⟨#[48, 49, 50, 51, 52, 53, 54, 55, 56, 57, 97, 98, 99, 100, 101, 102]⟩ : ByteArray).extract ((ji4) : Int).toNat ((wrap64 ((ji4) + 1)) : Int).toNat))) else (none)) = some r := H
      have A9 := Aside0.mk A90
      clear A90
      by_cases c10 : t329.size + ((⟨#[48, 49, 50, 51, 52, 53, 54, 55, 56, 57, 97, 98, 99, 100, 101, 102]⟩ : ByteArray).extract ((ji4) : Int).toNat ((wrap64 ((ji4) + 1)) : Int).toNat).size ≤ 9223372036854775807
      ·rw [if_pos c10] at H
       have c10b0 := eq_true c10
       have c10b1 : decide (t329.size + ((⟨#[48, 49, 50, 51, 52, 53, 54, 55, 56, 57, 97, 98, 99, 100, 101, 102]⟩ : ByteArray).extract ((ji4) : Int).toNat ((wrap64 ((ji4) + 1)) : Int).toNat).size ≤ 9223372036854775807) = true := decide_eq_true c10
       try have c10b2 : (9223372036854775807 < t329.size + ((⟨#[48, 49, 50, 51, 52, 53, 54, 55, 56, 57, 97, 98, 99, 100, 101, 102]⟩ : ByteArray).extract ((ji4) : Int).toNat ((wrap64 ((ji4) + 1)) : Int).toNat).size) = False := eq_false (Nat.not_lt.2 c10)
       obtain rfl := Option.some.inj H
       go_enter Tryd.func36, Tryd.ntmps36
       go_wp2_with (first | (go_at_call 36; (with_reducible refine (ih k (by omega) (wrap64 (Int.tdiv a0 a1)) a1 t329 _ ?side1 A9.out).mono ?_); (case side1 => repeat (first | exact HLW.out | apply LW.drewN | apply LW.drew)); rintro e w' ⟨rfl, ⟨nd, rfl⟩⟩; (try first | exact ⟨rfl, _, World.drewN_drewN _ _ _⟩ | exact ⟨rfl, _, Eq.trans (World.drewN_drewN _ _ _) (congrArg (World.drewN _) (Nat.add_assoc _ _ _))⟩)))
       repeat (go_quiet (first | (go_at_call 36; (with_reducible refine (ih k (by omega) (wrap64 (Int.tdiv a0 a1)) a1 t329 _ ?side1 A9.out).mono ?_); (case side1 => repeat (first | exact HLW.out | apply LW.drewN | apply LW.drew)); rintro e w' ⟨rfl, ⟨nd, rfl⟩⟩; (try first | exact ⟨rfl, _, World.drewN_drewN _ _ _⟩ | exact ⟨rfl, _, Eq.trans (World.drewN_drewN _ _ _) (congrArg (World.drewN _) (Nat.add_assoc _ _ _))⟩))); try go_wp2_with (first | (go_at_call 36; (with_reducible refine (ih k (by omega) (wrap64 (Int.tdiv a0 a1)) a1 t329 _ ?side1 A9.out).mono ?_); (case side1 => repeat (first | exact HLW.out | apply LW.drewN | apply LW.drew)); rintro e w' ⟨rfl, ⟨nd, rfl⟩⟩; (try first | exact ⟨rfl, _, World.drewN_drewN _ _ _⟩ | exact ⟨rfl, _, Eq.trans (World.drewN_drewN _ _ _) (congrArg (World.drewN _) (Nat.add_assoc _ _ _))⟩))))
       go_ret
       exact ⟨by first | rfl | (simp; done) | (simp only [← hji4] <;> (first | rfl | simp)) | (simp [*]; done), by repeat (first | exact Drawn0.refl _ | apply Drawn0.step)⟩
      ·rw [if_neg c10] at H
       exact absurd H (by simp)
    ·rw [if_neg c7] at H
     exact absurd H (by simp)
   ·rw [if_neg c6] at H
    exact absurd H (by simp)
  ·rw [if_neg c5] at H
   exact absurd H (by simp)

end Go.Proofs.YtfiefecjcmcejaaDoor.P
