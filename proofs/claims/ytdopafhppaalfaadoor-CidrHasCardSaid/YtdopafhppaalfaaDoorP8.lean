-- Written by a program of this session (wip/gen/lprint.py over the kit's print.py) out of the translation. Lean checks it.
import Derived.Test.YtdopafhppaalfaaDoorP0
import Derived.Test.YtdopafhppaalfaaDoorZ
namespace Go.Proofs.YtdopafhppaalfaaDoor.P
open Go.Proofs.YtdopafhppaalfaaDoorZ
open Go.Proofs.YtdopafhppaalfaaDoor.E Go.Proofs.YtdopafhppaalfaaDoorV
open Go.RowKit Go.Proofs.YtdopafhppaalfaaDoorW.PrintWords Go.Proofs.YtdopafhppaalfaaDoorW.PrintLast Go.Proofs.YtdopafhppaalfaaDoorW.PrintMore
attribute [local go_sem] max2_int min2_int max_two min_two max_three min_three max_four min_four   -- for this text's walks alone
set_option linter.unusedVariables false
set_option linter.unusedSimpArgs false

mutual
def lanternref05_May.l0 : Nat → Int → Bool → Int → Int → Int → Int → Int → Int → Int → Int → Int → Int → Int → Int → Int → Int → Int → Int → Option (Bool)
 | 0, _, _, _, _, _, _, _, _, _, _, _, _, _, _, _, _, _, _ => none
 | k + 1, x3, x420000, x420001, x420002, x420003, x420004, x420005, x420006, x420007, x420008, x420009, x420010, x420011, x420012, x420013, x420014, x420015, x420016 => if x3 < 12 then (lanternref05_May.j1 k x3 (!x420000) x420000 x420001 x420002 x420003 x420004 x420005 x420006 x420007 x420008 x420009 x420010 x420011 x420012 x420013 x420014 x420015 x420016) else (lanternref05_May.j1 k x3 false x420000 x420001 x420002 x420003 x420004 x420005 x420006 x420007 x420008 x420009 x420010 x420011 x420012 x420013 x420014 x420015 x420016)
def lanternref05_May.j1 : Nat → Int → Bool → Bool → Int → Int → Int → Int → Int → Int → Int → Int → Int → Int → Int → Int → Int → Int → Int → Int → Option (Bool)
 | 0, _, _, _, _, _, _, _, _, _, _, _, _, _, _, _, _, _, _, _ => none
 | k + 1, x3, x10, x420000, x420001, x420002, x420003, x420004, x420005, x420006, x420007, x420008, x420009, x420010, x420011, x420012, x420013, x420014, x420015, x420016 => if x10 = true then (if 0 ≤ x3 then (if x3 < 16 then (if (rd [x420001, x420002, x420003, x420004, x420005, x420006, x420007, x420008, x420009, x420010, x420011, x420012, x420013, x420014, x420015, x420016] x3) = 0 then (lanternref05_May.l0 k (wrap64 (x3 + 1)) x420000 x420001 x420002 x420003 x420004 x420005 x420006 x420007 x420008 x420009 x420010 x420011 x420012 x420013 x420014 x420015 x420016) else (some false)) else (none)) else (none)) else (some true)
end
def lanternref05_May.f (k : Nat) (a0_0 : Bool) (a0_1 : Int) (a0_2 : Int) (a0_3 : Int) (a0_4 : Int) (a0_5 : Int) (a0_6 : Int) (a0_7 : Int) (a0_8 : Int) (a0_9 : Int) (a0_10 : Int) (a0_11 : Int) (a0_12 : Int) (a0_13 : Int) (a0_14 : Int) (a0_15 : Int) (a0_16 : Int) : Option (Bool) := lanternref05_May.l0 k 0 a0_0 a0_1 a0_2 a0_3 a0_4 a0_5 a0_6 a0_7 a0_8 a0_9 a0_10 a0_11 a0_12 a0_13 a0_14 a0_15 a0_16
theorem lanternref05_May.mono_l : ∀ k, (∀ y0 y1 y2 y3 y4 y5 y6 y7 y8 y9 y10 y11 y12 y13 y14 y15 y16 y17, LeO (lanternref05_May.l0 k y0 y1 y2 y3 y4 y5 y6 y7 y8 y9 y10 y11 y12 y13 y14 y15 y16 y17) (lanternref05_May.l0 (k + 1) y0 y1 y2 y3 y4 y5 y6 y7 y8 y9 y10 y11 y12 y13 y14 y15 y16 y17)) ∧ (∀ y0 y1 y2 y3 y4 y5 y6 y7 y8 y9 y10 y11 y12 y13 y14 y15 y16 y17 y18, LeO (lanternref05_May.j1 k y0 y1 y2 y3 y4 y5 y6 y7 y8 y9 y10 y11 y12 y13 y14 y15 y16 y17 y18) (lanternref05_May.j1 (k + 1) y0 y1 y2 y3 y4 y5 y6 y7 y8 y9 y10 y11 y12 y13 y14 y15 y16 y17 y18))
 | 0 => ⟨fun _ _ _ _ _ _ _ _ _ _ _ _ _ _ _ _ _ _ r h => by simp [lanternref05_May.l0] at h, fun _ _ _ _ _ _ _ _ _ _ _ _ _ _ _ _ _ _ _ r h => by simp [lanternref05_May.j1] at h⟩
 | k + 1 => by
  obtain ⟨ih0, ih1⟩ := lanternref05_May.mono_l k
  refine ⟨?_, ?_⟩
  ·intro y0 y1 y2 y3 y4 y5 y6 y7 y8 y9 y10 y11 y12 y13 y14 y15 y16 y17
   unfold lanternref05_May.l0
   repeat' first
   | (with_reducible exact ih0 _ _ _ _ _ _ _ _ _ _ _ _ _ _ _ _ _ _)
   | (with_reducible exact ih1 _ _ _ _ _ _ _ _ _ _ _ _ _ _ _ _ _ _ _)
   | (with_reducible exact LeO.refl _)
   | (with_reducible exact LeO.none _)
   | (with_reducible refine LeO.ite ?_ ?_)
   | (with_reducible refine LeO.bind ?_ (fun _ => ?_))
   | exact ih0 _ _ _ _ _ _ _ _ _ _ _ _ _ _ _ _ _ _
   | exact ih1 _ _ _ _ _ _ _ _ _ _ _ _ _ _ _ _ _ _ _
   | exact LeO.none _
   | refine LeO.ite ?_ ?_
   | refine LeO.bind ?_ (fun _ => ?_)
  ·intro y0 y1 y2 y3 y4 y5 y6 y7 y8 y9 y10 y11 y12 y13 y14 y15 y16 y17 y18
   unfold lanternref05_May.j1
   repeat' first
   | (with_reducible exact ih0 _ _ _ _ _ _ _ _ _ _ _ _ _ _ _ _ _ _)
   | (with_reducible exact ih1 _ _ _ _ _ _ _ _ _ _ _ _ _ _ _ _ _ _ _)
   | (with_reducible exact LeO.refl _)
   | (with_reducible exact LeO.none _)
   | (with_reducible refine LeO.ite ?_ ?_)
   | (with_reducible refine LeO.bind ?_ (fun _ => ?_))
   | exact ih0 _ _ _ _ _ _ _ _ _ _ _ _ _ _ _ _ _ _
   | exact ih1 _ _ _ _ _ _ _ _ _ _ _ _ _ _ _ _ _ _ _
   | exact LeO.none _
   | refine LeO.ite ?_ ?_
   | refine LeO.bind ?_ (fun _ => ?_)
theorem lanternref05_May.mono : ∀ a0 a1 a2 a3 a4 a5 a6 a7 a8 a9 a10 a11 a12 a13 a14 a15 a16 k, LeO (lanternref05_May.f k a0 a1 a2 a3 a4 a5 a6 a7 a8 a9 a10 a11 a12 a13 a14 a15 a16) (lanternref05_May.f (k + 1) a0 a1 a2 a3 a4 a5 a6 a7 a8 a9 a10 a11 a12 a13 a14 a15 a16) := by
 intro a0 a1 a2 a3 a4 a5 a6 a7 a8 a9 a10 a11 a12 a13 a14 a15 a16 k
 obtain ⟨ih0, ih1⟩ := lanternref05_May.mono_l k
 unfold lanternref05_May.f
 repeat' first
   | (with_reducible exact ih0 _ _ _ _ _ _ _ _ _ _ _ _ _ _ _ _ _ _)
   | (with_reducible exact ih1 _ _ _ _ _ _ _ _ _ _ _ _ _ _ _ _ _ _ _)
   | (with_reducible exact LeO.refl _)
   | (with_reducible exact LeO.none _)
   | (with_reducible refine LeO.ite ?_ ?_)
   | (with_reducible refine LeO.bind ?_ (fun _ => ?_))
   | exact ih0 _ _ _ _ _ _ _ _ _ _ _ _ _ _ _ _ _ _
   | exact ih1 _ _ _ _ _ _ _ _ _ _ _ _ _ _ _ _ _ _ _
   | exact LeO.none _
   | refine LeO.ite ?_ ?_
   | refine LeO.bind ?_ (fun _ => ?_)
set_option maxHeartbeats 8000000 in
set_option maxRecDepth 100000 in
theorem lanternref05_May.calls (k : Nat) (a0_0 : Bool) (a0_1 : Int) (a0_2 : Int) (a0_3 : Int) (a0_4 : Int) (a0_5 : Int) (a0_6 : Int) (a0_7 : Int) (a0_8 : Int) (a0_9 : Int) (a0_10 : Int) (a0_11 : Int) (a0_12 : Int) (a0_13 : Int) (a0_14 : Int) (a0_15 : Int) (a0_16 : Int) (r : Bool) (w : World) (hLW : LW w) (h : lanternref05_May.f k a0_0 a0_1 a0_2 a0_3 a0_4 a0_5 a0_6 a0_7 a0_8 a0_9 a0_10 a0_11 a0_12 a0_13 a0_14 a0_15 a0_16 = some r) :
  Calls Tryd.prog 15 #[.agg #[.bool a0_0, .int .u8 a0_1, .int .u8 a0_2, .int .u8 a0_3, .int .u8 a0_4, .int .u8 a0_5, .int .u8 a0_6, .int .u8 a0_7, .int .u8 a0_8, .int .u8 a0_9, .int .u8 a0_10, .int .u8 a0_11, .int .u8 a0_12, .int .u8 a0_13, .int .u8 a0_14, .int .u8 a0_15, .int .u8 a0_16]] w fun e w' => e = .returned (.bool r) ∧ Below w.heap.size w w' := by
 have hu24 := Tryd.underlying24
 have HLW := Aside0.mk hLW
 clear hLW
 have HB := Aside0.mk (Below.refl w.heap.size w)
 have H : (lanternref05_May.l0 k 0 a0_0 a0_1 a0_2 a0_3 a0_4 a0_5 a0_6 a0_7 a0_8 a0_9 a0_10 a0_11 a0_12 a0_13 a0_14 a0_15 a0_16) = some r := h
 clear h
 have H' := Aside0.mk H
 clear H
 go_enter Tryd.func15, Tryd.ntmps15
 go_wp2_with (first | ((with_reducible refine gate_dst (N := 1) rfl ?_); refine box_event ?hg (N := 1) ?hd (cs := #[.bool a0_0, .int .u8 a0_1, .int .u8 a0_2, .int .u8 a0_3, .int .u8 a0_4, .int .u8 a0_5, .int .u8 a0_6, .int .u8 a0_7, .int .u8 a0_8, .int .u8 a0_9, .int .u8 a0_10, .int .u8 a0_11, .int .u8 a0_12, .int .u8 a0_13, .int .u8 a0_14, .int .u8 a0_15, .int .u8 a0_16]) (t := 24) ?hr ?_; (case hd => rfl); (case hg => rfl); (case hr => first | (go_simp; done) | (go_simp; rfl)); intro gb419 hg w2 hbox hb; have n0_ := Aside0.mk (below_step bq_ hb); have n1_ := Aside0.mk (hbox); have n2_ := Aside0.mk (show w.heap.size ≤ gb419 from ge_ hg); have n3_ := Aside0.mk (show w.heap.size ≤ gb419 from ge_ hg); clear HB; have HB := n0_; have BK419 := n1_; have GW419 := n2_; have GE419 := n3_; clear n0_ n1_ n2_ n3_; clear hb hbox hg))
 go_loopg [3] k (fun kq v3 w' => ∃ (x3_1 : Int), v3 = .int .i64 x3_1 ∧ Aside0 (lanternref05_May.l0 kq x3_1 a0_0 a0_1 a0_2 a0_3 a0_4 a0_5 a0_6 a0_7 a0_8 a0_9 a0_10 a0_11 a0_12 a0_13 a0_14 a0_15 a0_16 = some r) ∧ Aside0 (kq ≤ k) ∧ Aside0 (w'.heap[gb419]? = some (.cells #[.bool a0_0, .int .u8 a0_1, .int .u8 a0_2, .int .u8 a0_3, .int .u8 a0_4, .int .u8 a0_5, .int .u8 a0_6, .int .u8 a0_7, .int .u8 a0_8, .int .u8 a0_9, .int .u8 a0_10, .int .u8 a0_11, .int .u8 a0_12, .int .u8 a0_13, .int .u8 a0_14, .int .u8 a0_15, .int .u8 a0_16] 24 (0, 0))) ∧ Aside0 (Below w.heap.size w w'))
 case atStart => exact ⟨(0), sq_, H', ⟨Nat.le_refl _⟩, ⟨by (with_reducible repeat (first | refine blk_drewN ?_ _ | refine blk_drew ?_ | refine blk_alloc ?_ _)); exact BK419.out⟩, ⟨bg_⟩⟩
 case round =>
  clear H'
  try clear c1
  try clear p2
  obtain ⟨x3_1, rfl, HA, HK1, BK419, HB⟩ := hrel
  cases gk with
  | zero => exact absurd HA.out (by simp [lanternref05_May.l0])
  | succ k1 =>
   have H := HA.out
   clear HA
   simp only [lanternref05_May.l0] at H
   have HC3 := Aside0.mk H
   clear H
   go_upto_region 2 with (fail)
   go_cut [10] (fun v10 wc => ∃ (kq : Nat) (x10_2 : Bool), v10 = .bool x10_2 ∧ Aside0 (lanternref05_May.j1 kq x3_1 x10_2 a0_0 a0_1 a0_2 a0_3 a0_4 a0_5 a0_6 a0_7 a0_8 a0_9 a0_10 a0_11 a0_12 a0_13 a0_14 a0_15 a0_16 = some r) ∧ Aside0 (kq ≤ k1) ∧ Aside0 (wc.heap[gb419]? = some (.cells #[.bool a0_0, .int .u8 a0_1, .int .u8 a0_2, .int .u8 a0_3, .int .u8 a0_4, .int .u8 a0_5, .int .u8 a0_6, .int .u8 a0_7, .int .u8 a0_8, .int .u8 a0_9, .int .u8 a0_10, .int .u8 a0_11, .int .u8 a0_12, .int .u8 a0_13, .int .u8 a0_14, .int .u8 a0_15, .int .u8 a0_16] 24 (0, 0))) ∧ Aside0 (Below w.heap.size w wc))
   case first =>
    have H := HC3.out
    clear HC3
    by_cases c4 : x3_1 < 12
    ·rw [if_pos c4] at H
     have c4b0 : decide (x3_1 < 12) = true := decide_eq_true c4
     clear c4
     (first | rw [c4b0] | (simp only [i64_w, i32_w]; rw [c4b0]) | skip)
     have H' := Aside0.mk H
     clear H
     have hcz5_0 := cz_ BK419 0 (.bool a0_0)
     have hcz5_1 := cz_ BK419 1 (.int .u8 a0_1)
     have hcz5_2 := cz_ BK419 2 (.int .u8 a0_2)
     have hcz5_3 := cz_ BK419 3 (.int .u8 a0_3)
     have hcz5_4 := cz_ BK419 4 (.int .u8 a0_4)
     have hcz5_5 := cz_ BK419 5 (.int .u8 a0_5)
     have hcz5_6 := cz_ BK419 6 (.int .u8 a0_6)
     have hcz5_7 := cz_ BK419 7 (.int .u8 a0_7)
     have hcz5_8 := cz_ BK419 8 (.int .u8 a0_8)
     have hcz5_9 := cz_ BK419 9 (.int .u8 a0_9)
     have hcz5_10 := cz_ BK419 10 (.int .u8 a0_10)
     have hcz5_11 := cz_ BK419 11 (.int .u8 a0_11)
     have hcz5_12 := cz_ BK419 12 (.int .u8 a0_12)
     have hcz5_13 := cz_ BK419 13 (.int .u8 a0_13)
     have hcz5_14 := cz_ BK419 14 (.int .u8 a0_14)
     have hcz5_15 := cz_ BK419 15 (.int .u8 a0_15)
     have hcz5_16 := cz_ BK419 16 (.int .u8 a0_16)
     have hfz5_0 := bf_ BK419 0
     have hfz5_1 := bf_ BK419 1
     have hfz5_2 := bf_ BK419 2
     have hfz5_3 := bf_ BK419 3
     have hfz5_4 := bf_ BK419 4
     have hfz5_5 := bf_ BK419 5
     have hfz5_6 := bf_ BK419 6
     have hfz5_7 := bf_ BK419 7
     have hfz5_8 := bf_ BK419 8
     have hfz5_9 := bf_ BK419 9
     have hfz5_10 := bf_ BK419 10
     have hfz5_11 := bf_ BK419 11
     have hfz5_12 := bf_ BK419 12
     have hfz5_13 := bf_ BK419 13
     have hfz5_14 := bf_ BK419 14
     have hfz5_15 := bf_ BK419 15
     have hfz5_16 := bf_ BK419 16
     go_wp2
     go_meet
     case rel => exact ⟨_, (!a0_0), sq_, H', ⟨by have := HK1.out; first | omega | exact Nat.le_refl _⟩, ⟨by (with_reducible repeat (first | refine blk_drewN ?_ _ | refine blk_drew ?_ | refine blk_alloc ?_ _)); exact BK419.out⟩, ⟨bg_⟩⟩
    ·rw [if_neg c4] at H
     have c4b0 : decide (x3_1 < 12) = false := decide_eq_false c4
     clear c4
     (first | rw [c4b0] | (simp only [i64_w, i32_w]; rw [c4b0]) | skip)
     have H' := Aside0.mk H
     clear H
     go_wp2
     go_meet
     case rel => exact ⟨_, (false), sq_, H', ⟨by have := HK1.out; first | omega | exact Nat.le_refl _⟩, ⟨by (with_reducible repeat (first | refine blk_drewN ?_ _ | refine blk_drew ?_ | refine blk_alloc ?_ _)); exact BK419.out⟩, ⟨bg_⟩⟩
   case rest =>
    clear HC3
    try clear c1
    try clear p2
    try clear c4
    try clear c4b0
    try clear hcz5_0
    try clear hcz5_1
    try clear hcz5_10
    try clear hcz5_11
    try clear hcz5_12
    try clear hcz5_13
    try clear hcz5_14
    try clear hcz5_15
    try clear hcz5_16
    try clear hcz5_2
    try clear hcz5_3
    try clear hcz5_4
    try clear hcz5_5
    try clear hcz5_6
    try clear hcz5_7
    try clear hcz5_8
    try clear hcz5_9
    try clear hfz5_0
    try clear hfz5_1
    try clear hfz5_10
    try clear hfz5_11
    try clear hfz5_12
    try clear hfz5_13
    try clear hfz5_14
    try clear hfz5_15
    try clear hfz5_16
    try clear hfz5_2
    try clear hfz5_3
    try clear hfz5_4
    try clear hfz5_5
    try clear hfz5_6
    try clear hfz5_7
    try clear hfz5_8
    try clear hfz5_9
    try clear p2
    obtain ⟨kq, x10_2, rfl, HA, HJ2, BK419, HB⟩ := hcut
    cases kq with
    | zero => exact absurd HA.out (by simp [lanternref05_May.j1])
    | succ kj2 =>
     have H := HA.out
     clear HA
     simp only [lanternref05_May.j1] at H
     by_cases c6 : x10_2 = true
     ·subst c6
      replace H := ifT_ H
      by_cases c7 : 0 ≤ x3_1
      ·rw [if_pos c7] at H
       have c7b0 : decide (0 ≤ x3_1) = true := decide_eq_true c7
       clear c7
       by_cases c8 : x3_1 < 16
       ·rw [if_pos c8] at H
        have c8b0 : decide (x3_1 < 16) = true := decide_eq_true c8
        clear c8
        by_cases c9 : (rd [a0_1, a0_2, a0_3, a0_4, a0_5, a0_6, a0_7, a0_8, a0_9, a0_10, a0_11, a0_12, a0_13, a0_14, a0_15, a0_16] x3_1) = 0
        ·rw [if_pos c9] at H
         have c9b0 : ((rd [a0_1, a0_2, a0_3, a0_4, a0_5, a0_6, a0_7, a0_8, a0_9, a0_10, a0_11, a0_12, a0_13, a0_14, a0_15, a0_16] x3_1) == 0) = true := beq_iff_eq.mpr c9
         have c9b1 : ((rd [a0_1, a0_2, a0_3, a0_4, a0_5, a0_6, a0_7, a0_8, a0_9, a0_10, a0_11, a0_12, a0_13, a0_14, a0_15, a0_16] x3_1) != 0) = false := bne_eq_false_iff_eq.mpr c9
         clear c9
         have H' := Aside0.mk H
         clear H
         have par10 : (0 ≤ x3_1) = True := eq_true (of_decide_eq_true as_)
         have qar10 : (x3_1 < 16) = True := eq_true (of_decide_eq_true as_)
         have hcz11_0 := cz_ BK419 0 (.bool a0_0)
         have hcz11_1 := cz_ BK419 1 (.int .u8 a0_1)
         have hcz11_2 := cz_ BK419 2 (.int .u8 a0_2)
         have hcz11_3 := cz_ BK419 3 (.int .u8 a0_3)
         have hcz11_4 := cz_ BK419 4 (.int .u8 a0_4)
         have hcz11_5 := cz_ BK419 5 (.int .u8 a0_5)
         have hcz11_6 := cz_ BK419 6 (.int .u8 a0_6)
         have hcz11_7 := cz_ BK419 7 (.int .u8 a0_7)
         have hcz11_8 := cz_ BK419 8 (.int .u8 a0_8)
         have hcz11_9 := cz_ BK419 9 (.int .u8 a0_9)
         have hcz11_10 := cz_ BK419 10 (.int .u8 a0_10)
         have hcz11_11 := cz_ BK419 11 (.int .u8 a0_11)
         have hcz11_12 := cz_ BK419 12 (.int .u8 a0_12)
         have hcz11_13 := cz_ BK419 13 (.int .u8 a0_13)
         have hcz11_14 := cz_ BK419 14 (.int .u8 a0_14)
         have hcz11_15 := cz_ BK419 15 (.int .u8 a0_15)
         have hcz11_16 := cz_ BK419 16 (.int .u8 a0_16)
         have hfz11_0 := bf_ BK419 0
         have hfz11_1 := bf_ BK419 1
         have hfz11_2 := bf_ BK419 2
         have hfz11_3 := bf_ BK419 3
         have hfz11_4 := bf_ BK419 4
         have hfz11_5 := bf_ BK419 5
         have hfz11_6 := bf_ BK419 6
         have hfz11_7 := bf_ BK419 7
         have hfz11_8 := bf_ BK419 8
         have hfz11_9 := bf_ BK419 9
         have hfz11_10 := bf_ BK419 10
         have hfz11_11 := bf_ BK419 11
         have hfz11_12 := bf_ BK419 12
         have hfz11_13 := bf_ BK419 13
         have hfz11_14 := bf_ BK419 14
         have hfz11_15 := bf_ BK419 15
         have hfz11_16 := bf_ BK419 16
         have hxar10 : wc.cell? ⟨gb419, 1 + (x3_1).toNat, none⟩ = some (.int .u8 (rd [a0_1, a0_2, a0_3, a0_4, a0_5, a0_6, a0_7, a0_8, a0_9, a0_10, a0_11, a0_12, a0_13, a0_14, a0_15, a0_16] x3_1)) := (blk_idx BK419.out .u8 [.bool a0_0] [a0_1, a0_2, a0_3, a0_4, a0_5, a0_6, a0_7, a0_8, a0_9, a0_10, a0_11, a0_12, a0_13, a0_14, a0_15, a0_16] [] rfl x3_1 (of_decide_eq_true as_) (of_decide_eq_true as_) rfl)
         have hfar10 := bf_ BK419 (1 + (x3_1).toNat)
         go_wp2
         go_roundg kj2
         case measure => have := HK1.out; have := HJ2.out; omega
         case rel => exact ⟨(wrap64 (x3_1 + 1)), sq_, H', ⟨by have := HK1.out; have := HJ2.out; omega⟩, ⟨by (with_reducible repeat (first | refine blk_drewN ?_ _ | refine blk_drew ?_ | refine blk_alloc ?_ _)); exact BK419.out⟩, ⟨bg_⟩⟩
        ·rw [if_neg c9] at H
         have c9b0 : ((rd [a0_1, a0_2, a0_3, a0_4, a0_5, a0_6, a0_7, a0_8, a0_9, a0_10, a0_11, a0_12, a0_13, a0_14, a0_15, a0_16] x3_1) == 0) = false := beq_eq_false_iff_ne.mpr c9
         have c9b1 : ((rd [a0_1, a0_2, a0_3, a0_4, a0_5, a0_6, a0_7, a0_8, a0_9, a0_10, a0_11, a0_12, a0_13, a0_14, a0_15, a0_16] x3_1) != 0) = true := bne_iff_ne.mpr c9
         obtain rfl := Option.some.inj H
         have par12 : (0 ≤ x3_1) = True := eq_true (of_decide_eq_true as_)
         have qar12 : (x3_1 < 16) = True := eq_true (of_decide_eq_true as_)
         have hcz13_0 := cz_ BK419 0 (.bool a0_0)
         have hcz13_1 := cz_ BK419 1 (.int .u8 a0_1)
         have hcz13_2 := cz_ BK419 2 (.int .u8 a0_2)
         have hcz13_3 := cz_ BK419 3 (.int .u8 a0_3)
         have hcz13_4 := cz_ BK419 4 (.int .u8 a0_4)
         have hcz13_5 := cz_ BK419 5 (.int .u8 a0_5)
         have hcz13_6 := cz_ BK419 6 (.int .u8 a0_6)
         have hcz13_7 := cz_ BK419 7 (.int .u8 a0_7)
         have hcz13_8 := cz_ BK419 8 (.int .u8 a0_8)
         have hcz13_9 := cz_ BK419 9 (.int .u8 a0_9)
         have hcz13_10 := cz_ BK419 10 (.int .u8 a0_10)
         have hcz13_11 := cz_ BK419 11 (.int .u8 a0_11)
         have hcz13_12 := cz_ BK419 12 (.int .u8 a0_12)
         have hcz13_13 := cz_ BK419 13 (.int .u8 a0_13)
         have hcz13_14 := cz_ BK419 14 (.int .u8 a0_14)
         have hcz13_15 := cz_ BK419 15 (.int .u8 a0_15)
         have hcz13_16 := cz_ BK419 16 (.int .u8 a0_16)
         have hfz13_0 := bf_ BK419 0
         have hfz13_1 := bf_ BK419 1
         have hfz13_2 := bf_ BK419 2
         have hfz13_3 := bf_ BK419 3
         have hfz13_4 := bf_ BK419 4
         have hfz13_5 := bf_ BK419 5
         have hfz13_6 := bf_ BK419 6
         have hfz13_7 := bf_ BK419 7
         have hfz13_8 := bf_ BK419 8
         have hfz13_9 := bf_ BK419 9
         have hfz13_10 := bf_ BK419 10
         have hfz13_11 := bf_ BK419 11
         have hfz13_12 := bf_ BK419 12
         have hfz13_13 := bf_ BK419 13
         have hfz13_14 := bf_ BK419 14
         have hfz13_15 := bf_ BK419 15
         have hfz13_16 := bf_ BK419 16
         have hxar12 : wc.cell? ⟨gb419, 1 + (x3_1).toNat, none⟩ = some (.int .u8 (rd [a0_1, a0_2, a0_3, a0_4, a0_5, a0_6, a0_7, a0_8, a0_9, a0_10, a0_11, a0_12, a0_13, a0_14, a0_15, a0_16] x3_1)) := (blk_idx BK419.out .u8 [.bool a0_0] [a0_1, a0_2, a0_3, a0_4, a0_5, a0_6, a0_7, a0_8, a0_9, a0_10, a0_11, a0_12, a0_13, a0_14, a0_15, a0_16] [] rfl x3_1 (of_decide_eq_true as_) (of_decide_eq_true as_) rfl)
         have hfar12 := bf_ BK419 (1 + (x3_1).toNat)
         go_wp2
         go_ret
         exact ⟨rq_, bg_⟩
       ·rw [if_neg c8] at H
        exact absurd H (by simp)
      ·rw [if_neg c7] at H
       exact absurd H (by simp)
     ·replace c6 := Bool.eq_false_iff.mpr c6
      subst c6
      replace H := ifF_ H
      obtain rfl := Option.some.inj H
      go_wp2
      go_ret
      exact ⟨rq_, bg_⟩

def lanternref06_bits.f (a0_0 : Bool) (a0_1 : Int) (a0_2 : Int) (a0_3 : Int) (a0_4 : Int) (a0_5 : Int) (a0_6 : Int) (a0_7 : Int) (a0_8 : Int) (a0_9 : Int) (a0_10 : Int) (a0_11 : Int) (a0_12 : Int) (a0_13 : Int) (a0_14 : Int) (a0_15 : Int) (a0_16 : Int) : Option (Int) := if a0_0 = true then (some 128) else (some 32)
set_option maxHeartbeats 8000000 in
set_option maxRecDepth 100000 in
theorem lanternref06_bits.calls (a0_0 : Bool) (a0_1 : Int) (a0_2 : Int) (a0_3 : Int) (a0_4 : Int) (a0_5 : Int) (a0_6 : Int) (a0_7 : Int) (a0_8 : Int) (a0_9 : Int) (a0_10 : Int) (a0_11 : Int) (a0_12 : Int) (a0_13 : Int) (a0_14 : Int) (a0_15 : Int) (a0_16 : Int) (r : Int) (w : World) (hLW : LW w) (h : lanternref06_bits.f a0_0 a0_1 a0_2 a0_3 a0_4 a0_5 a0_6 a0_7 a0_8 a0_9 a0_10 a0_11 a0_12 a0_13 a0_14 a0_15 a0_16 = some r) :
  Calls Tryd.prog 33 #[.agg #[.bool a0_0, .int .u8 a0_1, .int .u8 a0_2, .int .u8 a0_3, .int .u8 a0_4, .int .u8 a0_5, .int .u8 a0_6, .int .u8 a0_7, .int .u8 a0_8, .int .u8 a0_9, .int .u8 a0_10, .int .u8 a0_11, .int .u8 a0_12, .int .u8 a0_13, .int .u8 a0_14, .int .u8 a0_15, .int .u8 a0_16]] w fun e w' => e = .returned (.int .i64 r) ∧ Below w.heap.size w w' := by
 have hu24 := Tryd.underlying24
 have HLW := Aside0.mk hLW
 clear hLW
 have HB := Aside0.mk (Below.refl w.heap.size w)
 have H : (if a0_0 = true then (some 128) else (some 32)) = some r := h
 clear h
 by_cases c2 : a0_0 = true
 ·subst c2
  replace H := ifT_ H
  obtain rfl := Option.some.inj H
  go_enter Tryd.func33, Tryd.ntmps33
  go_wp2_with (first | ((with_reducible refine gate_dst (N := 1) rfl ?_); refine box_event ?hg (N := 1) ?hd (cs := #[.bool true, .int .u8 a0_1, .int .u8 a0_2, .int .u8 a0_3, .int .u8 a0_4, .int .u8 a0_5, .int .u8 a0_6, .int .u8 a0_7, .int .u8 a0_8, .int .u8 a0_9, .int .u8 a0_10, .int .u8 a0_11, .int .u8 a0_12, .int .u8 a0_13, .int .u8 a0_14, .int .u8 a0_15, .int .u8 a0_16]) (t := 24) ?hr ?_; (case hd => rfl); (case hg => rfl); (case hr => first | (go_simp; done) | (go_simp; rfl)); intro gb421 hg w3 hbox hb; have n0_ := Aside0.mk (below_step bq_ hb); have n1_ := Aside0.mk (hbox); have n2_ := Aside0.mk (show w.heap.size ≤ gb421 from ge_ hg); have n3_ := Aside0.mk (show w.heap.size ≤ gb421 from ge_ hg); clear HB; have HB := n0_; have BK421 := n1_; have GW421 := n2_; have GE421 := n3_; clear n0_ n1_ n2_ n3_; clear hb hbox hg; have hcz4_0 := cz_ BK421 0 (.bool true); have hcz4_1 := cz_ BK421 1 (.int .u8 a0_1); have hcz4_2 := cz_ BK421 2 (.int .u8 a0_2); have hcz4_3 := cz_ BK421 3 (.int .u8 a0_3); have hcz4_4 := cz_ BK421 4 (.int .u8 a0_4); have hcz4_5 := cz_ BK421 5 (.int .u8 a0_5); have hcz4_6 := cz_ BK421 6 (.int .u8 a0_6); have hcz4_7 := cz_ BK421 7 (.int .u8 a0_7); have hcz4_8 := cz_ BK421 8 (.int .u8 a0_8); have hcz4_9 := cz_ BK421 9 (.int .u8 a0_9); have hcz4_10 := cz_ BK421 10 (.int .u8 a0_10); have hcz4_11 := cz_ BK421 11 (.int .u8 a0_11); have hcz4_12 := cz_ BK421 12 (.int .u8 a0_12); have hcz4_13 := cz_ BK421 13 (.int .u8 a0_13); have hcz4_14 := cz_ BK421 14 (.int .u8 a0_14); have hcz4_15 := cz_ BK421 15 (.int .u8 a0_15); have hcz4_16 := cz_ BK421 16 (.int .u8 a0_16); have hfz4_0 := bf_ BK421 0; have hfz4_1 := bf_ BK421 1; have hfz4_2 := bf_ BK421 2; have hfz4_3 := bf_ BK421 3; have hfz4_4 := bf_ BK421 4; have hfz4_5 := bf_ BK421 5; have hfz4_6 := bf_ BK421 6; have hfz4_7 := bf_ BK421 7; have hfz4_8 := bf_ BK421 8; have hfz4_9 := bf_ BK421 9; have hfz4_10 := bf_ BK421 10; have hfz4_11 := bf_ BK421 11; have hfz4_12 := bf_ BK421 12; have hfz4_13 := bf_ BK421 13; have hfz4_14 := bf_ BK421 14; have hfz4_15 := bf_ BK421 15; have hfz4_16 := bf_ BK421 16))
  go_ret
  exact ⟨rq_, bg_⟩
 ·replace c2 := Bool.eq_false_iff.mpr c2
  subst c2
  replace H := ifF_ H
  obtain rfl := Option.some.inj H
  go_enter Tryd.func33, Tryd.ntmps33
  go_wp2_with (first | ((with_reducible refine gate_dst (N := 1) rfl ?_); refine box_event ?hg (N := 1) ?hd (cs := #[.bool false, .int .u8 a0_1, .int .u8 a0_2, .int .u8 a0_3, .int .u8 a0_4, .int .u8 a0_5, .int .u8 a0_6, .int .u8 a0_7, .int .u8 a0_8, .int .u8 a0_9, .int .u8 a0_10, .int .u8 a0_11, .int .u8 a0_12, .int .u8 a0_13, .int .u8 a0_14, .int .u8 a0_15, .int .u8 a0_16]) (t := 24) ?hr ?_; (case hd => rfl); (case hg => rfl); (case hr => first | (go_simp; done) | (go_simp; rfl)); intro gb421 hg w5 hbox hb; have n0_ := Aside0.mk (below_step bq_ hb); have n1_ := Aside0.mk (hbox); have n2_ := Aside0.mk (show w.heap.size ≤ gb421 from ge_ hg); have n3_ := Aside0.mk (show w.heap.size ≤ gb421 from ge_ hg); clear HB; have HB := n0_; have BK421 := n1_; have GW421 := n2_; have GE421 := n3_; clear n0_ n1_ n2_ n3_; clear hb hbox hg; have hcz6_0 := cz_ BK421 0 (.bool false); have hcz6_1 := cz_ BK421 1 (.int .u8 a0_1); have hcz6_2 := cz_ BK421 2 (.int .u8 a0_2); have hcz6_3 := cz_ BK421 3 (.int .u8 a0_3); have hcz6_4 := cz_ BK421 4 (.int .u8 a0_4); have hcz6_5 := cz_ BK421 5 (.int .u8 a0_5); have hcz6_6 := cz_ BK421 6 (.int .u8 a0_6); have hcz6_7 := cz_ BK421 7 (.int .u8 a0_7); have hcz6_8 := cz_ BK421 8 (.int .u8 a0_8); have hcz6_9 := cz_ BK421 9 (.int .u8 a0_9); have hcz6_10 := cz_ BK421 10 (.int .u8 a0_10); have hcz6_11 := cz_ BK421 11 (.int .u8 a0_11); have hcz6_12 := cz_ BK421 12 (.int .u8 a0_12); have hcz6_13 := cz_ BK421 13 (.int .u8 a0_13); have hcz6_14 := cz_ BK421 14 (.int .u8 a0_14); have hcz6_15 := cz_ BK421 15 (.int .u8 a0_15); have hcz6_16 := cz_ BK421 16 (.int .u8 a0_16); have hfz6_0 := bf_ BK421 0; have hfz6_1 := bf_ BK421 1; have hfz6_2 := bf_ BK421 2; have hfz6_3 := bf_ BK421 3; have hfz6_4 := bf_ BK421 4; have hfz6_5 := bf_ BK421 5; have hfz6_6 := bf_ BK421 6; have hfz6_7 := bf_ BK421 7; have hfz6_8 := bf_ BK421 8; have hfz6_9 := bf_ BK421 9; have hfz6_10 := bf_ BK421 10; have hfz6_11 := bf_ BK421 11; have hfz6_12 := bf_ BK421 12; have hfz6_13 := bf_ BK421 13; have hfz6_14 := bf_ BK421 14; have hfz6_15 := bf_ BK421 15; have hfz6_16 := bf_ BK421 16))
  go_ret
  exact ⟨rq_, bg_⟩

def lanternref06_bit.f (a0_0 : Bool) (a0_1 : Int) (a0_2 : Int) (a0_3 : Int) (a0_4 : Int) (a0_5 : Int) (a0_6 : Int) (a0_7 : Int) (a0_8 : Int) (a0_9 : Int) (a0_10 : Int) (a0_11 : Int) (a0_12 : Int) (a0_13 : Int) (a0_14 : Int) (a0_15 : Int) (a0_16 : Int) (a1 : Int) : Option (Int) := if a0_0 = true then (if 0 ≤ (wrap64 (Int.tdiv a1 8)) then (if (wrap64 (Int.tdiv a1 8)) < 16 then (if 0 ≤ (IntKind.u64.wrap (wrap64 (7 - (Int.tmod a1 8)))) then (some (Int.tmod (shr .i64 (wrap64 (rd [a0_1, a0_2, a0_3, a0_4, a0_5, a0_6, a0_7, a0_8, a0_9, a0_10, a0_11, a0_12, a0_13, a0_14, a0_15, a0_16] (wrap64 (Int.tdiv a1 8)))) (IntKind.u64.wrap (wrap64 (7 - (Int.tmod a1 8))))) 2)) else (none)) else (none)) else (none)) else (if 0 ≤ (wrap64 (Int.tdiv (wrap64 (a1 + 96)) 8)) then (if (wrap64 (Int.tdiv (wrap64 (a1 + 96)) 8)) < 16 then (if 0 ≤ (IntKind.u64.wrap (wrap64 (7 - (Int.tmod (wrap64 (a1 + 96)) 8)))) then (some (Int.tmod (shr .i64 (wrap64 (rd [a0_1, a0_2, a0_3, a0_4, a0_5, a0_6, a0_7, a0_8, a0_9, a0_10, a0_11, a0_12, a0_13, a0_14, a0_15, a0_16] (wrap64 (Int.tdiv (wrap64 (a1 + 96)) 8)))) (IntKind.u64.wrap (wrap64 (7 - (Int.tmod (wrap64 (a1 + 96)) 8))))) 2)) else (none)) else (none)) else (none))
set_option maxHeartbeats 8000000 in
set_option maxRecDepth 100000 in
theorem lanternref06_bit.calls (a0_0 : Bool) (a0_1 : Int) (a0_2 : Int) (a0_3 : Int) (a0_4 : Int) (a0_5 : Int) (a0_6 : Int) (a0_7 : Int) (a0_8 : Int) (a0_9 : Int) (a0_10 : Int) (a0_11 : Int) (a0_12 : Int) (a0_13 : Int) (a0_14 : Int) (a0_15 : Int) (a0_16 : Int) (a1 : Int) (r : Int) (w : World) (hLW : LW w) (h : lanternref06_bit.f a0_0 a0_1 a0_2 a0_3 a0_4 a0_5 a0_6 a0_7 a0_8 a0_9 a0_10 a0_11 a0_12 a0_13 a0_14 a0_15 a0_16 a1 = some r) :
  Calls Tryd.prog 34 #[.agg #[.bool a0_0, .int .u8 a0_1, .int .u8 a0_2, .int .u8 a0_3, .int .u8 a0_4, .int .u8 a0_5, .int .u8 a0_6, .int .u8 a0_7, .int .u8 a0_8, .int .u8 a0_9, .int .u8 a0_10, .int .u8 a0_11, .int .u8 a0_12, .int .u8 a0_13, .int .u8 a0_14, .int .u8 a0_15, .int .u8 a0_16], .int .i64 a1] w fun e w' => e = .returned (.int .i64 r) ∧ Below w.heap.size w w' := by
 have hu24 := Tryd.underlying24
 have HLW := Aside0.mk hLW
 clear hLW
 have HB := Aside0.mk (Below.refl w.heap.size w)
 have H : (if a0_0 = true then (if 0 ≤ (wrap64 (Int.tdiv a1 8)) then (if (wrap64 (Int.tdiv a1 8)) < 16 then (if 0 ≤ (IntKind.u64.wrap (wrap64 (7 - (Int.tmod a1 8)))) then (some (Int.tmod (shr .i64 (wrap64 (rd [a0_1, a0_2, a0_3, a0_4, a0_5, a0_6, a0_7, a0_8, a0_9, a0_10, a0_11, a0_12, a0_13, a0_14, a0_15, a0_16] (wrap64 (Int.tdiv a1 8)))) (IntKind.u64.wrap (wrap64 (7 - (Int.tmod a1 8))))) 2)) else (none)) else (none)) else (none)) else (if 0 ≤ (wrap64 (Int.tdiv (wrap64 (a1 + 96)) 8)) then (if (wrap64 (Int.tdiv (wrap64 (a1 + 96)) 8)) < 16 then (if 0 ≤ (IntKind.u64.wrap (wrap64 (7 - (Int.tmod (wrap64 (a1 + 96)) 8)))) then (some (Int.tmod (shr .i64 (wrap64 (rd [a0_1, a0_2, a0_3, a0_4, a0_5, a0_6, a0_7, a0_8, a0_9, a0_10, a0_11, a0_12, a0_13, a0_14, a0_15, a0_16] (wrap64 (Int.tdiv (wrap64 (a1 + 96)) 8)))) (IntKind.u64.wrap (wrap64 (7 - (Int.tmod (wrap64 (a1 + 96)) 8))))) 2)) else (none)) else (none)) else (none))) = some r := h
 clear h
 by_cases c3 : a0_0 = true
 ·subst c3
  replace H := ifT_ H
  obtain ⟨ji4, hji4⟩ : ∃ j_ : Int, (wrap64 (Int.tdiv a1 8)) = j_ := ⟨_, rfl⟩
  replace H : (if 0 ≤ (ji4) then (if (ji4) < 16 then (if 0 ≤ (IntKind.u64.wrap (wrap64 (7 - (Int.tmod a1 8)))) then (some (Int.tmod (shr .i64 (wrap64 (rd [a0_1, a0_2, a0_3, a0_4, a0_5, a0_6, a0_7, a0_8, a0_9, a0_10, a0_11, a0_12, a0_13, a0_14, a0_15, a0_16] (ji4))) (IntKind.u64.wrap (wrap64 (7 - (Int.tmod a1 8))))) 2)) else (none)) else (none)) else (none)) = some r := by first | (rw [hji4] at H; exact H) | (simp only [hji4] at H ⊢; exact H)
  have hji4w : (IntKind.i64.wrap (Int.tdiv a1 8)) = ji4 := (i64_w _).trans hji4
  by_cases c5 : 0 ≤ (ji4)
  ·rw [if_pos c5] at H
   have c5b0 : decide (0 ≤ (ji4)) = true := decide_eq_true c5
   clear c5
   by_cases c6 : (ji4) < 16
   ·rw [if_pos c6] at H
    have c6b0 : decide ((ji4) < 16) = true := decide_eq_true c6
    clear c6
    obtain ⟨ji7, hji7⟩ : ∃ j_ : Int, (IntKind.u64.wrap (wrap64 (7 - (Int.tmod a1 8)))) = j_ := ⟨_, rfl⟩
    replace H : (if 0 ≤ (ji7) then (some (Int.tmod (shr .i64 (wrap64 (rd [a0_1, a0_2, a0_3, a0_4, a0_5, a0_6, a0_7, a0_8, a0_9, a0_10, a0_11, a0_12, a0_13, a0_14, a0_15, a0_16] (ji4))) (ji7)) 2)) else (none)) = some r := by first | (rw [hji7] at H; exact H) | (simp only [hji7] at H ⊢; exact H)
    by_cases c8 : 0 ≤ (ji7)
    ·rw [if_pos c8] at H
     have c8b0 := eq_true c8
     have c8b1 : decide (0 ≤ (ji7)) = true := decide_eq_true c8
     clear c8
     obtain ⟨ji9, hji9⟩ : ∃ j_ : Int, (shr .i64 (wrap64 (rd [a0_1, a0_2, a0_3, a0_4, a0_5, a0_6, a0_7, a0_8, a0_9, a0_10, a0_11, a0_12, a0_13, a0_14, a0_15, a0_16] (ji4))) (ji7)) = j_ := ⟨_, rfl⟩
     replace H : (some (Int.tmod (ji9) 2)) = some r := by first | (rw [hji9] at H; exact H) | (simp only [hji9] at H ⊢; exact H)
     have hji9_ : ((wrap64 (rd [a0_1, a0_2, a0_3, a0_4, a0_5, a0_6, a0_7, a0_8, a0_9, a0_10, a0_11, a0_12, a0_13, a0_14, a0_15, a0_16] (ji4))) / 2 ^ min (ji7).toNat 64) = ji9 := hji9
     have hji9z : (ji7) ≤ 64 → ((wrap64 (rd [a0_1, a0_2, a0_3, a0_4, a0_5, a0_6, a0_7, a0_8, a0_9, a0_10, a0_11, a0_12, a0_13, a0_14, a0_15, a0_16] (ji4))) / 2 ^ (ji7).toNat) = ji9 := shr_small hji9
     obtain rfl := Option.some.inj H
     go_enter Tryd.func34, Tryd.ntmps34
     go_wp2_with (first | ((with_reducible refine gate_dst (N := 2) rfl ?_); refine box_event ?hg (N := 2) ?hd (cs := #[.bool true, .int .u8 a0_1, .int .u8 a0_2, .int .u8 a0_3, .int .u8 a0_4, .int .u8 a0_5, .int .u8 a0_6, .int .u8 a0_7, .int .u8 a0_8, .int .u8 a0_9, .int .u8 a0_10, .int .u8 a0_11, .int .u8 a0_12, .int .u8 a0_13, .int .u8 a0_14, .int .u8 a0_15, .int .u8 a0_16]) (t := 24) ?hr ?_; (case hd => rfl); (case hg => rfl); (case hr => first | (go_simp; done) | (go_simp; rfl)); intro gb422 hg w10 hbox hb; have n0_ := Aside0.mk (below_step bq_ hb); have n1_ := Aside0.mk (hbox); have n2_ := Aside0.mk (show w.heap.size ≤ gb422 from ge_ hg); have n3_ := Aside0.mk (show w.heap.size ≤ gb422 from ge_ hg); clear HB; have HB := n0_; have BK422 := n1_; have GW422 := n2_; have GE422 := n3_; clear n0_ n1_ n2_ n3_; clear hb hbox hg; have hcz11_0 := cz_ BK422 0 (.bool true); have hcz11_1 := cz_ BK422 1 (.int .u8 a0_1); have hcz11_2 := cz_ BK422 2 (.int .u8 a0_2); have hcz11_3 := cz_ BK422 3 (.int .u8 a0_3); have hcz11_4 := cz_ BK422 4 (.int .u8 a0_4); have hcz11_5 := cz_ BK422 5 (.int .u8 a0_5); have hcz11_6 := cz_ BK422 6 (.int .u8 a0_6); have hcz11_7 := cz_ BK422 7 (.int .u8 a0_7); have hcz11_8 := cz_ BK422 8 (.int .u8 a0_8); have hcz11_9 := cz_ BK422 9 (.int .u8 a0_9); have hcz11_10 := cz_ BK422 10 (.int .u8 a0_10); have hcz11_11 := cz_ BK422 11 (.int .u8 a0_11); have hcz11_12 := cz_ BK422 12 (.int .u8 a0_12); have hcz11_13 := cz_ BK422 13 (.int .u8 a0_13); have hcz11_14 := cz_ BK422 14 (.int .u8 a0_14); have hcz11_15 := cz_ BK422 15 (.int .u8 a0_15); have hcz11_16 := cz_ BK422 16 (.int .u8 a0_16); have hfz11_0 := bf_ BK422 0; have hfz11_1 := bf_ BK422 1; have hfz11_2 := bf_ BK422 2; have hfz11_3 := bf_ BK422 3; have hfz11_4 := bf_ BK422 4; have hfz11_5 := bf_ BK422 5; have hfz11_6 := bf_ BK422 6; have hfz11_7 := bf_ BK422 7; have hfz11_8 := bf_ BK422 8; have hfz11_9 := bf_ BK422 9; have hfz11_10 := bf_ BK422 10; have hfz11_11 := bf_ BK422 11; have hfz11_12 := bf_ BK422 12; have hfz11_13 := bf_ BK422 13; have hfz11_14 := bf_ BK422 14; have hfz11_15 := bf_ BK422 15; have hfz11_16 := bf_ BK422 16; have par12 : (0 ≤ (ji4)) = True := eq_true (of_decide_eq_true as_); have qar12 : ((ji4) < 16) = True := eq_true (of_decide_eq_true as_); have hxar12 : w10.cell? ⟨gb422, 1 + ((ji4)).toNat, none⟩ = some (.int .u8 (rd [a0_1, a0_2, a0_3, a0_4, a0_5, a0_6, a0_7, a0_8, a0_9, a0_10, a0_11, a0_12, a0_13, a0_14, a0_15, a0_16] (ji4))) := (blk_idx BK422.out .u8 [.bool true] [a0_1, a0_2, a0_3, a0_4, a0_5, a0_6, a0_7, a0_8, a0_9, a0_10, a0_11, a0_12, a0_13, a0_14, a0_15, a0_16] [] rfl (ji4) (of_decide_eq_true as_) (of_decide_eq_true as_) rfl); have hfar12 := bf_ BK422 (1 + ((ji4)).toNat)))
     go_ret
     exact ⟨by first | rfl | (simp [errW_none, errW_some] <;> rfl) | (simp only [← hji4, ← hji7, ← hji9]; first | rfl | (simp [errW_none, errW_some] <;> rfl)) | (simp [*, errW_none, errW_some] <;> rfl) | (simp [errW_none, errW_some]; first | exact isEmpty_bne _ | exact isEmpty_beq _ | exact (isEmpty_bne _).symm), bg_⟩
    ·rw [if_neg c8] at H
     exact absurd H (by simp)
   ·rw [if_neg c6] at H
    exact absurd H (by simp)
  ·rw [if_neg c5] at H
   exact absurd H (by simp)
 ·replace c3 := Bool.eq_false_iff.mpr c3
  subst c3
  replace H := ifF_ H
  obtain ⟨ji13, hji13⟩ : ∃ j_ : Int, (wrap64 (Int.tdiv (wrap64 (a1 + 96)) 8)) = j_ := ⟨_, rfl⟩
  replace H : (if 0 ≤ (ji13) then (if (ji13) < 16 then (if 0 ≤ (IntKind.u64.wrap (wrap64 (7 - (Int.tmod (wrap64 (a1 + 96)) 8)))) then (some (Int.tmod (shr .i64 (wrap64 (rd [a0_1, a0_2, a0_3, a0_4, a0_5, a0_6, a0_7, a0_8, a0_9, a0_10, a0_11, a0_12, a0_13, a0_14, a0_15, a0_16] (ji13))) (IntKind.u64.wrap (wrap64 (7 - (Int.tmod (wrap64 (a1 + 96)) 8))))) 2)) else (none)) else (none)) else (none)) = some r := by first | (rw [hji13] at H; exact H) | (simp only [hji13] at H ⊢; exact H)
  have hji13w : (IntKind.i64.wrap (Int.tdiv (wrap64 (a1 + 96)) 8)) = ji13 := (i64_w _).trans hji13
  by_cases c14 : 0 ≤ (ji13)
  ·rw [if_pos c14] at H
   have c14b0 : decide (0 ≤ (ji13)) = true := decide_eq_true c14
   clear c14
   by_cases c15 : (ji13) < 16
   ·rw [if_pos c15] at H
    have c15b0 : decide ((ji13) < 16) = true := decide_eq_true c15
    clear c15
    obtain ⟨ji16, hji16⟩ : ∃ j_ : Int, (IntKind.u64.wrap (wrap64 (7 - (Int.tmod (wrap64 (a1 + 96)) 8)))) = j_ := ⟨_, rfl⟩
    replace H : (if 0 ≤ (ji16) then (some (Int.tmod (shr .i64 (wrap64 (rd [a0_1, a0_2, a0_3, a0_4, a0_5, a0_6, a0_7, a0_8, a0_9, a0_10, a0_11, a0_12, a0_13, a0_14, a0_15, a0_16] (ji13))) (ji16)) 2)) else (none)) = some r := by first | (rw [hji16] at H; exact H) | (simp only [hji16] at H ⊢; exact H)
    by_cases c17 : 0 ≤ (ji16)
    ·rw [if_pos c17] at H
     have c17b0 := eq_true c17
     have c17b1 : decide (0 ≤ (ji16)) = true := decide_eq_true c17
     clear c17
     obtain ⟨ji18, hji18⟩ : ∃ j_ : Int, (shr .i64 (wrap64 (rd [a0_1, a0_2, a0_3, a0_4, a0_5, a0_6, a0_7, a0_8, a0_9, a0_10, a0_11, a0_12, a0_13, a0_14, a0_15, a0_16] (ji13))) (ji16)) = j_ := ⟨_, rfl⟩
     replace H : (some (Int.tmod (ji18) 2)) = some r := by first | (rw [hji18] at H; exact H) | (simp only [hji18] at H ⊢; exact H)
     have hji18_ : ((wrap64 (rd [a0_1, a0_2, a0_3, a0_4, a0_5, a0_6, a0_7, a0_8, a0_9, a0_10, a0_11, a0_12, a0_13, a0_14, a0_15, a0_16] (ji13))) / 2 ^ min (ji16).toNat 64) = ji18 := hji18
     have hji18z : (ji16) ≤ 64 → ((wrap64 (rd [a0_1, a0_2, a0_3, a0_4, a0_5, a0_6, a0_7, a0_8, a0_9, a0_10, a0_11, a0_12, a0_13, a0_14, a0_15, a0_16] (ji13))) / 2 ^ (ji16).toNat) = ji18 := shr_small hji18
     obtain rfl := Option.some.inj H
     go_enter Tryd.func34, Tryd.ntmps34
     go_wp2_with (first | ((with_reducible refine gate_dst (N := 2) rfl ?_); refine box_event ?hg (N := 2) ?hd (cs := #[.bool false, .int .u8 a0_1, .int .u8 a0_2, .int .u8 a0_3, .int .u8 a0_4, .int .u8 a0_5, .int .u8 a0_6, .int .u8 a0_7, .int .u8 a0_8, .int .u8 a0_9, .int .u8 a0_10, .int .u8 a0_11, .int .u8 a0_12, .int .u8 a0_13, .int .u8 a0_14, .int .u8 a0_15, .int .u8 a0_16]) (t := 24) ?hr ?_; (case hd => rfl); (case hg => rfl); (case hr => first | (go_simp; done) | (go_simp; rfl)); intro gb422 hg w19 hbox hb; have n0_ := Aside0.mk (below_step bq_ hb); have n1_ := Aside0.mk (hbox); have n2_ := Aside0.mk (show w.heap.size ≤ gb422 from ge_ hg); have n3_ := Aside0.mk (show w.heap.size ≤ gb422 from ge_ hg); clear HB; have HB := n0_; have BK422 := n1_; have GW422 := n2_; have GE422 := n3_; clear n0_ n1_ n2_ n3_; clear hb hbox hg; have hcz20_0 := cz_ BK422 0 (.bool false); have hcz20_1 := cz_ BK422 1 (.int .u8 a0_1); have hcz20_2 := cz_ BK422 2 (.int .u8 a0_2); have hcz20_3 := cz_ BK422 3 (.int .u8 a0_3); have hcz20_4 := cz_ BK422 4 (.int .u8 a0_4); have hcz20_5 := cz_ BK422 5 (.int .u8 a0_5); have hcz20_6 := cz_ BK422 6 (.int .u8 a0_6); have hcz20_7 := cz_ BK422 7 (.int .u8 a0_7); have hcz20_8 := cz_ BK422 8 (.int .u8 a0_8); have hcz20_9 := cz_ BK422 9 (.int .u8 a0_9); have hcz20_10 := cz_ BK422 10 (.int .u8 a0_10); have hcz20_11 := cz_ BK422 11 (.int .u8 a0_11); have hcz20_12 := cz_ BK422 12 (.int .u8 a0_12); have hcz20_13 := cz_ BK422 13 (.int .u8 a0_13); have hcz20_14 := cz_ BK422 14 (.int .u8 a0_14); have hcz20_15 := cz_ BK422 15 (.int .u8 a0_15); have hcz20_16 := cz_ BK422 16 (.int .u8 a0_16); have hfz20_0 := bf_ BK422 0; have hfz20_1 := bf_ BK422 1; have hfz20_2 := bf_ BK422 2; have hfz20_3 := bf_ BK422 3; have hfz20_4 := bf_ BK422 4; have hfz20_5 := bf_ BK422 5; have hfz20_6 := bf_ BK422 6; have hfz20_7 := bf_ BK422 7; have hfz20_8 := bf_ BK422 8; have hfz20_9 := bf_ BK422 9; have hfz20_10 := bf_ BK422 10; have hfz20_11 := bf_ BK422 11; have hfz20_12 := bf_ BK422 12; have hfz20_13 := bf_ BK422 13; have hfz20_14 := bf_ BK422 14; have hfz20_15 := bf_ BK422 15; have hfz20_16 := bf_ BK422 16; have par21 : (0 ≤ (ji13)) = True := eq_true (of_decide_eq_true as_); have qar21 : ((ji13) < 16) = True := eq_true (of_decide_eq_true as_); have hxar21 : w19.cell? ⟨gb422, 1 + ((ji13)).toNat, none⟩ = some (.int .u8 (rd [a0_1, a0_2, a0_3, a0_4, a0_5, a0_6, a0_7, a0_8, a0_9, a0_10, a0_11, a0_12, a0_13, a0_14, a0_15, a0_16] (ji13))) := (blk_idx BK422.out .u8 [.bool false] [a0_1, a0_2, a0_3, a0_4, a0_5, a0_6, a0_7, a0_8, a0_9, a0_10, a0_11, a0_12, a0_13, a0_14, a0_15, a0_16] [] rfl (ji13) (of_decide_eq_true as_) (of_decide_eq_true as_) rfl); have hfar21 := bf_ BK422 (1 + ((ji13)).toNat)))
     go_ret
     exact ⟨by first | rfl | (simp [errW_none, errW_some] <;> rfl) | (simp only [← hji13, ← hji16, ← hji18]; first | rfl | (simp [errW_none, errW_some] <;> rfl)) | (simp [*, errW_none, errW_some] <;> rfl) | (simp [errW_none, errW_some]; first | exact isEmpty_bne _ | exact isEmpty_beq _ | exact (isEmpty_bne _).symm), bg_⟩
    ·rw [if_neg c17] at H
     exact absurd H (by simp)
   ·rw [if_neg c15] at H
    exact absurd H (by simp)
  ·rw [if_neg c14] at H
   exact absurd H (by simp)

end Go.Proofs.YtdopafhppaalfaaDoor.P
