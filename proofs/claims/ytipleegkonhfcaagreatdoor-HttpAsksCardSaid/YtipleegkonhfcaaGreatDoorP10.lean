-- Written by a program of this session (wip/gen/lprint.py over the kit's print.py) out of the translation. Lean checks it.
import Derived.Test.YtipleegkonhfcaaGreatDoorP2
import Derived.Test.YtipleegkonhfcaaGreatDoorZ
namespace Go.Proofs.YtipleegkonhfcaaGreatDoor.P
open Go.Proofs.YtipleegkonhfcaaGreatDoorZ
open Go.Proofs.YtipleegkonhfcaaGreatDoor.E Go.Proofs.YtipleegkonhfcaaGreatDoorV
open Go.Proofs.YtipleegkonhfcaaGreatDoor.U
open Go.Proofs.YtipleegkonhfcaaGreatDoor.KF
open Go.RowKit Go.Proofs.YtipleegkonhfcaaGreatDoorW.PrintWords Go.Proofs.YtipleegkonhfcaaGreatDoorW.PrintLast Go.Proofs.YtipleegkonhfcaaGreatDoorW.PrintMore
attribute [local go_sem] max2_int min2_int max_two min_two max_three min_three max_four min_four   -- for this text's walks alone
set_option linter.unusedVariables false
set_option linter.unusedSimpArgs false

mutual
def lanternref10_Size.l0 : Nat → ByteArray → Int → Int → Option (Int)
 | 0, _, _, _ => none
 | k + 1, x0, x3, x4 => if x4 ≥ 0 then (if 0 ≤ x4 then (if x4 < (x0.size : Int) then (if (bt x0 x4) = 13 then (some (-1)) else (if (bt x0 x4) = 59 then (lanternref10_Size.l0 k x0 x4 (wrap64 (x4 - 1))) else (lanternref10_Size.l0 k x0 x3 (wrap64 (x4 - 1))))) else (none)) else (none)) else (if x3 < 1 then (lanternref10_Size.j1 k x0 x3 true) else (lanternref10_Size.j1 k x0 x3 (decide (x3 > 8))))
def lanternref10_Size.j1 : Nat → ByteArray → Int → Bool → Option (Int)
 | 0, _, _, _ => none
 | k + 1, x0, x3, x34 => if x34 = true then (some (-1)) else (lanternref10_Size.l1 k x0 x3 0 0)
def lanternref10_Size.l1 : Nat → ByteArray → Int → Int → Int → Option (Int)
 | 0, _, _, _, _ => none
 | k + 1, x0, x3, x5, x6 => if x6 < x3 then (if 0 ≤ x6 then (if x6 < (x0.size : Int) then (if (bt x0 x6) ≥ 48 then (lanternref10_Size.j3 k x0 x3 x5 x6 (bt x0 x6) (decide ((bt x0 x6) ≤ 57))) else (lanternref10_Size.j3 k x0 x3 x5 x6 (bt x0 x6) false)) else (none)) else (none)) else (some x5)
def lanternref10_Size.j3 : Nat → ByteArray → Int → Int → Int → Int → Bool → Option (Int)
 | 0, _, _, _, _, _, _ => none
 | k + 1, x0, x3, x5, x6, x7, x43 => if x43 = true then (lanternref10_Size.l1 k x0 x3 (wrap64 ((wrap64 (x5 * 16)) + ((x7 - 48) % 256))) (wrap64 (x6 + 1))) else (if x7 ≥ 97 then (lanternref10_Size.j4 k x0 x3 x5 x6 x7 (decide (x7 ≤ 102))) else (lanternref10_Size.j4 k x0 x3 x5 x6 x7 false))
def lanternref10_Size.j4 : Nat → ByteArray → Int → Int → Int → Int → Bool → Option (Int)
 | 0, _, _, _, _, _, _ => none
 | k + 1, x0, x3, x5, x6, x7, x56 => if x56 = true then (lanternref10_Size.l1 k x0 x3 (wrap64 ((wrap64 ((wrap64 (x5 * 16)) + ((x7 - 97) % 256))) + 10)) (wrap64 (x6 + 1))) else (if x7 ≥ 65 then (if x7 ≤ 70 then (lanternref10_Size.l1 k x0 x3 (wrap64 ((wrap64 ((wrap64 (x5 * 16)) + ((x7 - 65) % 256))) + 10)) (wrap64 (x6 + 1))) else (some (-1))) else (some (-1)))
end
def lanternref10_Size.f (k : Nat) (a0 : ByteArray) : Option (Int) := if (a0.size : Int) > 256 then (some (-1)) else (lanternref10_Size.l0 k a0 (a0.size : Int) (wrap64 ((a0.size : Int) - 1)))
theorem lanternref10_Size.mono_l : ∀ k, (∀ y0 y1 y2, LeO (lanternref10_Size.l0 k y0 y1 y2) (lanternref10_Size.l0 (k + 1) y0 y1 y2)) ∧ (∀ y0 y1 y2, LeO (lanternref10_Size.j1 k y0 y1 y2) (lanternref10_Size.j1 (k + 1) y0 y1 y2)) ∧ (∀ y0 y1 y2 y3, LeO (lanternref10_Size.l1 k y0 y1 y2 y3) (lanternref10_Size.l1 (k + 1) y0 y1 y2 y3)) ∧ (∀ y0 y1 y2 y3 y4 y5, LeO (lanternref10_Size.j3 k y0 y1 y2 y3 y4 y5) (lanternref10_Size.j3 (k + 1) y0 y1 y2 y3 y4 y5)) ∧ (∀ y0 y1 y2 y3 y4 y5, LeO (lanternref10_Size.j4 k y0 y1 y2 y3 y4 y5) (lanternref10_Size.j4 (k + 1) y0 y1 y2 y3 y4 y5))
 | 0 => ⟨fun _ _ _ r h => by simp [lanternref10_Size.l0] at h, fun _ _ _ r h => by simp [lanternref10_Size.j1] at h, fun _ _ _ _ r h => by simp [lanternref10_Size.l1] at h, fun _ _ _ _ _ _ r h => by simp [lanternref10_Size.j3] at h, fun _ _ _ _ _ _ r h => by simp [lanternref10_Size.j4] at h⟩
 | k + 1 => by
  obtain ⟨ih0, ih1, ih2, ih3, ih4⟩ := lanternref10_Size.mono_l k
  refine ⟨?_, ?_, ?_, ?_, ?_⟩
  ·intro y0 y1 y2
   unfold lanternref10_Size.l0
   repeat' first
   | (with_reducible exact ih0 _ _ _)
   | (with_reducible exact ih1 _ _ _)
   | (with_reducible exact ih2 _ _ _ _)
   | (with_reducible exact ih3 _ _ _ _ _ _)
   | (with_reducible exact ih4 _ _ _ _ _ _)
   | (with_reducible exact LeO.refl _)
   | (with_reducible exact LeO.none _)
   | (with_reducible refine LeO.ite ?_ ?_)
   | (with_reducible refine LeO.bind ?_ (fun _ => ?_))
   | exact ih0 _ _ _
   | exact ih1 _ _ _
   | exact ih2 _ _ _ _
   | exact ih3 _ _ _ _ _ _
   | exact ih4 _ _ _ _ _ _
   | exact LeO.none _
   | refine LeO.ite ?_ ?_
   | refine LeO.bind ?_ (fun _ => ?_)
  ·intro y0 y1 y2
   unfold lanternref10_Size.j1
   repeat' first
   | (with_reducible exact ih0 _ _ _)
   | (with_reducible exact ih1 _ _ _)
   | (with_reducible exact ih2 _ _ _ _)
   | (with_reducible exact ih3 _ _ _ _ _ _)
   | (with_reducible exact ih4 _ _ _ _ _ _)
   | (with_reducible exact LeO.refl _)
   | (with_reducible exact LeO.none _)
   | (with_reducible refine LeO.ite ?_ ?_)
   | (with_reducible refine LeO.bind ?_ (fun _ => ?_))
   | exact ih0 _ _ _
   | exact ih1 _ _ _
   | exact ih2 _ _ _ _
   | exact ih3 _ _ _ _ _ _
   | exact ih4 _ _ _ _ _ _
   | exact LeO.none _
   | refine LeO.ite ?_ ?_
   | refine LeO.bind ?_ (fun _ => ?_)
  ·intro y0 y1 y2 y3
   unfold lanternref10_Size.l1
   repeat' first
   | (with_reducible exact ih0 _ _ _)
   | (with_reducible exact ih1 _ _ _)
   | (with_reducible exact ih2 _ _ _ _)
   | (with_reducible exact ih3 _ _ _ _ _ _)
   | (with_reducible exact ih4 _ _ _ _ _ _)
   | (with_reducible exact LeO.refl _)
   | (with_reducible exact LeO.none _)
   | (with_reducible refine LeO.ite ?_ ?_)
   | (with_reducible refine LeO.bind ?_ (fun _ => ?_))
   | exact ih0 _ _ _
   | exact ih1 _ _ _
   | exact ih2 _ _ _ _
   | exact ih3 _ _ _ _ _ _
   | exact ih4 _ _ _ _ _ _
   | exact LeO.none _
   | refine LeO.ite ?_ ?_
   | refine LeO.bind ?_ (fun _ => ?_)
  ·intro y0 y1 y2 y3 y4 y5
   unfold lanternref10_Size.j3
   repeat' first
   | (with_reducible exact ih0 _ _ _)
   | (with_reducible exact ih1 _ _ _)
   | (with_reducible exact ih2 _ _ _ _)
   | (with_reducible exact ih3 _ _ _ _ _ _)
   | (with_reducible exact ih4 _ _ _ _ _ _)
   | (with_reducible exact LeO.refl _)
   | (with_reducible exact LeO.none _)
   | (with_reducible refine LeO.ite ?_ ?_)
   | (with_reducible refine LeO.bind ?_ (fun _ => ?_))
   | exact ih0 _ _ _
   | exact ih1 _ _ _
   | exact ih2 _ _ _ _
   | exact ih3 _ _ _ _ _ _
   | exact ih4 _ _ _ _ _ _
   | exact LeO.none _
   | refine LeO.ite ?_ ?_
   | refine LeO.bind ?_ (fun _ => ?_)
  ·intro y0 y1 y2 y3 y4 y5
   unfold lanternref10_Size.j4
   repeat' first
   | (with_reducible exact ih0 _ _ _)
   | (with_reducible exact ih1 _ _ _)
   | (with_reducible exact ih2 _ _ _ _)
   | (with_reducible exact ih3 _ _ _ _ _ _)
   | (with_reducible exact ih4 _ _ _ _ _ _)
   | (with_reducible exact LeO.refl _)
   | (with_reducible exact LeO.none _)
   | (with_reducible refine LeO.ite ?_ ?_)
   | (with_reducible refine LeO.bind ?_ (fun _ => ?_))
   | exact ih0 _ _ _
   | exact ih1 _ _ _
   | exact ih2 _ _ _ _
   | exact ih3 _ _ _ _ _ _
   | exact ih4 _ _ _ _ _ _
   | exact LeO.none _
   | refine LeO.ite ?_ ?_
   | refine LeO.bind ?_ (fun _ => ?_)
theorem lanternref10_Size.mono : ∀ a0 k, LeO (lanternref10_Size.f k a0) (lanternref10_Size.f (k + 1) a0) := by
 intro a0 k
 obtain ⟨ih0, ih1, ih2, ih3, ih4⟩ := lanternref10_Size.mono_l k
 unfold lanternref10_Size.f
 repeat' first
   | (with_reducible exact ih0 _ _ _)
   | (with_reducible exact ih1 _ _ _)
   | (with_reducible exact ih2 _ _ _ _)
   | (with_reducible exact ih3 _ _ _ _ _ _)
   | (with_reducible exact ih4 _ _ _ _ _ _)
   | (with_reducible exact LeO.refl _)
   | (with_reducible exact LeO.none _)
   | (with_reducible refine LeO.ite ?_ ?_)
   | (with_reducible refine LeO.bind ?_ (fun _ => ?_))
   | exact ih0 _ _ _
   | exact ih1 _ _ _
   | exact ih2 _ _ _ _
   | exact ih3 _ _ _ _ _ _
   | exact ih4 _ _ _ _ _ _
   | exact LeO.none _
   | refine LeO.ite ?_ ?_
   | refine LeO.bind ?_ (fun _ => ?_)
set_option maxHeartbeats 8000000 in
set_option maxRecDepth 100000 in
theorem lanternref10_Size.calls (k : Nat) (a0 : ByteArray) (r : Int) (w : World) (hLW : LW w) (h : lanternref10_Size.f k a0 = some r) :
  Calls Tryz.prog 94 #[.string a0] w fun e w' => e = .returned (.int .i64 r) ∧ Drawn0 w w' := by
 have HLW := Aside0.mk hLW
 clear hLW
 have H : (if (a0.size : Int) > 256 then (some (-1)) else (lanternref10_Size.l0 k a0 (a0.size : Int) (wrap64 ((a0.size : Int) - 1)))) = some r := h
 clear h
 by_cases c2 : (a0.size : Int) > 256
 ·rw [if_pos c2] at H
  have c2b0 : decide (256 < (a0.size : Int)) = true := decide_eq_true c2
  have c2b1 : decide (256 < a0.size) = true := decide_eq_true (by omega)
  clear c2
  obtain rfl := Option.some.inj H
  go_enter Tryz.func94, Tryz.ntmps94
  go_wp2
  go_ret
  exact ⟨by first | rfl | (simp; done) | (simp [*]; done) | (simp; exact isEmpty_bne _) | (simp; exact isEmpty_beq _), by repeat (first | exact Drawn0.refl _ | apply Drawn0.step)⟩
 ·rw [if_neg c2] at H
  have c2b0 : decide (256 < (a0.size : Int)) = false := decide_eq_false c2
  have c2b1 : decide (256 < a0.size) = false := decide_eq_false (by omega)
  clear c2
  have H' := Aside0.mk H
  clear H
  go_enter Tryz.func94, Tryz.ntmps94
  go_wp2
  go_loopg [3, 4] k (fun kq v3 v4 w' => ∃ (x3_1 : Int) (x4_1 : Int), v3 = .int .i64 x3_1 ∧ v4 = .int .i64 x4_1 ∧ Aside0 (lanternref10_Size.l0 kq a0 x3_1 x4_1 = some r) ∧ Aside0 (kq ≤ k) ∧ Drawn0 w w')
  case atStart => exact ⟨((a0.size : Int)), (wrap64 ((a0.size : Int) - 1)), sq_, sq_, H', ⟨Nat.le_refl _⟩, by repeat (first | exact Drawn0.refl _ | apply Drawn0.step)⟩
  case round =>
   clear H'
   try clear c2
   try clear c2b0
   try clear c2b1
   try clear p2
   obtain ⟨x3_1, x4_1, rfl, rfl, HA, HK1, ⟨m1, rfl⟩⟩ := hrel
   cases gk with
   | zero => exact absurd HA.out (by simp [lanternref10_Size.l0])
   | succ k1 =>
    have H := HA.out
    clear HA
    simp only [lanternref10_Size.l0] at H
    by_cases c3 : x4_1 ≥ 0
    ·rw [if_pos c3] at H
     have c3b0 : decide (0 ≤ x4_1) = true := decide_eq_true c3
     clear c3
     by_cases c4 : 0 ≤ x4_1
     ·rw [if_pos c4] at H
      have c4b0 : decide (0 ≤ x4_1) = true := decide_eq_true c4
      clear c4
      by_cases c5 : x4_1 < (a0.size : Int)
      ·rw [if_pos c5] at H
       have c5b0 : decide (x4_1 < (a0.size : Int)) = true := decide_eq_true c5
       clear c5
       by_cases c7 : (bt a0 x4_1) = 13
       ·rw [if_pos c7] at H
        have c7b0 : ((bt a0 x4_1) == 13) = true := beq_iff_eq.mpr c7
        have c7b1 : ((bt a0 x4_1) != 13) = false := bne_eq_false_iff_eq.mpr c7
        clear c7
        obtain rfl := Option.some.inj H
        have p6 : 0 ≤ (x4_1 : Int) := of_decide_eq_true as_
        have q6 : x4_1 < (a0.size : Int) := of_decide_eq_true as_
        have hx6 := bt_at a0 x4_1
        replace p6 := eq_true p6
        replace q6 := eq_true q6
        go_wp2
        go_ret
        exact ⟨by first | rfl | (simp; done) | (simp [*]; done) | (simp; exact isEmpty_bne _) | (simp; exact isEmpty_beq _), by repeat (first | exact Drawn0.refl _ | apply Drawn0.step)⟩
       ·rw [if_neg c7] at H
        have c7b0 : ((bt a0 x4_1) == 13) = false := beq_eq_false_iff_ne.mpr c7
        have c7b1 : ((bt a0 x4_1) != 13) = true := bne_iff_ne.mpr c7
        by_cases c9 : (bt a0 x4_1) = 59
        ·rw [if_pos c9] at H
         have c9b0 : ((bt a0 x4_1) == 59) = true := beq_iff_eq.mpr c9
         have c9b1 : ((bt a0 x4_1) != 59) = false := bne_eq_false_iff_eq.mpr c9
         clear c9
         have H' := Aside0.mk H
         clear H
         have p6 : 0 ≤ (x4_1 : Int) := of_decide_eq_true as_
         have q6 : x4_1 < (a0.size : Int) := of_decide_eq_true as_
         have hx6 := bt_at a0 x4_1
         replace p6 := eq_true p6
         replace q6 := eq_true q6
         have p8 : 0 ≤ (x4_1 : Int) := of_decide_eq_true as_
         have q8 : x4_1 < (a0.size : Int) := of_decide_eq_true as_
         have hx8 := bt_at a0 x4_1
         replace p8 := eq_true p8
         replace q8 := eq_true q8
         go_wp2
         go_roundg k1
         case measure => have := HK1.out; omega
         case rel => exact ⟨(x4_1), (wrap64 (x4_1 - 1)), sq_, sq_, H', ⟨by have := HK1.out; omega⟩, by repeat (first | exact Drawn0.refl _ | apply Drawn0.step)⟩
        ·rw [if_neg c9] at H
         have c9b0 : ((bt a0 x4_1) == 59) = false := beq_eq_false_iff_ne.mpr c9
         have c9b1 : ((bt a0 x4_1) != 59) = true := bne_iff_ne.mpr c9
         have H' := Aside0.mk H
         clear H
         have p6 : 0 ≤ (x4_1 : Int) := of_decide_eq_true as_
         have q6 : x4_1 < (a0.size : Int) := of_decide_eq_true as_
         have hx6 := bt_at a0 x4_1
         replace p6 := eq_true p6
         replace q6 := eq_true q6
         have p8 : 0 ≤ (x4_1 : Int) := of_decide_eq_true as_
         have q8 : x4_1 < (a0.size : Int) := of_decide_eq_true as_
         have hx8 := bt_at a0 x4_1
         replace p8 := eq_true p8
         replace q8 := eq_true q8
         go_wp2
         go_roundg k1
         case measure => have := HK1.out; omega
         case rel => exact ⟨(x3_1), (wrap64 (x4_1 - 1)), sq_, sq_, H', ⟨by have := HK1.out; omega⟩, by repeat (first | exact Drawn0.refl _ | apply Drawn0.step)⟩
      ·rw [if_neg c5] at H
       exact absurd H (by simp)
     ·rw [if_neg c4] at H
      exact absurd H (by simp)
    ·rw [if_neg c3] at H
     have c3b0 : decide (0 ≤ x4_1) = false := decide_eq_false c3
     clear c3
     have HC10 := Aside0.mk H
     clear H
     go_upto_region 11 with (fail)
     go_cut [34] (fun v34 wc => ∃ (kq : Nat) (x34_9 : Bool), v34 = .bool x34_9 ∧ Aside0 (lanternref10_Size.j1 kq a0 x3_1 x34_9 = some r) ∧ Aside0 (kq ≤ k1) ∧ Drawn0 w wc)
     case first =>
      have H := HC10.out
      clear HC10
      by_cases c11 : x3_1 < 1
      ·rw [if_pos c11] at H
       have c11b0 : decide (x3_1 < 1) = true := decide_eq_true c11
       clear c11
       (first | rw [c11b0] | (simp only [i64_w, i32_w]; rw [c11b0]) | skip)
       have H' := Aside0.mk H
       clear H
       go_wp2
       go_meet
       case rel => exact ⟨_, (true), sq_, H', ⟨by have := HK1.out; first | omega | exact Nat.le_refl _⟩, by repeat (first | exact Drawn0.refl _ | apply Drawn0.step)⟩
      ·rw [if_neg c11] at H
       have c11b0 : decide (x3_1 < 1) = false := decide_eq_false c11
       clear c11
       (first | rw [c11b0] | (simp only [i64_w, i32_w]; rw [c11b0]) | skip)
       have H' := Aside0.mk H
       clear H
       go_wp2
       go_meet
       case rel => exact ⟨_, (decide (x3_1 > 8)), sq_, H', ⟨by have := HK1.out; first | omega | exact Nat.le_refl _⟩, by repeat (first | exact Drawn0.refl _ | apply Drawn0.step)⟩
     case rest =>
      clear HC10
      try clear c1
      try clear c2
      try clear c2b0
      try clear c2b1
      try clear p2
      try clear c3
      try clear c3b0
      try clear c4
      try clear c4b0
      try clear c5
      try clear c5b0
      try clear p6
      try clear q6
      try clear hx6
      try clear c7
      try clear c7b0
      try clear c7b1
      try clear p8
      try clear q8
      try clear hx8
      try clear c9
      try clear c9b0
      try clear c9b1
      try clear c11
      try clear c11b0
      try clear p2
      try clear p6
      try clear p8
      try clear q6
      try clear q8
      obtain ⟨kq, x34_9, rfl, HA, HJ9, ⟨mc9, rfl⟩⟩ := hcut
      cases kq with
      | zero => exact absurd HA.out (by simp [lanternref10_Size.j1])
      | succ kj9 =>
       have H := HA.out
       clear HA
       simp only [lanternref10_Size.j1] at H
       by_cases c12 : x34_9 = true
       ·subst c12
        replace H := ifT_ H
        obtain rfl := Option.some.inj H
        go_wp2
        go_ret
        exact ⟨by first | rfl | (simp; done) | (simp [*]; done) | (simp; exact isEmpty_bne _) | (simp; exact isEmpty_beq _), by repeat (first | exact Drawn0.refl _ | apply Drawn0.step)⟩
       ·replace c12 := Bool.eq_false_iff.mpr c12
        subst c12
        replace H := ifF_ H
        have H' := Aside0.mk H
        clear H
        go_wp2
        go_loopg [5, 6] kj9 (fun kq v5 v6 w' => ∃ (x5_3 : Int) (x6_3 : Int), v5 = .int .i64 x5_3 ∧ v6 = .int .i64 x6_3 ∧ Aside0 (lanternref10_Size.l1 kq a0 x3_1 x5_3 x6_3 = some r) ∧ Aside0 (kq ≤ kj9) ∧ Drawn0 w w')
        case atStart => exact ⟨(0), (0), sq_, sq_, H', ⟨Nat.le_refl _⟩, by repeat (first | exact Drawn0.refl _ | apply Drawn0.step)⟩
        case round =>
         clear H'
         try clear c1
         try clear c2
         try clear c2b0
         try clear c2b1
         try clear p2
         try clear c3
         try clear c3b0
         try clear c4
         try clear c4b0
         try clear c5
         try clear c5b0
         try clear p6
         try clear q6
         try clear hx6
         try clear c7
         try clear c7b0
         try clear c7b1
         try clear p8
         try clear q8
         try clear hx8
         try clear c9
         try clear c9b0
         try clear c9b1
         try clear c11
         try clear c11b0
         try clear c12
         try clear p2
         try clear p6
         try clear p8
         try clear q6
         try clear q8
         obtain ⟨x5_3, x6_3, rfl, rfl, HA, HK3, ⟨m3, rfl⟩⟩ := hrel
         cases gk with
         | zero => exact absurd HA.out (by simp [lanternref10_Size.l1])
         | succ k3 =>
          have H := HA.out
          clear HA
          simp only [lanternref10_Size.l1] at H
          by_cases c13 : x6_3 < x3_1
          ·rw [if_pos c13] at H
           have c13b0 : decide (x6_3 < x3_1) = true := decide_eq_true c13
           clear c13
           by_cases c14 : 0 ≤ x6_3
           ·rw [if_pos c14] at H
            have c14b0 : decide (0 ≤ x6_3) = true := decide_eq_true c14
            clear c14
            by_cases c15 : x6_3 < (a0.size : Int)
            ·rw [if_pos c15] at H
             have c15b0 : decide (x6_3 < (a0.size : Int)) = true := decide_eq_true c15
             clear c15
             have HC17 := Aside0.mk H
             clear H
             have p16 : 0 ≤ (x6_3 : Int) := of_decide_eq_true as_
             have q16 : x6_3 < (a0.size : Int) := of_decide_eq_true as_
             have hx16 := bt_at a0 x6_3
             replace p16 := eq_true p16
             replace q16 := eq_true q16
             go_upto_region 19 with (fail)
             go_cut [43] (fun v43 wc => ∃ (kq : Nat) (x43_16 : Bool), v43 = .bool x43_16 ∧ Aside0 (lanternref10_Size.j3 kq a0 x3_1 x5_3 x6_3 (bt a0 x6_3) x43_16 = some r) ∧ Aside0 (kq ≤ k3) ∧ Drawn0 w wc)
             case first =>
              have H := HC17.out
              clear HC17
              by_cases c18 : (bt a0 x6_3) ≥ 48
              ·rw [if_pos c18] at H
               have c18b0 : decide (48 ≤ (bt a0 x6_3)) = true := decide_eq_true c18
               clear c18
               (first | rw [c18b0] | (simp only [i64_w, i32_w]; rw [c18b0]) | skip)
               have H' := Aside0.mk H
               clear H
               go_wp2
               go_meet
               case rel => exact ⟨_, (decide ((bt a0 x6_3) ≤ 57)), sq_, H', ⟨by have := HK1.out; have := HJ9.out; have := HK3.out; first | omega | exact Nat.le_refl _⟩, by repeat (first | exact Drawn0.refl _ | apply Drawn0.step)⟩
              ·rw [if_neg c18] at H
               have c18b0 : decide (48 ≤ (bt a0 x6_3)) = false := decide_eq_false c18
               clear c18
               (first | rw [c18b0] | (simp only [i64_w, i32_w]; rw [c18b0]) | skip)
               have H' := Aside0.mk H
               clear H
               go_wp2
               go_meet
               case rel => exact ⟨_, (false), sq_, H', ⟨by have := HK1.out; have := HJ9.out; have := HK3.out; first | omega | exact Nat.le_refl _⟩, by repeat (first | exact Drawn0.refl _ | apply Drawn0.step)⟩
             case rest =>
              clear HC17
              try clear c1
              try clear p1
              try clear q1
              try clear hx1
              try clear c2
              try clear c2b0
              try clear c2b1
              try clear p2
              try clear c3
              try clear c3b0
              try clear c4
              try clear c4b0
              try clear c5
              try clear c5b0
              try clear p6
              try clear q6
              try clear hx6
              try clear c7
              try clear c7b0
              try clear c7b1
              try clear p8
              try clear q8
              try clear hx8
              try clear c9
              try clear c9b0
              try clear c9b1
              try clear c11
              try clear c11b0
              try clear c12
              try clear c13
              try clear c13b0
              try clear c14
              try clear c14b0
              try clear c15
              try clear c15b0
              try clear p16
              try clear q16
              try clear hx16
              try clear c18
              try clear c18b0
              try clear p16
              try clear p2
              try clear p6
              try clear p8
              try clear q16
              try clear q6
              try clear q8
              obtain ⟨kq, x43_16, rfl, HA, HJ16, ⟨mc16, rfl⟩⟩ := hcut
              cases kq with
              | zero => exact absurd HA.out (by simp [lanternref10_Size.j3])
              | succ kj16 =>
               have H := HA.out
               clear HA
               simp only [lanternref10_Size.j3] at H
               by_cases c19 : x43_16 = true
               ·subst c19
                replace H := ifT_ H
                have H' := Aside0.mk H
                clear H
                go_wp2
                go_roundg kj16
                case measure => have := HK1.out; have := HJ9.out; have := HK3.out; have := HJ16.out; omega
                case rel => exact ⟨(wrap64 ((wrap64 (x5_3 * 16)) + (((bt a0 x6_3) - 48) % 256))), (wrap64 (x6_3 + 1)), sq_, sq_, H', ⟨by have := HK1.out; have := HJ9.out; have := HK3.out; have := HJ16.out; omega⟩, by repeat (first | exact Drawn0.refl _ | apply Drawn0.step)⟩
               ·replace c19 := Bool.eq_false_iff.mpr c19
                subst c19
                replace H := ifF_ H
                have HC20 := Aside0.mk H
                clear H
                go_upto_region 21 with (fail)
                go_cut [56] (fun v56 wc => ∃ (kq : Nat) (x56_19 : Bool), v56 = .bool x56_19 ∧ Aside0 (lanternref10_Size.j4 kq a0 x3_1 x5_3 x6_3 (bt a0 x6_3) x56_19 = some r) ∧ Aside0 (kq ≤ kj16) ∧ Drawn0 w wc)
                case first =>
                 have H := HC20.out
                 clear HC20
                 by_cases c21 : (bt a0 x6_3) ≥ 97
                 ·rw [if_pos c21] at H
                  have c21b0 : decide (97 ≤ (bt a0 x6_3)) = true := decide_eq_true c21
                  clear c21
                  (first | rw [c21b0] | (simp only [i64_w, i32_w]; rw [c21b0]) | skip)
                  have H' := Aside0.mk H
                  clear H
                  go_wp2
                  go_meet
                  case rel => exact ⟨_, (decide ((bt a0 x6_3) ≤ 102)), sq_, H', ⟨by have := HK1.out; have := HJ9.out; have := HK3.out; have := HJ16.out; first | omega | exact Nat.le_refl _⟩, by repeat (first | exact Drawn0.refl _ | apply Drawn0.step)⟩
                 ·rw [if_neg c21] at H
                  have c21b0 : decide (97 ≤ (bt a0 x6_3)) = false := decide_eq_false c21
                  clear c21
                  (first | rw [c21b0] | (simp only [i64_w, i32_w]; rw [c21b0]) | skip)
                  have H' := Aside0.mk H
                  clear H
                  go_wp2
                  go_meet
                  case rel => exact ⟨_, (false), sq_, H', ⟨by have := HK1.out; have := HJ9.out; have := HK3.out; have := HJ16.out; first | omega | exact Nat.le_refl _⟩, by repeat (first | exact Drawn0.refl _ | apply Drawn0.step)⟩
                case rest =>
                 clear HC20
                 try clear c1
                 try clear p1
                 try clear q1
                 try clear hx1
                 try clear c2
                 try clear c2b0
                 try clear c2b1
                 try clear p2
                 try clear c3
                 try clear c3b0
                 try clear c4
                 try clear c4b0
                 try clear c5
                 try clear c5b0
                 try clear p6
                 try clear q6
                 try clear hx6
                 try clear c7
                 try clear c7b0
                 try clear c7b1
                 try clear p8
                 try clear q8
                 try clear hx8
                 try clear c9
                 try clear c9b0
                 try clear c9b1
                 try clear c11
                 try clear c11b0
                 try clear c12
                 try clear c13
                 try clear c13b0
                 try clear c14
                 try clear c14b0
                 try clear c15
                 try clear c15b0
                 try clear c16
                 try clear p16
                 try clear q16
                 try clear hx16
                 try clear c18
                 try clear c18b0
                 try clear c19
                 try clear c21
                 try clear c21b0
                 try clear p1
                 try clear p16
                 try clear p2
                 try clear p6
                 try clear p8
                 try clear q1
                 try clear q16
                 try clear q6
                 try clear q8
                 obtain ⟨kq, x56_19, rfl, HA, HJ19, ⟨mc19, rfl⟩⟩ := hcut
                 cases kq with
                 | zero => exact absurd HA.out (by simp [lanternref10_Size.j4])
                 | succ kj19 =>
                  have H := HA.out
                  clear HA
                  simp only [lanternref10_Size.j4] at H
                  by_cases c22 : x56_19 = true
                  ·subst c22
                   replace H := ifT_ H
                   have H' := Aside0.mk H
                   clear H
                   go_wp2
                   go_roundg kj19
                   case measure => have := HK1.out; have := HJ9.out; have := HK3.out; have := HJ16.out; have := HJ19.out; omega
                   case rel => exact ⟨(wrap64 ((wrap64 ((wrap64 (x5_3 * 16)) + (((bt a0 x6_3) - 97) % 256))) + 10)), (wrap64 (x6_3 + 1)), sq_, sq_, H', ⟨by have := HK1.out; have := HJ9.out; have := HK3.out; have := HJ16.out; have := HJ19.out; omega⟩, by repeat (first | exact Drawn0.refl _ | apply Drawn0.step)⟩
                  ·replace c22 := Bool.eq_false_iff.mpr c22
                   subst c22
                   replace H := ifF_ H
                   by_cases c23 : (bt a0 x6_3) ≥ 65
                   ·rw [if_pos c23] at H
                    have c23b0 : decide (65 ≤ (bt a0 x6_3)) = true := decide_eq_true c23
                    clear c23
                    by_cases c24 : (bt a0 x6_3) ≤ 70
                    ·rw [if_pos c24] at H
                     have c24b0 : decide ((bt a0 x6_3) ≤ 70) = true := decide_eq_true c24
                     clear c24
                     have H' := Aside0.mk H
                     clear H
                     go_wp2
                     go_roundg kj19
                     case measure => have := HK1.out; have := HJ9.out; have := HK3.out; have := HJ16.out; have := HJ19.out; omega
                     case rel => exact ⟨(wrap64 ((wrap64 ((wrap64 (x5_3 * 16)) + (((bt a0 x6_3) - 65) % 256))) + 10)), (wrap64 (x6_3 + 1)), sq_, sq_, H', ⟨by have := HK1.out; have := HJ9.out; have := HK3.out; have := HJ16.out; have := HJ19.out; omega⟩, by repeat (first | exact Drawn0.refl _ | apply Drawn0.step)⟩
                    ·rw [if_neg c24] at H
                     have c24b0 : decide ((bt a0 x6_3) ≤ 70) = false := decide_eq_false c24
                     clear c24
                     obtain rfl := Option.some.inj H
                     go_wp2
                     go_ret
                     exact ⟨by first | rfl | (simp; done) | (simp [*]; done) | (simp; exact isEmpty_bne _) | (simp; exact isEmpty_beq _), by repeat (first | exact Drawn0.refl _ | apply Drawn0.step)⟩
                   ·rw [if_neg c23] at H
                    have c23b0 : decide (65 ≤ (bt a0 x6_3)) = false := decide_eq_false c23
                    clear c23
                    obtain rfl := Option.some.inj H
                    go_wp2
                    go_ret
                    exact ⟨by first | rfl | (simp; done) | (simp [*]; done) | (simp; exact isEmpty_bne _) | (simp; exact isEmpty_beq _), by repeat (first | exact Drawn0.refl _ | apply Drawn0.step)⟩
            ·rw [if_neg c15] at H
             exact absurd H (by simp)
           ·rw [if_neg c14] at H
            exact absurd H (by simp)
          ·rw [if_neg c13] at H
           have c13b0 : decide (x6_3 < x3_1) = false := decide_eq_false c13
           clear c13
           obtain rfl := Option.some.inj H
           go_wp2
           go_ret
           exact ⟨by first | rfl | (simp; done) | (simp [*]; done) | (simp; exact isEmpty_bne _) | (simp; exact isEmpty_beq _), by repeat (first | exact Drawn0.refl _ | apply Drawn0.step)⟩

end Go.Proofs.YtipleegkonhfcaaGreatDoor.P
