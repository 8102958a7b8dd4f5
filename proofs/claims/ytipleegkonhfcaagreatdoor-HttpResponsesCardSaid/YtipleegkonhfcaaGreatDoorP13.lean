import Derived.Test.YtipleegkonhfcaaGreatDoorP2
namespace Go.Proofs.YtipleegkonhfcaaGreatDoor.P
open Go.Proofs.YtipleegkonhfcaaGreatDoorZ
open Go.Proofs.YtipleegkonhfcaaGreatDoor.E Go.Proofs.YtipleegkonhfcaaGreatDoorV
open Go.Proofs.YtipleegkonhfcaaGreatDoor.U
open Go.Proofs.YtipleegkonhfcaaGreatDoor.KF
open Go.RowKit Go.Proofs.YtipleegkonhfcaaGreatDoorW.PrintWords Go.Proofs.YtipleegkonhfcaaGreatDoorW.PrintLast Go.Proofs.YtipleegkonhfcaaGreatDoorW.PrintMore
attribute [local go_sem] max2_int min2_int max_two min_two max_three min_three max_four min_four   -- for this text's walks alone
set_option linter.unusedVariables false
set_option linter.unusedSimpArgs false

attribute [local go_sem high] eqA67
-- NOT PRINTED: function 8 (lanternref11_ParseRequest)

def lanternref09_Same.l0 : Nat → List (S67) → List (S67) → Int → Option (Bool)
 | 0, _, _, _ => none
 | k + 1, x0, x1, x5 => if x5 < (x0.length : Int) then (if 0 ≤ x5 then (if x5 < (x1.length : Int) then (if (!((((rd_T67 x0 x5).f0).toList) == (((rd_T67 x1 x5).f0).toList)) || (!((((rd_T67 x0 x5).f1).toList) == (((rd_T67 x1 x5).f1).toList)))) = true then (some false) else (lanternref09_Same.l0 k x0 x1 (wrap64 (x5 + 1)))) else (none)) else (none)) else (some true)
def lanternref09_Same.f (k : Nat) (l0 : List (S67)) (l1 : List (S67)) : Option (Bool) := if (l0.length : Int) = (l1.length : Int) then (lanternref09_Same.l0 k l0 l1 0) else (some false)
theorem lanternref09_Same.mono_l : ∀ k, (∀ y0 y1 y2, LeO (lanternref09_Same.l0 k y0 y1 y2) (lanternref09_Same.l0 (k + 1) y0 y1 y2))
 | 0 => fun _ _ _ r h => by simp [lanternref09_Same.l0] at h
 | k + 1 => by
  have ih0 := lanternref09_Same.mono_l k
  ·intro y0 y1 y2
   unfold lanternref09_Same.l0
   repeat' first | (with_reducible first | exact ih0 _ _ _ | exact LeO.refl _ | exact LeO.none _ | refine LeO.ite ?_ ?_ | refine LeO.bind ?_ (fun _ => ?_))
theorem lanternref09_Same.mono : ∀ a0 a1 k, LeO (lanternref09_Same.f k a0 a1) (lanternref09_Same.f (k + 1) a0 a1) := by
 intro a0 a1 k
 have ih0 := lanternref09_Same.mono_l k
 unfold lanternref09_Same.f
 repeat' first | (with_reducible first | exact ih0 _ _ _ | exact LeO.refl _ | exact LeO.none _ | refine LeO.ite ?_ ?_ | refine LeO.bind ?_ (fun _ => ?_))
set_option maxHeartbeats 8000000 in
set_option maxRecDepth 100000 in
theorem lanternref09_Same.calls (k : Nat) (A0 : Option Addr) (c0 : Nat) (l0 : List (S67)) (A1 : Option Addr) (c1 : Nat) (l1 : List (S67)) (r : Bool) (w : World) (hLW : LW w) (hr0 : Kd.C k67 w A0 l0.length l0) (hc0 : l0.length ≤ c0) (hr1 : Kd.C k67 w A1 l1.length l1) (hc1 : l1.length ≤ c1) (h : lanternref09_Same.f k l0 l1 = some r) :
  Calls Tryz.prog 35 #[.slice A0 l0.length c0, .slice A1 l1.length c1] w fun e w' => e = .returned (.bool r) ∧ Drawn0 w w' := by
 have hu67 := Tryz.underlying67
 have HLW := Aside0.mk hLW
 clear hLW
 have HR0 := Aside0.mk hr0
 have HC0 := Aside0.mk hc0
 clear hr0 hc0
 have HR1 := Aside0.mk hr1
 have HC1 := Aside0.mk hc1
 clear hr1 hc1
 have H := h
 unfold lanternref09_Same.f at H
 clear h
 by_cases c3 : (l0.length : Int) = (l1.length : Int)
 ·rw [if_pos c3] at H
  have c3b0 := beq_iff_eq.mpr c3
  have c3b1 := bne_eq_false_iff_eq.mpr c3
  have c3b2 : (l0.length == l1.length) = true := by first | simpa using c3 | (simp at c3 ⊢; omega)
  clear c3
  have H' := Aside0.mk H
  clear H
  go_enter Tryz.func35, Tryz.ntmps35
  go_wp2
  repeat (go_quiet (fail); try go_wp2)
  go_loopg [5] k (fun kq v5 w' => ∃ (x5_1 : Int), v5 = .int .i64 x5_1 ∧ Aside0 (lanternref09_Same.l0 kq l0 l1 x5_1 = some r) ∧ Aside0 (kq ≤ k) ∧ Drawn0 w w')
  case atStart => exact ⟨(0), sq_, H', ⟨Nat.le_refl _⟩, by repeat (first | exact Drawn0.refl _ | apply Drawn0.step)⟩
  case round =>
   clear H'
   obtain ⟨x5_1, rfl, HA, HK1, ⟨m1, rfl⟩⟩ := hrel
   cases gk with
   | zero => exact absurd HA.out (by simp [lanternref09_Same.l0])
   | succ k1 =>
    have H := HA.out
    clear HA
    simp only [lanternref09_Same.l0] at H
    by_cases c4 : x5_1 < (l0.length : Int)
    ·rw [if_pos c4] at H
     have c4b0 := decide_eq_true c4
     clear c4
     by_cases c5 : 0 ≤ x5_1
     ·rw [if_pos c5] at H
      have c5b0 := decide_eq_true c5
      clear c5
      by_cases c6 : x5_1 < (l1.length : Int)
      ·rw [if_pos c6] at H
       have c6b0 := decide_eq_true c6
       clear c6
       by_cases c7 : (!((((rd_T67 l0 x5_1).f0).toList) == (((rd_T67 l1 x5_1).f0).toList)) || (!((((rd_T67 l0 x5_1).f1).toList) == (((rd_T67 l1 x5_1).f1).toList)))) = true
       ·rw [if_pos c7] at H
        have c7b0 : (!((((rd_T67 l0 x5_1).f0).toList) == (((rd_T67 l1 x5_1).f0).toList)) || (!((((rd_T67 l0 x5_1).f1).toList) == (((rd_T67 l1 x5_1).f1).toList)))) = true := c7
        clear c7
        obtain rfl := Option.some.inj H
        have p353 : 0 ≤ (x5_1 : Int) := of_decide_eq_true as_
        have q353 : x5_1 < (l0.length : Int) := of_decide_eq_true as_
        obtain ⟨ad353, e353, hx353_0, hx353_1⟩ := at_T67 HR0.out x5_1 p353 q353
        cases e353
        replace p353 := eq_true p353
        replace q353 := eq_true q353
        have p354 : 0 ≤ (x5_1 : Int) := of_decide_eq_true as_
        have q354 : x5_1 < (l1.length : Int) := of_decide_eq_true as_
        obtain ⟨ad354, e354, hx354_0, hx354_1⟩ := at_T67 HR1.out x5_1 p354 q354
        cases e354
        replace p354 := eq_true p354
        replace q354 := eq_true q354
        go_wp2
        repeat (go_quiet (fail); try go_wp2)
        go_ret
        exact ⟨sq_, dd_⟩
       ·rw [if_neg c7] at H
        have c7b0 : (!((((rd_T67 l0 x5_1).f0).toList) == (((rd_T67 l1 x5_1).f0).toList)) || (!((((rd_T67 l0 x5_1).f1).toList) == (((rd_T67 l1 x5_1).f1).toList)))) = false := by simpa using c7
        clear c7
        have H' := Aside0.mk H
        clear H
        have p353 : 0 ≤ (x5_1 : Int) := of_decide_eq_true as_
        have q353 : x5_1 < (l0.length : Int) := of_decide_eq_true as_
        obtain ⟨ad353, e353, hx353_0, hx353_1⟩ := at_T67 HR0.out x5_1 p353 q353
        cases e353
        replace p353 := eq_true p353
        replace q353 := eq_true q353
        have p354 : 0 ≤ (x5_1 : Int) := of_decide_eq_true as_
        have q354 : x5_1 < (l1.length : Int) := of_decide_eq_true as_
        obtain ⟨ad354, e354, hx354_0, hx354_1⟩ := at_T67 HR1.out x5_1 p354 q354
        cases e354
        replace p354 := eq_true p354
        replace q354 := eq_true q354
        go_wp2
        repeat (go_quiet (fail); try go_wp2)
        go_roundg k1
        case measure => have := HK1.out; omega
        case rel => exact ⟨(wrap64 (x5_1 + 1)), sq_, H', ⟨by have := HK1.out; omega⟩, by repeat (first | exact Drawn0.refl _ | apply Drawn0.step)⟩
      ·rw [if_neg c6] at H
       exact absurd H (by simp)
     ·rw [if_neg c5] at H
      exact absurd H (by simp)
    ·rw [if_neg c4] at H
     have c4b0 := decide_eq_false c4
     clear c4
     obtain rfl := Option.some.inj H
     go_wp2
     repeat (go_quiet (fail); try go_wp2)
     go_ret
     exact ⟨sq_, dd_⟩
 ·rw [if_neg c3] at H
  have c3b0 := beq_eq_false_iff_ne.mpr c3
  have c3b1 := bne_iff_ne.mpr c3
  have c3b2 : (l0.length == l1.length) = false := by first | simpa using c3 | (simp at c3 ⊢; omega)
  obtain rfl := Option.some.inj H
  go_enter Tryz.func35, Tryz.ntmps35
  go_wp2
  repeat (go_quiet (fail); try go_wp2)
  go_ret
  exact ⟨sq_, dd_⟩

def lanternref11_SameRequest.f (k : Nat) (z0 : ByteArray) (z1 : ByteArray) (l0_2 : List (S67)) (l0_3 : List Int) (Z0 : ByteArray) (Z1 : ByteArray) (l1_2 : List (S67)) (l1_3 : List Int) : Option (Bool) := if z0.toList = Z0.toList then (if z1.toList = Z1.toList then ((lanternref09_Same.f k l0_2 l1_2).bind fun t357 => (if t357 = true then (some ((strOfNums l0_3).toList == (strOfNums l1_3).toList)) else (some false))) else (some false)) else (some false)
theorem lanternref11_SameRequest.mono : ∀ a0 a1 a2 a3 a4 a5 a6 a7 k, LeO (lanternref11_SameRequest.f k a0 a1 a2 a3 a4 a5 a6 a7) (lanternref11_SameRequest.f (k + 1) a0 a1 a2 a3 a4 a5 a6 a7) := by
 intro a0 a1 a2 a3 a4 a5 a6 a7 k
 unfold lanternref11_SameRequest.f
 repeat' first
   | (with_reducible exact lanternref09_Same.mono _ _ _)
   | (with_reducible exact LeO.refl _)
   | (with_reducible exact LeO.none _)
   | (with_reducible refine LeO.ite ?_ ?_)
   | (with_reducible refine LeO.bind ?_ (fun _ => ?_))
   | exact lanternref09_Same.mono _ _ _
   | exact LeO.none _
   | refine LeO.ite ?_ ?_
   | refine LeO.bind ?_ (fun _ => ?_)
-- NOT PRINTED: function 3 (lanternlaw11_HttpAsks)

end Go.Proofs.YtipleegkonhfcaaGreatDoor.P
