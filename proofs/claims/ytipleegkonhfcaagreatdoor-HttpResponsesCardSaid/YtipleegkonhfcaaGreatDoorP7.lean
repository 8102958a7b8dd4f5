import Derived.Test.YtipleegkonhfcaaGreatDoorP6
namespace Go.Proofs.YtipleegkonhfcaaGreatDoor.P
open Go.Proofs.YtipleegkonhfcaaGreatDoorZ
open Go.Proofs.YtipleegkonhfcaaGreatDoor.E Go.Proofs.YtipleegkonhfcaaGreatDoorV
open Go.Proofs.YtipleegkonhfcaaGreatDoor.U
open Go.Proofs.YtipleegkonhfcaaGreatDoor.KF
open Go.RowKit Go.Proofs.YtipleegkonhfcaaGreatDoorW.PrintWords Go.Proofs.YtipleegkonhfcaaGreatDoorW.PrintLast Go.Proofs.YtipleegkonhfcaaGreatDoorW.PrintMore
attribute [local go_sem] max2_int min2_int max_two min_two max_three min_three max_four min_four   -- for this text's walks alone
set_option linter.unusedVariables false
set_option linter.unusedSimpArgs false

def lanternref11_between.l0 : Nat → ByteArray → Int → Int → Int → Option (Bool)
 | 0, _, _, _, _ => none
 | k + 1, x0, x1, x2, x7 => if x7 < (x0.size : Int) then (if 0 ≤ x7 then (if (bt x0 x7) < x1 then (some false) else (if (bt x0 x7) > x2 then (some false) else (lanternref11_between.l0 k x0 x1 x2 (wrap64 (x7 + 1))))) else (none)) else (some true)
def lanternref11_between.f (k : Nat) (a0 : ByteArray) (a1 : Int) (a2 : Int) : Option (Bool) := lanternref11_between.l0 k a0 a1 a2 0
theorem lanternref11_between.mono_l : ∀ k, (∀ y0 y1 y2 y3, LeO (lanternref11_between.l0 k y0 y1 y2 y3) (lanternref11_between.l0 (k + 1) y0 y1 y2 y3))
 | 0 => fun _ _ _ _ r h => by simp [lanternref11_between.l0] at h
 | k + 1 => by
  have ih0 := lanternref11_between.mono_l k
  ·intro y0 y1 y2 y3
   unfold lanternref11_between.l0
   repeat' first | (with_reducible first | exact ih0 _ _ _ _ | exact LeO.refl _ | exact LeO.none _ | refine LeO.ite ?_ ?_ | refine LeO.bind ?_ (fun _ => ?_))
theorem lanternref11_between.mono : ∀ a0 a1 a2 k, LeO (lanternref11_between.f k a0 a1 a2) (lanternref11_between.f (k + 1) a0 a1 a2) := by
 intro a0 a1 a2 k
 have ih0 := lanternref11_between.mono_l k
 unfold lanternref11_between.f
 repeat' first | (with_reducible first | exact ih0 _ _ _ _ | exact LeO.refl _ | exact LeO.none _ | refine LeO.ite ?_ ?_ | refine LeO.bind ?_ (fun _ => ?_))
set_option maxHeartbeats 8000000 in
set_option maxRecDepth 100000 in
theorem lanternref11_between.calls (k : Nat) (a0 : ByteArray) (a1 : Int) (a2 : Int) (r : Bool) (w : World) (hLW : LW w) (h : lanternref11_between.f k a0 a1 a2 = some r) :
  Calls Tryz.prog 45 #[.string a0, .int .u8 a1, .int .u8 a2] w fun e w' => e = .returned (.bool r) ∧ Drawn0 w w' := by
 have HLW := Aside0.mk hLW
 clear hLW
 have H := h
 unfold lanternref11_between.f at H
 clear h
 have H' := Aside0.mk H
 clear H
 go_enter Tryz.func45, Tryz.ntmps45
 go_wp2
 go_loopg [7] k (fun kq v7 w' => ∃ (x7_1 : Int), v7 = .int .i64 x7_1 ∧ Aside0 (lanternref11_between.l0 kq a0 a1 a2 x7_1 = some r) ∧ Aside0 (kq ≤ k) ∧ Drawn0 w w')
 case atStart => exact ⟨(0), sq_, H', ⟨Nat.le_refl _⟩, by repeat (first | exact Drawn0.refl _ | apply Drawn0.step)⟩
 case round =>
  clear H'
  obtain ⟨x7_1, rfl, HA, HK1, ⟨m1, rfl⟩⟩ := hrel
  cases gk with
  | zero => exact absurd HA.out (by simp [lanternref11_between.l0])
  | succ k1 =>
   have H := HA.out
   clear HA
   simp only [lanternref11_between.l0] at H
   by_cases c4 : x7_1 < (a0.size : Int)
   ·rw [if_pos c4] at H
    have c4b0 := decide_eq_true c4
    clear c4
    by_cases c5 : 0 ≤ x7_1
    ·rw [if_pos c5] at H
     have c5b0 := decide_eq_true c5
     clear c5
     by_cases c7 : (bt a0 x7_1) < a1
     ·rw [if_pos c7] at H
      have c7b0 := decide_eq_true c7
      clear c7
      obtain rfl := Option.some.inj H
      have p6 : 0 ≤ (x7_1 : Int) := of_decide_eq_true as_
      have q6 : x7_1 < (a0.size : Int) := of_decide_eq_true as_
      have hx6 := bt_at a0 x7_1
      replace p6 := eq_true p6
      replace q6 := eq_true q6
      go_wp2
      go_ret
      exact ⟨sq_, dd_⟩
     ·rw [if_neg c7] at H
      have c7b0 := decide_eq_false c7
      clear c7
      by_cases c9 : (bt a0 x7_1) > a2
      ·rw [if_pos c9] at H
       have c9b0 := decide_eq_true c9
       clear c9
       obtain rfl := Option.some.inj H
       have p6 : 0 ≤ (x7_1 : Int) := of_decide_eq_true as_
       have q6 : x7_1 < (a0.size : Int) := of_decide_eq_true as_
       have hx6 := bt_at a0 x7_1
       replace p6 := eq_true p6
       replace q6 := eq_true q6
       have p8 : 0 ≤ (x7_1 : Int) := of_decide_eq_true as_
       have q8 : x7_1 < (a0.size : Int) := of_decide_eq_true as_
       have hx8 := bt_at a0 x7_1
       replace p8 := eq_true p8
       replace q8 := eq_true q8
       go_wp2
       go_ret
       exact ⟨sq_, dd_⟩
      ·rw [if_neg c9] at H
       have c9b0 := decide_eq_false c9
       clear c9
       have H' := Aside0.mk H
       clear H
       have p6 : 0 ≤ (x7_1 : Int) := of_decide_eq_true as_
       have q6 : x7_1 < (a0.size : Int) := of_decide_eq_true as_
       have hx6 := bt_at a0 x7_1
       replace p6 := eq_true p6
       replace q6 := eq_true q6
       have p8 : 0 ≤ (x7_1 : Int) := of_decide_eq_true as_
       have q8 : x7_1 < (a0.size : Int) := of_decide_eq_true as_
       have hx8 := bt_at a0 x7_1
       replace p8 := eq_true p8
       replace q8 := eq_true q8
       go_wp2
       go_roundg k1
       case measure => have := HK1.out; omega
       case rel => exact ⟨(wrap64 (x7_1 + 1)), sq_, H', ⟨by have := HK1.out; omega⟩, by repeat (first | exact Drawn0.refl _ | apply Drawn0.step)⟩
    ·rw [if_neg c5] at H
     exact absurd H (by simp)
   ·rw [if_neg c4] at H
    have c4b0 := decide_eq_false c4
    clear c4
    obtain rfl := Option.some.inj H
    go_wp2
    go_ret
    exact ⟨sq_, dd_⟩

def lanternref11_target.f (k : Nat) (a0 : ByteArray) : Option (Bool) := if (a0.size : Int) ≥ 1 then (if (a0.size : Int) ≤ 2048 then ((lanternref11_between.f k a0 33 126).bind fun t244 => (some t244)) else (some false)) else (some false)
theorem lanternref11_target.mono : ∀ a0 k, LeO (lanternref11_target.f k a0) (lanternref11_target.f (k + 1) a0) := by
 intro a0 k
 unfold lanternref11_target.f
 repeat' first
   | (with_reducible exact lanternref11_between.mono _ _ _ _)
   | (with_reducible exact LeO.refl _)
   | (with_reducible exact LeO.none _)
   | (with_reducible refine LeO.ite ?_ ?_)
   | (with_reducible refine LeO.bind ?_ (fun _ => ?_))
   | exact lanternref11_between.mono _ _ _ _
   | exact LeO.none _
   | refine LeO.ite ?_ ?_
   | refine LeO.bind ?_ (fun _ => ?_)
def lanternref09_blank.f (a0 : Int) : Option (Bool) := if a0 = 32 then (some true) else (some (a0 == 9))
set_option maxHeartbeats 8000000 in
set_option maxRecDepth 100000 in
theorem lanternref09_blank.calls (a0 : Int) (r : Bool) (w : World) (hLW : LW w) (h : lanternref09_blank.f a0 = some r) :
  Calls Tryz.prog 91 #[.int .u8 a0] w fun e w' => e = .returned (.bool r) ∧ Drawn0 w w' := by
 have HLW := Aside0.mk hLW
 clear hLW
 have H := h
 unfold lanternref09_blank.f at H
 clear h
 by_cases c2 : a0 = 32
 ·rw [if_pos c2] at H
  have c2b0 := beq_iff_eq.mpr c2
  have c2b1 := bne_eq_false_iff_eq.mpr c2
  clear c2
  obtain rfl := Option.some.inj H
  go_enter Tryz.func91, Tryz.ntmps91
  go_wp2
  go_ret
  exact ⟨sq_, dd_⟩
 ·rw [if_neg c2] at H
  have c2b0 := beq_eq_false_iff_ne.mpr c2
  have c2b1 := bne_iff_ne.mpr c2
  obtain rfl := Option.some.inj H
  go_enter Tryz.func91, Tryz.ntmps91
  go_wp2
  go_ret
  exact ⟨sq_, dd_⟩

def lanternref09_May.l0 : Nat → ByteArray → Int → ByteArray → ByteArray → Option (Bool)
 | 0, _, _, _, _ => none
 | k + 1, x3, x4, V0, V1 => if x4 < (x3.size : Int) then (if 0 ≤ x4 then (if (bt x3 x4) = 127 then (some false) else (if (bt x3 x4) < 32 then (if (bt x3 x4) = 9 then (if x4 = 0 then ((lanternref09_blank.f (bt x3 x4)).bind fun t246 => (if t246 = true then (some false) else (lanternref09_May.l0 k x3 (wrap64 (x4 + 1)) V0 V1))) else (if x4 = (wrap64 ((x3.size : Int) - 1)) then ((lanternref09_blank.f (bt x3 x4)).bind fun t247 => (if t247 = true then (some false) else (lanternref09_May.l0 k x3 (wrap64 (x4 + 1)) V0 V1))) else (lanternref09_May.l0 k x3 (wrap64 (x4 + 1)) V0 V1))) else (some false)) else (if x4 = 0 then ((lanternref09_blank.f (bt x3 x4)).bind fun t248 => (if t248 = true then (some false) else (lanternref09_May.l0 k x3 (wrap64 (x4 + 1)) V0 V1))) else (if x4 = (wrap64 ((x3.size : Int) - 1)) then ((lanternref09_blank.f (bt x3 x4)).bind fun t249 => (if t249 = true then (some false) else (lanternref09_May.l0 k x3 (wrap64 (x4 + 1)) V0 V1))) else (lanternref09_May.l0 k x3 (wrap64 (x4 + 1)) V0 V1))))) else (none)) else ((lanternref09_Token.f k V0).bind fun t250 => (some t250))
def lanternref09_May.f (k : Nat) (z0 : ByteArray) (z1 : ByteArray) : Option (Bool) := lanternref09_May.l0 k z1 0 z0 z1
theorem lanternref09_May.mono_l : ∀ k, (∀ y0 y1 y2 y3, LeO (lanternref09_May.l0 k y0 y1 y2 y3) (lanternref09_May.l0 (k + 1) y0 y1 y2 y3))
 | 0 => fun _ _ _ _ r h => by simp [lanternref09_May.l0] at h
 | k + 1 => by
  have ih0 := lanternref09_May.mono_l k
  ·intro y0 y1 y2 y3
   unfold lanternref09_May.l0
   repeat' first
   | (with_reducible exact ih0 _ _ _ _)
   | (with_reducible exact lanternref09_Token.mono _ _)
   | (with_reducible exact LeO.refl _)
   | (with_reducible exact LeO.none _)
   | (with_reducible refine LeO.ite ?_ ?_)
   | (with_reducible refine LeO.bind ?_ (fun _ => ?_))
   | exact ih0 _ _ _ _
   | exact lanternref09_Token.mono _ _
   | exact LeO.none _
   | refine LeO.ite ?_ ?_
   | refine LeO.bind ?_ (fun _ => ?_)
theorem lanternref09_May.mono : ∀ a0 a1 k, LeO (lanternref09_May.f k a0 a1) (lanternref09_May.f (k + 1) a0 a1) := by
 intro a0 a1 k
 have ih0 := lanternref09_May.mono_l k
 unfold lanternref09_May.f
 repeat' first
   | (with_reducible exact ih0 _ _ _ _)
   | (with_reducible exact lanternref09_Token.mono _ _)
   | (with_reducible exact LeO.refl _)
   | (with_reducible exact LeO.none _)
   | (with_reducible refine LeO.ite ?_ ?_)
   | (with_reducible refine LeO.bind ?_ (fun _ => ?_))
   | exact ih0 _ _ _ _
   | exact lanternref09_Token.mono _ _
   | exact LeO.none _
   | refine LeO.ite ?_ ?_
   | refine LeO.bind ?_ (fun _ => ?_)
set_option maxHeartbeats 8000000 in
set_option maxRecDepth 100000 in
theorem lanternref09_May.calls (k : Nat) (z0 : ByteArray) (z1 : ByteArray) (r : Bool) (w : World) (hLW : LW w) (h : lanternref09_May.f k z0 z1 = some r) :
  Calls Tryz.prog 92 #[.agg #[.string z0, .string z1]] w fun e w' => e = .returned (.bool r) ∧ Below w.heap.size w w' := by
 have hu67 := Tryz.underlying67
 have HLW := Aside0.mk hLW
 clear hLW
 have HB := Aside0.mk (Below.refl w.heap.size w)
 have H := h
 unfold lanternref09_May.f at H
 clear h
 have H' := Aside0.mk H
 clear H
 go_enter Tryz.func92, Tryz.ntmps92
 go_wp2_with (first | ((with_reducible refine gate_dst (N := 1) rfl ?_); (try (refine gate_guard (by rfl) ?_; dsimp only)); refine bx_ 1 #[.string z0, .string z1] 67 ?_; intro gb245 hg w2 hbox hb; have BK245 := Aside0.mk (hbox); have GW245 := Aside0.mk (ge_ (w := w) hg); have GE245 := Aside0.mk (ge_ (w := w) hg); replace HB := Aside0.mk (below_step bq_ hb); clear hb hbox hg; have hcz3_0 := cz_ BK245 0 (.string z0); have hcz3_1 := cz_ BK245 1 (.string z1); have hfz3_0 := bf_ BK245 0; have hfz3_1 := bf_ BK245 1))
 go_loopg [4] k (fun kq v4 w' => ∃ (x4_1 : Int), v4 = .int .i64 x4_1 ∧ Aside0 (lanternref09_May.l0 kq z1 x4_1 z0 z1 = some r) ∧ Aside0 (kq ≤ k) ∧ Aside0 (w'.heap[gb245]? = some (.cells #[.string z0, .string z1] 67 (0, 0))) ∧ Aside0 (Below w.heap.size w w'))
 case atStart => exact ⟨(0), sq_, H', ⟨Nat.le_refl _⟩, ⟨bk_⟩, ⟨bg_⟩⟩
 case round =>
  clear H'
  obtain ⟨x4_1, rfl, HA, HK1, BK245, HB⟩ := hrel
  cases gk with
  | zero => exact absurd HA.out (by simp [lanternref09_May.l0])
  | succ k1 =>
   have H := HA.out
   clear HA
   simp only [lanternref09_May.l0] at H
   by_cases c4 : x4_1 < (z1.size : Int)
   ·rw [if_pos c4] at H
    have c4b0 := decide_eq_true c4
    clear c4
    by_cases c5 : 0 ≤ x4_1
    ·rw [if_pos c5] at H
     have c5b0 := decide_eq_true c5
     clear c5
     by_cases c7 : (bt z1 x4_1) = 127
     ·rw [if_pos c7] at H
      have c7b0 := beq_iff_eq.mpr c7
      have c7b1 := bne_eq_false_iff_eq.mpr c7
      clear c7
      obtain rfl := Option.some.inj H
      have p6 : 0 ≤ (x4_1 : Int) := of_decide_eq_true as_
      have q6 : x4_1 < (z1.size : Int) := of_decide_eq_true as_
      have hx6 := bt_at z1 x4_1
      replace p6 := eq_true p6
      replace q6 := eq_true q6
      go_wp2
      go_ret
      exact ⟨rq_, bg_⟩
     ·rw [if_neg c7] at H
      have c7b0 := beq_eq_false_iff_ne.mpr c7
      have c7b1 := bne_iff_ne.mpr c7
      by_cases c9 : (bt z1 x4_1) < 32
      ·rw [if_pos c9] at H
       have c9b0 := decide_eq_true c9
       clear c9
       by_cases c11 : (bt z1 x4_1) = 9
       ·rw [if_pos c11] at H
        have c11b0 := beq_iff_eq.mpr c11
        have c11b1 := bne_eq_false_iff_eq.mpr c11
        clear c11
        by_cases c12 : x4_1 = 0
        ·rw [if_pos c12] at H
         have c12b0 := beq_iff_eq.mpr c12
         have c12b1 := bne_eq_false_iff_eq.mpr c12
         clear c12
         replace H := Option.bind_eq_some_iff.mp H
         obtain ⟨t246, A140, H⟩ := H
         (try dsimp only at H)
         have A14 := Aside0.mk A140
         clear A140
         by_cases c15 : t246 = true
         ·subst c15
          replace H := ifT_ H
          obtain rfl := Option.some.inj H
          have p6 : 0 ≤ (x4_1 : Int) := of_decide_eq_true as_
          have q6 : x4_1 < (z1.size : Int) := of_decide_eq_true as_
          have hx6 := bt_at z1 x4_1
          replace p6 := eq_true p6
          replace q6 := eq_true q6
          have p8 : 0 ≤ (x4_1 : Int) := of_decide_eq_true as_
          have q8 : x4_1 < (z1.size : Int) := of_decide_eq_true as_
          have hx8 := bt_at z1 x4_1
          replace p8 := eq_true p8
          replace q8 := eq_true q8
          have p10 : 0 ≤ (x4_1 : Int) := of_decide_eq_true as_
          have q10 : x4_1 < (z1.size : Int) := of_decide_eq_true as_
          have hx10 := bt_at z1 x4_1
          replace p10 := eq_true p10
          replace q10 := eq_true q10
          have p13 : 0 ≤ (x4_1 : Int) := of_decide_eq_true as_
          have q13 : x4_1 < (z1.size : Int) := of_decide_eq_true as_
          have hx13 := bt_at z1 x4_1
          replace p13 := eq_true p13
          replace q13 := eq_true q13
          go_wp2_with (first | (go_at_call 91; (with_reducible refine (lanternref09_blank.calls (bt z1 x4_1) true _ ?side1 A14.out).mono ?_); (case side1 => exact lg_); rintro e w' ⟨rfl, ⟨nd, rfl⟩⟩))
          go_ret
          exact ⟨rq_, bg_⟩
         ·replace c15 := Bool.eq_false_iff.mpr c15
          subst c15
          replace H := ifF_ H
          have H' := Aside0.mk H
          clear H
          have p6 : 0 ≤ (x4_1 : Int) := of_decide_eq_true as_
          have q6 : x4_1 < (z1.size : Int) := of_decide_eq_true as_
          have hx6 := bt_at z1 x4_1
          replace p6 := eq_true p6
          replace q6 := eq_true q6
          have p8 : 0 ≤ (x4_1 : Int) := of_decide_eq_true as_
          have q8 : x4_1 < (z1.size : Int) := of_decide_eq_true as_
          have hx8 := bt_at z1 x4_1
          replace p8 := eq_true p8
          replace q8 := eq_true q8
          have p10 : 0 ≤ (x4_1 : Int) := of_decide_eq_true as_
          have q10 : x4_1 < (z1.size : Int) := of_decide_eq_true as_
          have hx10 := bt_at z1 x4_1
          replace p10 := eq_true p10
          replace q10 := eq_true q10
          have p13 : 0 ≤ (x4_1 : Int) := of_decide_eq_true as_
          have q13 : x4_1 < (z1.size : Int) := of_decide_eq_true as_
          have hx13 := bt_at z1 x4_1
          replace p13 := eq_true p13
          replace q13 := eq_true q13
          go_wp2_with (first | (go_at_call 91; (with_reducible refine (lanternref09_blank.calls (bt z1 x4_1) false _ ?side1 A14.out).mono ?_); (case side1 => exact lg_); rintro e w' ⟨rfl, ⟨nd, rfl⟩⟩))
          go_roundg k1
          case measure => have := HK1.out; omega
          case rel => exact ⟨(wrap64 (x4_1 + 1)), sq_, H', ⟨by have := HK1.out; omega⟩, ⟨bk_⟩, ⟨bg_⟩⟩
        ·rw [if_neg c12] at H
         have c12b0 := beq_eq_false_iff_ne.mpr c12
         have c12b1 := bne_iff_ne.mpr c12
         by_cases c16 : x4_1 = (wrap64 ((z1.size : Int) - 1))
         ·rw [if_pos c16] at H
          have c16b0 := beq_iff_eq.mpr c16
          have c16b1 := bne_eq_false_iff_eq.mpr c16
          clear c16
          replace H := Option.bind_eq_some_iff.mp H
          obtain ⟨t247, A180, H⟩ := H
          (try dsimp only at H)
          have A18 := Aside0.mk A180
          clear A180
          by_cases c19 : t247 = true
          ·subst c19
           replace H := ifT_ H
           obtain rfl := Option.some.inj H
           have p6 : 0 ≤ (x4_1 : Int) := of_decide_eq_true as_
           have q6 : x4_1 < (z1.size : Int) := of_decide_eq_true as_
           have hx6 := bt_at z1 x4_1
           replace p6 := eq_true p6
           replace q6 := eq_true q6
           have p8 : 0 ≤ (x4_1 : Int) := of_decide_eq_true as_
           have q8 : x4_1 < (z1.size : Int) := of_decide_eq_true as_
           have hx8 := bt_at z1 x4_1
           replace p8 := eq_true p8
           replace q8 := eq_true q8
           have p10 : 0 ≤ (x4_1 : Int) := of_decide_eq_true as_
           have q10 : x4_1 < (z1.size : Int) := of_decide_eq_true as_
           have hx10 := bt_at z1 x4_1
           replace p10 := eq_true p10
           replace q10 := eq_true q10
           have p17 : 0 ≤ (x4_1 : Int) := of_decide_eq_true as_
           have q17 : x4_1 < (z1.size : Int) := of_decide_eq_true as_
           have hx17 := bt_at z1 x4_1
           replace p17 := eq_true p17
           replace q17 := eq_true q17
           go_wp2_with (first | (go_at_call 91; (with_reducible refine (lanternref09_blank.calls (bt z1 x4_1) true _ ?side1 A18.out).mono ?_); (case side1 => exact lg_); rintro e w' ⟨rfl, ⟨nd, rfl⟩⟩))
           go_ret
           exact ⟨rq_, bg_⟩
          ·replace c19 := Bool.eq_false_iff.mpr c19
           subst c19
           replace H := ifF_ H
           have H' := Aside0.mk H
           clear H
           have p6 : 0 ≤ (x4_1 : Int) := of_decide_eq_true as_
           have q6 : x4_1 < (z1.size : Int) := of_decide_eq_true as_
           have hx6 := bt_at z1 x4_1
           replace p6 := eq_true p6
           replace q6 := eq_true q6
           have p8 : 0 ≤ (x4_1 : Int) := of_decide_eq_true as_
           have q8 : x4_1 < (z1.size : Int) := of_decide_eq_true as_
           have hx8 := bt_at z1 x4_1
           replace p8 := eq_true p8
           replace q8 := eq_true q8
           have p10 : 0 ≤ (x4_1 : Int) := of_decide_eq_true as_
           have q10 : x4_1 < (z1.size : Int) := of_decide_eq_true as_
           have hx10 := bt_at z1 x4_1
           replace p10 := eq_true p10
           replace q10 := eq_true q10
           have p17 : 0 ≤ (x4_1 : Int) := of_decide_eq_true as_
           have q17 : x4_1 < (z1.size : Int) := of_decide_eq_true as_
           have hx17 := bt_at z1 x4_1
           replace p17 := eq_true p17
           replace q17 := eq_true q17
           go_wp2_with (first | (go_at_call 91; (with_reducible refine (lanternref09_blank.calls (bt z1 x4_1) false _ ?side1 A18.out).mono ?_); (case side1 => exact lg_); rintro e w' ⟨rfl, ⟨nd, rfl⟩⟩))
           go_roundg k1
           case measure => have := HK1.out; omega
           case rel => exact ⟨(wrap64 (x4_1 + 1)), sq_, H', ⟨by have := HK1.out; omega⟩, ⟨bk_⟩, ⟨bg_⟩⟩
         ·rw [if_neg c16] at H
          have c16b0 := beq_eq_false_iff_ne.mpr c16
          have c16b1 := bne_iff_ne.mpr c16
          have H' := Aside0.mk H
          clear H
          have p6 : 0 ≤ (x4_1 : Int) := of_decide_eq_true as_
          have q6 : x4_1 < (z1.size : Int) := of_decide_eq_true as_
          have hx6 := bt_at z1 x4_1
          replace p6 := eq_true p6
          replace q6 := eq_true q6
          have p8 : 0 ≤ (x4_1 : Int) := of_decide_eq_true as_
          have q8 : x4_1 < (z1.size : Int) := of_decide_eq_true as_
          have hx8 := bt_at z1 x4_1
          replace p8 := eq_true p8
          replace q8 := eq_true q8
          have p10 : 0 ≤ (x4_1 : Int) := of_decide_eq_true as_
          have q10 : x4_1 < (z1.size : Int) := of_decide_eq_true as_
          have hx10 := bt_at z1 x4_1
          replace p10 := eq_true p10
          replace q10 := eq_true q10
          go_wp2
          go_roundg k1
          case measure => have := HK1.out; omega
          case rel => exact ⟨(wrap64 (x4_1 + 1)), sq_, H', ⟨by have := HK1.out; omega⟩, ⟨bk_⟩, ⟨bg_⟩⟩
       ·rw [if_neg c11] at H
        have c11b0 := beq_eq_false_iff_ne.mpr c11
        have c11b1 := bne_iff_ne.mpr c11
        obtain rfl := Option.some.inj H
        have p6 : 0 ≤ (x4_1 : Int) := of_decide_eq_true as_
        have q6 : x4_1 < (z1.size : Int) := of_decide_eq_true as_
        have hx6 := bt_at z1 x4_1
        replace p6 := eq_true p6
        replace q6 := eq_true q6
        have p8 : 0 ≤ (x4_1 : Int) := of_decide_eq_true as_
        have q8 : x4_1 < (z1.size : Int) := of_decide_eq_true as_
        have hx8 := bt_at z1 x4_1
        replace p8 := eq_true p8
        replace q8 := eq_true q8
        have p10 : 0 ≤ (x4_1 : Int) := of_decide_eq_true as_
        have q10 : x4_1 < (z1.size : Int) := of_decide_eq_true as_
        have hx10 := bt_at z1 x4_1
        replace p10 := eq_true p10
        replace q10 := eq_true q10
        go_wp2
        go_ret
        exact ⟨rq_, bg_⟩
      ·rw [if_neg c9] at H
       have c9b0 := decide_eq_false c9
       clear c9
       by_cases c20 : x4_1 = 0
       ·rw [if_pos c20] at H
        have c20b0 := beq_iff_eq.mpr c20
        have c20b1 := bne_eq_false_iff_eq.mpr c20
        clear c20
        replace H := Option.bind_eq_some_iff.mp H
        obtain ⟨t248, A220, H⟩ := H
        (try dsimp only at H)
        have A22 := Aside0.mk A220
        clear A220
        by_cases c23 : t248 = true
        ·subst c23
         replace H := ifT_ H
         obtain rfl := Option.some.inj H
         have p6 : 0 ≤ (x4_1 : Int) := of_decide_eq_true as_
         have q6 : x4_1 < (z1.size : Int) := of_decide_eq_true as_
         have hx6 := bt_at z1 x4_1
         replace p6 := eq_true p6
         replace q6 := eq_true q6
         have p8 : 0 ≤ (x4_1 : Int) := of_decide_eq_true as_
         have q8 : x4_1 < (z1.size : Int) := of_decide_eq_true as_
         have hx8 := bt_at z1 x4_1
         replace p8 := eq_true p8
         replace q8 := eq_true q8
         have p21 : 0 ≤ (x4_1 : Int) := of_decide_eq_true as_
         have q21 : x4_1 < (z1.size : Int) := of_decide_eq_true as_
         have hx21 := bt_at z1 x4_1
         replace p21 := eq_true p21
         replace q21 := eq_true q21
         go_wp2_with (first | (go_at_call 91; (with_reducible refine (lanternref09_blank.calls (bt z1 x4_1) true _ ?side1 A22.out).mono ?_); (case side1 => exact lg_); rintro e w' ⟨rfl, ⟨nd, rfl⟩⟩))
         go_ret
         exact ⟨rq_, bg_⟩
        ·replace c23 := Bool.eq_false_iff.mpr c23
         subst c23
         replace H := ifF_ H
         have H' := Aside0.mk H
         clear H
         have p6 : 0 ≤ (x4_1 : Int) := of_decide_eq_true as_
         have q6 : x4_1 < (z1.size : Int) := of_decide_eq_true as_
         have hx6 := bt_at z1 x4_1
         replace p6 := eq_true p6
         replace q6 := eq_true q6
         have p8 : 0 ≤ (x4_1 : Int) := of_decide_eq_true as_
         have q8 : x4_1 < (z1.size : Int) := of_decide_eq_true as_
         have hx8 := bt_at z1 x4_1
         replace p8 := eq_true p8
         replace q8 := eq_true q8
         have p21 : 0 ≤ (x4_1 : Int) := of_decide_eq_true as_
         have q21 : x4_1 < (z1.size : Int) := of_decide_eq_true as_
         have hx21 := bt_at z1 x4_1
         replace p21 := eq_true p21
         replace q21 := eq_true q21
         go_wp2_with (first | (go_at_call 91; (with_reducible refine (lanternref09_blank.calls (bt z1 x4_1) false _ ?side1 A22.out).mono ?_); (case side1 => exact lg_); rintro e w' ⟨rfl, ⟨nd, rfl⟩⟩))
         go_roundg k1
         case measure => have := HK1.out; omega
         case rel => exact ⟨(wrap64 (x4_1 + 1)), sq_, H', ⟨by have := HK1.out; omega⟩, ⟨bk_⟩, ⟨bg_⟩⟩
       ·rw [if_neg c20] at H
        have c20b0 := beq_eq_false_iff_ne.mpr c20
        have c20b1 := bne_iff_ne.mpr c20
        by_cases c24 : x4_1 = (wrap64 ((z1.size : Int) - 1))
        ·rw [if_pos c24] at H
         have c24b0 := beq_iff_eq.mpr c24
         have c24b1 := bne_eq_false_iff_eq.mpr c24
         clear c24
         replace H := Option.bind_eq_some_iff.mp H
         obtain ⟨t249, A260, H⟩ := H
         (try dsimp only at H)
         have A26 := Aside0.mk A260
         clear A260
         by_cases c27 : t249 = true
         ·subst c27
          replace H := ifT_ H
          obtain rfl := Option.some.inj H
          have p6 : 0 ≤ (x4_1 : Int) := of_decide_eq_true as_
          have q6 : x4_1 < (z1.size : Int) := of_decide_eq_true as_
          have hx6 := bt_at z1 x4_1
          replace p6 := eq_true p6
          replace q6 := eq_true q6
          have p8 : 0 ≤ (x4_1 : Int) := of_decide_eq_true as_
          have q8 : x4_1 < (z1.size : Int) := of_decide_eq_true as_
          have hx8 := bt_at z1 x4_1
          replace p8 := eq_true p8
          replace q8 := eq_true q8
          have p25 : 0 ≤ (x4_1 : Int) := of_decide_eq_true as_
          have q25 : x4_1 < (z1.size : Int) := of_decide_eq_true as_
          have hx25 := bt_at z1 x4_1
          replace p25 := eq_true p25
          replace q25 := eq_true q25
          go_wp2_with (first | (go_at_call 91; (with_reducible refine (lanternref09_blank.calls (bt z1 x4_1) true _ ?side1 A26.out).mono ?_); (case side1 => exact lg_); rintro e w' ⟨rfl, ⟨nd, rfl⟩⟩))
          go_ret
          exact ⟨rq_, bg_⟩
         ·replace c27 := Bool.eq_false_iff.mpr c27
          subst c27
          replace H := ifF_ H
          have H' := Aside0.mk H
          clear H
          have p6 : 0 ≤ (x4_1 : Int) := of_decide_eq_true as_
          have q6 : x4_1 < (z1.size : Int) := of_decide_eq_true as_
          have hx6 := bt_at z1 x4_1
          replace p6 := eq_true p6
          replace q6 := eq_true q6
          have p8 : 0 ≤ (x4_1 : Int) := of_decide_eq_true as_
          have q8 : x4_1 < (z1.size : Int) := of_decide_eq_true as_
          have hx8 := bt_at z1 x4_1
          replace p8 := eq_true p8
          replace q8 := eq_true q8
          have p25 : 0 ≤ (x4_1 : Int) := of_decide_eq_true as_
          have q25 : x4_1 < (z1.size : Int) := of_decide_eq_true as_
          have hx25 := bt_at z1 x4_1
          replace p25 := eq_true p25
          replace q25 := eq_true q25
          go_wp2_with (first | (go_at_call 91; (with_reducible refine (lanternref09_blank.calls (bt z1 x4_1) false _ ?side1 A26.out).mono ?_); (case side1 => exact lg_); rintro e w' ⟨rfl, ⟨nd, rfl⟩⟩))
          go_roundg k1
          case measure => have := HK1.out; omega
          case rel => exact ⟨(wrap64 (x4_1 + 1)), sq_, H', ⟨by have := HK1.out; omega⟩, ⟨bk_⟩, ⟨bg_⟩⟩
        ·rw [if_neg c24] at H
         have c24b0 := beq_eq_false_iff_ne.mpr c24
         have c24b1 := bne_iff_ne.mpr c24
         have H' := Aside0.mk H
         clear H
         have p6 : 0 ≤ (x4_1 : Int) := of_decide_eq_true as_
         have q6 : x4_1 < (z1.size : Int) := of_decide_eq_true as_
         have hx6 := bt_at z1 x4_1
         replace p6 := eq_true p6
         replace q6 := eq_true q6
         have p8 : 0 ≤ (x4_1 : Int) := of_decide_eq_true as_
         have q8 : x4_1 < (z1.size : Int) := of_decide_eq_true as_
         have hx8 := bt_at z1 x4_1
         replace p8 := eq_true p8
         replace q8 := eq_true q8
         go_wp2
         go_roundg k1
         case measure => have := HK1.out; omega
         case rel => exact ⟨(wrap64 (x4_1 + 1)), sq_, H', ⟨by have := HK1.out; omega⟩, ⟨bk_⟩, ⟨bg_⟩⟩
    ·rw [if_neg c5] at H
     exact absurd H (by simp)
   ·rw [if_neg c4] at H
    have c4b0 := decide_eq_false c4
    clear c4
    replace H := Option.bind_eq_some_iff.mp H
    obtain ⟨t250, A280, H⟩ := H
    (try dsimp only at H)
    have A28 := Aside0.mk A280
    clear A280
    obtain rfl := Option.some.inj H
    have hcz29_0 := cz_ BK245 0 (.string z0)
    have hcz29_1 := cz_ BK245 1 (.string z1)
    have hfz29_0 := bf_ BK245 0
    have hfz29_1 := bf_ BK245 1
    go_wp2_with (first | ((with_reducible refine gate_callee (f := 31) rfl ?_); refine goesL_ (some 48) rfl rfl Tryz.func31 (by kernel_rfl) rfl #[.string z0] rfl lq_ ?_; (with_reducible refine (lanternref09_Token.calls k1 z0 t250 _ ?side1 A28.out).mono ?_); (case side1 => exact lg_); rintro e w' ⟨rfl, ⟨nd, rfl⟩⟩; refine ⟨_, rfl, ?_⟩))
    go_ret
    exact ⟨rq_, bg_⟩

end Go.Proofs.YtipleegkonhfcaaGreatDoor.P
