-- Written by a program of this session (wip/gen/lprint.py over the kit's print.py) out of the translation. Lean checks it.
import Derived.Test.YtdopafhppaalfaaDoorP0
import Derived.Test.YtdopafhppaalfaaDoorP6
import Derived.Test.YtdopafhppaalfaaDoorZ
namespace Go.Proofs.YtdopafhppaalfaaDoor.P
open Go.Proofs.YtdopafhppaalfaaDoorZ
open Go.Proofs.YtdopafhppaalfaaDoor.E Go.Proofs.YtdopafhppaalfaaDoorV
open Go.RowKit Go.Proofs.YtdopafhppaalfaaDoorW.PrintWords Go.Proofs.YtdopafhppaalfaaDoorW.PrintLast Go.Proofs.YtdopafhppaalfaaDoorW.PrintMore
attribute [local go_sem] max2_int min2_int max_two min_two max_three min_three max_four min_four   -- for this text's walks alone
set_option linter.unusedVariables false
set_option linter.unusedSimpArgs false

def lanternref05_number.l0 : Nat → ByteArray → Int → Int → Int → Option (Int)
 | 0, _, _, _, _ => none
 | k + 1, x0, x1, x5, x6 => if x6 < (x0.size : Int) then (if 0 ≤ x6 then ((lanternref05_digit.f k (bt x0 x6) x1).bind fun t403 => (if t403 < 0 then (some (-1)) else (if (wrap64 ((wrap64 (x5 * x1)) + t403)) > 4294967296 then (lanternref05_number.l0 k x0 x1 4294967296 (wrap64 (x6 + 1))) else (lanternref05_number.l0 k x0 x1 (wrap64 ((wrap64 (x5 * x1)) + t403)) (wrap64 (x6 + 1)))))) else (none)) else (some x5)
def lanternref05_number.f (k : Nat) (a0 : ByteArray) (a1 : Int) : Option (Int) := if a0.toList = ([] : List UInt8) then (some (-1)) else (lanternref05_number.l0 k a0 a1 0 0)
theorem lanternref05_number.mono_l : ∀ k, (∀ y0 y1 y2 y3, LeO (lanternref05_number.l0 k y0 y1 y2 y3) (lanternref05_number.l0 (k + 1) y0 y1 y2 y3))
 | 0 => fun _ _ _ _ r h => by simp [lanternref05_number.l0] at h
 | k + 1 => by
  have ih0 := lanternref05_number.mono_l k
  ·intro y0 y1 y2 y3
   unfold lanternref05_number.l0
   repeat' first
   | (with_reducible exact ih0 _ _ _ _)
   | (with_reducible exact lanternref05_digit.mono _ _ _)
   | (with_reducible exact LeO.refl _)
   | (with_reducible exact LeO.none _)
   | (with_reducible refine LeO.ite ?_ ?_)
   | (with_reducible refine LeO.bind ?_ (fun _ => ?_))
   | exact ih0 _ _ _ _
   | exact lanternref05_digit.mono _ _ _
   | exact LeO.none _
   | refine LeO.ite ?_ ?_
   | refine LeO.bind ?_ (fun _ => ?_)
theorem lanternref05_number.mono : ∀ a0 a1 k, LeO (lanternref05_number.f k a0 a1) (lanternref05_number.f (k + 1) a0 a1) := by
 intro a0 a1 k
 have ih0 := lanternref05_number.mono_l k
 unfold lanternref05_number.f
 repeat' first
   | (with_reducible exact ih0 _ _ _ _)
   | (with_reducible exact lanternref05_digit.mono _ _ _)
   | (with_reducible exact LeO.refl _)
   | (with_reducible exact LeO.none _)
   | (with_reducible refine LeO.ite ?_ ?_)
   | (with_reducible refine LeO.bind ?_ (fun _ => ?_))
   | exact ih0 _ _ _ _
   | exact lanternref05_digit.mono _ _ _
   | exact LeO.none _
   | refine LeO.ite ?_ ?_
   | refine LeO.bind ?_ (fun _ => ?_)
set_option maxHeartbeats 8000000 in
set_option maxRecDepth 100000 in
theorem lanternref05_number.calls (k : Nat) (a0 : ByteArray) (a1 : Int) (r : Int) (w : World) (hLW : LW w) (h : lanternref05_number.f k a0 a1 = some r) :
  Calls Tryd.prog 48 #[.string a0, .int .i64 a1] w fun e w' => e = .returned (.int .i64 r) ∧ Drawn0 w w' := by
 have HLW := Aside0.mk hLW
 clear hLW
 have H := h
 unfold lanternref05_number.f at H
 clear h
 by_cases c3 : a0.toList = ([] : List UInt8)
 ·rw [if_pos c3] at H
  have c3b0 := beq_iff_eq.mpr c3
  have c3b1 := bne_eq_false_iff_eq.mpr c3
  clear c3
  obtain rfl := Option.some.inj H
  go_enter Tryd.func48, Tryd.ntmps48
  go_wp2
  go_ret
  exact ⟨by first | rfl | (simp; done) | (simp [*]; done) | (simp; exact isEmpty_bne _) | (simp; exact isEmpty_beq _), by repeat (first | exact Drawn0.refl _ | apply Drawn0.step)⟩
 ·rw [if_neg c3] at H
  have c3b0 := beq_eq_false_iff_ne.mpr c3
  have c3b1 := bne_iff_ne.mpr c3
  have H' := Aside0.mk H
  clear H
  go_enter Tryd.func48, Tryd.ntmps48
  go_wp2
  go_loopg [5, 6] k (fun kq v5 v6 w' => ∃ (x5_1 : Int) (x6_1 : Int), v5 = .int .i64 x5_1 ∧ v6 = .int .i64 x6_1 ∧ Aside0 (lanternref05_number.l0 kq a0 a1 x5_1 x6_1 = some r) ∧ Aside0 (kq ≤ k) ∧ Drawn0 w w')
  case atStart => exact ⟨(0), (0), sq_, sq_, H', ⟨Nat.le_refl _⟩, by repeat (first | exact Drawn0.refl _ | apply Drawn0.step)⟩
  case round =>
   clear H'
   try clear p2
   try clear c3
   try clear c3b0
   try clear c3b1
   obtain ⟨x5_1, x6_1, rfl, rfl, HA, HK1, ⟨m1, rfl⟩⟩ := hrel
   cases gk with
   | zero => exact absurd HA.out (by simp [lanternref05_number.l0])
   | succ k1 =>
    have H := HA.out
    clear HA
    simp only [lanternref05_number.l0] at H
    by_cases c4 : x6_1 < (a0.size : Int)
    ·rw [if_pos c4] at H
     have c4b0 := decide_eq_true c4
     clear c4
     by_cases c5 : 0 ≤ x6_1
     ·rw [if_pos c5] at H
      have c5b0 := decide_eq_true c5
      clear c5
      replace H := Option.bind_eq_some_iff.mp H
      obtain ⟨t403, A70, H⟩ := H
      (try dsimp only at H)
      have A7 := Aside0.mk A70
      clear A70
      by_cases c8 : t403 < 0
      ·rw [if_pos c8] at H
       have c8b0 := decide_eq_true c8
       clear c8
       obtain rfl := Option.some.inj H
       have p6 : 0 ≤ (x6_1 : Int) := of_decide_eq_true as_
       have q6 : x6_1 < (a0.size : Int) := of_decide_eq_true as_
       have hx6 := bt_at a0 x6_1
       replace p6 := eq_true p6
       replace q6 := eq_true q6
       go_wp2_with (first | ((with_reducible refine gate_callee (f := 59) rfl ?_); refine goesL_ (some 20) rfl rfl Tryd.func59 (by kernel_rfl) rfl #[.int .u8 (bt a0 x6_1), .int .i64 a1] rfl lq_ ?_; (with_reducible refine (lanternref05_digit.calls k1 (bt a0 x6_1) a1 t403 _ ?side1 A7.out).mono ?_); (case side1 => repeat (first | exact HLW.out | apply LW.drewN | apply LW.drew)); rintro e w' ⟨rfl, ⟨nd, rfl⟩⟩; refine ⟨_, rfl, ?_⟩))
       go_ret
       exact ⟨by first | rfl | (simp; done) | (simp [*]; done) | (simp; exact isEmpty_bne _) | (simp; exact isEmpty_beq _), by repeat (first | exact Drawn0.refl _ | apply Drawn0.step)⟩
      ·rw [if_neg c8] at H
       have c8b0 := decide_eq_false c8
       clear c8
       by_cases c9 : (wrap64 ((wrap64 (x5_1 * a1)) + t403)) > 4294967296
       ·rw [if_pos c9] at H
        have c9b0 := decide_eq_true c9
        clear c9
        have H' := Aside0.mk H
        clear H
        have p6 : 0 ≤ (x6_1 : Int) := of_decide_eq_true as_
        have q6 : x6_1 < (a0.size : Int) := of_decide_eq_true as_
        have hx6 := bt_at a0 x6_1
        replace p6 := eq_true p6
        replace q6 := eq_true q6
        go_wp2_with (first | ((with_reducible refine gate_callee (f := 59) rfl ?_); refine goesL_ (some 20) rfl rfl Tryd.func59 (by kernel_rfl) rfl #[.int .u8 (bt a0 x6_1), .int .i64 a1] rfl lq_ ?_; (with_reducible refine (lanternref05_digit.calls k1 (bt a0 x6_1) a1 t403 _ ?side1 A7.out).mono ?_); (case side1 => repeat (first | exact HLW.out | apply LW.drewN | apply LW.drew)); rintro e w' ⟨rfl, ⟨nd, rfl⟩⟩; refine ⟨_, rfl, ?_⟩))
        go_roundg k1
        case measure => have := HK1.out; omega
        case rel => exact ⟨(4294967296), (wrap64 (x6_1 + 1)), sq_, sq_, H', ⟨by have := HK1.out; omega⟩, by repeat (first | exact Drawn0.refl _ | apply Drawn0.step)⟩
       ·rw [if_neg c9] at H
        have c9b0 := decide_eq_false c9
        clear c9
        have H' := Aside0.mk H
        clear H
        have p6 : 0 ≤ (x6_1 : Int) := of_decide_eq_true as_
        have q6 : x6_1 < (a0.size : Int) := of_decide_eq_true as_
        have hx6 := bt_at a0 x6_1
        replace p6 := eq_true p6
        replace q6 := eq_true q6
        go_wp2_with (first | ((with_reducible refine gate_callee (f := 59) rfl ?_); refine goesL_ (some 20) rfl rfl Tryd.func59 (by kernel_rfl) rfl #[.int .u8 (bt a0 x6_1), .int .i64 a1] rfl lq_ ?_; (with_reducible refine (lanternref05_digit.calls k1 (bt a0 x6_1) a1 t403 _ ?side1 A7.out).mono ?_); (case side1 => repeat (first | exact HLW.out | apply LW.drewN | apply LW.drew)); rintro e w' ⟨rfl, ⟨nd, rfl⟩⟩; refine ⟨_, rfl, ?_⟩))
        go_roundg k1
        case measure => have := HK1.out; omega
        case rel => exact ⟨(wrap64 ((wrap64 (x5_1 * a1)) + t403)), (wrap64 (x6_1 + 1)), sq_, sq_, H', ⟨by have := HK1.out; omega⟩, by repeat (first | exact Drawn0.refl _ | apply Drawn0.step)⟩
     ·rw [if_neg c5] at H
      exact absurd H (by simp)
    ·rw [if_neg c4] at H
     have c4b0 := decide_eq_false c4
     clear c4
     obtain rfl := Option.some.inj H
     go_wp2
     go_ret
     exact ⟨by first | rfl | (simp; done) | (simp [*]; done) | (simp; exact isEmpty_bne _) | (simp; exact isEmpty_beq _), by repeat (first | exact Drawn0.refl _ | apply Drawn0.step)⟩

def lanternref05_four.l0 : Nat → List ByteArray → Int → Int → Option (Int)
 | 0, _, _, _ => none
 | k + 1, x3, x4, x5 => if x5 < 4 then (if 0 ≤ x5 then (if x5 < (x3.length : Int) then ((lanternref05_number.f k (rdOf ByteArray.empty x3 x5) 10).bind fun t408 => (if t408 < 0 then (some (-1)) else (if t408 > 255 then (none) else (if ((rdOf ByteArray.empty x3 x5).size : Int) > 1 then (if 0 < ((rdOf ByteArray.empty x3 x5).size : Int) then (if (bt (rdOf ByteArray.empty x3 x5) 0) = 48 then (none) else (lanternref05_four.l0 k x3 (wrap64 ((wrap64 (x4 * 256)) + t408)) (wrap64 (x5 + 1)))) else (none)) else (lanternref05_four.l0 k x3 (wrap64 ((wrap64 (x4 * 256)) + t408)) (wrap64 (x5 + 1))))))) else (none)) else (none)) else (some x4)
def lanternref05_four.f (k : Nat) (a0 : ByteArray) : Option (Int) := (lanternref05_cut.f k a0 46).bind fun t404 => (if (t404.length : Int) = 4 then (lanternref05_four.l0 k t404 0 0) else (some (-1)))
theorem lanternref05_four.mono_l : ∀ k, (∀ y0 y1 y2, LeO (lanternref05_four.l0 k y0 y1 y2) (lanternref05_four.l0 (k + 1) y0 y1 y2))
 | 0 => fun _ _ _ r h => by simp [lanternref05_four.l0] at h
 | k + 1 => by
  have ih0 := lanternref05_four.mono_l k
  ·intro y0 y1 y2
   unfold lanternref05_four.l0
   repeat' first
   | (with_reducible exact ih0 _ _ _)
   | (with_reducible exact lanternref05_cut.mono _ _ _)
   | (with_reducible exact lanternref05_number.mono _ _ _)
   | (with_reducible exact LeO.refl _)
   | (with_reducible exact LeO.none _)
   | (with_reducible refine LeO.ite ?_ ?_)
   | (with_reducible refine LeO.bind ?_ (fun _ => ?_))
   | exact ih0 _ _ _
   | exact lanternref05_cut.mono _ _ _
   | exact lanternref05_number.mono _ _ _
   | exact LeO.none _
   | refine LeO.ite ?_ ?_
   | refine LeO.bind ?_ (fun _ => ?_)
theorem lanternref05_four.mono : ∀ a0 k, LeO (lanternref05_four.f k a0) (lanternref05_four.f (k + 1) a0) := by
 intro a0 k
 have ih0 := lanternref05_four.mono_l k
 unfold lanternref05_four.f
 repeat' first
   | (with_reducible exact ih0 _ _ _)
   | (with_reducible exact lanternref05_cut.mono _ _ _)
   | (with_reducible exact lanternref05_number.mono _ _ _)
   | (with_reducible exact LeO.refl _)
   | (with_reducible exact LeO.none _)
   | (with_reducible refine LeO.ite ?_ ?_)
   | (with_reducible refine LeO.bind ?_ (fun _ => ?_))
   | exact ih0 _ _ _
   | exact lanternref05_cut.mono _ _ _
   | exact lanternref05_number.mono _ _ _
   | exact LeO.none _
   | refine LeO.ite ?_ ?_
   | refine LeO.bind ?_ (fun _ => ?_)
set_option maxHeartbeats 8000000 in
set_option maxRecDepth 100000 in
theorem lanternref05_four.calls (k : Nat) (a0 : ByteArray) (r : Int) (w : World) (hLW : LW w) (h : lanternref05_four.f k a0 = some r) :
  Calls Tryd.prog 35 #[.string a0] w fun e w' => e = .returned (.int .i64 r) ∧ Below w.heap.size w w' := by
 have HLW := Aside0.mk hLW
 clear hLW
 have HB := Aside0.mk (Below.refl w.heap.size w)
 have H := h
 unfold lanternref05_four.f at H
 clear h
 replace H := Option.bind_eq_some_iff.mp H
 obtain ⟨t404, A20, H⟩ := H
 (try dsimp only at H)
 have A2 := Aside0.mk A20
 clear A20
 by_cases c3 : (t404.length : Int) = 4
 ·rw [if_pos c3] at H
  have c3b0 := beq_iff_eq.mpr c3
  have c3b1 := bne_eq_false_iff_eq.mpr c3
  clear c3
  have H' := Aside0.mk H
  clear H
  go_enter Tryd.func35, Tryd.ntmps35
  go_wp2_with (first | ((with_reducible refine gate_callee (f := 37) rfl ?_); refine goesL_ (some 8) rfl rfl Tryd.func37 (by kernel_rfl) rfl #[.string a0, .int .u8 46] rfl lq_ ?_; (with_reducible refine (lanternref05_cut.calls k a0 46 t404 _ ?side1 A2.out).mono ?_); (case side1 => exact lw_); rintro e w4 ⟨v405, rfl, ho0, hb⟩; refine ⟨_, rfl, ?_⟩; have HO406 := Aside0.mk (Kd.R_lower ho0 (below_size bq_)); replace HB := Aside0.mk (below_step bq_ hb); (try clear hb); (try clear hb2); (try clear hk); (try clear hi); (try clear ho0); obtain ⟨Ao5, co5, eo5⟩ := Kd.R_slice HO406.out; subst eo5))
  go_loopg [4, 5] k (fun kq v4 v5 w' => ∃ (x4_1 : Int) (x5_1 : Int), v4 = .int .i64 x4_1 ∧ v5 = .int .i64 x5_1 ∧ Aside0 (lanternref05_four.l0 kq t404 x4_1 x5_1 = some r) ∧ Aside0 (kq ≤ k) ∧ Aside0 (Kd.R Kd.string 9 w' w.heap.size (fun _ => True) (.slice Ao5 t404.length co5) t404) ∧ Aside0 (Below w.heap.size w w'))
  case atStart => exact ⟨(0), (0), sq_, sq_, H', ⟨Nat.le_refl _⟩, ⟨by (with_reducible repeat (first | apply Kd.R_alloc | apply Kd.R_drewN | apply Kd.R_drew)); exact HO406.out⟩, ⟨bq_⟩⟩
  case round =>
   clear H'
   try clear p2
   try clear c3
   try clear c3b0
   try clear c3b1
   obtain ⟨x4_1, x5_1, rfl, rfl, HA, HK1, HO_3, HB⟩ := hrel
   cases gk with
   | zero => exact absurd HA.out (by simp [lanternref05_four.l0])
   | succ k1 =>
    have H := HA.out
    clear HA
    simp only [lanternref05_four.l0] at H
    by_cases c6 : x5_1 < 4
    ·rw [if_pos c6] at H
     have c6b0 := decide_eq_true c6
     clear c6
     by_cases c7 : 0 ≤ x5_1
     ·rw [if_pos c7] at H
      have c7b0 := decide_eq_true c7
      clear c7
      by_cases c8 : x5_1 < (t404.length : Int)
      ·rw [if_pos c8] at H
       have c8b0 := decide_eq_true c8
       clear c8
       replace H := Option.bind_eq_some_iff.mp H
       obtain ⟨t408, A90, H⟩ := H
       (try dsimp only at H)
       have A9 := Aside0.mk A90
       clear A90
       by_cases c10 : t408 < 0
       ·rw [if_pos c10] at H
        have c10b0 := decide_eq_true c10
        clear c10
        obtain rfl := Option.some.inj H
        have p407 : 0 ≤ (x5_1 : Int) := of_decide_eq_true as_
        have q407 : x5_1 < (t404.length : Int) := of_decide_eq_true as_
        obtain ⟨ad407, e407, hx407_0⟩ := Kd.at_string (Kd.R_reads' HO_3.out).2.2 x5_1 p407 q407
        cases e407
        replace p407 := eq_true p407
        replace q407 := eq_true q407
        go_wp2_with (first | ((with_reducible refine gate_callee (f := 48) rfl ?_); refine goesL_ (some 20) rfl rfl Tryd.func48 (by kernel_rfl) rfl #[.string (rdOf ByteArray.empty t404 x5_1), .int .i64 10] rfl lq_ ?_; (with_reducible refine (lanternref05_number.calls k1 (rdOf ByteArray.empty t404 x5_1) 10 t408 _ ?side1 A9.out).mono ?_); (case side1 => exact lw_); rintro e w' ⟨rfl, ⟨nd, rfl⟩⟩; refine ⟨_, rfl, ?_⟩))
        go_ret
        exact ⟨rq_, bq_⟩
       ·rw [if_neg c10] at H
        have c10b0 := decide_eq_false c10
        clear c10
        by_cases c11 : t408 > 255
        ·rw [if_pos c11] at H
         exact absurd H (by simp)
        ·rw [if_neg c11] at H
         have c11b0 := decide_eq_false c11
         clear c11
         by_cases c12 : ((rdOf ByteArray.empty t404 x5_1).size : Int) > 1
         ·rw [if_pos c12] at H
          have c12b0 := decide_eq_true c12
          have c12b1 : decide (1 < (rdOf ByteArray.empty t404 x5_1).size) = true := decide_eq_true (by omega)
          clear c12
          by_cases c13 : 0 < ((rdOf ByteArray.empty t404 x5_1).size : Int)
          ·rw [if_pos c13] at H
           have c13b0 := decide_eq_true c13
           have c13b1 : decide (0 < (rdOf ByteArray.empty t404 x5_1).size) = true := decide_eq_true (by omega)
           clear c13
           by_cases c15 : (bt (rdOf ByteArray.empty t404 x5_1) 0) = 48
           ·rw [if_pos c15] at H
            exact absurd H (by simp)
           ·rw [if_neg c15] at H
            have c15b0 := beq_eq_false_iff_ne.mpr c15
            have c15b1 := bne_iff_ne.mpr c15
            have H' := Aside0.mk H
            clear H
            have p407 : 0 ≤ (x5_1 : Int) := of_decide_eq_true as_
            have q407 : x5_1 < (t404.length : Int) := of_decide_eq_true as_
            obtain ⟨ad407, e407, hx407_0⟩ := Kd.at_string (Kd.R_reads' HO_3.out).2.2 x5_1 p407 q407
            cases e407
            replace p407 := eq_true p407
            replace q407 := eq_true q407
            go_wp2_with (first | ((with_reducible refine gate_callee (f := 48) rfl ?_); refine goesL_ (some 20) rfl rfl Tryd.func48 (by kernel_rfl) rfl #[.string (rdOf ByteArray.empty t404 x5_1), .int .i64 10] rfl lq_ ?_; (with_reducible refine (lanternref05_number.calls k1 (rdOf ByteArray.empty t404 x5_1) 10 t408 _ ?side1 A9.out).mono ?_); (case side1 => exact lw_); rintro e w' ⟨rfl, ⟨nd, rfl⟩⟩; refine ⟨_, rfl, ?_⟩; have p409 : 0 ≤ (x5_1 : Int) := of_decide_eq_true as_; have q409 : x5_1 < (t404.length : Int) := of_decide_eq_true as_; obtain ⟨ad409, e409, hx409_0⟩ := Kd.at_string (Kd.R_reads' HO_3.out).2.2 x5_1 p409 q409; obtain rfl : ad407 = ad409 := (by injection e409); replace p409 := eq_true p409; replace q409 := eq_true q409; have p410 : 0 ≤ (x5_1 : Int) := of_decide_eq_true as_; have q410 : x5_1 < (t404.length : Int) := of_decide_eq_true as_; obtain ⟨ad410, e410, hx410_0⟩ := Kd.at_string (Kd.R_reads' HO_3.out).2.2 x5_1 p410 q410; obtain rfl : ad407 = ad410 := (by injection e410); replace p410 := eq_true p410; replace q410 := eq_true q410; have p14 : 0 ≤ (0 : Int) := (by omega); have q14 : 0 < (rdOf ByteArray.empty t404 x5_1).size := (by have : (0 : Int) < ((rdOf ByteArray.empty t404 x5_1).size : Int) := of_decide_eq_true as_; omega); have hx14 : ∀ h : 0 < (rdOf ByteArray.empty t404 x5_1).size, (((rdOf ByteArray.empty t404 x5_1)[0]'h).toNat : Int) = bt (rdOf ByteArray.empty t404 x5_1) 0 := bt_at (rdOf ByteArray.empty t404 x5_1) 0; clear p14; have qi14 : (0 < ((rdOf ByteArray.empty t404 x5_1).size : Int)) = True := eq_true (of_decide_eq_true as_); replace q14 := eq_true q14))
            go_roundg k1
            case measure => have := HK1.out; omega
            case rel => exact ⟨(wrap64 ((wrap64 (x4_1 * 256)) + t408)), (wrap64 (x5_1 + 1)), sq_, sq_, H', ⟨by have := HK1.out; omega⟩, ⟨by (with_reducible repeat (first | apply Kd.R_alloc | apply Kd.R_drewN | apply Kd.R_drew)); exact HO_3.out⟩, ⟨bq_⟩⟩
          ·rw [if_neg c13] at H
           exact absurd H (by simp)
         ·rw [if_neg c12] at H
          have c12b0 := decide_eq_false c12
          have c12b1 : decide (1 < (rdOf ByteArray.empty t404 x5_1).size) = false := decide_eq_false (by omega)
          clear c12
          have H' := Aside0.mk H
          clear H
          have p407 : 0 ≤ (x5_1 : Int) := of_decide_eq_true as_
          have q407 : x5_1 < (t404.length : Int) := of_decide_eq_true as_
          obtain ⟨ad407, e407, hx407_0⟩ := Kd.at_string (Kd.R_reads' HO_3.out).2.2 x5_1 p407 q407
          cases e407
          replace p407 := eq_true p407
          replace q407 := eq_true q407
          go_wp2_with (first | ((with_reducible refine gate_callee (f := 48) rfl ?_); refine goesL_ (some 20) rfl rfl Tryd.func48 (by kernel_rfl) rfl #[.string (rdOf ByteArray.empty t404 x5_1), .int .i64 10] rfl lq_ ?_; (with_reducible refine (lanternref05_number.calls k1 (rdOf ByteArray.empty t404 x5_1) 10 t408 _ ?side1 A9.out).mono ?_); (case side1 => exact lw_); rintro e w' ⟨rfl, ⟨nd, rfl⟩⟩; refine ⟨_, rfl, ?_⟩; have p409 : 0 ≤ (x5_1 : Int) := of_decide_eq_true as_; have q409 : x5_1 < (t404.length : Int) := of_decide_eq_true as_; obtain ⟨ad409, e409, hx409_0⟩ := Kd.at_string (Kd.R_reads' HO_3.out).2.2 x5_1 p409 q409; obtain rfl : ad407 = ad409 := (by injection e409); replace p409 := eq_true p409; replace q409 := eq_true q409))
          go_roundg k1
          case measure => have := HK1.out; omega
          case rel => exact ⟨(wrap64 ((wrap64 (x4_1 * 256)) + t408)), (wrap64 (x5_1 + 1)), sq_, sq_, H', ⟨by have := HK1.out; omega⟩, ⟨by (with_reducible repeat (first | apply Kd.R_alloc | apply Kd.R_drewN | apply Kd.R_drew)); exact HO_3.out⟩, ⟨bq_⟩⟩
      ·rw [if_neg c8] at H
       exact absurd H (by simp)
     ·rw [if_neg c7] at H
      exact absurd H (by simp)
    ·rw [if_neg c6] at H
     have c6b0 := decide_eq_false c6
     clear c6
     obtain rfl := Option.some.inj H
     go_wp2
     go_ret
     exact ⟨rq_, bq_⟩
 ·rw [if_neg c3] at H
  have c3b0 := beq_eq_false_iff_ne.mpr c3
  have c3b1 := bne_iff_ne.mpr c3
  obtain rfl := Option.some.inj H
  go_enter Tryd.func35, Tryd.ntmps35
  go_wp2_with (first | ((with_reducible refine gate_callee (f := 37) rfl ?_); refine goesL_ (some 8) rfl rfl Tryd.func37 (by kernel_rfl) rfl #[.string a0, .int .u8 46] rfl lq_ ?_; (with_reducible refine (lanternref05_cut.calls k a0 46 t404 _ ?side1 A2.out).mono ?_); (case side1 => exact lw_); rintro e w16 ⟨v405, rfl, ho0, hb⟩; refine ⟨_, rfl, ?_⟩; have HO406 := Aside0.mk (Kd.R_lower ho0 (below_size bq_)); replace HB := Aside0.mk (below_step bq_ hb); (try clear hb); (try clear hb2); (try clear hk); (try clear hi); (try clear ho0); obtain ⟨Ao17, co17, eo17⟩ := Kd.R_slice HO406.out; subst eo17))
  go_ret
  exact ⟨rq_, bq_⟩

mutual
def lanternref05_groups.l0 : Nat → List ByteArray → List Int → Bool → Int → Option (List Int × Bool)
 | 0, _, _, _, _ => none
 | k + 1, x4, x5, x6, x7 => if x7 < (x4.length : Int) then (if 0 ≤ x7 then (if (rdOf ByteArray.empty x4 x7).toList = ([] : List UInt8) then (if x7 = 0 then (lanternref05_groups.j1 k x4 x5 x6 x7 true) else (lanternref05_groups.j1 k x4 x5 x6 x7 (x7 == (wrap64 ((x4.length : Int) - 1))))) else ((lanternref05_four.f k (rdOf ByteArray.empty x4 x7)).bind fun t423 => (if t423 ≥ 0 then (lanternref05_groups.j2 k x4 x5 x6 x7 t423 (x7 == (wrap64 ((x4.length : Int) - 1)))) else (lanternref05_groups.j2 k x4 x5 x6 x7 t423 false)))) else (none)) else (some (x5, true))
def lanternref05_groups.j1 : Nat → List ByteArray → List Int → Bool → Int → Bool → Option (List Int × Bool)
 | 0, _, _, _, _, _ => none
 | k + 1, x4, x5, x6, x7, x8 => if x8 = true then (if (x4.length : Int) < 3 then (none) else (if x7 = 0 then (if 1 < (x4.length : Int) then (if (rdOf ByteArray.empty x4 1).toList = ([] : List UInt8) then (if x7 > 0 then (none) else (lanternref05_groups.l0 k x4 x5 x6 (wrap64 (x7 + 1)))) else (none)) else (none)) else (if x7 > 0 then (none) else (lanternref05_groups.l0 k x4 x5 x6 (wrap64 (x7 + 1)))))) else (if x6 = true then (none) else (if x5.length < 17592186044416 then (lanternref05_groups.l0 k x4 (x5 ++ [(-1)]) true (wrap64 (x7 + 1))) else (none)))
def lanternref05_groups.j2 : Nat → List ByteArray → List Int → Bool → Int → Int → Bool → Option (List Int × Bool)
 | 0, _, _, _, _, _, _ => none
 | k + 1, x4, x5, x6, x7, x9, x79 => if x79 = true then ((some (([wrap64 (Int.tdiv x9 65536), Int.tmod x9 65536] : List Int) : List Int)).bind fun y424 => (if x5.length + y424.length < 17592186044416 then (lanternref05_groups.l0 k x4 (x5 ++ y424) x6 (wrap64 (x7 + 1))) else (none))) else (if 0 ≤ x7 then (if x7 < (x4.length : Int) then ((lanternref05_number.f k (rdOf ByteArray.empty x4 x7) 16).bind fun t431 => (if t431 < 0 then (none) else (if ((rdOf ByteArray.empty x4 x7).size : Int) > 4 then (none) else (if x5.length < 17592186044416 then (lanternref05_groups.l0 k x4 (x5 ++ [t431]) x6 (wrap64 (x7 + 1))) else (none))))) else (none)) else (none))
end
def lanternref05_groups.f (k : Nat) (a0 : ByteArray) : Option (List Int × Bool) := (lanternref05_cut.f k a0 58).bind fun t411 => (lanternref05_groups.l0 k t411 (([] : List Int)) false 0)
theorem lanternref05_groups.mono_l : ∀ k, (∀ y0 y1 y2 y3, LeO (lanternref05_groups.l0 k y0 y1 y2 y3) (lanternref05_groups.l0 (k + 1) y0 y1 y2 y3)) ∧ (∀ y0 y1 y2 y3 y4, LeO (lanternref05_groups.j1 k y0 y1 y2 y3 y4) (lanternref05_groups.j1 (k + 1) y0 y1 y2 y3 y4)) ∧ (∀ y0 y1 y2 y3 y4 y5, LeO (lanternref05_groups.j2 k y0 y1 y2 y3 y4 y5) (lanternref05_groups.j2 (k + 1) y0 y1 y2 y3 y4 y5))
 | 0 => ⟨fun _ _ _ _ r h => by simp [lanternref05_groups.l0] at h, fun _ _ _ _ _ r h => by simp [lanternref05_groups.j1] at h, fun _ _ _ _ _ _ r h => by simp [lanternref05_groups.j2] at h⟩
 | k + 1 => by
  obtain ⟨ih0, ih1, ih2⟩ := lanternref05_groups.mono_l k
  refine ⟨?_, ?_, ?_⟩
  ·intro y0 y1 y2 y3
   unfold lanternref05_groups.l0
   repeat' first
   | (with_reducible exact ih0 _ _ _ _)
   | (with_reducible exact ih1 _ _ _ _ _)
   | (with_reducible exact ih2 _ _ _ _ _ _)
   | (with_reducible exact lanternref05_cut.mono _ _ _)
   | (with_reducible exact lanternref05_four.mono _ _)
   | (with_reducible exact lanternref05_number.mono _ _ _)
   | (with_reducible exact LeO.refl _)
   | (with_reducible exact LeO.none _)
   | (with_reducible refine LeO.ite ?_ ?_)
   | (with_reducible refine LeO.bind ?_ (fun _ => ?_))
   | exact ih0 _ _ _ _
   | exact ih1 _ _ _ _ _
   | exact ih2 _ _ _ _ _ _
   | exact lanternref05_cut.mono _ _ _
   | exact lanternref05_four.mono _ _
   | exact lanternref05_number.mono _ _ _
   | exact LeO.none _
   | refine LeO.ite ?_ ?_
   | refine LeO.bind ?_ (fun _ => ?_)
  ·intro y0 y1 y2 y3 y4
   unfold lanternref05_groups.j1
   repeat' first
   | (with_reducible exact ih0 _ _ _ _)
   | (with_reducible exact ih1 _ _ _ _ _)
   | (with_reducible exact ih2 _ _ _ _ _ _)
   | (with_reducible exact lanternref05_cut.mono _ _ _)
   | (with_reducible exact lanternref05_four.mono _ _)
   | (with_reducible exact lanternref05_number.mono _ _ _)
   | (with_reducible exact LeO.refl _)
   | (with_reducible exact LeO.none _)
   | (with_reducible refine LeO.ite ?_ ?_)
   | (with_reducible refine LeO.bind ?_ (fun _ => ?_))
   | exact ih0 _ _ _ _
   | exact ih1 _ _ _ _ _
   | exact ih2 _ _ _ _ _ _
   | exact lanternref05_cut.mono _ _ _
   | exact lanternref05_four.mono _ _
   | exact lanternref05_number.mono _ _ _
   | exact LeO.none _
   | refine LeO.ite ?_ ?_
   | refine LeO.bind ?_ (fun _ => ?_)
  ·intro y0 y1 y2 y3 y4 y5
   unfold lanternref05_groups.j2
   repeat' first
   | (with_reducible exact ih0 _ _ _ _)
   | (with_reducible exact ih1 _ _ _ _ _)
   | (with_reducible exact ih2 _ _ _ _ _ _)
   | (with_reducible exact lanternref05_cut.mono _ _ _)
   | (with_reducible exact lanternref05_four.mono _ _)
   | (with_reducible exact lanternref05_number.mono _ _ _)
   | (with_reducible exact LeO.refl _)
   | (with_reducible exact LeO.none _)
   | (with_reducible refine LeO.ite ?_ ?_)
   | (with_reducible refine LeO.bind ?_ (fun _ => ?_))
   | exact ih0 _ _ _ _
   | exact ih1 _ _ _ _ _
   | exact ih2 _ _ _ _ _ _
   | exact lanternref05_cut.mono _ _ _
   | exact lanternref05_four.mono _ _
   | exact lanternref05_number.mono _ _ _
   | exact LeO.none _
   | refine LeO.ite ?_ ?_
   | refine LeO.bind ?_ (fun _ => ?_)
theorem lanternref05_groups.mono : ∀ a0 k, LeO (lanternref05_groups.f k a0) (lanternref05_groups.f (k + 1) a0) := by
 intro a0 k
 obtain ⟨ih0, ih1, ih2⟩ := lanternref05_groups.mono_l k
 unfold lanternref05_groups.f
 repeat' first
   | (with_reducible exact ih0 _ _ _ _)
   | (with_reducible exact ih1 _ _ _ _ _)
   | (with_reducible exact ih2 _ _ _ _ _ _)
   | (with_reducible exact lanternref05_cut.mono _ _ _)
   | (with_reducible exact lanternref05_four.mono _ _)
   | (with_reducible exact lanternref05_number.mono _ _ _)
   | (with_reducible exact LeO.refl _)
   | (with_reducible exact LeO.none _)
   | (with_reducible refine LeO.ite ?_ ?_)
   | (with_reducible refine LeO.bind ?_ (fun _ => ?_))
   | exact ih0 _ _ _ _
   | exact ih1 _ _ _ _ _
   | exact ih2 _ _ _ _ _ _
   | exact lanternref05_cut.mono _ _ _
   | exact lanternref05_four.mono _ _
   | exact lanternref05_number.mono _ _ _
   | exact LeO.none _
   | refine LeO.ite ?_ ?_
   | refine LeO.bind ?_ (fun _ => ?_)
set_option maxHeartbeats 8000000 in
set_option maxRecDepth 100000 in
theorem lanternref05_groups.calls (k : Nat) (a0 : ByteArray) (r1 : List Int) (r2 : Bool) (w : World) (hLW : LW w) (h : lanternref05_groups.f k a0 = some (r1, r2)) :
  Calls Tryd.prog 36 #[.string a0] w fun e w' => ∃ v0_ : Value, e = .returned (.tuple #[v0_, .bool r2]) ∧ Kd.R (Kd.int .i64) 3 w' w.heap.size (fun _ => True) v0_ r1 ∧ Below w.heap.size w w' := by
 have HLW := Aside0.mk hLW
 clear hLW
 have HB := Aside0.mk (Below.refl w.heap.size w)
 have H := h
 unfold lanternref05_groups.f at H
 clear h
 replace H := Option.bind_eq_some_iff.mp H
 obtain ⟨t411, A20, H⟩ := H
 (try dsimp only at H)
 have A2 := Aside0.mk A20
 clear A20
 obtain ⟨y414, hy414⟩ : ∃ y_ : List Int, y_ = (([] : List Int)) := ⟨_, rfl⟩
 replace H : (lanternref05_groups.l0 k t411 y414 false 0) = some (r1, r2) := by first | (rw [hy414]; with_reducible exact H) | (have H2_ := (Option.bind_some _ _).symm.trans H; rw [hy414]; with_reducible exact H2_) | (have H2_ := (Option.bind_some _ _).symm.trans H; with_reducible exact H2_) | with_reducible exact H | (rw [hy414]; exact H) | exact H
 have Ny414 := Aside0.mk hy414
 clear hy414
 have H' := Aside0.mk H
 clear H
 go_enter Tryd.func36, Tryd.ntmps36
 go_wp2_with (first | ((with_reducible refine gate_callee (f := 37) rfl ?_); refine goesL_ (some 12) rfl rfl Tryd.func37 (by kernel_rfl) rfl #[.string a0, .int .u8 58] rfl lq_ ?_; (with_reducible refine (lanternref05_cut.calls k a0 58 t411 _ ?side1 A2.out).mono ?_); (case side1 => exact lw_); rintro e w3 ⟨v412, rfl, ho0, hb⟩; refine ⟨_, rfl, ?_⟩; have HO413 := Aside0.mk (Kd.R_lower ho0 (below_size bq_)); replace HB := Aside0.mk (below_step bq_ hb); (try clear hb); (try clear hb2); (try clear hk); (try clear hi); (try clear ho0)) | ((with_reducible refine gate_dst (N := 13) rfl ?_); (try (refine gate_guard (by rfl) ?_; dsimp only)); refine Kd.R_lit (Kd.int .i64) _ 3 ?hg (N := 13) ?hd (xs := ([] : List Int)) (inner := []) (ok := fun _ => True) (okp := fun _ => True) ?hr ?hp (fun _ hk => hk) trivial (Below.refl _ _) (Nat.le_refl _) (by simp) ?_; (case hd => rfl); (case hg => rfl); (case hr => first | (go_simp; done) | (go_simp; rfl)); (case hp => exact (Reps.none _ _)); intro v415 w4 ho5 hb hg_ hnew_; clear hg_ hnew_; (first | rw [← Ny414.out] at ho5 | (simp only [Int.reduceToNat] at ho5; rw [← Ny414.out] at ho5)); replace HO413 := Aside0.mk (Kd.R_below (by (with_reducible repeat (first | apply Kd.R_alloc | apply Kd.R_drewN | apply Kd.R_drew)); exact HO413.out) hb); have HO416 := Aside0.mk (Kd.R_lower ho5 (below_size bq_)); replace HB := Aside0.mk (below_step bq_ hb); clear hb ho5))
 go_loopg [5, 6, 7] k (fun kq v5 v6 v7 w' => ∃ (x5_1 : List Int) (x6_1 : Bool) (x7_1 : Int), v6 = .bool x6_1 ∧ v7 = .int .i64 x7_1 ∧ Aside0 (lanternref05_groups.l0 kq t411 x5_1 x6_1 x7_1 = some (r1, r2)) ∧ Aside0 (kq ≤ k) ∧ Aside0 (Kd.R Kd.string 9 w' w.heap.size (fun _ => True) v412 t411) ∧ Aside0 (Kd.R (Kd.int .i64) 3 w' w.heap.size (fun _ => True) v5 x5_1) ∧ Aside0 (Below w.heap.size w w'))
 case atStart => exact ⟨(y414), (false), (0), sq_, sq_, H', ⟨Nat.le_refl _⟩, ⟨by (with_reducible repeat (first | apply Kd.R_alloc | apply Kd.R_drewN | apply Kd.R_drew)); exact HO413.out⟩, ⟨by (with_reducible repeat (first | apply Kd.R_alloc | apply Kd.R_drewN | apply Kd.R_drew)); exact HO416.out⟩, ⟨bq_⟩⟩
 case round =>
  clear H'
  try clear p2
  try clear c3
  obtain ⟨x5_1, x6_1, x7_1, rfl, rfl, HA, HK1, HO_4, HO_5, HB⟩ := hrel
  cases gk with
  | zero => exact absurd HA.out (by simp [lanternref05_groups.l0])
  | succ k1 =>
   have H := HA.out
   clear HA
   simp only [lanternref05_groups.l0] at H
   by_cases c6 : x7_1 < (t411.length : Int)
   ·rw [if_pos c6] at H
    have c6b0 := decide_eq_true c6
    clear c6
    by_cases c7 : 0 ≤ x7_1
    ·rw [if_pos c7] at H
     have c7b0 := decide_eq_true c7
     clear c7
     by_cases c8 : (rdOf ByteArray.empty t411 x7_1).toList = ([] : List UInt8)
     ·rw [if_pos c8] at H
      have c8b0 := beq_iff_eq.mpr c8
      have c8b1 := bne_eq_false_iff_eq.mpr c8
      clear c8
      have HC9 := Aside0.mk H
      clear H
      obtain ⟨Ao10, co10, eo10⟩ := Kd.R_slice HO_4.out
      subst eo10
      have p417 : 0 ≤ (x7_1 : Int) := of_decide_eq_true as_
      have q417 : x7_1 < (t411.length : Int) := of_decide_eq_true as_
      obtain ⟨ad417, e417, hx417_0⟩ := Kd.at_string (Kd.R_reads' HO_4.out).2.2 x7_1 p417 q417
      cases e417
      replace p417 := eq_true p417
      replace q417 := eq_true q417
      go_upto_region 8 with (fail)
      go_cut [8] (fun v8 wc => ∃ (kq : Nat) (x8_8 : Bool), v8 = .bool x8_8 ∧ Aside0 (lanternref05_groups.j1 kq t411 x5_1 x6_1 x7_1 x8_8 = some (r1, r2)) ∧ Aside0 (kq ≤ k1) ∧ Aside0 (Kd.R Kd.string 9 wc w.heap.size (fun _ => True) (.slice (some ad417) t411.length co10) t411) ∧ Aside0 (Kd.R (Kd.int .i64) 3 wc w.heap.size (fun _ => True) u5 x5_1) ∧ Aside0 (Below w.heap.size w wc))
      case first =>
       have H := HC9.out
       clear HC9
       by_cases c11 : x7_1 = 0
       ·rw [if_pos c11] at H
        have c11b0 := beq_iff_eq.mpr c11
        have c11b1 := bne_eq_false_iff_eq.mpr c11
        clear c11
        (first | rw [c11b0] | (simp only [i64_w, i32_w]; rw [c11b0]) | skip)
        have H' := Aside0.mk H
        clear H
        go_wp2
        go_meet
        case rel => exact ⟨_, (true), sq_, H', ⟨by have := HK1.out; first | omega | exact Nat.le_refl _⟩, ⟨by (with_reducible repeat (first | apply Kd.R_alloc | apply Kd.R_drewN | apply Kd.R_drew)); exact HO_4.out⟩, ⟨by (with_reducible repeat (first | apply Kd.R_alloc | apply Kd.R_drewN | apply Kd.R_drew)); exact HO_5.out⟩, ⟨bq_⟩⟩
       ·rw [if_neg c11] at H
        have c11b0 := beq_eq_false_iff_ne.mpr c11
        have c11b1 := bne_iff_ne.mpr c11
        (first | rw [c11b0] | (simp only [i64_w, i32_w]; rw [c11b0]) | skip)
        have H' := Aside0.mk H
        clear H
        go_wp2
        go_meet
        case rel => exact ⟨_, ((x7_1 == (wrap64 ((t411.length : Int) - 1)))), sq_, H', ⟨by have := HK1.out; first | omega | exact Nat.le_refl _⟩, ⟨by (with_reducible repeat (first | apply Kd.R_alloc | apply Kd.R_drewN | apply Kd.R_drew)); exact HO_4.out⟩, ⟨by (with_reducible repeat (first | apply Kd.R_alloc | apply Kd.R_drewN | apply Kd.R_drew)); exact HO_5.out⟩, ⟨bq_⟩⟩
      case rest =>
       clear HC9
       try clear c1
       try clear p2
       try clear c3
       try clear p4
       try clear q4
       try clear hx4
       try clear c6
       try clear c6b0
       try clear p6
       try clear c7
       try clear c7b0
       try clear c8
       try clear c8b0
       try clear c8b1
       try clear c11
       try clear c11b0
       try clear c11b1
       try clear hx417_0
       try clear p2
       try clear p417
       try clear q417
       obtain ⟨kq, x8_8, rfl, HA, HJ8, HO_4, HO_5, HB⟩ := hcut
       cases kq with
       | zero => exact absurd HA.out (by simp [lanternref05_groups.j1])
       | succ kj8 =>
        have H := HA.out
        clear HA
        simp only [lanternref05_groups.j1] at H
        by_cases c12 : x8_8 = true
        ·subst c12
         replace H := ifT_ H
         by_cases c13 : (t411.length : Int) < 3
         ·rw [if_pos c13] at H
          exact absurd H (by simp)
         ·rw [if_neg c13] at H
          have c13b0 := decide_eq_false c13
          have c13b1 : decide (t411.length < 3) = false := decide_eq_false (by omega)
          clear c13
          by_cases c14 : x7_1 = 0
          ·rw [if_pos c14] at H
           have c14b0 := beq_iff_eq.mpr c14
           have c14b1 := bne_eq_false_iff_eq.mpr c14
           clear c14
           by_cases c15 : 1 < (t411.length : Int)
           ·rw [if_pos c15] at H
            have c15b0 := decide_eq_true c15
            have c15b1 : decide (1 < t411.length) = true := decide_eq_true (by omega)
            clear c15
            by_cases c16 : (rdOf ByteArray.empty t411 1).toList = ([] : List UInt8)
            ·rw [if_pos c16] at H
             have c16b0 := beq_iff_eq.mpr c16
             have c16b1 := bne_eq_false_iff_eq.mpr c16
             clear c16
             by_cases c17 : x7_1 > 0
             ·rw [if_pos c17] at H
              exact absurd H (by simp)
             ·rw [if_neg c17] at H
              have c17b0 := decide_eq_false c17
              clear c17
              have H' := Aside0.mk H
              clear H
              have p418 : 0 ≤ (1 : Int) := (by omega)
              have q418 : 1 < (t411.length : Int) := of_decide_eq_true as_
              obtain ⟨ad418, e418, hx418_0⟩ := Kd.at_string (Kd.R_reads' HO_4.out).2.2 1 p418 q418
              obtain rfl : ad417 = ad418 := (by injection e418)
              (try simp only [show (1 : Int).toNat = 1 from rfl, Nat.reduceMul, Nat.reduceEqDiff, Go.Addr.add, ↓reduceIte] at hx418_0)
              have qi418 : (1 < t411.length) = True := eq_true (by omega)
              (try rw [show ((1 : Int)).toNat = 1 from rfl] at hx418_0)
              replace p418 := eq_true p418
              replace q418 := eq_true q418
              go_wp2
              go_roundg kj8
              case measure => have := HK1.out; have := HJ8.out; omega
              case rel => exact ⟨(x5_1), (x6_1), (wrap64 (x7_1 + 1)), sq_, sq_, H', ⟨by have := HK1.out; have := HJ8.out; omega⟩, ⟨by (with_reducible repeat (first | apply Kd.R_alloc | apply Kd.R_drewN | apply Kd.R_drew)); exact HO_4.out⟩, ⟨by (with_reducible repeat (first | apply Kd.R_alloc | apply Kd.R_drewN | apply Kd.R_drew)); exact HO_5.out⟩, ⟨bq_⟩⟩
            ·rw [if_neg c16] at H
             exact absurd H (by simp)
           ·rw [if_neg c15] at H
            exact absurd H (by simp)
          ·rw [if_neg c14] at H
           have c14b0 := beq_eq_false_iff_ne.mpr c14
           have c14b1 := bne_iff_ne.mpr c14
           by_cases c18 : x7_1 > 0
           ·rw [if_pos c18] at H
            exact absurd H (by simp)
           ·rw [if_neg c18] at H
            have c18b0 := decide_eq_false c18
            clear c18
            have H' := Aside0.mk H
            clear H
            go_wp2
            go_roundg kj8
            case measure => have := HK1.out; have := HJ8.out; omega
            case rel => exact ⟨(x5_1), (x6_1), (wrap64 (x7_1 + 1)), sq_, sq_, H', ⟨by have := HK1.out; have := HJ8.out; omega⟩, ⟨by (with_reducible repeat (first | apply Kd.R_alloc | apply Kd.R_drewN | apply Kd.R_drew)); exact HO_4.out⟩, ⟨by (with_reducible repeat (first | apply Kd.R_alloc | apply Kd.R_drewN | apply Kd.R_drew)); exact HO_5.out⟩, ⟨bq_⟩⟩
        ·replace c12 := Bool.eq_false_iff.mpr c12
         subst c12
         replace H := ifF_ H
         by_cases c19 : x6_1 = true
         ·subst c19
          replace H := ifT_ H
          exact absurd H (by simp)
         ·replace c19 := Bool.eq_false_iff.mpr c19
          subst c19
          replace H := ifF_ H
          by_cases c20 : x5_1.length < 17592186044416
          ·rw [if_pos c20] at H
           have LMc20 := Aside0.mk c20
           clear c20
           obtain ⟨y419, hy419⟩ : ∃ y_ : List Int, y_ = (x5_1 ++ [(-1)]) := ⟨_, rfl⟩
           replace H : (lanternref05_groups.l0 kj8 t411 y419 true (wrap64 (x7_1 + 1))) = some (r1, r2) := by first | (rw [hy419]; with_reducible exact H) | (have H2_ := (Option.bind_some _ _).symm.trans H; rw [hy419]; with_reducible exact H2_) | (have H2_ := (Option.bind_some _ _).symm.trans H; with_reducible exact H2_) | with_reducible exact H | (rw [hy419]; exact H) | exact H
           have Ny419 := Aside0.mk hy419
           clear hy419
           have H' := Aside0.mk H
           clear H
           go_wp2_with (first | ((with_reducible refine gate_builtin (b := .append) (xs := #[.tmp 37, .tmp 38]) rfl ?_); (try (refine gate_guard (by rfl) ?_; dsimp only)); at_builtin; refine Kd.R_append (Kd.int .i64) (w0 := w) w.heap.size rfl (.tmp 37) (.tmp 38) 61 3 (.int .i64 0) 8 rfl Tryd.underlying61 info3 rfl (by decide) (by omega) u5 x5_1 (-1) [.int .i64 (-1)] (fun _ => True) (fun _ => False) rfl rfl ?aP (fun _ hk => hk.elim) ?aF ?aO ?aB ?aS ?aL ?_; (case aP => exact rfl); (case aB => exact bq_); (case aF => exact (fun _ _ => trivial)); (case aO => exact (by (with_reducible repeat (first | apply Kd.R_alloc | apply Kd.R_drewN | apply Kd.R_drew)); exact HO_5.out)); (case aS => exact (below_size bq_)); (case aL => have := LMc20.out; omega); intro v420 w21 ho hb hg hat; rw [← Ny419.out] at ho; replace HO_4 := Aside0.mk (Kd.R_over' (by (with_reducible repeat (first | apply Kd.R_alloc | apply Kd.R_drewN | apply Kd.R_drew)); exact HO_4.out) (Kd.R_typed (by (with_reducible repeat (first | apply Kd.R_alloc | apply Kd.R_drewN | apply Kd.R_drew)); exact HO_5.out)) (by decide) hg); have HO421 := Aside0.mk (ho); replace HB := Aside0.mk (hb); clear HO_5; clear ho hb hg hat))
           go_roundg kj8
           case measure => have := HK1.out; have := HJ8.out; omega
           case rel => exact ⟨(y419), (true), (wrap64 (x7_1 + 1)), sq_, sq_, H', ⟨by have := HK1.out; have := HJ8.out; omega⟩, ⟨by (with_reducible repeat (first | apply Kd.R_alloc | apply Kd.R_drewN | apply Kd.R_drew)); exact HO_4.out⟩, ⟨by (with_reducible repeat (first | apply Kd.R_alloc | apply Kd.R_drewN | apply Kd.R_drew)); exact HO421.out⟩, ⟨bq_⟩⟩
          ·rw [if_neg c20] at H
           exact absurd H (by simp)
     ·rw [if_neg c8] at H
      have c8b0 := beq_eq_false_iff_ne.mpr c8
      have c8b1 := bne_iff_ne.mpr c8
      replace H := Option.bind_eq_some_iff.mp H
      obtain ⟨t423, A220, H⟩ := H
      (try dsimp only at H)
      have A22 := Aside0.mk A220
      clear A220
      have HC23 := Aside0.mk H
      clear H
      obtain ⟨Ao24, co24, eo24⟩ := Kd.R_slice HO_4.out
      subst eo24
      have p417 : 0 ≤ (x7_1 : Int) := of_decide_eq_true as_
      have q417 : x7_1 < (t411.length : Int) := of_decide_eq_true as_
      obtain ⟨ad417, e417, hx417_0⟩ := Kd.at_string (Kd.R_reads' HO_4.out).2.2 x7_1 p417 q417
      cases e417
      replace p417 := eq_true p417
      replace q417 := eq_true q417
      have p422 : 0 ≤ (x7_1 : Int) := of_decide_eq_true as_
      have q422 : x7_1 < (t411.length : Int) := of_decide_eq_true as_
      obtain ⟨ad422, e422, hx422_0⟩ := Kd.at_string (Kd.R_reads' HO_4.out).2.2 x7_1 p422 q422
      obtain rfl : ad417 = ad422 := (by injection e422)
      replace p422 := eq_true p422
      replace q422 := eq_true q422
      go_upto_region 17 with (first | ((with_reducible refine gate_callee (f := 35) rfl ?_); refine goesL_ (some 70) rfl rfl Tryd.func35 (by kernel_rfl) rfl #[.string (rdOf ByteArray.empty t411 x7_1)] rfl lq_ ?_; (with_reducible refine (lanternref05_four.calls k1 (rdOf ByteArray.empty t411 x7_1) t423 _ ?side1 A22.out).mono ?_); (case side1 => exact lw_); rintro e w25 ⟨rfl, hb⟩; refine ⟨_, rfl, ?_⟩; replace HO_4 := Aside0.mk (Kd.R_below (by (with_reducible repeat (first | apply Kd.R_alloc | apply Kd.R_drewN | apply Kd.R_drew)); exact HO_4.out) hb); replace HO_5 := Aside0.mk (Kd.R_below (by (with_reducible repeat (first | apply Kd.R_alloc | apply Kd.R_drewN | apply Kd.R_drew)); exact HO_5.out) hb); replace HB := Aside0.mk (below_step bq_ hb); (try clear hb); (try clear hb2); (try clear hk); (try clear hi)))
      (try simp only [Act.put, List.setIfInBounds_toArray, List.set_cons_zero, List.set_cons_succ])
      go_cut [79] (fun v79 wc => ∃ (kq : Nat) (x79_22 : Bool), v79 = .bool x79_22 ∧ Aside0 (lanternref05_groups.j2 kq t411 x5_1 x6_1 x7_1 t423 x79_22 = some (r1, r2)) ∧ Aside0 (kq ≤ k1) ∧ Aside0 (Kd.R Kd.string 9 wc w.heap.size (fun _ => True) (.slice (some ad417) t411.length co24) t411) ∧ Aside0 (Kd.R (Kd.int .i64) 3 wc w.heap.size (fun _ => True) u5 x5_1) ∧ Aside0 (Below w.heap.size w wc))
      case first =>
       have H := HC23.out
       clear HC23
       by_cases c26 : t423 ≥ 0
       ·rw [if_pos c26] at H
        have c26b0 := decide_eq_true c26
        clear c26
        (first | rw [c26b0] | (simp only [i64_w, i32_w]; rw [c26b0]) | skip)
        have H' := Aside0.mk H
        clear H
        go_wp2
        go_meet
        case rel => exact ⟨_, ((x7_1 == (wrap64 ((t411.length : Int) - 1)))), sq_, H', ⟨by have := HK1.out; first | omega | exact Nat.le_refl _⟩, ⟨by (with_reducible repeat (first | apply Kd.R_alloc | apply Kd.R_drewN | apply Kd.R_drew)); exact HO_4.out⟩, ⟨by (with_reducible repeat (first | apply Kd.R_alloc | apply Kd.R_drewN | apply Kd.R_drew)); exact HO_5.out⟩, ⟨bq_⟩⟩
       ·rw [if_neg c26] at H
        have c26b0 := decide_eq_false c26
        clear c26
        (first | rw [c26b0] | (simp only [i64_w, i32_w]; rw [c26b0]) | skip)
        have H' := Aside0.mk H
        clear H
        go_wp2
        go_meet
        case rel => exact ⟨_, (false), sq_, H', ⟨by have := HK1.out; first | omega | exact Nat.le_refl _⟩, ⟨by (with_reducible repeat (first | apply Kd.R_alloc | apply Kd.R_drewN | apply Kd.R_drew)); exact HO_4.out⟩, ⟨by (with_reducible repeat (first | apply Kd.R_alloc | apply Kd.R_drewN | apply Kd.R_drew)); exact HO_5.out⟩, ⟨bq_⟩⟩
      case rest =>
       clear HC23
       try clear c1
       try clear c2
       try clear p2
       try clear c3
       try clear p4
       try clear q4
       try clear hx4
       try clear qi4
       try clear c6
       try clear c6b0
       try clear p6
       try clear c7
       try clear c7b0
       try clear c8
       try clear c8b0
       try clear c8b1
       try clear c11
       try clear c11b0
       try clear c11b1
       try clear c12
       try clear c13
       try clear c13b0
       try clear c13b1
       try clear c14
       try clear c14b0
       try clear c14b1
       try clear c15
       try clear c15b0
       try clear c15b1
       try clear c16
       try clear c16b0
       try clear c16b1
       try clear c17
       try clear c17b0
       try clear c18
       try clear c18b0
       try clear c19
       try clear c20
       try clear c26
       try clear c26b0
       try clear hx417_0
       try clear hx418_0
       try clear hx422_0
       try clear p2
       try clear p4
       try clear p417
       try clear p418
       try clear p422
       try clear p6
       try clear q4
       try clear q417
       try clear q418
       try clear q422
       obtain ⟨kq, x79_22, rfl, HA, HJ22, HO_4, HO_5, HB⟩ := hcut
       cases kq with
       | zero => exact absurd HA.out (by simp [lanternref05_groups.j2])
       | succ kj22 =>
        have H := HA.out
        clear HA
        simp only [lanternref05_groups.j2] at H
        by_cases c27 : x79_22 = true
        ·subst c27
         replace H := ifT_ H
         obtain ⟨y424, hy424⟩ : ∃ y_ : List Int, y_ = (([wrap64 (Int.tdiv t423 65536), Int.tmod t423 65536] : List Int)) := ⟨_, rfl⟩
         replace H : (if x5_1.length + y424.length < 17592186044416 then (lanternref05_groups.l0 kj22 t411 (x5_1 ++ y424) x6_1 (wrap64 (x7_1 + 1))) else (none)) = some (r1, r2) := by first | (rw [hy424]; with_reducible exact H) | (have H2_ := (Option.bind_some _ _).symm.trans H; rw [hy424]; with_reducible exact H2_) | (have H2_ := (Option.bind_some _ _).symm.trans H; with_reducible exact H2_) | with_reducible exact H | (rw [hy424]; exact H) | exact H
         have Ny424 := Aside0.mk hy424
         clear hy424
         by_cases c28 : x5_1.length + y424.length < 17592186044416
         ·rw [if_pos c28] at H
          have LMc28 := Aside0.mk c28
          clear c28
          obtain ⟨y427, hy427⟩ : ∃ y_ : List Int, y_ = (x5_1 ++ y424) := ⟨_, rfl⟩
          replace H : (lanternref05_groups.l0 kj22 t411 y427 x6_1 (wrap64 (x7_1 + 1))) = some (r1, r2) := by first | (rw [hy427]; with_reducible exact H) | (have H2_ := (Option.bind_some _ _).symm.trans H; rw [hy427]; with_reducible exact H2_) | (have H2_ := (Option.bind_some _ _).symm.trans H; with_reducible exact H2_) | with_reducible exact H | (rw [hy427]; exact H) | exact H
          have Ny427 := Aside0.mk hy427
          clear hy427
          have H' := Aside0.mk H
          clear H
          go_wp2_with (first | ((with_reducible refine gate_dst (N := 85) rfl ?_); (try (refine gate_guard (by rfl) ?_; dsimp only)); refine Kd.R_lit (Kd.int .i64) _ 3 ?hg (N := 85) ?hd (xs := ([wrap64 (Int.tdiv t423 65536), Int.tmod t423 65536] : List Int)) (inner := [.int .i64 (wrap64 (Int.tdiv t423 65536)), .int .i64 (Int.tmod t423 65536)]) (ok := fun _ => True) (okp := fun _ => True) ?hr ?hp (fun _ hk => hk) trivial (Below.refl _ _) (Nat.le_refl _) (by simp) ?_; (case hd => rfl); (case hg => rfl); (case hr => first | (go_simp; done) | (go_simp; rfl)); (case hp => exact (Reps.one (show Kd.M (Kd.int .i64) _ _ _ (wrap64 (Int.tdiv t423 65536)) [.int .i64 (wrap64 (Int.tdiv t423 65536))] from rfl) (Reps.one (show Kd.M (Kd.int .i64) _ _ _ (Int.tmod t423 65536) [.int .i64 (Int.tmod t423 65536)] from rfl) (Reps.none _ _)))); intro v425 w29 ho30 hb hg_ hnew_; clear hg_ hnew_; (first | rw [← Ny424.out] at ho30 | (simp only [Int.reduceToNat] at ho30; rw [← Ny424.out] at ho30)); have n0_ := Aside0.mk (Kd.R_below (by (with_reducible repeat (first | apply Kd.R_alloc | apply Kd.R_drewN | apply Kd.R_drew)); exact HO_4.out) hb); have n1_ := Aside0.mk (Kd.R_elder' (by (with_reducible repeat (first | apply Kd.R_alloc | apply Kd.R_drewN | apply Kd.R_drew)); exact HO_5.out) (Kd.R_base ho30) hb); have n2_ := Aside0.mk (Kd.R_lower (Kd.R_new' ho30 (Kd.R_lt (by (with_reducible repeat (first | apply Kd.R_alloc | apply Kd.R_drewN | apply Kd.R_drew)); exact HO_5.out))) (below_size bq_)); have n3_ := Aside0.mk (below_step bq_ hb); clear HO_4; clear HO_5; clear HB; have HO_4 := n0_; have HO_5 := n1_; have HO426 := n2_; have HB := n3_; clear n0_ n1_ n2_ n3_; clear hb ho30; obtain ⟨Ao32, co32, eo32⟩ := Kd.R_slice HO426.out; subst eo32) | ((with_reducible refine gate_builtin (b := .append) (xs := #[.tmp 80, .tmp 85]) rfl ?_); (try (refine gate_guard (by rfl) ?_; dsimp only)); at_builtin; refine Kd.R_append_rows (Kd.int .i64) (w0 := w) w.heap.size rfl (.tmp 80) (.tmp 85) 61 3 (.int .i64 0) 8 rfl Tryd.underlying61 info3 rfl (by decide) (by omega) u5 x5_1 y424 _ _ _ (fun k_ => some k_ ≠ (.slice Ao32 y424.length co32 : Value).ownBlock) (fun _ => False) rfl rfl ?aO ?aR (fun _ _ h => h) (fun _ h => h.elim) ?aF ?aB ?aS ?aL ?_; (case aR => repeat (first | exact (Kd.R_reads' HO426.out).2.2 | (with_reducible refine Kd.C_alloc ?_ _) | (with_reducible refine Kd.C_drewN ?_ _) | (with_reducible refine Kd.C_drew ?_))); (case aB => exact bq_); (case aF => exact (fun k_ hk => Kd.fresh' (Kd.R_lt (by (with_reducible repeat (first | apply Kd.R_alloc | apply Kd.R_drewN | apply Kd.R_drew)); exact HO426.out)) k_ hk)); (case aO => exact (by (with_reducible repeat (first | apply Kd.R_alloc | apply Kd.R_drewN | apply Kd.R_drew)); exact Kd.R_mono HO_5.out (fun _ hk => hk.2))); (case aS => exact (below_size bq_)); (case aL => have := LMc28.out; omega); intro v428 w31 ho hb hg hat; rw [← Ny427.out] at ho; replace HO_4 := Aside0.mk (Kd.R_over' (by (with_reducible repeat (first | apply Kd.R_alloc | apply Kd.R_drewN | apply Kd.R_drew)); exact HO_4.out) (Kd.R_typed (by (with_reducible repeat (first | apply Kd.R_alloc | apply Kd.R_drewN | apply Kd.R_drew)); exact HO_5.out)) (by decide) hg); replace HO426 := Aside0.mk (Kd.R_after (ok := (fun _ => True)) (by (with_reducible repeat (first | apply Kd.R_alloc | apply Kd.R_drewN | apply Kd.R_drew)); exact HO426.out) hg hat); have HO429 := Aside0.mk (ho); replace HB := Aside0.mk (hb); clear HO_5; clear ho hb hg hat))
          go_roundg kj22
          case measure => have := HK1.out; have := HJ22.out; omega
          case rel => exact ⟨(y427), (x6_1), (wrap64 (x7_1 + 1)), sq_, sq_, H', ⟨by have := HK1.out; have := HJ22.out; omega⟩, ⟨by (with_reducible repeat (first | apply Kd.R_alloc | apply Kd.R_drewN | apply Kd.R_drew)); exact HO_4.out⟩, ⟨by (with_reducible repeat (first | apply Kd.R_alloc | apply Kd.R_drewN | apply Kd.R_drew)); exact Kd.R_mono HO429.out (fun _ hk => trivial)⟩, ⟨bq_⟩⟩
         ·rw [if_neg c28] at H
          exact absurd H (by simp)
        ·replace c27 := Bool.eq_false_iff.mpr c27
         subst c27
         replace H := ifF_ H
         by_cases c33 : 0 ≤ x7_1
         ·rw [if_pos c33] at H
          have c33b0 := decide_eq_true c33
          clear c33
          by_cases c34 : x7_1 < (t411.length : Int)
          ·rw [if_pos c34] at H
           have c34b0 := decide_eq_true c34
           clear c34
           replace H := Option.bind_eq_some_iff.mp H
           obtain ⟨t431, A350, H⟩ := H
           (try dsimp only at H)
           have A35 := Aside0.mk A350
           clear A350
           by_cases c36 : t431 < 0
           ·rw [if_pos c36] at H
            exact absurd H (by simp)
           ·rw [if_neg c36] at H
            have c36b0 := decide_eq_false c36
            clear c36
            by_cases c37 : ((rdOf ByteArray.empty t411 x7_1).size : Int) > 4
            ·rw [if_pos c37] at H
             exact absurd H (by simp)
            ·rw [if_neg c37] at H
             have c37b0 := decide_eq_false c37
             have c37b1 : decide (4 < (rdOf ByteArray.empty t411 x7_1).size) = false := decide_eq_false (by omega)
             clear c37
             by_cases c38 : x5_1.length < 17592186044416
             ·rw [if_pos c38] at H
              have LMc38 := Aside0.mk c38
              clear c38
              obtain ⟨y433, hy433⟩ : ∃ y_ : List Int, y_ = (x5_1 ++ [t431]) := ⟨_, rfl⟩
              replace H : (lanternref05_groups.l0 kj22 t411 y433 x6_1 (wrap64 (x7_1 + 1))) = some (r1, r2) := by first | (rw [hy433]; with_reducible exact H) | (have H2_ := (Option.bind_some _ _).symm.trans H; rw [hy433]; with_reducible exact H2_) | (have H2_ := (Option.bind_some _ _).symm.trans H; with_reducible exact H2_) | with_reducible exact H | (rw [hy433]; exact H) | exact H
              have Ny433 := Aside0.mk hy433
              clear hy433
              have H' := Aside0.mk H
              clear H
              have p430 : 0 ≤ (x7_1 : Int) := of_decide_eq_true as_
              have q430 : x7_1 < (t411.length : Int) := of_decide_eq_true as_
              obtain ⟨ad430, e430, hx430_0⟩ := Kd.at_string (Kd.R_reads' HO_4.out).2.2 x7_1 p430 q430
              obtain rfl : ad417 = ad430 := (by injection e430)
              replace p430 := eq_true p430
              replace q430 := eq_true q430
              go_wp2_with (first | ((with_reducible refine gate_callee (f := 48) rfl ?_); refine goesL_ (some 91) rfl rfl Tryd.func48 (by kernel_rfl) rfl #[.string (rdOf ByteArray.empty t411 x7_1), .int .i64 16] rfl lq_ ?_; (with_reducible refine (lanternref05_number.calls kj22 (rdOf ByteArray.empty t411 x7_1) 16 t431 _ ?side1 A35.out).mono ?_); (case side1 => exact lw_); rintro e w' ⟨rfl, ⟨nd, rfl⟩⟩; refine ⟨_, rfl, ?_⟩; have p432 : 0 ≤ (x7_1 : Int) := of_decide_eq_true as_; have q432 : x7_1 < (t411.length : Int) := of_decide_eq_true as_; obtain ⟨ad432, e432, hx432_0⟩ := Kd.at_string (Kd.R_reads' HO_4.out).2.2 x7_1 p432 q432; obtain rfl : ad417 = ad432 := (by injection e432); replace p432 := eq_true p432; replace q432 := eq_true q432) | ((with_reducible refine gate_builtin (b := .append) (xs := #[.tmp 102, .tmp 104]) rfl ?_); (try (refine gate_guard (by rfl) ?_; dsimp only)); at_builtin; refine Kd.R_append (Kd.int .i64) (w0 := w) w.heap.size rfl (.tmp 102) (.tmp 104) 61 3 (.int .i64 0) 8 rfl Tryd.underlying61 info3 rfl (by decide) (by omega) u5 x5_1 t431 [.int .i64 t431] (fun _ => True) (fun _ => False) rfl rfl ?aP (fun _ hk => hk.elim) ?aF ?aO ?aB ?aS ?aL ?_; (case aP => exact rfl); (case aB => exact bq_); (case aF => exact (fun _ _ => trivial)); (case aO => exact (by (with_reducible repeat (first | apply Kd.R_alloc | apply Kd.R_drewN | apply Kd.R_drew)); exact HO_5.out)); (case aS => exact (below_size bq_)); (case aL => have := LMc38.out; omega); intro v434 w39 ho hb hg hat; rw [← Ny433.out] at ho; replace HO_4 := Aside0.mk (Kd.R_over' (by (with_reducible repeat (first | apply Kd.R_alloc | apply Kd.R_drewN | apply Kd.R_drew)); exact HO_4.out) (Kd.R_typed (by (with_reducible repeat (first | apply Kd.R_alloc | apply Kd.R_drewN | apply Kd.R_drew)); exact HO_5.out)) (by decide) hg); have HO435 := Aside0.mk (ho); replace HB := Aside0.mk (hb); clear HO_5; clear ho hb hg hat))
              go_roundg kj22
              case measure => have := HK1.out; have := HJ22.out; omega
              case rel => exact ⟨(y433), (x6_1), (wrap64 (x7_1 + 1)), sq_, sq_, H', ⟨by have := HK1.out; have := HJ22.out; omega⟩, ⟨by (with_reducible repeat (first | apply Kd.R_alloc | apply Kd.R_drewN | apply Kd.R_drew)); exact HO_4.out⟩, ⟨by (with_reducible repeat (first | apply Kd.R_alloc | apply Kd.R_drewN | apply Kd.R_drew)); exact HO435.out⟩, ⟨bq_⟩⟩
             ·rw [if_neg c38] at H
              exact absurd H (by simp)
          ·rw [if_neg c34] at H
           exact absurd H (by simp)
         ·rw [if_neg c33] at H
          exact absurd H (by simp)
    ·rw [if_neg c7] at H
     exact absurd H (by simp)
   ·rw [if_neg c6] at H
    have c6b0 := decide_eq_false c6
    clear c6
    simp only [Option.some.injEq, Prod.mk.injEq] at H
    obtain ⟨rfl, rfl⟩ := H
    obtain ⟨Ao40, co40, eo40⟩ := Kd.R_slice HO_4.out
    subst eo40
    go_wp2
    go_ret2
    exact ⟨_, rq_, by (with_reducible repeat (first | apply Kd.R_alloc | apply Kd.R_drewN | apply Kd.R_drew)); exact HO_5.out, bq_⟩

end Go.Proofs.YtdopafhppaalfaaDoor.P
