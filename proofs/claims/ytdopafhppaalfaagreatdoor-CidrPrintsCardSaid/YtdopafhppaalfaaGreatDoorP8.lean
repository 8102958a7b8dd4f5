-- Written by a program of this session (wip/gen/lprint.py over the kit's print.py) out of the translation. Lean checks it.
import Derived.Test.YtdopafhppaalfaaGreatDoorP0
import Derived.Test.YtdopafhppaalfaaGreatDoorP7
import Derived.Test.YtdopafhppaalfaaGreatDoorZ
namespace Go.Proofs.YtdopafhppaalfaaGreatDoor.P
open Go.Proofs.YtdopafhppaalfaaGreatDoorZ
open Go.Proofs.YtdopafhppaalfaaGreatDoor.E Go.Proofs.YtdopafhppaalfaaGreatDoorV
open Go.RowKit Go.Proofs.YtdopafhppaalfaaGreatDoorW.PrintWords Go.Proofs.YtdopafhppaalfaaGreatDoorW.PrintLast Go.Proofs.YtdopafhppaalfaaGreatDoorW.PrintMore
attribute [local go_sem] max2_int min2_int max_two min_two max_three min_three max_four min_four   -- for this text's walks alone
set_option linter.unusedVariables false
set_option linter.unusedSimpArgs false

def lanternref05_four.l0 : Nat → List ByteArray → Int → Int → Option (Int)
 | 0, _, _, _ => none
 | k + 1, x3, x4, x5 => if x5 < 4 then (if 0 ≤ x5 then (if x5 < (x3.length : Int) then ((lanternref05_number.f k (rdOf ByteArray.empty x3 x5) 10).bind fun t200 => (if t200 < 0 then (some (-1)) else (if t200 > 255 then (none) else (if ((rdOf ByteArray.empty x3 x5).size : Int) > 1 then (if 0 < ((rdOf ByteArray.empty x3 x5).size : Int) then (if (bt (rdOf ByteArray.empty x3 x5) 0) = 48 then (none) else (lanternref05_four.l0 k x3 (wrap64 ((wrap64 (x4 * 256)) + t200)) (wrap64 (x5 + 1)))) else (none)) else (lanternref05_four.l0 k x3 (wrap64 ((wrap64 (x4 * 256)) + t200)) (wrap64 (x5 + 1))))))) else (none)) else (none)) else (some x4)
def lanternref05_four.f (k : Nat) (a0 : ByteArray) : Option (Int) := (lanternref05_cut.f k a0 46).bind fun t196 => (if (t196.length : Int) = 4 then (lanternref05_four.l0 k t196 0 0) else (some (-1)))
theorem lanternref05_four.mono_l : ∀ k, (∀ y0 y1 y2, LeO (lanternref05_four.l0 k y0 y1 y2) (lanternref05_four.l0 (k + 1) y0 y1 y2))
 | 0 => fun _ _ _ r h => by simp [lanternref05_four.l0] at h
 | k + 1 => by
  have ih0 := lanternref05_four.mono_l k
  ·intro y0 y1 y2
   unfold lanternref05_four.l0
   repeat' first
   | (with_reducible exact ih0 _ _ _)
   | (with_reducible exact lanternref05_cut.mono _ _ _)
   | (with_reducible exact lanternref05_number.mono _ _ _)
   | (with_reducible exact LeO.refl _)
   | (with_reducible exact LeO.none _)
   | (with_reducible refine LeO.ite ?_ ?_)
   | (with_reducible refine LeO.bind ?_ (fun _ => ?_))
   | exact ih0 _ _ _
   | exact lanternref05_cut.mono _ _ _
   | exact lanternref05_number.mono _ _ _
   | exact LeO.none _
   | refine LeO.ite ?_ ?_
   | refine LeO.bind ?_ (fun _ => ?_)
theorem lanternref05_four.mono : ∀ a0 k, LeO (lanternref05_four.f k a0) (lanternref05_four.f (k + 1) a0) := by
 intro a0 k
 have ih0 := lanternref05_four.mono_l k
 unfold lanternref05_four.f
 repeat' first
   | (with_reducible exact ih0 _ _ _)
   | (with_reducible exact lanternref05_cut.mono _ _ _)
   | (with_reducible exact lanternref05_number.mono _ _ _)
   | (with_reducible exact LeO.refl _)
   | (with_reducible exact LeO.none _)
   | (with_reducible refine LeO.ite ?_ ?_)
   | (with_reducible refine LeO.bind ?_ (fun _ => ?_))
   | exact ih0 _ _ _
   | exact lanternref05_cut.mono _ _ _
   | exact lanternref05_number.mono _ _ _
   | exact LeO.none _
   | refine LeO.ite ?_ ?_
   | refine LeO.bind ?_ (fun _ => ?_)
set_option maxHeartbeats 8000000 in
set_option maxRecDepth 100000 in
theorem lanternref05_four.calls (k : Nat) (a0 : ByteArray) (r : Int) (w : World) (hLW : LW w) (h : lanternref05_four.f k a0 = some r) :
  Calls Tryz.prog 32 #[.string a0] w fun e w' => e = .returned (.int .i64 r) ∧ Below w.heap.size w w' := by
 have HLW := Aside0.mk hLW
 clear hLW
 have HB := Aside0.mk (Below.refl w.heap.size w)
 have H := h
 unfold lanternref05_four.f at H
 clear h
 replace H := Option.bind_eq_some_iff.mp H
 obtain ⟨t196, A20, H⟩ := H
 (try dsimp only at H)
 have A2 := Aside0.mk A20
 clear A20
 by_cases c3 : (t196.length : Int) = 4
 ·rw [if_pos c3] at H
  have c3b0 := beq_iff_eq.mpr c3
  have c3b1 := bne_eq_false_iff_eq.mpr c3
  clear c3
  have H' := Aside0.mk H
  clear H
  go_enter Tryz.func32, Tryz.ntmps32
  go_wp2_with (first | ((with_reducible refine gate_callee (f := 35) rfl ?_); refine goesL_ (some 8) rfl rfl Tryz.func35 (by kernel_rfl) rfl #[.string a0, .int .u8 46] rfl lq_ ?_; (with_reducible refine (lanternref05_cut.calls k a0 46 t196 _ ?side1 A2.out).mono ?_); (case side1 => exact lw_); rintro e w4 ⟨v197, rfl, ho0, hb⟩; refine ⟨_, rfl, ?_⟩; have HO198 := Aside0.mk (Kd.R_lower ho0 (below_size bq_)); replace HB := Aside0.mk (below_step bq_ hb); (try clear hb); (try clear hb2); (try clear hk); (try clear hi); (try clear ho0); obtain ⟨Ao5, co5, eo5⟩ := Kd.R_slice HO198.out; subst eo5))
  go_loopg [4, 5] k (fun kq v4 v5 w' => ∃ (x4_1 : Int) (x5_1 : Int), v4 = .int .i64 x4_1 ∧ v5 = .int .i64 x5_1 ∧ Aside0 (lanternref05_four.l0 kq t196 x4_1 x5_1 = some r) ∧ Aside0 (kq ≤ k) ∧ Aside0 (Kd.R Kd.string 9 w' w.heap.size (fun _ => True) (.slice Ao5 t196.length co5) t196) ∧ Aside0 (Below w.heap.size w w'))
  case atStart => exact ⟨(0), (0), sq_, sq_, H', ⟨Nat.le_refl _⟩, ⟨by (with_reducible repeat (first | apply Kd.R_alloc | apply Kd.R_drewN | apply Kd.R_drew)); exact HO198.out⟩, ⟨bq_⟩⟩
  case round =>
   clear H'
   try clear p2
   try clear c3
   try clear c3b0
   try clear c3b1
   obtain ⟨x4_1, x5_1, rfl, rfl, HA, HK1, HO_3, HB⟩ := hrel
   cases gk with
   | zero => exact absurd HA.out (by simp [lanternref05_four.l0])
   | succ k1 =>
    have H := HA.out
    clear HA
    simp only [lanternref05_four.l0] at H
    by_cases c6 : x5_1 < 4
    ·rw [if_pos c6] at H
     have c6b0 := decide_eq_true c6
     clear c6
     by_cases c7 : 0 ≤ x5_1
     ·rw [if_pos c7] at H
      have c7b0 := decide_eq_true c7
      clear c7
      by_cases c8 : x5_1 < (t196.length : Int)
      ·rw [if_pos c8] at H
       have c8b0 := decide_eq_true c8
       clear c8
       replace H := Option.bind_eq_some_iff.mp H
       obtain ⟨t200, A90, H⟩ := H
       (try dsimp only at H)
       have A9 := Aside0.mk A90
       clear A90
       by_cases c10 : t200 < 0
       ·rw [if_pos c10] at H
        have c10b0 := decide_eq_true c10
        clear c10
        obtain rfl := Option.some.inj H
        have p199 : 0 ≤ (x5_1 : Int) := of_decide_eq_true as_
        have q199 : x5_1 < (t196.length : Int) := of_decide_eq_true as_
        obtain ⟨ad199, e199, hx199_0⟩ := Kd.at_string (Kd.R_reads' HO_3.out).2.2 x5_1 p199 q199
        cases e199
        replace p199 := eq_true p199
        replace q199 := eq_true q199
        go_wp2_with (first | ((with_reducible refine gate_callee (f := 55) rfl ?_); refine goesL_ (some 20) rfl rfl Tryz.func55 (by kernel_rfl) rfl #[.string (rdOf ByteArray.empty t196 x5_1), .int .i64 10] rfl lq_ ?_; (with_reducible refine (lanternref05_number.calls k1 (rdOf ByteArray.empty t196 x5_1) 10 t200 _ ?side1 A9.out).mono ?_); (case side1 => exact lw_); rintro e w' ⟨rfl, ⟨nd, rfl⟩⟩; refine ⟨_, rfl, ?_⟩))
        go_ret
        exact ⟨rq_, bq_⟩
       ·rw [if_neg c10] at H
        have c10b0 := decide_eq_false c10
        clear c10
        by_cases c11 : t200 > 255
        ·rw [if_pos c11] at H
         exact absurd H (by simp)
        ·rw [if_neg c11] at H
         have c11b0 := decide_eq_false c11
         clear c11
         by_cases c12 : ((rdOf ByteArray.empty t196 x5_1).size : Int) > 1
         ·rw [if_pos c12] at H
          have c12b0 := decide_eq_true c12
          have c12b1 : decide (1 < (rdOf ByteArray.empty t196 x5_1).size) = true := decide_eq_true (by omega)
          clear c12
          by_cases c13 : 0 < ((rdOf ByteArray.empty t196 x5_1).size : Int)
          ·rw [if_pos c13] at H
           have c13b0 := decide_eq_true c13
           have c13b1 : decide (0 < (rdOf ByteArray.empty t196 x5_1).size) = true := decide_eq_true (by omega)
           clear c13
           by_cases c15 : (bt (rdOf ByteArray.empty t196 x5_1) 0) = 48
           ·rw [if_pos c15] at H
            exact absurd H (by simp)
           ·rw [if_neg c15] at H
            have c15b0 := beq_eq_false_iff_ne.mpr c15
            have c15b1 := bne_iff_ne.mpr c15
            have H' := Aside0.mk H
            clear H
            have p199 : 0 ≤ (x5_1 : Int) := of_decide_eq_true as_
            have q199 : x5_1 < (t196.length : Int) := of_decide_eq_true as_
            obtain ⟨ad199, e199, hx199_0⟩ := Kd.at_string (Kd.R_reads' HO_3.out).2.2 x5_1 p199 q199
            cases e199
            replace p199 := eq_true p199
            replace q199 := eq_true q199
            go_wp2_with (first | ((with_reducible refine gate_callee (f := 55) rfl ?_); refine goesL_ (some 20) rfl rfl Tryz.func55 (by kernel_rfl) rfl #[.string (rdOf ByteArray.empty t196 x5_1), .int .i64 10] rfl lq_ ?_; (with_reducible refine (lanternref05_number.calls k1 (rdOf ByteArray.empty t196 x5_1) 10 t200 _ ?side1 A9.out).mono ?_); (case side1 => exact lw_); rintro e w' ⟨rfl, ⟨nd, rfl⟩⟩; refine ⟨_, rfl, ?_⟩; have p201 : 0 ≤ (x5_1 : Int) := of_decide_eq_true as_; have q201 : x5_1 < (t196.length : Int) := of_decide_eq_true as_; obtain ⟨ad201, e201, hx201_0⟩ := Kd.at_string (Kd.R_reads' HO_3.out).2.2 x5_1 p201 q201; obtain rfl : ad199 = ad201 := (by injection e201); replace p201 := eq_true p201; replace q201 := eq_true q201; have p202 : 0 ≤ (x5_1 : Int) := of_decide_eq_true as_; have q202 : x5_1 < (t196.length : Int) := of_decide_eq_true as_; obtain ⟨ad202, e202, hx202_0⟩ := Kd.at_string (Kd.R_reads' HO_3.out).2.2 x5_1 p202 q202; obtain rfl : ad199 = ad202 := (by injection e202); replace p202 := eq_true p202; replace q202 := eq_true q202; have p14 : 0 ≤ (0 : Int) := (by omega); have q14 : 0 < (rdOf ByteArray.empty t196 x5_1).size := (by have : (0 : Int) < ((rdOf ByteArray.empty t196 x5_1).size : Int) := of_decide_eq_true as_; omega); have hx14 : ∀ h : 0 < (rdOf ByteArray.empty t196 x5_1).size, (((rdOf ByteArray.empty t196 x5_1)[0]'h).toNat : Int) = bt (rdOf ByteArray.empty t196 x5_1) 0 := bt_at (rdOf ByteArray.empty t196 x5_1) 0; clear p14; have qi14 : (0 < ((rdOf ByteArray.empty t196 x5_1).size : Int)) = True := eq_true (of_decide_eq_true as_); replace q14 := eq_true q14))
            go_roundg k1
            case measure => have := HK1.out; omega
            case rel => exact ⟨(wrap64 ((wrap64 (x4_1 * 256)) + t200)), (wrap64 (x5_1 + 1)), sq_, sq_, H', ⟨by have := HK1.out; omega⟩, ⟨by (with_reducible repeat (first | apply Kd.R_alloc | apply Kd.R_drewN | apply Kd.R_drew)); exact HO_3.out⟩, ⟨bq_⟩⟩
          ·rw [if_neg c13] at H
           exact absurd H (by simp)
         ·rw [if_neg c12] at H
          have c12b0 := decide_eq_false c12
          have c12b1 : decide (1 < (rdOf ByteArray.empty t196 x5_1).size) = false := decide_eq_false (by omega)
          clear c12
          have H' := Aside0.mk H
          clear H
          have p199 : 0 ≤ (x5_1 : Int) := of_decide_eq_true as_
          have q199 : x5_1 < (t196.length : Int) := of_decide_eq_true as_
          obtain ⟨ad199, e199, hx199_0⟩ := Kd.at_string (Kd.R_reads' HO_3.out).2.2 x5_1 p199 q199
          cases e199
          replace p199 := eq_true p199
          replace q199 := eq_true q199
          go_wp2_with (first | ((with_reducible refine gate_callee (f := 55) rfl ?_); refine goesL_ (some 20) rfl rfl Tryz.func55 (by kernel_rfl) rfl #[.string (rdOf ByteArray.empty t196 x5_1), .int .i64 10] rfl lq_ ?_; (with_reducible refine (lanternref05_number.calls k1 (rdOf ByteArray.empty t196 x5_1) 10 t200 _ ?side1 A9.out).mono ?_); (case side1 => exact lw_); rintro e w' ⟨rfl, ⟨nd, rfl⟩⟩; refine ⟨_, rfl, ?_⟩; have p201 : 0 ≤ (x5_1 : Int) := of_decide_eq_true as_; have q201 : x5_1 < (t196.length : Int) := of_decide_eq_true as_; obtain ⟨ad201, e201, hx201_0⟩ := Kd.at_string (Kd.R_reads' HO_3.out).2.2 x5_1 p201 q201; obtain rfl : ad199 = ad201 := (by injection e201); replace p201 := eq_true p201; replace q201 := eq_true q201))
          go_roundg k1
          case measure => have := HK1.out; omega
          case rel => exact ⟨(wrap64 ((wrap64 (x4_1 * 256)) + t200)), (wrap64 (x5_1 + 1)), sq_, sq_, H', ⟨by have := HK1.out; omega⟩, ⟨by (with_reducible repeat (first | apply Kd.R_alloc | apply Kd.R_drewN | apply Kd.R_drew)); exact HO_3.out⟩, ⟨bq_⟩⟩
      ·rw [if_neg c8] at H
       exact absurd H (by simp)
     ·rw [if_neg c7] at H
      exact absurd H (by simp)
    ·rw [if_neg c6] at H
     have c6b0 := decide_eq_false c6
     clear c6
     obtain rfl := Option.some.inj H
     go_wp2
     go_ret
     exact ⟨rq_, bq_⟩
 ·rw [if_neg c3] at H
  have c3b0 := beq_eq_false_iff_ne.mpr c3
  have c3b1 := bne_iff_ne.mpr c3
  obtain rfl := Option.some.inj H
  go_enter Tryz.func32, Tryz.ntmps32
  go_wp2_with (first | ((with_reducible refine gate_callee (f := 35) rfl ?_); refine goesL_ (some 8) rfl rfl Tryz.func35 (by kernel_rfl) rfl #[.string a0, .int .u8 46] rfl lq_ ?_; (with_reducible refine (lanternref05_cut.calls k a0 46 t196 _ ?side1 A2.out).mono ?_); (case side1 => exact lw_); rintro e w16 ⟨v197, rfl, ho0, hb⟩; refine ⟨_, rfl, ?_⟩; have HO198 := Aside0.mk (Kd.R_lower ho0 (below_size bq_)); replace HB := Aside0.mk (below_step bq_ hb); (try clear hb); (try clear hb2); (try clear hk); (try clear hi); (try clear ho0); obtain ⟨Ao17, co17, eo17⟩ := Kd.R_slice HO198.out; subst eo17))
  go_ret
  exact ⟨rq_, bq_⟩

def lanternref05_V4.l0 : Nat → Int → Int → Bool → Int → Int → Int → Int → Int → Int → Int → Int → Int → Int → Int → Int → Int → Int → Int → Int → Option (Bool × Int × Int × Int × Int × Int × Int × Int × Int × Int × Int × Int × Int × Int × Int × Int × Int)
 | 0, _, _, _, _, _, _, _, _, _, _, _, _, _, _, _, _, _, _, _ => none
 | k + 1, x0, x4, V0, V1, V2, V3, V4, V5, V6, V7, V8, V9, V10, V11, V12, V13, V14, V15, V16 => if x4 ≥ 12 then (if 0 ≤ x4 then (if x4 < 16 then (lanternref05_V4.l0 k (IntKind.u64.wrap (Int.tdiv x0 256)) (wrap64 (x4 - 1)) V0 (upd x4 0 ((Int.tmod x0 256) % 256) V1) (upd x4 1 ((Int.tmod x0 256) % 256) V2) (upd x4 2 ((Int.tmod x0 256) % 256) V3) (upd x4 3 ((Int.tmod x0 256) % 256) V4) (upd x4 4 ((Int.tmod x0 256) % 256) V5) (upd x4 5 ((Int.tmod x0 256) % 256) V6) (upd x4 6 ((Int.tmod x0 256) % 256) V7) (upd x4 7 ((Int.tmod x0 256) % 256) V8) (upd x4 8 ((Int.tmod x0 256) % 256) V9) (upd x4 9 ((Int.tmod x0 256) % 256) V10) (upd x4 10 ((Int.tmod x0 256) % 256) V11) (upd x4 11 ((Int.tmod x0 256) % 256) V12) (upd x4 12 ((Int.tmod x0 256) % 256) V13) (upd x4 13 ((Int.tmod x0 256) % 256) V14) (upd x4 14 ((Int.tmod x0 256) % 256) V15) (upd x4 15 ((Int.tmod x0 256) % 256) V16)) else (none)) else (none)) else (some (V0, V1, V2, V3, V4, V5, V6, V7, V8, V9, V10, V11, V12, V13, V14, V15, V16))
def lanternref05_V4.f (k : Nat) (a0 : Int) : Option (Bool × Int × Int × Int × Int × Int × Int × Int × Int × Int × Int × Int × Int × Int × Int × Int × Int) := lanternref05_V4.l0 k a0 15 false 0 0 0 0 0 0 0 0 0 0 0 0 0 0 0 0
theorem lanternref05_V4.mono_l : ∀ k, (∀ y0 y1 y2 y3 y4 y5 y6 y7 y8 y9 y10 y11 y12 y13 y14 y15 y16 y17 y18, LeO (lanternref05_V4.l0 k y0 y1 y2 y3 y4 y5 y6 y7 y8 y9 y10 y11 y12 y13 y14 y15 y16 y17 y18) (lanternref05_V4.l0 (k + 1) y0 y1 y2 y3 y4 y5 y6 y7 y8 y9 y10 y11 y12 y13 y14 y15 y16 y17 y18))
 | 0 => fun _ _ _ _ _ _ _ _ _ _ _ _ _ _ _ _ _ _ _ r h => by simp [lanternref05_V4.l0] at h
 | k + 1 => by
  have ih0 := lanternref05_V4.mono_l k
  ·intro y0 y1 y2 y3 y4 y5 y6 y7 y8 y9 y10 y11 y12 y13 y14 y15 y16 y17 y18
   unfold lanternref05_V4.l0
   repeat' first
   | (with_reducible exact ih0 _ _ _ _ _ _ _ _ _ _ _ _ _ _ _ _ _ _ _)
   | (with_reducible exact LeO.refl _)
   | (with_reducible exact LeO.none _)
   | (with_reducible refine LeO.ite ?_ ?_)
   | (with_reducible refine LeO.bind ?_ (fun _ => ?_))
   | exact ih0 _ _ _ _ _ _ _ _ _ _ _ _ _ _ _ _ _ _ _
   | exact LeO.none _
   | refine LeO.ite ?_ ?_
   | refine LeO.bind ?_ (fun _ => ?_)
theorem lanternref05_V4.mono : ∀ a0 k, LeO (lanternref05_V4.f k a0) (lanternref05_V4.f (k + 1) a0) := by
 intro a0 k
 have ih0 := lanternref05_V4.mono_l k
 unfold lanternref05_V4.f
 repeat' first
   | (with_reducible exact ih0 _ _ _ _ _ _ _ _ _ _ _ _ _ _ _ _ _ _ _)
   | (with_reducible exact LeO.refl _)
   | (with_reducible exact LeO.none _)
   | (with_reducible refine LeO.ite ?_ ?_)
   | (with_reducible refine LeO.bind ?_ (fun _ => ?_))
   | exact ih0 _ _ _ _ _ _ _ _ _ _ _ _ _ _ _ _ _ _ _
   | exact LeO.none _
   | refine LeO.ite ?_ ?_
   | refine LeO.bind ?_ (fun _ => ?_)
set_option maxHeartbeats 8000000 in
set_option maxRecDepth 100000 in
theorem lanternref05_V4.calls (k : Nat) (a0 : Int) (r1 : Bool) (r2 : Int) (r3 : Int) (r4 : Int) (r5 : Int) (r6 : Int) (r7 : Int) (r8 : Int) (r9 : Int) (r10 : Int) (r11 : Int) (r12 : Int) (r13 : Int) (r14 : Int) (r15 : Int) (r16 : Int) (r17 : Int) (w : World) (hLW : LW w) (h : lanternref05_V4.f k a0 = some (r1, r2, r3, r4, r5, r6, r7, r8, r9, r10, r11, r12, r13, r14, r15, r16, r17)) :
  Calls Tryz.prog 33 #[.int .u64 a0] w fun e w' => e = .returned (.agg (ag_ r1 r2 r3 r4 r5 r6 r7 r8 r9 r10 r11 r12 r13 r14 r15 r16 r17)) ∧ Below w.heap.size w w' := by
 have hu24 := Tryz.underlying24
 have HLW := Aside0.mk hLW
 clear hLW
 have HB := Aside0.mk (Below.refl w.heap.size w)
 have H := h
 unfold lanternref05_V4.f at H
 clear h
 have H' := Aside0.mk H
 clear H
 go_enter Tryz.func33, Tryz.ntmps33
 go_wp2_with (first | ((with_reducible refine gate_dst (N := 2) rfl ?_); refine bx_ 2 az_ 24 ?_; intro gb203 hg w2 hbox hb; have BK203 := Aside0.mk (hbox); have GW203 := Aside0.mk (ge_ (w := w) hg); have GE203 := Aside0.mk (ge_ (w := w) hg); replace HB := Aside0.mk (below_step bq_ hb); clear hb hbox hg) | ((with_reducible refine gate_dst (N := 3) rfl ?_); refine bx_ 3 az_ 24 ?_; intro gb204 hg w3 hbox hb; have n0_ := Aside0.mk (bb_ BK203 hb); have n1_ := Aside0.mk (below_step bg_ hb); have n2_ := Aside0.mk (hbox); have n3_ := Aside0.mk (gg_ (w := w) hg); have n4_ := Aside0.mk (gg_ (w := w) hg); have n5_ := Aside0.mk (nl_ BK203 hg); have n6_ := Aside0.mk (ng_ BK203 hg); clear BK203; clear HB; have BK203 := n0_; have HB := n1_; have BK204 := n2_; have GW204 := n3_; have GE204 := n4_; have NB203_204 := n5_; have NB204_203 := n6_; clear n0_ n1_ n2_ n3_ n4_ n5_ n6_; clear hb hbox hg; have hnb4 := NB204_203.out; have hnc4 := NB203_204.out; obtain ⟨hcz5_0, hcz5_1, hcz5_2, hcz5_3, hcz5_4, hcz5_5, hcz5_6, hcz5_7, hcz5_8, hcz5_9, hcz5_10, hcz5_11, hcz5_12, hcz5_13, hcz5_14, hcz5_15, hcz5_16⟩ := c17_ BK204; obtain ⟨hfz5_0, hfz5_1, hfz5_2, hfz5_3, hfz5_4, hfz5_5, hfz5_6, hfz5_7, hfz5_8, hfz5_9, hfz5_10, hfz5_11, hfz5_12, hfz5_13, hfz5_14, hfz5_15, hfz5_16⟩ := f17_ BK204) | ((with_reducible refine gate_store (t := 24) (p := 3) rfl ?_); refine store_all ?hg 24 3 _ rfl rfl gb204 ay_ ay_ BK204.out rfl rfl rfl (by kernel_rfl) rfl ?_; (case hg => rfl); intro w6 hw; replace BK203 := Aside0.mk (sf_ BK203 NB203_204 hw); replace BK204 := Aside0.mk (show w6.heap[gb204]? = some (.cells az_ 24 (0, 0)) from ss_ BK204 hw); replace HB := Aside0.mk (sb_ hw); clear hw))
 go_loopg [0, 4] k (fun kq v0 v4 w' => ∃ (x0_1 : Int) (x4_1 : Int) (V1_1 : Int) (V2_1 : Int) (V3_1 : Int) (V4_1 : Int) (V5_1 : Int) (V6_1 : Int) (V7_1 : Int) (V8_1 : Int) (V9_1 : Int) (V10_1 : Int) (V11_1 : Int) (V12_1 : Int) (V13_1 : Int) (V14_1 : Int) (V15_1 : Int) (V16_1 : Int), v0 = .int .u64 x0_1 ∧ v4 = .int .i64 x4_1 ∧ Aside0 (lanternref05_V4.l0 kq x0_1 x4_1 false V1_1 V2_1 V3_1 V4_1 V5_1 V6_1 V7_1 V8_1 V9_1 V10_1 V11_1 V12_1 V13_1 V14_1 V15_1 V16_1 = some (r1, r2, r3, r4, r5, r6, r7, r8, r9, r10, r11, r12, r13, r14, r15, r16, r17)) ∧ Aside0 (kq ≤ k) ∧ Aside0 (w'.heap[gb203]? = some (.cells az_ 24 (0, 0))) ∧ Aside0 (w'.heap[gb204]? = some (.cells (ag_ false V1_1 V2_1 V3_1 V4_1 V5_1 V6_1 V7_1 V8_1 V9_1 V10_1 V11_1 V12_1 V13_1 V14_1 V15_1 V16_1) 24 (0, 0))) ∧ Aside0 (Below w.heap.size w w'))
 case atStart => exact ⟨(a0), (15), (0), (0), (0), (0), (0), (0), (0), (0), (0), (0), (0), (0), (0), (0), (0), (0), sq_, sq_, H', ⟨Nat.le_refl _⟩, ⟨bk_⟩, ⟨bk_⟩, ⟨bg_⟩⟩
 case round =>
  clear H'
  try clear p2
  try clear c3
  try clear c4
  try clear hcz5_0
  try clear hcz5_1
  try clear hcz5_10
  try clear hcz5_11
  try clear hcz5_12
  try clear hcz5_13
  try clear hcz5_14
  try clear hcz5_15
  try clear hcz5_16
  try clear hcz5_2
  try clear hcz5_3
  try clear hcz5_4
  try clear hcz5_5
  try clear hcz5_6
  try clear hcz5_7
  try clear hcz5_8
  try clear hcz5_9
  try clear hfz5_0
  try clear hfz5_1
  try clear hfz5_10
  try clear hfz5_11
  try clear hfz5_12
  try clear hfz5_13
  try clear hfz5_14
  try clear hfz5_15
  try clear hfz5_16
  try clear hfz5_2
  try clear hfz5_3
  try clear hfz5_4
  try clear hfz5_5
  try clear hfz5_6
  try clear hfz5_7
  try clear hfz5_8
  try clear hfz5_9
  obtain ⟨x0_1, x4_1, V1_1, V2_1, V3_1, V4_1, V5_1, V6_1, V7_1, V8_1, V9_1, V10_1, V11_1, V12_1, V13_1, V14_1, V15_1, V16_1, rfl, rfl, HA, HK1, BK203, BK204, HB⟩ := hrel
  cases gk with
  | zero => exact absurd HA.out (by simp [lanternref05_V4.l0])
  | succ k1 =>
   have H := HA.out
   clear HA
   simp only [lanternref05_V4.l0] at H
   by_cases c7 : x4_1 ≥ 12
   ·rw [if_pos c7] at H
    have c7b0 := decide_eq_true c7
    clear c7
    by_cases c8 : 0 ≤ x4_1
    ·rw [if_pos c8] at H
     have c8b0 := decide_eq_true c8
     clear c8
     by_cases c9 : x4_1 < 16
     ·rw [if_pos c9] at H
      have c9b0 := decide_eq_true c9
      clear c9
      have H' := Aside0.mk H
      clear H
      have par10 : (0 ≤ x4_1) = True := eq_true (of_decide_eq_true as_)
      have qar10 : (x4_1 < 16) = True := eq_true (of_decide_eq_true as_)
      have hnb11 := NB204_203.out
      have hnc11 := NB203_204.out
      obtain ⟨hcz12_0, hcz12_1, hcz12_2, hcz12_3, hcz12_4, hcz12_5, hcz12_6, hcz12_7, hcz12_8, hcz12_9, hcz12_10, hcz12_11, hcz12_12, hcz12_13, hcz12_14, hcz12_15, hcz12_16⟩ := c17_ BK204
      obtain ⟨hfz12_0, hfz12_1, hfz12_2, hfz12_3, hfz12_4, hfz12_5, hfz12_6, hfz12_7, hfz12_8, hfz12_9, hfz12_10, hfz12_11, hfz12_12, hfz12_13, hfz12_14, hfz12_15, hfz12_16⟩ := f17_ BK204
      have hxar10 : wr.cell? ⟨gb204, 1 + (x4_1).toNat, none⟩ = some (.int .u8 (rd [V1_1, V2_1, V3_1, V4_1, V5_1, V6_1, V7_1, V8_1, V9_1, V10_1, V11_1, V12_1, V13_1, V14_1, V15_1, V16_1] x4_1)) := (blk_idx BK204.out .u8 [.bool false] [V1_1, V2_1, V3_1, V4_1, V5_1, V6_1, V7_1, V8_1, V9_1, V10_1, V11_1, V12_1, V13_1, V14_1, V15_1, V16_1] [] rfl x4_1 (of_decide_eq_true as_) (of_decide_eq_true as_) rfl)
      have hfar10 := bf_ BK204 (1 + (x4_1).toNat)
      go_wp2_with (first | ((with_reducible refine gate_store (t := 5) (p := 15) rfl ?_); refine store_event (t := 5) (p := 15) (v := ?vo_w13) (w1 := (wr.setCell ⟨gb204, 1 + (x4_1).toNat, none⟩ (.int .u8 ((Int.tmod x0_1 256) % 256)))) ?hg ?ho ?hn ?hr ?_; (case ho => rfl); (case hg => rfl); (case hn => rfl); (case hr => first | (go_simp; done) | (go_simp; rfl)); intro w13 hw; have n0_ : Aside0 (w13.heap[gb203]? = some (.cells az_ 24 (0, 0))) := ⟨(by rw [hw]; exact (by (with_reducible repeat (first | refine blk_drewN ?_ _ | refine blk_drew ?_ | refine blk_alloc ?_ _)); refine blk_far ?_ NB203_204.out _; (with_reducible repeat (first | refine blk_drewN ?_ _ | refine blk_drew ?_ | refine blk_alloc ?_ _)); exact BK203.out))⟩; have n1_ : Aside0 (w13.heap[gb204]? = some (.cells (ag_ false (upd x4_1 0 ((Int.tmod x0_1 256) % 256) V1_1) (upd x4_1 1 ((Int.tmod x0_1 256) % 256) V2_1) (upd x4_1 2 ((Int.tmod x0_1 256) % 256) V3_1) (upd x4_1 3 ((Int.tmod x0_1 256) % 256) V4_1) (upd x4_1 4 ((Int.tmod x0_1 256) % 256) V5_1) (upd x4_1 5 ((Int.tmod x0_1 256) % 256) V6_1) (upd x4_1 6 ((Int.tmod x0_1 256) % 256) V7_1) (upd x4_1 7 ((Int.tmod x0_1 256) % 256) V8_1) (upd x4_1 8 ((Int.tmod x0_1 256) % 256) V9_1) (upd x4_1 9 ((Int.tmod x0_1 256) % 256) V10_1) (upd x4_1 10 ((Int.tmod x0_1 256) % 256) V11_1) (upd x4_1 11 ((Int.tmod x0_1 256) % 256) V12_1) (upd x4_1 12 ((Int.tmod x0_1 256) % 256) V13_1) (upd x4_1 13 ((Int.tmod x0_1 256) % 256) V14_1) (upd x4_1 14 ((Int.tmod x0_1 256) % 256) V15_1) (upd x4_1 15 ((Int.tmod x0_1 256) % 256) V16_1)) 24 (0, 0))) := ⟨(by rw [hw]; exact (by (with_reducible repeat (first | refine blk_drewN ?_ _ | refine blk_drew ?_ | refine blk_alloc ?_ _)); refine blk_put (cs := (ag_ false V1_1 V2_1 V3_1 V4_1 V5_1 V6_1 V7_1 V8_1 V9_1 V10_1 V11_1 V12_1 V13_1 V14_1 V15_1 V16_1)) ?_ (1 + (x4_1).toNat) _ (upd_set .u8 [.bool false] [V1_1, V2_1, V3_1, V4_1, V5_1, V6_1, V7_1, V8_1, V9_1, V10_1, V11_1, V12_1, V13_1, V14_1, V15_1, V16_1] [] rfl x4_1 (of_decide_eq_true as_) (of_decide_eq_true as_) rfl _ rfl); (with_reducible repeat (first | refine blk_drewN ?_ _ | refine blk_drew ?_ | refine blk_alloc ?_ _)); exact BK204.out))⟩; have n2_ : Aside0 (Below w.heap.size w w13) := ⟨(by rw [hw]; exact bg_)⟩; clear hw; clear BK203; clear BK204; clear HB; have BK203 := n0_; have BK204 := n1_; have HB := n2_; clear n0_ n1_ n2_))
      go_roundg k1
      case measure => have := HK1.out; omega
      case rel => exact ⟨(IntKind.u64.wrap (Int.tdiv x0_1 256)), (wrap64 (x4_1 - 1)), (upd x4_1 0 ((Int.tmod x0_1 256) % 256) V1_1), (upd x4_1 1 ((Int.tmod x0_1 256) % 256) V2_1), (upd x4_1 2 ((Int.tmod x0_1 256) % 256) V3_1), (upd x4_1 3 ((Int.tmod x0_1 256) % 256) V4_1), (upd x4_1 4 ((Int.tmod x0_1 256) % 256) V5_1), (upd x4_1 5 ((Int.tmod x0_1 256) % 256) V6_1), (upd x4_1 6 ((Int.tmod x0_1 256) % 256) V7_1), (upd x4_1 7 ((Int.tmod x0_1 256) % 256) V8_1), (upd x4_1 8 ((Int.tmod x0_1 256) % 256) V9_1), (upd x4_1 9 ((Int.tmod x0_1 256) % 256) V10_1), (upd x4_1 10 ((Int.tmod x0_1 256) % 256) V11_1), (upd x4_1 11 ((Int.tmod x0_1 256) % 256) V12_1), (upd x4_1 12 ((Int.tmod x0_1 256) % 256) V13_1), (upd x4_1 13 ((Int.tmod x0_1 256) % 256) V14_1), (upd x4_1 14 ((Int.tmod x0_1 256) % 256) V15_1), (upd x4_1 15 ((Int.tmod x0_1 256) % 256) V16_1), sq_, sq_, H', ⟨by have := HK1.out; omega⟩, ⟨bk_⟩, ⟨bk_⟩, ⟨bg_⟩⟩
     ·rw [if_neg c9] at H
      exact absurd H (by simp)
    ·rw [if_neg c8] at H
     exact absurd H (by simp)
   ·rw [if_neg c7] at H
    have c7b0 := decide_eq_false c7
    clear c7
    simp only [Option.some.injEq, Prod.mk.injEq] at H
    obtain ⟨rfl, rfl, rfl, rfl, rfl, rfl, rfl, rfl, rfl, rfl, rfl, rfl, rfl, rfl, rfl, rfl, rfl⟩ := H
    have hnb14 := NB203_204.out
    have hnc14 := NB204_203.out
    obtain ⟨hcz15_0, hcz15_1, hcz15_2, hcz15_3, hcz15_4, hcz15_5, hcz15_6, hcz15_7, hcz15_8, hcz15_9, hcz15_10, hcz15_11, hcz15_12, hcz15_13, hcz15_14, hcz15_15, hcz15_16⟩ := c17_ BK203
    obtain ⟨hfz15_0, hfz15_1, hfz15_2, hfz15_3, hfz15_4, hfz15_5, hfz15_6, hfz15_7, hfz15_8, hfz15_9, hfz15_10, hfz15_11, hfz15_12, hfz15_13, hfz15_14, hfz15_15, hfz15_16⟩ := f17_ BK203
    go_wp2_with (first | ((with_reducible refine gate_dst (N := 18) rfl ?_); (try (refine gate_guard (by rfl) ?_; dsimp only)); refine load_box ?hg 24 (.tmp 3) rfl BK204.out [] (al_ false V1_1 V2_1 V3_1 V4_1 V5_1 V6_1 V7_1 V8_1 V9_1 V10_1 V11_1 V12_1 V13_1 V14_1 V15_1 V16_1) [] rfl 0 rfl rfl Tryz.underlying24 rfl (by kernel_rfl) ?_; (case hg => rfl)) | ((with_reducible refine gate_store (t := 24) (p := 2) rfl ?_); refine store_all ?hg 24 2 _ rfl rfl gb203 ay_ (al_ false V1_1 V2_1 V3_1 V4_1 V5_1 V6_1 V7_1 V8_1 V9_1 V10_1 V11_1 V12_1 V13_1 V14_1 V15_1 V16_1) BK203.out rfl rfl rfl (by kernel_rfl) rfl ?_; (case hg => rfl); intro w16 hw; replace BK203 := Aside0.mk (show w16.heap[gb203]? = some (.cells (ag_ false V1_1 V2_1 V3_1 V4_1 V5_1 V6_1 V7_1 V8_1 V9_1 V10_1 V11_1 V12_1 V13_1 V14_1 V15_1 V16_1) 24 (0, 0)) from ss_ BK203 hw); replace BK204 := Aside0.mk (sf_ BK204 NB204_203 hw); replace HB := Aside0.mk (sb_ hw); clear hw))
    refine bodyPost_ret (results_cell_row rfl _ _ gb203 24 (ag_ false V1_1 V2_1 V3_1 V4_1 V5_1 V6_1 V7_1 V8_1 V9_1 V10_1 V11_1 V12_1 V13_1 V14_1 V15_1 V16_1) (0, 0) _ rfl bk_ Tryz.underlying24 rfl (by kernel_rfl)) rfl ?_
    exact ⟨rq_, bg_⟩

end Go.Proofs.YtdopafhppaalfaaGreatDoor.P
