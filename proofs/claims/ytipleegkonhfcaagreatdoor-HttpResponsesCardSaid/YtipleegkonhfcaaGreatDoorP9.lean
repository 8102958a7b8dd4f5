import Derived.Test.YtipleegkonhfcaaGreatDoorP8
namespace Go.Proofs.YtipleegkonhfcaaGreatDoor.P
open Go.Proofs.YtipleegkonhfcaaGreatDoorZ
open Go.Proofs.YtipleegkonhfcaaGreatDoor.E Go.Proofs.YtipleegkonhfcaaGreatDoorV
open Go.Proofs.YtipleegkonhfcaaGreatDoor.U
open Go.Proofs.YtipleegkonhfcaaGreatDoor.KF
open Go.RowKit Go.Proofs.YtipleegkonhfcaaGreatDoorW.PrintWords Go.Proofs.YtipleegkonhfcaaGreatDoorW.PrintLast Go.Proofs.YtipleegkonhfcaaGreatDoorW.PrintMore
attribute [local go_sem] max2_int min2_int max_two min_two max_three min_three max_four min_four   -- for this text's walks alone
set_option linter.unusedVariables false
set_option linter.unusedSimpArgs false

mutual
def lanternref09_Parse.l0 : Nat → List Int → List (S67) → Int → Int → Option ((List (S67)) × Int × Int)
 | 0, _, _, _, _ => none
 | k + 1, x0, x5, x6, x7 => if x7 < (x0.length : Int) then (if 0 ≤ x7 then (if (rd x0 x7) = 10 then (if (wrap64 (x7 + 1)) > 8192 then (some (([] : List (S67)), 0, 3)) else (if x7 > x6 then (if 0 ≤ (wrap64 (x7 - 1)) then (if (wrap64 (x7 - 1)) < (x0.length : Int) then (lanternref09_Parse.j1 k x0 x5 x6 x7 x7 ((rd x0 (wrap64 (x7 - 1))) == 13)) else (none)) else (none)) else (lanternref09_Parse.j1 k x0 x5 x6 x7 x7 false))) else (lanternref09_Parse.l0 k x0 x5 x6 (wrap64 (x7 + 1)))) else (none)) else (if (x0.length : Int) > 8192 then (some (([] : List (S67)), 0, 3)) else (some (([] : List (S67)), 0, 10)))
def lanternref09_Parse.j1 : Nat → List Int → List (S67) → Int → Int → Int → Bool → Option ((List (S67)) × Int × Int)
 | 0, _, _, _, _, _, _ => none
 | k + 1, x0, x5, x6, x7, x8, x37 => if x37 = true then (lanternref09_Parse.j2 k x0 x5 x6 x7 (wrap64 (x8 - 1))) else (lanternref09_Parse.j2 k x0 x5 x6 x7 x8)
def lanternref09_Parse.j2 : Nat → List Int → List (S67) → Int → Int → Int → Option ((List (S67)) × Int × Int)
 | 0, _, _, _, _, _ => none
 | k + 1, x0, x5, x6, x7, x8 => if x8 = x6 then (some (x5, wrap64 (x7 + 1), 0)) else (if 0 ≤ x6 then (if x6 ≤ x8 then (if x8 ≤ (x0.length : Int) then ((lanternref09_one.f k (strOfNums ((x0.take (x8 : Int).toNat).drop (x6 : Int).toNat))).bind fun bt264 => (if bt264.2.2 = true then (if (x5.length : Int) = 64 then (some (([] : List (S67)), 0, 3)) else (if x5.length < 4398046511104 then (lanternref09_Parse.l0 k x0 (x5 ++ [(⟨bt264.1, bt264.2.1⟩ : S67)]) (wrap64 (x7 + 1)) (wrap64 (x7 + 1))) else (none))) else (some (([] : List (S67)), 0, 5)))) else (none)) else (none)) else (none))
end
def lanternref09_Parse.f (k : Nat) (l0 : List Int) : Option ((List (S67)) × Int × Int) := lanternref09_Parse.l0 k l0 (([] : List (S67))) 0 0
theorem lanternref09_Parse.mono_l : ∀ k, (∀ y0 y1 y2 y3, LeO (lanternref09_Parse.l0 k y0 y1 y2 y3) (lanternref09_Parse.l0 (k + 1) y0 y1 y2 y3)) ∧ (∀ y0 y1 y2 y3 y4 y5, LeO (lanternref09_Parse.j1 k y0 y1 y2 y3 y4 y5) (lanternref09_Parse.j1 (k + 1) y0 y1 y2 y3 y4 y5)) ∧ (∀ y0 y1 y2 y3 y4, LeO (lanternref09_Parse.j2 k y0 y1 y2 y3 y4) (lanternref09_Parse.j2 (k + 1) y0 y1 y2 y3 y4))
 | 0 => ⟨fun _ _ _ _ r h => by simp [lanternref09_Parse.l0] at h, fun _ _ _ _ _ _ r h => by simp [lanternref09_Parse.j1] at h, fun _ _ _ _ _ r h => by simp [lanternref09_Parse.j2] at h⟩
 | k + 1 => by
  obtain ⟨ih0, ih1, ih2⟩ := lanternref09_Parse.mono_l k
  refine ⟨?_, ?_, ?_⟩
  ·intro y0 y1 y2 y3
   unfold lanternref09_Parse.l0
   repeat' first
   | (with_reducible exact ih0 _ _ _ _)
   | (with_reducible exact ih1 _ _ _ _ _ _)
   | (with_reducible exact ih2 _ _ _ _ _)
   | (with_reducible exact lanternref09_one.mono _ _)
   | (with_reducible exact LeO.refl _)
   | (with_reducible exact LeO.none _)
   | (with_reducible refine LeO.ite ?_ ?_)
   | (with_reducible refine LeO.bind ?_ (fun _ => ?_))
   | exact ih0 _ _ _ _
   | exact ih1 _ _ _ _ _ _
   | exact ih2 _ _ _ _ _
   | exact lanternref09_one.mono _ _
   | exact LeO.none _
   | refine LeO.ite ?_ ?_
   | refine LeO.bind ?_ (fun _ => ?_)
  ·intro y0 y1 y2 y3 y4 y5
   unfold lanternref09_Parse.j1
   repeat' first
   | (with_reducible exact ih0 _ _ _ _)
   | (with_reducible exact ih1 _ _ _ _ _ _)
   | (with_reducible exact ih2 _ _ _ _ _)
   | (with_reducible exact lanternref09_one.mono _ _)
   | (with_reducible exact LeO.refl _)
   | (with_reducible exact LeO.none _)
   | (with_reducible refine LeO.ite ?_ ?_)
   | (with_reducible refine LeO.bind ?_ (fun _ => ?_))
   | exact ih0 _ _ _ _
   | exact ih1 _ _ _ _ _ _
   | exact ih2 _ _ _ _ _
   | exact lanternref09_one.mono _ _
   | exact LeO.none _
   | refine LeO.ite ?_ ?_
   | refine LeO.bind ?_ (fun _ => ?_)
  ·intro y0 y1 y2 y3 y4
   unfold lanternref09_Parse.j2
   repeat' first
   | (with_reducible exact ih0 _ _ _ _)
   | (with_reducible exact ih1 _ _ _ _ _ _)
   | (with_reducible exact ih2 _ _ _ _ _)
   | (with_reducible exact lanternref09_one.mono _ _)
   | (with_reducible exact LeO.refl _)
   | (with_reducible exact LeO.none _)
   | (with_reducible refine LeO.ite ?_ ?_)
   | (with_reducible refine LeO.bind ?_ (fun _ => ?_))
   | exact ih0 _ _ _ _
   | exact ih1 _ _ _ _ _ _
   | exact ih2 _ _ _ _ _
   | exact lanternref09_one.mono _ _
   | exact LeO.none _
   | refine LeO.ite ?_ ?_
   | refine LeO.bind ?_ (fun _ => ?_)
theorem lanternref09_Parse.mono : ∀ a0 k, LeO (lanternref09_Parse.f k a0) (lanternref09_Parse.f (k + 1) a0) := by
 intro a0 k
 obtain ⟨ih0, ih1, ih2⟩ := lanternref09_Parse.mono_l k
 unfold lanternref09_Parse.f
 repeat' first
   | (with_reducible exact ih0 _ _ _ _)
   | (with_reducible exact ih1 _ _ _ _ _ _)
   | (with_reducible exact ih2 _ _ _ _ _)
   | (with_reducible exact lanternref09_one.mono _ _)
   | (with_reducible exact LeO.refl _)
   | (with_reducible exact LeO.none _)
   | (with_reducible refine LeO.ite ?_ ?_)
   | (with_reducible refine LeO.bind ?_ (fun _ => ?_))
   | exact ih0 _ _ _ _
   | exact ih1 _ _ _ _ _ _
   | exact ih2 _ _ _ _ _
   | exact lanternref09_one.mono _ _
   | exact LeO.none _
   | refine LeO.ite ?_ ?_
   | refine LeO.bind ?_ (fun _ => ?_)
set_option maxHeartbeats 8000000 in
set_option maxRecDepth 100000 in
theorem lanternref09_Parse.calls (k : Nat) (A0 : Option Addr) (c0 : Nat) (l0 : List Int) (r1 : List (S67)) (r2 : Int) (r3 : Int) (w : World) (hLW : LW w) (hr0 : Kd.C (Kd.int .u8) w A0 l0.length l0) (hc0 : l0.length ≤ c0) (h : lanternref09_Parse.f k l0 = some (r1, r2, r3)) :
  Calls Tryz.prog 33 #[.slice A0 l0.length c0] w fun e w' => ∃ v0_ : Value, e = .returned (.tuple #[v0_, .int .i64 r2, .int .i64 r3]) ∧ Kd.R k67 67 w' w.heap.size (fun _ => True) v0_ r1 ∧ Below w.heap.size w w' := by
 have hu67 := Tryz.underlying67
 have HLW := Aside0.mk hLW
 clear hLW
 have HR0 := Aside0.mk hr0
 have HC0 := Aside0.mk hc0
 clear hr0 hc0
 have HB := Aside0.mk (Below.refl w.heap.size w)
 have H := h
 unfold lanternref09_Parse.f at H
 clear h
 obtain ⟨y258, hy258⟩ : ∃ y_ : List (S67), y_ = (([] : List (S67))) := ⟨_, rfl⟩
 replace H : (lanternref09_Parse.l0 k l0 y258 0 0) = some (r1, r2, r3) := by first | (rw [hy258]; with_reducible exact H) | (have H2_ := (Option.bind_some _ _).symm.trans H; rw [hy258]; with_reducible exact H2_) | (have H2_ := (Option.bind_some _ _).symm.trans H; with_reducible exact H2_) | with_reducible exact H | (rw [hy258]; exact H) | exact H
 have Ny258 := Aside0.mk hy258
 clear hy258
 have H' := Aside0.mk H
 clear H
 go_enter Tryz.func33, Tryz.ntmps33
 go_wp2_with (first | ((with_reducible refine gate_dst (N := 11) rfl ?_); refine Kd.R_lit k67 _ 67 ?hg (N := 11) ?hd (xs := ([] : List (S67))) (inner := []) (ok := fun _ => True) (okp := fun _ => True) ?hr ?hp (fun _ hk => hk) trivial (Below.refl _ _) (Nat.le_refl _) (by simp) ?_; (case hd => rfl); (case hg => rfl); (case hr => first | (go_simp; done) | (go_simp; rfl)); (case hp => exact (Reps.none _ _)); intro v259 w2 ho3 hb hg_ hnew_; clear hg_ hnew_; (first | rw [← Ny258.out] at ho3 | (simp only [Int.reduceToNat] at ho3; rw [← Ny258.out] at ho3)); have HO260 := Aside0.mk (Kd.R_lower ho3 (below_size bq_)); replace HB := Aside0.mk (below_step bq_ hb); clear hb ho3))
 go_loopg [5, 6, 7] k (fun kq v5 v6 v7 w' => ∃ (x5_1 : List (S67)) (x6_1 : Int) (x7_1 : Int), v6 = .int .i64 x6_1 ∧ v7 = .int .i64 x7_1 ∧ Aside0 (lanternref09_Parse.l0 kq l0 x5_1 x6_1 x7_1 = some (r1, r2, r3)) ∧ Aside0 (kq ≤ k) ∧ Aside0 (Kd.R k67 67 w' w.heap.size (fun _ => True) v5 x5_1) ∧ Aside0 (Below w.heap.size w w'))
 case atStart => exact ⟨(y258), (0), (0), sq_, sq_, H', ⟨Nat.le_refl _⟩, ⟨by (with_reducible repeat (first | apply Kd.R_alloc | apply Kd.R_drewN | apply Kd.R_drew)); exact HO260.out⟩, ⟨bq_⟩⟩
 case round =>
  clear H'
  obtain ⟨x5_1, x6_1, x7_1, rfl, rfl, HA, HK1, HO_5, HB⟩ := hrel
  cases gk with
  | zero => exact absurd HA.out (by simp [lanternref09_Parse.l0])
  | succ k1 =>
   have H := HA.out
   clear HA
   simp only [lanternref09_Parse.l0] at H
   by_cases c4 : x7_1 < (l0.length : Int)
   ·rw [if_pos c4] at H
    have c4b0 := decide_eq_true c4
    clear c4
    by_cases c5 : 0 ≤ x7_1
    ·rw [if_pos c5] at H
     have c5b0 := decide_eq_true c5
     clear c5
     by_cases c6 : (rd l0 x7_1) = 10
     ·rw [if_pos c6] at H
      have c6b0 := beq_iff_eq.mpr c6
      have c6b1 := bne_eq_false_iff_eq.mpr c6
      clear c6
      by_cases c7 : (wrap64 (x7_1 + 1)) > 8192
      ·rw [if_pos c7] at H
       have c7b0 := decide_eq_true c7
       clear c7
       simp only [Option.some.injEq, Prod.mk.injEq] at H
       obtain ⟨rfl, rfl, rfl⟩ := H
       have p261 : 0 ≤ (x7_1 : Int) := of_decide_eq_true as_
       have q261 : x7_1 < (l0.length : Int) := of_decide_eq_true as_
       obtain ⟨ad261, e261, hx261_0⟩ := Kd.at_int HR0.out x7_1 p261 q261
       cases e261
       replace hx261_0 := (HB.out.cell (World.block_lt_of_cell? w _ hx261_0)).trans hx261_0
       replace p261 := eq_true p261
       replace q261 := eq_true q261
       go_wp2
       go_ret3
       exact ⟨_, rq_, by first | exact Kd.R_nil _ _ _ _ _ | exact Kd.N_nil _ _ _ _ _ | exact Kd.V_nil _ _ _ _ _ | exact Kd.Q_nil _ _ _ _ _ | exact Kd.S_nil _ _ _ _ _, bq_⟩
      ·rw [if_neg c7] at H
       have c7b0 := decide_eq_false c7
       clear c7
       have HC8 := Aside0.mk H
       clear H
       have p261 : 0 ≤ (x7_1 : Int) := of_decide_eq_true as_
       have q261 : x7_1 < (l0.length : Int) := of_decide_eq_true as_
       obtain ⟨ad261, e261, hx261_0⟩ := Kd.at_int HR0.out x7_1 p261 q261
       cases e261
       replace hx261_0 := (HB.out.cell (World.block_lt_of_cell? w _ hx261_0)).trans hx261_0
       replace p261 := eq_true p261
       replace q261 := eq_true q261
       go_upto_region 10 with (fail)
       go_cut [37] (fun v37 wc => ∃ (kq : Nat) (x37_7 : Bool), v37 = .bool x37_7 ∧ Aside0 (lanternref09_Parse.j1 kq l0 x5_1 x6_1 x7_1 x7_1 x37_7 = some (r1, r2, r3)) ∧ Aside0 (kq ≤ k1) ∧ Aside0 (Kd.R k67 67 wc w.heap.size (fun _ => True) u5 x5_1) ∧ Aside0 (Below w.heap.size w wc))
       case first =>
        have H := HC8.out
        clear HC8
        by_cases c9 : x7_1 > x6_1
        ·rw [if_pos c9] at H
         have c9b0 := decide_eq_true c9
         clear c9
         (first | rw [c9b0] | (simp only [i64_w, i32_w]; rw [c9b0]) | skip)
         obtain ⟨ji10, hji10⟩ : ∃ j_ : Int, (wrap64 (x7_1 - 1)) = j_ := ⟨_, rfl⟩
         replace H : (if 0 ≤ (ji10) then (if (ji10) < (l0.length : Int) then (lanternref09_Parse.j1 k1 l0 x5_1 x6_1 x7_1 x7_1 ((rd l0 (ji10)) == 13)) else (none)) else (none)) = some (r1, r2, r3) := by first | (rw [hji10] at H; exact H) | (simp only [hji10] at H ⊢; exact H)
         have hji10w : (IntKind.i64.wrap (x7_1 - 1)) = ji10 := (i64_w _).trans hji10
         by_cases c11 : 0 ≤ (ji10)
         ·rw [if_pos c11] at H
          have c11b0 := decide_eq_true c11
          clear c11
          by_cases c12 : (ji10) < (l0.length : Int)
          ·rw [if_pos c12] at H
           have c12b0 := decide_eq_true c12
           clear c12
           have H' := Aside0.mk H
           clear H
           have p262 : 0 ≤ ((ji10) : Int) := of_decide_eq_true as_
           have q262 : (ji10) < (l0.length : Int) := of_decide_eq_true as_
           obtain ⟨ad262, e262, hx262_0⟩ := Kd.at_int HR0.out (ji10) p262 q262
           obtain rfl : ad261 = ad262 := (by injection e262)
           replace hx262_0 := (HB.out.cell (World.block_lt_of_cell? w _ hx262_0)).trans hx262_0
           replace p262 := eq_true p262
           replace q262 := eq_true q262
           go_wp2
           go_meet
           case rel => exact ⟨_, (((rd l0 (ji10)) == 13)), (by first | rfl | (simp; done) | (simp only [← hji10] <;> (first | rfl | simp)) | (simp [*]; done)), H', ⟨by have := HK1.out; first | omega | exact Nat.le_refl _⟩, ⟨by (with_reducible repeat (first | apply Kd.R_alloc | apply Kd.R_drewN | apply Kd.R_drew)); exact HO_5.out⟩, ⟨bq_⟩⟩
          ·rw [if_neg c12] at H
           exact absurd H (by simp)
         ·rw [if_neg c11] at H
          exact absurd H (by simp)
        ·rw [if_neg c9] at H
         have c9b0 := decide_eq_false c9
         clear c9
         (first | rw [c9b0] | (simp only [i64_w, i32_w]; rw [c9b0]) | skip)
         have H' := Aside0.mk H
         clear H
         go_wp2
         go_meet
         case rel => exact ⟨_, (false), sq_, H', ⟨by have := HK1.out; first | omega | exact Nat.le_refl _⟩, ⟨by (with_reducible repeat (first | apply Kd.R_alloc | apply Kd.R_drewN | apply Kd.R_drew)); exact HO_5.out⟩, ⟨bq_⟩⟩
       case rest =>
        clear HC8
        obtain ⟨kq, x37_7, rfl, HA, HJ7, HO_5, HB⟩ := hcut
        cases kq with
        | zero => exact absurd HA.out (by simp [lanternref09_Parse.j1])
        | succ kj7 =>
         have H := HA.out
         clear HA
         simp only [lanternref09_Parse.j1] at H
         have HC13 := Aside0.mk H
         clear H
         go_upto_if 37 with (fail)
         go_cut [8] (fun v8 wc => ∃ (kq : Nat) (x8_12 : Int), v8 = .int .i64 x8_12 ∧ Aside0 (lanternref09_Parse.j2 kq l0 x5_1 x6_1 x7_1 x8_12 = some (r1, r2, r3)) ∧ Aside0 (kq ≤ kj7) ∧ Aside0 (Kd.R k67 67 wc w.heap.size (fun _ => True) u5 x5_1) ∧ Aside0 (Below w.heap.size w wc))
         case first =>
          have H := HC13.out
          clear HC13
          by_cases c14 : x37_7 = true
          ·subst c14
           replace H := ifT_ H
           have H' := Aside0.mk H
           clear H
           go_wp2
           go_meet
           case rel => exact ⟨_, (wrap64 (x7_1 - 1)), sq_, H', ⟨by have := HK1.out; have := HJ7.out; first | omega | exact Nat.le_refl _⟩, ⟨by (with_reducible repeat (first | apply Kd.R_alloc | apply Kd.R_drewN | apply Kd.R_drew)); exact HO_5.out⟩, ⟨bq_⟩⟩
          ·replace c14 := Bool.eq_false_iff.mpr c14
           subst c14
           replace H := ifF_ H
           have H' := Aside0.mk H
           clear H
           go_wp2
           go_meet
           case rel => exact ⟨_, (x7_1), sq_, H', ⟨by have := HK1.out; have := HJ7.out; first | omega | exact Nat.le_refl _⟩, ⟨by (with_reducible repeat (first | apply Kd.R_alloc | apply Kd.R_drewN | apply Kd.R_drew)); exact HO_5.out⟩, ⟨bq_⟩⟩
         case rest =>
          clear HC13
          obtain ⟨kq, x8_12, rfl, HA, HJ12, HO_5, HB⟩ := hcut
          cases kq with
          | zero => exact absurd HA.out (by simp [lanternref09_Parse.j2])
          | succ kj12 =>
           have H := HA.out
           clear HA
           simp only [lanternref09_Parse.j2] at H
           by_cases c15 : x8_12 = x6_1
           ·rw [if_pos c15] at H
            have c15b0 := beq_iff_eq.mpr c15
            have c15b1 := bne_eq_false_iff_eq.mpr c15
            clear c15
            simp only [Option.some.injEq, Prod.mk.injEq] at H
            obtain ⟨rfl, rfl, rfl⟩ := H
            go_wp2
            go_ret3
            exact ⟨_, rq_, by (with_reducible repeat (first | apply Kd.R_alloc | apply Kd.R_drewN | apply Kd.R_drew)); exact HO_5.out, bq_⟩
           ·rw [if_neg c15] at H
            have c15b0 := beq_eq_false_iff_ne.mpr c15
            have c15b1 := bne_iff_ne.mpr c15
            by_cases c16 : 0 ≤ x6_1
            ·rw [if_pos c16] at H
             have c16b0 := eq_true c16
             have c16b1 := decide_eq_true c16
             clear c16
             by_cases c17 : x6_1 ≤ x8_12
             ·rw [if_pos c17] at H
              have c17b0 := eq_true c17
              have c17b1 := decide_eq_true c17
              clear c17
              by_cases c18 : x8_12 ≤ (l0.length : Int)
              ·rw [if_pos c18] at H
               have c18b0 := eq_true c18
               have c18b1 := decide_eq_true c18
               clear c18
               replace H := Option.bind_eq_some_iff.mp H
               obtain ⟨⟨t264, t265, t266⟩, A190, H⟩ := H
               (try dsimp only at H)
               have A19 := Aside0.mk A190
               clear A190
               by_cases c20 : t266 = true
               ·subst c20
                replace H := ifT_ H
                by_cases c21 : (x5_1.length : Int) = 64
                ·rw [if_pos c21] at H
                 have c21b0 := beq_iff_eq.mpr c21
                 have c21b1 := bne_eq_false_iff_eq.mpr c21
                 clear c21
                 simp only [Option.some.injEq, Prod.mk.injEq] at H
                 obtain ⟨rfl, rfl, rfl⟩ := H
                 obtain ⟨i022, hi022, _, hsz22, _⟩ := info_parts info5
                 obtain ⟨A22, hcut22, hA22, hC22⟩ := print_mid_of (P := Tryz.prog) (Value.int .u8) 0 22 5 .i64 .i64 Tryz.underlying22 hi022 hsz22 (some ad261) c0 l0 x6_1 x8_12 (of_decide_eq_true as_) (by first | omega | exact of_decide_eq_true as_) (of_decide_eq_true as_) HC0.out
                 have HR263 := Aside0.mk (Kd.C_of_reads (h1 := fun _ => rfl) (hA22 _ (Kd.reads_of_C HR0.out)))
                 have HC263 := Aside0.mk hC22
                 clear hA22 hC22 hi022 hsz22
                 have hcv23 := Kd.C_string (P := Tryz.prog) (A := A22) (c := (c0 - x6_1.toNat)) Tryz.underlying22 Tryz.underlying5 Tryz.underlying9 (Kd.C_below HR263.out HB.out)
                 have hcv23b := hcv23
                 rw [show ((l0.take (x8_12 : Int).toNat).drop (x6_1 : Int).toNat).length = (x8_12.toNat - x6_1.toNat) from (by rw [List.length_drop, List.length_take]; have h_ : (x8_12 : Int) ≤ (l0.length : Int) := of_decide_eq_true as_; omega)] at hcv23b
                 go_wp2_with (first | ((with_reducible refine gate_callee (f := 58) rfl ?_); refine goesL_ (some 52) rfl rfl Tryz.func58 (by kernel_rfl) rfl #[.string (strOfNums ((l0.take (x8_12 : Int).toNat).drop (x6_1 : Int).toNat))] rfl lq_ ?_; (with_reducible refine (lanternref09_one.calls kj12 (strOfNums ((l0.take (x8_12 : Int).toNat).drop (x6_1 : Int).toNat)) t264 t265 true _ ?side1 A19.out).mono ?_); (case side1 => exact lw_); rintro e w24 ⟨rfl, hb⟩; refine ⟨_, rfl, ?_⟩; replace HO_5 := Aside0.mk (Kd.R_below (by (with_reducible repeat (first | apply Kd.R_alloc | apply Kd.R_drewN | apply Kd.R_drew)); exact HO_5.out) hb); replace HB := Aside0.mk (below_step bq_ hb)) | ((with_reducible refine gate_dst (N := 9) rfl ?_); refine bx_ 9 #[.string (⟨#[]⟩ : ByteArray), .string (⟨#[]⟩ : ByteArray)] 67 ?_; intro gb267 hg w25 hbox hb; replace HO_5 := Aside0.mk (Kd.R_below (Kd.R_elderB (by (with_reducible repeat (first | apply Kd.R_alloc | apply Kd.R_drewN | apply Kd.R_drew)); exact HO_5.out) gb267 (Nat.le_of_eq hg.symm)) hb); have BK267 := Aside0.mk (hbox); have GW267 := Aside0.mk (ge_ (w := w) hg); have GE267 := Aside0.mk (ge_ (w := w) hg); replace HB := Aside0.mk (below_step bq_ hb); clear hb hbox hg; have hcz26_0 := cz_ BK267 0 (.string (⟨#[]⟩ : ByteArray)); have hcz26_1 := cz_ BK267 1 (.string (⟨#[]⟩ : ByteArray)); have hfz26_0 := bf_ BK267 0; have hfz26_1 := bf_ BK267 1; obtain ⟨Ao27, co27, eo27⟩ := Kd.R_slice HO_5.out; subst eo27))
                 go_ret3
                 exact ⟨_, rq_, by first | exact Kd.R_nil _ _ _ _ _ | exact Kd.N_nil _ _ _ _ _ | exact Kd.V_nil _ _ _ _ _ | exact Kd.Q_nil _ _ _ _ _ | exact Kd.S_nil _ _ _ _ _, bg_⟩
                ·rw [if_neg c21] at H
                 have c21b0 := beq_eq_false_iff_ne.mpr c21
                 have c21b1 := bne_iff_ne.mpr c21
                 by_cases c28 : x5_1.length < 4398046511104
                 ·rw [if_pos c28] at H
                  have LMc28 := Aside0.mk c28
                  clear c28
                  obtain ⟨y268, hy268⟩ : ∃ y_ : List (S67), y_ = (x5_1 ++ [(⟨t264, t265⟩ : S67)]) := ⟨_, rfl⟩
                  replace H : (lanternref09_Parse.l0 kj12 l0 y268 (wrap64 (x7_1 + 1)) (wrap64 (x7_1 + 1))) = some (r1, r2, r3) := by first | (rw [hy268]; with_reducible exact H) | (have H2_ := (Option.bind_some _ _).symm.trans H; rw [hy268]; with_reducible exact H2_) | (have H2_ := (Option.bind_some _ _).symm.trans H; with_reducible exact H2_) | with_reducible exact H | (rw [hy268]; exact H) | exact H
                  have Ny268 := Aside0.mk hy268
                  clear hy268
                  have H' := Aside0.mk H
                  clear H
                  obtain ⟨i029, hi029, _, hsz29, _⟩ := info_parts info5
                  obtain ⟨A29, hcut29, hA29, hC29⟩ := print_mid_of (P := Tryz.prog) (Value.int .u8) 0 22 5 .i64 .i64 Tryz.underlying22 hi029 hsz29 (some ad261) c0 l0 x6_1 x8_12 (of_decide_eq_true as_) (by first | omega | exact of_decide_eq_true as_) (of_decide_eq_true as_) HC0.out
                  have HR263 := Aside0.mk (Kd.C_of_reads (h1 := fun _ => rfl) (hA29 _ (Kd.reads_of_C HR0.out)))
                  have HC263 := Aside0.mk hC29
                  clear hA29 hC29 hi029 hsz29
                  have hcv30 := Kd.C_string (P := Tryz.prog) (A := A29) (c := (c0 - x6_1.toNat)) Tryz.underlying22 Tryz.underlying5 Tryz.underlying9 (Kd.C_below HR263.out HB.out)
                  have hcv30b := hcv30
                  rw [show ((l0.take (x8_12 : Int).toNat).drop (x6_1 : Int).toNat).length = (x8_12.toNat - x6_1.toNat) from (by rw [List.length_drop, List.length_take]; have h_ : (x8_12 : Int) ≤ (l0.length : Int) := of_decide_eq_true as_; omega)] at hcv30b
                  go_wp2_with (first | ((with_reducible refine gate_callee (f := 58) rfl ?_); refine goesL_ (some 52) rfl rfl Tryz.func58 (by kernel_rfl) rfl #[.string (strOfNums ((l0.take (x8_12 : Int).toNat).drop (x6_1 : Int).toNat))] rfl lq_ ?_; (with_reducible refine (lanternref09_one.calls kj12 (strOfNums ((l0.take (x8_12 : Int).toNat).drop (x6_1 : Int).toNat)) t264 t265 true _ ?side1 A19.out).mono ?_); (case side1 => exact lw_); rintro e w31 ⟨rfl, hb⟩; refine ⟨_, rfl, ?_⟩; replace HO_5 := Aside0.mk (Kd.R_below (by (with_reducible repeat (first | apply Kd.R_alloc | apply Kd.R_drewN | apply Kd.R_drew)); exact HO_5.out) hb); replace HB := Aside0.mk (below_step bq_ hb)) | ((with_reducible refine gate_dst (N := 9) rfl ?_); refine bx_ 9 #[.string (⟨#[]⟩ : ByteArray), .string (⟨#[]⟩ : ByteArray)] 67 ?_; intro gb267 hg w32 hbox hb; replace HO_5 := Aside0.mk (Kd.R_below (Kd.R_elderB (by (with_reducible repeat (first | apply Kd.R_alloc | apply Kd.R_drewN | apply Kd.R_drew)); exact HO_5.out) gb267 (Nat.le_of_eq hg.symm)) hb); have BK267 := Aside0.mk (hbox); have GW267 := Aside0.mk (ge_ (w := w) hg); have GE267 := Aside0.mk (ge_ (w := w) hg); replace HB := Aside0.mk (below_step bq_ hb); clear hb hbox hg; have hcz33_0 := cz_ BK267 0 (.string (⟨#[]⟩ : ByteArray)); have hcz33_1 := cz_ BK267 1 (.string (⟨#[]⟩ : ByteArray)); have hfz33_0 := bf_ BK267 0; have hfz33_1 := bf_ BK267 1; obtain ⟨Ao34, co34, eo34⟩ := Kd.R_slice HO_5.out; subst eo34) | ((with_reducible refine gate_builtin (b := .append) (xs := #[.tmp 60, .tmp 62]) rfl ?_); at_builtin; refine Kd.R_append k67 (w0 := w) w.heap.size rfl (.tmp 60) (.tmp 62) 24 67 (.agg #[(.string ⟨#[]⟩), (.string ⟨#[]⟩)]) 32 rfl Tryz.underlying24 info67 rfl (by decide) (by omega) (.slice Ao34 x5_1.length co34) x5_1 (⟨t264, t265⟩ : S67) [.string t264, .string t265] (fun k_ => k_ ≠ gb267) (fun _ => False) rfl (by first | (go_simp; done) | (go_simp; rfl)) ?aP (fun _ hk => hk.elim) ?aF ?aO ?aB ?aS ?aL ?_; (case aP => exact k67_mkM _ _ _ (⟨t264, t265⟩ : S67)); (case aB => exact bg_); (case aF => exact (fun k_ hk => Kd.freshB (g := gb267) (o := .cells #[.string t264, .string t265] 67 (0, 0)) (by (with_reducible repeat (first | refine blk_drewN ?_ _ | refine blk_drew ?_ | refine blk_alloc ?_ _)); refine blk_put (cs := #[.string t264, .string (⟨#[]⟩ : ByteArray)]) ?_ 1 _ rfl; (with_reducible repeat (first | refine blk_drewN ?_ _ | refine blk_drew ?_ | refine blk_alloc ?_ _)); refine blk_put (cs := #[.string (⟨#[]⟩ : ByteArray), .string (⟨#[]⟩ : ByteArray)]) ?_ 0 _ rfl; (with_reducible repeat (first | refine blk_drewN ?_ _ | refine blk_drew ?_ | refine blk_alloc ?_ _)); exact BK267.out) k_ hk)); (case aO => exact (by (with_reducible repeat (first | apply Kd.R_alloc | apply Kd.R_drewN | apply Kd.R_drew)); exact Kd.R_mono (Kd.R_far (p := ⟨gb267, 1, none⟩) (Kd.R_far (p := ⟨gb267, 0, none⟩) (Kd.R_mono HO_5.out (fun k_ hk => (⟨hk, hk.2⟩ : _ ∧ k_ ≠ gb267))) (fun _ hk => hk.2) (.string t264)) (fun _ hk => hk.2) (.string t265)) (fun _ hk => hk.1.2))); (case aS => exact (below_size bg_)); (case aL => have := LMc28.out; omega); intro v269 w35 ho hb hg hat; rw [← Ny268.out] at ho; replace BK267 := Aside0.mk (blk_grown (g := gb267) (o := .cells #[.string t264, .string t265] 67 (0, 0)) (by (with_reducible repeat (first | refine blk_drewN ?_ _ | refine blk_drew ?_ | refine blk_alloc ?_ _)); refine blk_put (cs := #[.string t264, .string (⟨#[]⟩ : ByteArray)]) ?_ 1 _ rfl; (with_reducible repeat (first | refine blk_drewN ?_ _ | refine blk_drew ?_ | refine blk_alloc ?_ _)); refine blk_put (cs := #[.string (⟨#[]⟩ : ByteArray), .string (⟨#[]⟩ : ByteArray)]) ?_ 0 _ rfl; (with_reducible repeat (first | refine blk_drewN ?_ _ | refine blk_drew ?_ | refine blk_alloc ?_ _)); exact BK267.out) hg (Kd.R_away HO_5.out (fun _ hk => hk.2))); have HO270 := Aside0.mk (ho); replace HB := Aside0.mk (hb); clear HO_5; clear ho hb hg hat))
                  go_roundg kj12
                  case measure => have := HK1.out; have := HJ7.out; have := HJ12.out; omega
                  case rel => exact ⟨(y268), (wrap64 (x7_1 + 1)), (wrap64 (x7_1 + 1)), sq_, sq_, H', ⟨by have := HK1.out; have := HJ7.out; have := HJ12.out; omega⟩, ⟨by (with_reducible repeat (first | apply Kd.R_alloc | apply Kd.R_drewN | apply Kd.R_drew)); exact Kd.R_mono HO270.out (fun _ hk => trivial)⟩, ⟨bg_⟩⟩
                 ·rw [if_neg c28] at H
                  exact absurd H (by simp)
               ·replace c20 := Bool.eq_false_iff.mpr c20
                subst c20
                replace H := ifF_ H
                simp only [Option.some.injEq, Prod.mk.injEq] at H
                obtain ⟨rfl, rfl, rfl⟩ := H
                obtain ⟨i036, hi036, _, hsz36, _⟩ := info_parts info5
                obtain ⟨A36, hcut36, hA36, hC36⟩ := print_mid_of (P := Tryz.prog) (Value.int .u8) 0 22 5 .i64 .i64 Tryz.underlying22 hi036 hsz36 (some ad261) c0 l0 x6_1 x8_12 (of_decide_eq_true as_) (by first | omega | exact of_decide_eq_true as_) (of_decide_eq_true as_) HC0.out
                have HR263 := Aside0.mk (Kd.C_of_reads (h1 := fun _ => rfl) (hA36 _ (Kd.reads_of_C HR0.out)))
                have HC263 := Aside0.mk hC36
                clear hA36 hC36 hi036 hsz36
                have hcv37 := Kd.C_string (P := Tryz.prog) (A := A36) (c := (c0 - x6_1.toNat)) Tryz.underlying22 Tryz.underlying5 Tryz.underlying9 (Kd.C_below HR263.out HB.out)
                have hcv37b := hcv37
                rw [show ((l0.take (x8_12 : Int).toNat).drop (x6_1 : Int).toNat).length = (x8_12.toNat - x6_1.toNat) from (by rw [List.length_drop, List.length_take]; have h_ : (x8_12 : Int) ≤ (l0.length : Int) := of_decide_eq_true as_; omega)] at hcv37b
                go_wp2_with (first | ((with_reducible refine gate_callee (f := 58) rfl ?_); refine goesL_ (some 52) rfl rfl Tryz.func58 (by kernel_rfl) rfl #[.string (strOfNums ((l0.take (x8_12 : Int).toNat).drop (x6_1 : Int).toNat))] rfl lq_ ?_; (with_reducible refine (lanternref09_one.calls kj12 (strOfNums ((l0.take (x8_12 : Int).toNat).drop (x6_1 : Int).toNat)) t264 t265 false _ ?side1 A19.out).mono ?_); (case side1 => exact lw_); rintro e w38 ⟨rfl, hb⟩; refine ⟨_, rfl, ?_⟩; replace HO_5 := Aside0.mk (Kd.R_below (by (with_reducible repeat (first | apply Kd.R_alloc | apply Kd.R_drewN | apply Kd.R_drew)); exact HO_5.out) hb); replace HB := Aside0.mk (below_step bq_ hb)) | ((with_reducible refine gate_dst (N := 9) rfl ?_); refine bx_ 9 #[.string (⟨#[]⟩ : ByteArray), .string (⟨#[]⟩ : ByteArray)] 67 ?_; intro gb267 hg w39 hbox hb; replace HO_5 := Aside0.mk (Kd.R_below (Kd.R_elderB (by (with_reducible repeat (first | apply Kd.R_alloc | apply Kd.R_drewN | apply Kd.R_drew)); exact HO_5.out) gb267 (Nat.le_of_eq hg.symm)) hb); have BK267 := Aside0.mk (hbox); have GW267 := Aside0.mk (ge_ (w := w) hg); have GE267 := Aside0.mk (ge_ (w := w) hg); replace HB := Aside0.mk (below_step bq_ hb); clear hb hbox hg; have hcz40_0 := cz_ BK267 0 (.string (⟨#[]⟩ : ByteArray)); have hcz40_1 := cz_ BK267 1 (.string (⟨#[]⟩ : ByteArray)); have hfz40_0 := bf_ BK267 0; have hfz40_1 := bf_ BK267 1))
                go_ret3
                exact ⟨_, rq_, by first | exact Kd.R_nil _ _ _ _ _ | exact Kd.N_nil _ _ _ _ _ | exact Kd.V_nil _ _ _ _ _ | exact Kd.Q_nil _ _ _ _ _ | exact Kd.S_nil _ _ _ _ _, bg_⟩
              ·rw [if_neg c18] at H
               exact absurd H (by simp)
             ·rw [if_neg c17] at H
              exact absurd H (by simp)
            ·rw [if_neg c16] at H
             exact absurd H (by simp)
     ·rw [if_neg c6] at H
      have c6b0 := beq_eq_false_iff_ne.mpr c6
      have c6b1 := bne_iff_ne.mpr c6
      have H' := Aside0.mk H
      clear H
      have p261 : 0 ≤ (x7_1 : Int) := of_decide_eq_true as_
      have q261 : x7_1 < (l0.length : Int) := of_decide_eq_true as_
      obtain ⟨ad261, e261, hx261_0⟩ := Kd.at_int HR0.out x7_1 p261 q261
      cases e261
      replace hx261_0 := (HB.out.cell (World.block_lt_of_cell? w _ hx261_0)).trans hx261_0
      replace p261 := eq_true p261
      replace q261 := eq_true q261
      go_wp2
      go_roundg k1
      case measure => have := HK1.out; omega
      case rel => exact ⟨(x5_1), (x6_1), (wrap64 (x7_1 + 1)), sq_, sq_, H', ⟨by have := HK1.out; omega⟩, ⟨by (with_reducible repeat (first | apply Kd.R_alloc | apply Kd.R_drewN | apply Kd.R_drew)); exact HO_5.out⟩, ⟨bq_⟩⟩
    ·rw [if_neg c5] at H
     exact absurd H (by simp)
   ·rw [if_neg c4] at H
    have c4b0 := decide_eq_false c4
    clear c4
    by_cases c41 : (l0.length : Int) > 8192
    ·rw [if_pos c41] at H
     have c41b0 := decide_eq_true c41
     have c41b1 : decide (8192 < l0.length) = true := decide_eq_true (by omega)
     clear c41
     simp only [Option.some.injEq, Prod.mk.injEq] at H
     obtain ⟨rfl, rfl, rfl⟩ := H
     go_wp2
     go_ret3
     exact ⟨_, rq_, by first | exact Kd.R_nil _ _ _ _ _ | exact Kd.N_nil _ _ _ _ _ | exact Kd.V_nil _ _ _ _ _ | exact Kd.Q_nil _ _ _ _ _ | exact Kd.S_nil _ _ _ _ _, bq_⟩
    ·rw [if_neg c41] at H
     have c41b0 := decide_eq_false c41
     have c41b1 : decide (8192 < l0.length) = false := decide_eq_false (by omega)
     clear c41
     simp only [Option.some.injEq, Prod.mk.injEq] at H
     obtain ⟨rfl, rfl, rfl⟩ := H
     go_wp2
     go_ret3
     exact ⟨_, rq_, by first | exact Kd.R_nil _ _ _ _ _ | exact Kd.N_nil _ _ _ _ _ | exact Kd.V_nil _ _ _ _ _ | exact Kd.Q_nil _ _ _ _ _ | exact Kd.S_nil _ _ _ _ _, bq_⟩

def lanternref09_Alike.f (a0 : ByteArray) (a1 : ByteArray) : Option (Bool) := (lanternref01_Lower.f a0).bind fun t271 => ((lanternref01_Lower.f a1).bind fun t272 => (some (t271.toList == t272.toList)))
set_option maxHeartbeats 8000000 in
set_option maxRecDepth 100000 in
theorem lanternref09_Alike.calls (a0 : ByteArray) (a1 : ByteArray) (r : Bool) (w : World) (hLW : LW w) (h : lanternref09_Alike.f a0 a1 = some r) :
  Calls Tryz.prog 93 #[.string a0, .string a1] w fun e w' => e = .returned (.bool r) ∧ Below w.heap.size w w' := by
 have HLW := Aside0.mk hLW
 clear hLW
 have HB := Aside0.mk (Below.refl w.heap.size w)
 have H := h
 unfold lanternref09_Alike.f at H
 clear h
 replace H := Option.bind_eq_some_iff.mp H
 obtain ⟨t271, A30, H⟩ := H
 (try dsimp only at H)
 have A3 := Aside0.mk A30
 clear A30
 replace H := Option.bind_eq_some_iff.mp H
 obtain ⟨t272, A40, H⟩ := H
 (try dsimp only at H)
 have A4 := Aside0.mk A40
 clear A40
 obtain rfl := Option.some.inj H
 go_enter Tryz.func93, Tryz.ntmps93
 go_wp2_with (first | ((with_reducible refine gate_callee (f := 60) rfl ?_); refine goesL_ (some 6) rfl rfl Tryz.func60 (by kernel_rfl) rfl #[.string a0] rfl lq_ ?_; (with_reducible refine (lanternref01_Lower.calls a0 t271 _ ?side1 A3.out).mono ?_); (case side1 => exact lw_); rintro e w5 ⟨rfl, hb⟩; refine ⟨_, rfl, ?_⟩; replace HB := Aside0.mk (below_step bq_ hb)) | ((with_reducible refine gate_callee (f := 60) rfl ?_); refine goesL_ (some 8) rfl rfl Tryz.func60 (by kernel_rfl) rfl #[.string a1] rfl lq_ ?_; (with_reducible refine (lanternref01_Lower.calls a1 t272 _ ?side1 A4.out).mono ?_); (case side1 => exact lw_); rintro e w6 ⟨rfl, hb⟩; refine ⟨_, rfl, ?_⟩; replace HB := Aside0.mk (below_step bq_ hb)))
 go_ret
 exact ⟨rq_, bq_⟩

def lanternref09_All.l0 : Nat → List (S67) → ByteArray → List ByteArray → Int → Option (List ByteArray)
 | 0, _, _, _, _ => none
 | k + 1, x0, x1, x5, x6 => if x6 < (x0.length : Int) then (if 0 ≤ x6 then ((lanternref09_Alike.f ((rd_T67 x0 x6).f0) x1).bind fun t277 => (if t277 = true then (if x5.length < 8796093022208 then (lanternref09_All.l0 k x0 x1 (x5 ++ [(rd_T67 x0 x6).f1]) (wrap64 (x6 + 1))) else (none)) else (lanternref09_All.l0 k x0 x1 x5 (wrap64 (x6 + 1))))) else (none)) else (some x5)
def lanternref09_All.f (k : Nat) (l0 : List (S67)) (a1 : ByteArray) : Option (List ByteArray) := lanternref09_All.l0 k l0 a1 (([] : List ByteArray)) 0
theorem lanternref09_All.mono_l : ∀ k, (∀ y0 y1 y2 y3, LeO (lanternref09_All.l0 k y0 y1 y2 y3) (lanternref09_All.l0 (k + 1) y0 y1 y2 y3))
 | 0 => fun _ _ _ _ r h => by simp [lanternref09_All.l0] at h
 | k + 1 => by
  have ih0 := lanternref09_All.mono_l k
  ·intro y0 y1 y2 y3
   unfold lanternref09_All.l0
   repeat' first | (with_reducible first | exact ih0 _ _ _ _ | exact LeO.refl _ | exact LeO.none _ | refine LeO.ite ?_ ?_ | refine LeO.bind ?_ (fun _ => ?_))
theorem lanternref09_All.mono : ∀ a0 a1 k, LeO (lanternref09_All.f k a0 a1) (lanternref09_All.f (k + 1) a0 a1) := by
 intro a0 a1 k
 have ih0 := lanternref09_All.mono_l k
 unfold lanternref09_All.f
 repeat' first | (with_reducible first | exact ih0 _ _ _ _ | exact LeO.refl _ | exact LeO.none _ | refine LeO.ite ?_ ?_ | refine LeO.bind ?_ (fun _ => ?_))
set_option maxHeartbeats 8000000 in
set_option maxRecDepth 100000 in
theorem lanternref09_All.calls (k : Nat) (A0 : Option Addr) (c0 : Nat) (l0 : List (S67)) (a1 : ByteArray) (r : List ByteArray) (w : World) (hLW : LW w) (hr0 : Kd.C k67 w A0 l0.length l0) (hc0 : l0.length ≤ c0) (h : lanternref09_All.f k l0 a1 = some r) :
  Calls Tryz.prog 59 #[.slice A0 l0.length c0, .string a1] w fun e w' => ∃ v0_ : Value, e = .returned (v0_) ∧ Kd.R Kd.string 9 w' w.heap.size (fun _ => True) v0_ r ∧ Below w.heap.size w w' := by
 have HLW := Aside0.mk hLW
 clear hLW
 have HR0 := Aside0.mk hr0
 have HC0 := Aside0.mk hc0
 clear hr0 hc0
 have HB := Aside0.mk (Below.refl w.heap.size w)
 have H := h
 unfold lanternref09_All.f at H
 clear h
 obtain ⟨y273, hy273⟩ : ∃ y_ : List ByteArray, y_ = (([] : List ByteArray)) := ⟨_, rfl⟩
 replace H : (lanternref09_All.l0 k l0 a1 y273 0) = some r := by first | (rw [hy273]; with_reducible exact H) | (have H2_ := (Option.bind_some _ _).symm.trans H; rw [hy273]; with_reducible exact H2_) | (have H2_ := (Option.bind_some _ _).symm.trans H; with_reducible exact H2_) | with_reducible exact H | (rw [hy273]; exact H) | exact H
 have Ny273 := Aside0.mk hy273
 clear hy273
 have H' := Aside0.mk H
 clear H
 go_enter Tryz.func59, Tryz.ntmps59
 go_wp2_with (first | ((with_reducible refine gate_dst (N := 7) rfl ?_); refine Kd.R_lit Kd.string _ 9 ?hg (N := 7) ?hd (xs := ([] : List ByteArray)) (inner := []) (ok := fun _ => True) (okp := fun _ => True) ?hr ?hp (fun _ hk => hk) trivial (Below.refl _ _) (Nat.le_refl _) (by simp) ?_; (case hd => rfl); (case hg => rfl); (case hr => first | (go_simp; done) | (go_simp; rfl)); (case hp => exact (Reps.none _ _)); intro v274 w3 ho4 hb hg_ hnew_; clear hg_ hnew_; (first | rw [← Ny273.out] at ho4 | (simp only [Int.reduceToNat] at ho4; rw [← Ny273.out] at ho4)); have HO275 := Aside0.mk (Kd.R_lower ho4 (below_size bq_)); replace HB := Aside0.mk (below_step bq_ hb); clear hb ho4))
 go_loopg [5, 6] k (fun kq v5 v6 w' => ∃ (x5_1 : List ByteArray) (x6_1 : Int), v6 = .int .i64 x6_1 ∧ Aside0 (lanternref09_All.l0 kq l0 a1 x5_1 x6_1 = some r) ∧ Aside0 (kq ≤ k) ∧ Aside0 (Kd.R Kd.string 9 w' w.heap.size (fun _ => True) v5 x5_1) ∧ Aside0 (Below w.heap.size w w'))
 case atStart => exact ⟨(y273), (0), sq_, H', ⟨Nat.le_refl _⟩, ⟨by (with_reducible repeat (first | apply Kd.R_alloc | apply Kd.R_drewN | apply Kd.R_drew)); exact HO275.out⟩, ⟨bq_⟩⟩
 case round =>
  clear H'
  obtain ⟨x5_1, x6_1, rfl, HA, HK1, HO_5, HB⟩ := hrel
  cases gk with
  | zero => exact absurd HA.out (by simp [lanternref09_All.l0])
  | succ k1 =>
   have H := HA.out
   clear HA
   simp only [lanternref09_All.l0] at H
   by_cases c5 : x6_1 < (l0.length : Int)
   ·rw [if_pos c5] at H
    have c5b0 := decide_eq_true c5
    clear c5
    by_cases c6 : 0 ≤ x6_1
    ·rw [if_pos c6] at H
     have c6b0 := decide_eq_true c6
     clear c6
     replace H := Option.bind_eq_some_iff.mp H
     obtain ⟨t277, A70, H⟩ := H
     (try dsimp only at H)
     have A7 := Aside0.mk A70
     clear A70
     by_cases c8 : t277 = true
     ·subst c8
      replace H := ifT_ H
      by_cases c9 : x5_1.length < 8796093022208
      ·rw [if_pos c9] at H
       have LMc9 := Aside0.mk c9
       clear c9
       obtain ⟨y279, hy279⟩ : ∃ y_ : List ByteArray, y_ = (x5_1 ++ [(rd_T67 l0 x6_1).f1]) := ⟨_, rfl⟩
       replace H : (lanternref09_All.l0 k1 l0 a1 y279 (wrap64 (x6_1 + 1))) = some r := by first | (rw [hy279]; with_reducible exact H) | (have H2_ := (Option.bind_some _ _).symm.trans H; rw [hy279]; with_reducible exact H2_) | (have H2_ := (Option.bind_some _ _).symm.trans H; with_reducible exact H2_) | with_reducible exact H | (rw [hy279]; exact H) | exact H
       have Ny279 := Aside0.mk hy279
       clear hy279
       have H' := Aside0.mk H
       clear H
       have p276 : 0 ≤ (x6_1 : Int) := of_decide_eq_true as_
       have q276 : x6_1 < (l0.length : Int) := of_decide_eq_true as_
       obtain ⟨ad276, e276, hx276_0, hx276_1⟩ := at_T67 HR0.out x6_1 p276 q276
       cases e276
       replace hx276_0 := (HB.out.cell (World.block_lt_of_cell? w _ hx276_0)).trans hx276_0
       replace hx276_1 := (HB.out.cell (World.block_lt_of_cell? w _ hx276_1)).trans hx276_1
       replace p276 := eq_true p276
       replace q276 := eq_true q276
       go_wp2_with (first | ((with_reducible refine gate_callee (f := 93) rfl ?_); refine goesL_ (some 20) rfl rfl Tryz.func93 (by kernel_rfl) rfl #[.string ((rd_T67 l0 x6_1).f0), .string a1] rfl lq_ ?_; (with_reducible refine (lanternref09_Alike.calls ((rd_T67 l0 x6_1).f0) a1 true _ ?side1 A7.out).mono ?_); (case side1 => exact lw_); rintro e w10 ⟨rfl, hb⟩; refine ⟨_, rfl, ?_⟩; replace HO_5 := Aside0.mk (Kd.R_below (by (with_reducible repeat (first | apply Kd.R_alloc | apply Kd.R_drewN | apply Kd.R_drew)); exact HO_5.out) hb); replace HB := Aside0.mk (below_step bq_ hb); have p278 : 0 ≤ (x6_1 : Int) := of_decide_eq_true as_; have q278 : x6_1 < (l0.length : Int) := of_decide_eq_true as_; obtain ⟨ad278, e278, hx278_0, hx278_1⟩ := at_T67 HR0.out x6_1 p278 q278; obtain rfl : ad276 = ad278 := (by injection e278); replace hx278_0 := (HB.out.cell (World.block_lt_of_cell? w _ hx278_0)).trans hx278_0; replace hx278_1 := (HB.out.cell (World.block_lt_of_cell? w _ hx278_1)).trans hx278_1; replace p278 := eq_true p278; replace q278 := eq_true q278) | ((with_reducible refine gate_builtin (b := .append) (xs := #[.tmp 21, .tmp 27]) rfl ?_); at_builtin; refine Kd.R_append Kd.string (w0 := w) w.heap.size rfl (.tmp 21) (.tmp 27) 53 9 (.string ⟨#[]⟩) 16 rfl Tryz.underlying53 info9 rfl (by decide) (by omega) u5 x5_1 ((rd_T67 l0 x6_1).f1) [.string ((rd_T67 l0 x6_1).f1)] (fun _ => True) (fun _ => False) rfl rfl ?aP (fun _ hk => hk.elim) ?aF ?aO ?aB ?aS ?aL ?_; (case aP => exact rfl); (case aB => exact bq_); (case aF => exact (fun _ _ => trivial)); (case aO => exact (by (with_reducible repeat (first | apply Kd.R_alloc | apply Kd.R_drewN | apply Kd.R_drew)); exact HO_5.out)); (case aS => exact (below_size bq_)); (case aL => have := LMc9.out; omega); intro v280 w11 ho hb hg hat; rw [← Ny279.out] at ho; have HO281 := Aside0.mk (ho); replace HB := Aside0.mk (hb); clear HO_5; clear ho hb hg hat))
       go_roundg k1
       case measure => have := HK1.out; omega
       case rel => exact ⟨(y279), (wrap64 (x6_1 + 1)), sq_, H', ⟨by have := HK1.out; omega⟩, ⟨by (with_reducible repeat (first | apply Kd.R_alloc | apply Kd.R_drewN | apply Kd.R_drew)); exact HO281.out⟩, ⟨bq_⟩⟩
      ·rw [if_neg c9] at H
       exact absurd H (by simp)
     ·replace c8 := Bool.eq_false_iff.mpr c8
      subst c8
      replace H := ifF_ H
      have H' := Aside0.mk H
      clear H
      have p276 : 0 ≤ (x6_1 : Int) := of_decide_eq_true as_
      have q276 : x6_1 < (l0.length : Int) := of_decide_eq_true as_
      obtain ⟨ad276, e276, hx276_0, hx276_1⟩ := at_T67 HR0.out x6_1 p276 q276
      cases e276
      replace hx276_0 := (HB.out.cell (World.block_lt_of_cell? w _ hx276_0)).trans hx276_0
      replace hx276_1 := (HB.out.cell (World.block_lt_of_cell? w _ hx276_1)).trans hx276_1
      replace p276 := eq_true p276
      replace q276 := eq_true q276
      go_wp2_with (first | ((with_reducible refine gate_callee (f := 93) rfl ?_); refine goesL_ (some 20) rfl rfl Tryz.func93 (by kernel_rfl) rfl #[.string ((rd_T67 l0 x6_1).f0), .string a1] rfl lq_ ?_; (with_reducible refine (lanternref09_Alike.calls ((rd_T67 l0 x6_1).f0) a1 false _ ?side1 A7.out).mono ?_); (case side1 => exact lw_); rintro e w12 ⟨rfl, hb⟩; refine ⟨_, rfl, ?_⟩; replace HO_5 := Aside0.mk (Kd.R_below (by (with_reducible repeat (first | apply Kd.R_alloc | apply Kd.R_drewN | apply Kd.R_drew)); exact HO_5.out) hb); replace HB := Aside0.mk (below_step bq_ hb)))
      go_roundg k1
      case measure => have := HK1.out; omega
      case rel => exact ⟨(x5_1), (wrap64 (x6_1 + 1)), sq_, H', ⟨by have := HK1.out; omega⟩, ⟨by (with_reducible repeat (first | apply Kd.R_alloc | apply Kd.R_drewN | apply Kd.R_drew)); exact HO_5.out⟩, ⟨bq_⟩⟩
    ·rw [if_neg c6] at H
     exact absurd H (by simp)
   ·rw [if_neg c5] at H
    have c5b0 := decide_eq_false c5
    clear c5
    obtain rfl := Option.some.inj H
    go_wp2
    go_ret
    exact ⟨_, rq_, by (with_reducible repeat (first | apply Kd.R_alloc | apply Kd.R_drewN | apply Kd.R_drew)); exact HO_5.out, bq_⟩

end Go.Proofs.YtipleegkonhfcaaGreatDoor.P
