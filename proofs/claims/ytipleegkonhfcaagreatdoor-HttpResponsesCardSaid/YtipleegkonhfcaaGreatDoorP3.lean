import Derived.Test.YtipleegkonhfcaaGreatDoorP2
namespace Go.Proofs.YtipleegkonhfcaaGreatDoor.P
open Go.Proofs.YtipleegkonhfcaaGreatDoorZ
open Go.Proofs.YtipleegkonhfcaaGreatDoor.E Go.Proofs.YtipleegkonhfcaaGreatDoorV
open Go.Proofs.YtipleegkonhfcaaGreatDoor.U
open Go.Proofs.YtipleegkonhfcaaGreatDoor.KF
open Go.RowKit Go.Proofs.YtipleegkonhfcaaGreatDoorW.PrintWords Go.Proofs.YtipleegkonhfcaaGreatDoorW.PrintLast Go.Proofs.YtipleegkonhfcaaGreatDoorW.PrintMore
attribute [local go_sem] max2_int min2_int max_two min_two max_three min_three max_four min_four   -- for this text's walks alone
set_option linter.unusedVariables false
set_option linter.unusedSimpArgs false

mutual
def header_Parse.l0 : Nat → List Int → List (S67) → Int → Option ((List (S67)) × Int × Int)
 | 0, _, _, _ => none
 | k + 1, x0, x2, x3 => if 0 ≤ x3 then (if x3 ≤ (x0.length : Int) then ((bytes_IndexByte.f (x0.drop (x3 : Int).toNat) 10).bind fun t112 => (if t112 < 0 then (header_Parse.j1 k x0 x2 x3 t112 (decide ((x0.length : Int) ≤ 8192))) else (header_Parse.j1 k x0 x2 x3 t112 false))) else (none)) else (none)
def header_Parse.j1 : Nat → List Int → List (S67) → Int → Int → Bool → Option ((List (S67)) × Int × Int)
 | 0, _, _, _, _, _ => none
 | k + 1, x0, x2, x3, x5, x15 => if x15 = true then (some (([] : List (S67)), 0, 10)) else (if x5 < 0 then (some (([] : List (S67)), 0, 3)) else (if (wrap64 ((wrap64 (x3 + x5)) + 1)) > 8192 then (some (([] : List (S67)), 0, 3)) else (if 0 ≤ x3 then (if x3 ≤ (wrap64 (x3 + x5)) then (if (wrap64 (x3 + x5)) ≤ (x0.length : Int) then ((strings_TrimSuffix.f (strOfNums ((x0.take ((wrap64 (x3 + x5)) : Int).toNat).drop (x3 : Int).toNat)) (⟨#[13]⟩ : ByteArray)).bind fun t114 => (if t114.toList = ([] : List UInt8) then (some (x2, wrap64 (x3 + (wrap64 (x5 + 1))), 0)) else ((strings_Cut.f t114 (⟨#[58]⟩ : ByteArray)).bind fun bt115 => ((strings_Trim.f bt115.2.1 (⟨#[32, 9]⟩ : ByteArray)).bind fun t118 => (if bt115.2.2 = true then ((header_may.f k bt115.1 t118).bind fun t120 => (header_Parse.j2 k x0 x2 (wrap64 (x3 + (wrap64 (x5 + 1)))) (!t120) bt115.1 t118)) else (header_Parse.j2 k x0 x2 (wrap64 (x3 + (wrap64 (x5 + 1)))) true bt115.1 t118)))))) else (none)) else (none)) else (none))))
def header_Parse.j2 : Nat → List Int → List (S67) → Int → Bool → ByteArray → ByteArray → Option ((List (S67)) × Int × Int)
 | 0, _, _, _, _, _, _ => none
 | k + 1, x0, x2, x3, x65, V0, V1 => if x65 = true then (some (([] : List (S67)), 0, 5)) else (if (x2.length : Int) ≥ 64 then (some (([] : List (S67)), 0, 3)) else (if x2.length < 4398046511104 then (header_Parse.l0 k x0 (x2 ++ [(⟨V0, V1⟩ : S67)]) x3) else (none)))
end
def header_Parse.f (k : Nat) (l0 : List Int) : Option ((List (S67)) × Int × Int) := header_Parse.l0 k l0 ([] : List (S67)) 0
theorem header_Parse.mono_l : ∀ k, (∀ y0 y1 y2, LeO (header_Parse.l0 k y0 y1 y2) (header_Parse.l0 (k + 1) y0 y1 y2)) ∧ (∀ y0 y1 y2 y3 y4, LeO (header_Parse.j1 k y0 y1 y2 y3 y4) (header_Parse.j1 (k + 1) y0 y1 y2 y3 y4)) ∧ (∀ y0 y1 y2 y3 y4 y5, LeO (header_Parse.j2 k y0 y1 y2 y3 y4 y5) (header_Parse.j2 (k + 1) y0 y1 y2 y3 y4 y5))
 | 0 => ⟨fun _ _ _ r h => by simp [header_Parse.l0] at h, fun _ _ _ _ _ r h => by simp [header_Parse.j1] at h, fun _ _ _ _ _ _ r h => by simp [header_Parse.j2] at h⟩
 | k + 1 => by
  obtain ⟨ih0, ih1, ih2⟩ := header_Parse.mono_l k
  refine ⟨?_, ?_, ?_⟩
  ·intro y0 y1 y2
   unfold header_Parse.l0
   repeat' first
   | (with_reducible exact ih0 _ _ _)
   | (with_reducible exact ih1 _ _ _ _ _)
   | (with_reducible exact ih2 _ _ _ _ _ _)
   | (with_reducible exact header_may.mono _ _ _)
   | (with_reducible exact LeO.refl _)
   | (with_reducible exact LeO.none _)
   | (with_reducible refine LeO.ite ?_ ?_)
   | (with_reducible refine LeO.bind ?_ (fun _ => ?_))
   | exact ih0 _ _ _
   | exact ih1 _ _ _ _ _
   | exact ih2 _ _ _ _ _ _
   | exact header_may.mono _ _ _
   | exact LeO.none _
   | refine LeO.ite ?_ ?_
   | refine LeO.bind ?_ (fun _ => ?_)
  ·intro y0 y1 y2 y3 y4
   unfold header_Parse.j1
   repeat' first
   | (with_reducible exact ih0 _ _ _)
   | (with_reducible exact ih1 _ _ _ _ _)
   | (with_reducible exact ih2 _ _ _ _ _ _)
   | (with_reducible exact header_may.mono _ _ _)
   | (with_reducible exact LeO.refl _)
   | (with_reducible exact LeO.none _)
   | (with_reducible refine LeO.ite ?_ ?_)
   | (with_reducible refine LeO.bind ?_ (fun _ => ?_))
   | exact ih0 _ _ _
   | exact ih1 _ _ _ _ _
   | exact ih2 _ _ _ _ _ _
   | exact header_may.mono _ _ _
   | exact LeO.none _
   | refine LeO.ite ?_ ?_
   | refine LeO.bind ?_ (fun _ => ?_)
  ·intro y0 y1 y2 y3 y4 y5
   unfold header_Parse.j2
   repeat' first
   | (with_reducible exact ih0 _ _ _)
   | (with_reducible exact ih1 _ _ _ _ _)
   | (with_reducible exact ih2 _ _ _ _ _ _)
   | (with_reducible exact header_may.mono _ _ _)
   | (with_reducible exact LeO.refl _)
   | (with_reducible exact LeO.none _)
   | (with_reducible refine LeO.ite ?_ ?_)
   | (with_reducible refine LeO.bind ?_ (fun _ => ?_))
   | exact ih0 _ _ _
   | exact ih1 _ _ _ _ _
   | exact ih2 _ _ _ _ _ _
   | exact header_may.mono _ _ _
   | exact LeO.none _
   | refine LeO.ite ?_ ?_
   | refine LeO.bind ?_ (fun _ => ?_)
theorem header_Parse.mono : ∀ a0 k, LeO (header_Parse.f k a0) (header_Parse.f (k + 1) a0) := by
 intro a0 k
 obtain ⟨ih0, ih1, ih2⟩ := header_Parse.mono_l k
 unfold header_Parse.f
 repeat' first
   | (with_reducible exact ih0 _ _ _)
   | (with_reducible exact ih1 _ _ _ _ _)
   | (with_reducible exact ih2 _ _ _ _ _ _)
   | (with_reducible exact header_may.mono _ _ _)
   | (with_reducible exact LeO.refl _)
   | (with_reducible exact LeO.none _)
   | (with_reducible refine LeO.ite ?_ ?_)
   | (with_reducible refine LeO.bind ?_ (fun _ => ?_))
   | exact ih0 _ _ _
   | exact ih1 _ _ _ _ _
   | exact ih2 _ _ _ _ _ _
   | exact header_may.mono _ _ _
   | exact LeO.none _
   | refine LeO.ite ?_ ?_
   | refine LeO.bind ?_ (fun _ => ?_)
set_option maxHeartbeats 8000000 in
set_option maxRecDepth 100000 in
theorem header_Parse.calls (k : Nat) (A0 : Option Addr) (c0 : Nat) (l0 : List Int) (r1 : List (S67)) (r2 : Int) (r3 : Int) (w : World) (hLW : LW w) (hr0 : Kd.C (Kd.int .u8) w A0 l0.length l0) (hc0 : l0.length ≤ c0) (h : header_Parse.f k l0 = some (r1, r2, r3)) :
  Calls Tryz.prog 27 #[.slice A0 l0.length c0] w fun e w' => ∃ v0_ : Value, e = .returned (.tuple #[v0_, .int .i64 r2, .int .i64 r3]) ∧ Kd.R k67 67 w' w.heap.size (fun _ => True) v0_ r1 ∧ Below w.heap.size w w' := by
 have hu67 := Tryz.underlying67
 have HLW := Aside0.mk hLW
 clear hLW
 have HR0 := Aside0.mk hr0
 have HC0 := Aside0.mk hc0
 clear hr0 hc0
 have HB := Aside0.mk (Below.refl w.heap.size w)
 have H := h
 unfold header_Parse.f at H
 clear h
 have H' := Aside0.mk H
 clear H
 go_enter Tryz.func27, Tryz.ntmps27
 go_wp2
 go_loopg [2, 3] k (fun kq v2 v3 w' => ∃ (x2_1 : List (S67)) (x3_1 : Int), v3 = .int .i64 x3_1 ∧ Aside0 (header_Parse.l0 kq l0 x2_1 x3_1 = some (r1, r2, r3)) ∧ Aside0 (kq ≤ k) ∧ Aside0 (Kd.R k67 67 w' w.heap.size (fun _ => True) v2 x2_1) ∧ Aside0 (Below w.heap.size w w'))
 case atStart => exact ⟨(([] : List (S67))), (0), sq_, H', ⟨Nat.le_refl _⟩, ⟨by first | exact Kd.R_nil _ _ _ _ _ | exact Kd.N_nil _ _ _ _ _ | exact Kd.V_nil _ _ _ _ _ | exact Kd.Q_nil _ _ _ _ _ | exact Kd.S_nil _ _ _ _ _⟩, ⟨bq_⟩⟩
 case round =>
  clear H'
  obtain ⟨x2_1, x3_1, rfl, HA, HK1, HO_2, HB⟩ := hrel
  cases gk with
  | zero => exact absurd HA.out (by simp [header_Parse.l0])
  | succ k1 =>
   have H := HA.out
   clear HA
   simp only [header_Parse.l0] at H
   by_cases c2 : 0 ≤ x3_1
   ·rw [if_pos c2] at H
    have c2b0 := eq_true c2
    have c2b1 := decide_eq_true c2
    clear c2
    by_cases c3 : x3_1 ≤ (l0.length : Int)
    ·rw [if_pos c3] at H
     have c3b0 := eq_true c3
     have c3b1 := decide_eq_true c3
     clear c3
     replace H := Option.bind_eq_some_iff.mp H
     obtain ⟨t112, A40, H⟩ := H
     (try dsimp only at H)
     have A4 := Aside0.mk A40
     clear A40
     have HC5 := Aside0.mk H
     clear H
     obtain ⟨i06, hi06, _, hsz6, _⟩ := info_parts info5
     obtain ⟨A6, hcut6, hA6, hC6⟩ := print_drop_of (P := Tryz.prog) (Value.int .u8) 0 22 5 .i64 Tryz.underlying22 hi06 hsz6 A0 c0 l0 x3_1 (of_decide_eq_true as_) (of_decide_eq_true as_) HC0.out
     have HR111 := Aside0.mk (Kd.C_of_reads (h1 := fun _ => rfl) (hA6 _ (Kd.reads_of_C HR0.out)))
     have HC111 := Aside0.mk hC6
     clear hA6 hC6 hi06 hsz6
     go_upto_region 2 with (first | ((with_reducible refine gate_callee (f := 48) rfl ?_); refine goesL_ (some 14) rfl rfl Tryz.func48 (by kernel_rfl) rfl #[.slice A6 (l0.drop (x3_1 : Int).toNat).length (c0 - x3_1.toNat), .int .u8 10] rfl (by (try simp only [List.map_toArray, List.map_cons, List.map_nil]); first | done | (rw [show (l0.drop (x3_1 : Int).toNat).length = (l0.length - x3_1.toNat) from List.length_drop] <;> rfl) | rfl | (simp only [List.length_drop, List.length_take]; rfl)) ?_; (with_reducible refine (bytes_IndexByte.calls _ _ (l0.drop (x3_1 : Int).toNat) 10 t112 _ ?side3 ?side1 ?side2 A4.out).mono ?_); (case side1 => repeat (first | exact (Kd.C_below HR111.out HB.out) | (with_reducible refine Kd.C_alloc ?_ _) | (with_reducible refine Kd.C_drewN ?_ _) | (with_reducible refine Kd.C_drew ?_))); (case side2 => exact HC111.out); (case side3 => exact lw_); rintro e w7 ⟨rfl, hb⟩; refine ⟨_, rfl, ?_⟩; replace HO_2 := Aside0.mk (Kd.R_below (by (with_reducible repeat (first | apply Kd.R_alloc | apply Kd.R_drewN | apply Kd.R_drew)); exact HO_2.out) hb); replace HB := Aside0.mk (below_step bq_ hb)))
     (try simp only [Act.put, List.setIfInBounds_toArray, List.set_cons_zero, List.set_cons_succ])
     go_cut [15] (fun v15 wc => ∃ (kq : Nat) (x15_4 : Bool), v15 = .bool x15_4 ∧ Aside0 (header_Parse.j1 kq l0 x2_1 x3_1 t112 x15_4 = some (r1, r2, r3)) ∧ Aside0 (kq ≤ k1) ∧ Aside0 (Kd.R k67 67 wc w.heap.size (fun _ => True) u2 x2_1) ∧ Aside0 (Below w.heap.size w wc))
     case first =>
      have H := HC5.out
      clear HC5
      by_cases c8 : t112 < 0
      ·rw [if_pos c8] at H
       have c8b0 := decide_eq_true c8
       clear c8
       (first | rw [c8b0] | (simp only [i64_w, i32_w]; rw [c8b0]) | skip)
       have H' := Aside0.mk H
       clear H
       go_wp2
       go_meet
       case rel => exact ⟨_, (decide ((l0.length : Int) ≤ 8192)), sq_, H', ⟨by have := HK1.out; first | omega | exact Nat.le_refl _⟩, ⟨by (with_reducible repeat (first | apply Kd.R_alloc | apply Kd.R_drewN | apply Kd.R_drew)); exact HO_2.out⟩, ⟨bq_⟩⟩
      ·rw [if_neg c8] at H
       have c8b0 := decide_eq_false c8
       clear c8
       (first | rw [c8b0] | (simp only [i64_w, i32_w]; rw [c8b0]) | skip)
       have H' := Aside0.mk H
       clear H
       go_wp2
       go_meet
       case rel => exact ⟨_, (false), sq_, H', ⟨by have := HK1.out; first | omega | exact Nat.le_refl _⟩, ⟨by (with_reducible repeat (first | apply Kd.R_alloc | apply Kd.R_drewN | apply Kd.R_drew)); exact HO_2.out⟩, ⟨bq_⟩⟩
     case rest =>
      clear HC5
      obtain ⟨kq, x15_4, rfl, HA, HJ4, HO_2, HB⟩ := hcut
      cases kq with
      | zero => exact absurd HA.out (by simp [header_Parse.j1])
      | succ kj4 =>
       have H := HA.out
       clear HA
       simp only [header_Parse.j1] at H
       by_cases c9 : x15_4 = true
       ·subst c9
        replace H := ifT_ H
        simp only [Option.some.injEq, Prod.mk.injEq] at H
        obtain ⟨rfl, rfl, rfl⟩ := H
        go_wp2
        go_ret3
        exact ⟨_, rq_, by first | exact Kd.R_nil _ _ _ _ _ | exact Kd.N_nil _ _ _ _ _ | exact Kd.V_nil _ _ _ _ _ | exact Kd.Q_nil _ _ _ _ _ | exact Kd.S_nil _ _ _ _ _, bq_⟩
       ·replace c9 := Bool.eq_false_iff.mpr c9
        subst c9
        replace H := ifF_ H
        by_cases c10 : t112 < 0
        ·rw [if_pos c10] at H
         have c10b0 := decide_eq_true c10
         clear c10
         simp only [Option.some.injEq, Prod.mk.injEq] at H
         obtain ⟨rfl, rfl, rfl⟩ := H
         go_wp2
         go_ret3
         exact ⟨_, rq_, by first | exact Kd.R_nil _ _ _ _ _ | exact Kd.N_nil _ _ _ _ _ | exact Kd.V_nil _ _ _ _ _ | exact Kd.Q_nil _ _ _ _ _ | exact Kd.S_nil _ _ _ _ _, bq_⟩
        ·rw [if_neg c10] at H
         have c10b0 := decide_eq_false c10
         clear c10
         by_cases c11 : (wrap64 ((wrap64 (x3_1 + t112)) + 1)) > 8192
         ·rw [if_pos c11] at H
          have c11b0 := decide_eq_true c11
          clear c11
          simp only [Option.some.injEq, Prod.mk.injEq] at H
          obtain ⟨rfl, rfl, rfl⟩ := H
          go_wp2
          go_ret3
          exact ⟨_, rq_, by first | exact Kd.R_nil _ _ _ _ _ | exact Kd.N_nil _ _ _ _ _ | exact Kd.V_nil _ _ _ _ _ | exact Kd.Q_nil _ _ _ _ _ | exact Kd.S_nil _ _ _ _ _, bq_⟩
         ·rw [if_neg c11] at H
          have c11b0 := decide_eq_false c11
          clear c11
          by_cases c12 : 0 ≤ x3_1
          ·rw [if_pos c12] at H
           have c12b0 := eq_true c12
           have c12b1 := decide_eq_true c12
           clear c12
           by_cases c13 : x3_1 ≤ (wrap64 (x3_1 + t112))
           ·rw [if_pos c13] at H
            have c13b0 := eq_true c13
            have c13b1 := decide_eq_true c13
            by_cases c14 : (wrap64 (x3_1 + t112)) ≤ (l0.length : Int)
            ·rw [if_pos c14] at H
             have c14b0 := eq_true c14
             have c14b1 := decide_eq_true c14
             replace H := Option.bind_eq_some_iff.mp H
             obtain ⟨t114, A150, H⟩ := H
             (try dsimp only at H)
             have A15 := Aside0.mk A150
             clear A150
             by_cases c16 : t114.toList = ([] : List UInt8)
             ·rw [if_pos c16] at H
              have c16b0 := beq_iff_eq.mpr c16
              have c16b1 := bne_eq_false_iff_eq.mpr c16
              clear c16
              simp only [Option.some.injEq, Prod.mk.injEq] at H
              obtain ⟨rfl, rfl, rfl⟩ := H
              obtain ⟨i017, hi017, _, hsz17, _⟩ := info_parts info5
              obtain ⟨A17, hcut17, hA17, hC17⟩ := print_mid_of (P := Tryz.prog) (Value.int .u8) 0 22 5 .i64 .i64 Tryz.underlying22 hi017 hsz17 A0 c0 l0 x3_1 (wrap64 (x3_1 + t112)) (of_decide_eq_true as_) (by first | omega | exact of_decide_eq_true as_) (of_decide_eq_true as_) HC0.out
              have HR113 := Aside0.mk (Kd.C_of_reads (h1 := fun _ => rfl) (hA17 _ (Kd.reads_of_C HR0.out)))
              have HC113 := Aside0.mk hC17
              clear hA17 hC17 hi017 hsz17
              have hcv18 := Kd.C_string (P := Tryz.prog) (A := A17) (c := (c0 - x3_1.toNat)) Tryz.underlying22 Tryz.underlying5 Tryz.underlying9 (Kd.C_below HR113.out HB.out)
              have hcv18b := hcv18
              rw [show ((l0.take ((wrap64 (x3_1 + t112)) : Int).toNat).drop (x3_1 : Int).toNat).length = ((wrap64 (x3_1 + t112)).toNat - x3_1.toNat) from (by rw [List.length_drop, List.length_take]; have h_ : ((wrap64 (x3_1 + t112)) : Int) ≤ (l0.length : Int) := of_decide_eq_true as_; omega)] at hcv18b
              go_wp2_with (first | ((with_reducible refine gate_callee (f := 49) rfl ?_); refine goesL_ (some 40) rfl rfl Tryz.func49 (by kernel_rfl) rfl #[.string (strOfNums ((l0.take ((wrap64 (x3_1 + t112)) : Int).toNat).drop (x3_1 : Int).toNat)), .string (⟨#[13]⟩ : ByteArray)] rfl lq_ ?_; (with_reducible refine (strings_TrimSuffix.calls (strOfNums ((l0.take ((wrap64 (x3_1 + t112)) : Int).toNat).drop (x3_1 : Int).toNat)) (⟨#[13]⟩ : ByteArray) t114 _ ?side1 A15.out).mono ?_); (case side1 => exact lw_); rintro e w19 ⟨rfl, hb⟩; refine ⟨_, rfl, ?_⟩; replace HO_2 := Aside0.mk (Kd.R_below (by (with_reducible repeat (first | apply Kd.R_alloc | apply Kd.R_drewN | apply Kd.R_drew)); exact HO_2.out) hb); replace HB := Aside0.mk (below_step bq_ hb)))
              go_ret3
              exact ⟨_, rq_, by (with_reducible repeat (first | apply Kd.R_alloc | apply Kd.R_drewN | apply Kd.R_drew)); exact HO_2.out, bq_⟩
             ·rw [if_neg c16] at H
              have c16b0 := beq_eq_false_iff_ne.mpr c16
              have c16b1 := bne_iff_ne.mpr c16
              replace H := Option.bind_eq_some_iff.mp H
              obtain ⟨⟨t115, t116, t117⟩, A200, H⟩ := H
              (try dsimp only at H)
              have A20 := Aside0.mk A200
              clear A200
              replace H := Option.bind_eq_some_iff.mp H
              obtain ⟨t118, A210, H⟩ := H
              (try dsimp only at H)
              have A21 := Aside0.mk A210
              clear A210
              have HC22 := Aside0.mk H
              clear H
              obtain ⟨i023, hi023, _, hsz23, _⟩ := info_parts info5
              obtain ⟨A23, hcut23, hA23, hC23⟩ := print_mid_of (P := Tryz.prog) (Value.int .u8) 0 22 5 .i64 .i64 Tryz.underlying22 hi023 hsz23 A0 c0 l0 x3_1 (wrap64 (x3_1 + t112)) (of_decide_eq_true as_) (by first | omega | exact of_decide_eq_true as_) (of_decide_eq_true as_) HC0.out
              have HR113 := Aside0.mk (Kd.C_of_reads (h1 := fun _ => rfl) (hA23 _ (Kd.reads_of_C HR0.out)))
              have HC113 := Aside0.mk hC23
              clear hA23 hC23 hi023 hsz23
              have hcv24 := Kd.C_string (P := Tryz.prog) (A := A23) (c := (c0 - x3_1.toNat)) Tryz.underlying22 Tryz.underlying5 Tryz.underlying9 (Kd.C_below HR113.out HB.out)
              have hcv24b := hcv24
              rw [show ((l0.take ((wrap64 (x3_1 + t112)) : Int).toNat).drop (x3_1 : Int).toNat).length = ((wrap64 (x3_1 + t112)).toNat - x3_1.toNat) from (by rw [List.length_drop, List.length_take]; have h_ : ((wrap64 (x3_1 + t112)) : Int) ≤ (l0.length : Int) := of_decide_eq_true as_; omega)] at hcv24b
              go_upto_region 12 with (first | ((with_reducible refine gate_callee (f := 49) rfl ?_); refine goesL_ (some 40) rfl rfl Tryz.func49 (by kernel_rfl) rfl #[.string (strOfNums ((l0.take ((wrap64 (x3_1 + t112)) : Int).toNat).drop (x3_1 : Int).toNat)), .string (⟨#[13]⟩ : ByteArray)] rfl lq_ ?_; (with_reducible refine (strings_TrimSuffix.calls (strOfNums ((l0.take ((wrap64 (x3_1 + t112)) : Int).toNat).drop (x3_1 : Int).toNat)) (⟨#[13]⟩ : ByteArray) t114 _ ?side1 A15.out).mono ?_); (case side1 => exact lw_); rintro e w25 ⟨rfl, hb⟩; refine ⟨_, rfl, ?_⟩; replace HO_2 := Aside0.mk (Kd.R_below (by (with_reducible repeat (first | apply Kd.R_alloc | apply Kd.R_drewN | apply Kd.R_drew)); exact HO_2.out) hb); replace HB := Aside0.mk (below_step bq_ hb)) | ((with_reducible refine gate_callee (f := 52) rfl ?_); refine goesL_ (some 51) rfl rfl Tryz.func52 (by kernel_rfl) rfl #[.string t114, .string (⟨#[58]⟩ : ByteArray)] rfl lq_ ?_; (with_reducible refine (strings_Cut.calls t114 (⟨#[58]⟩ : ByteArray) t115 t116 t117 _ ?side1 A20.out).mono ?_); (case side1 => exact lw_); rintro e w26 ⟨rfl, hb⟩; refine ⟨_, rfl, ?_⟩; replace HO_2 := Aside0.mk (Kd.R_below (by (with_reducible repeat (first | apply Kd.R_alloc | apply Kd.R_drewN | apply Kd.R_drew)); exact HO_2.out) hb); replace HB := Aside0.mk (below_step bq_ hb)) | ((with_reducible refine gate_callee (f := 51) rfl ?_); refine goesL_ (some 57) rfl rfl Tryz.func51 (by kernel_rfl) rfl #[.string t116, .string (⟨#[32, 9]⟩ : ByteArray)] rfl lq_ ?_; (with_reducible refine (strings_Trim.calls t116 (⟨#[32, 9]⟩ : ByteArray) t118 _ ?side1 A21.out).mono ?_); (case side1 => exact lw_); rintro e w27 ⟨rfl, hb⟩; refine ⟨_, rfl, ?_⟩; replace HO_2 := Aside0.mk (Kd.R_below (by (with_reducible repeat (first | apply Kd.R_alloc | apply Kd.R_drewN | apply Kd.R_drew)); exact HO_2.out) hb); replace HB := Aside0.mk (below_step bq_ hb)) | ((with_reducible refine gate_dst (N := 10) rfl ?_); (try (refine gate_guard (by rfl) ?_; dsimp only)); refine bx_ 10 #[.string (⟨#[]⟩ : ByteArray), .string (⟨#[]⟩ : ByteArray)] 67 ?_; intro gb119 hg w28 hbox hb; replace HO_2 := Aside0.mk (Kd.R_below (Kd.R_elderB (by (with_reducible repeat (first | apply Kd.R_alloc | apply Kd.R_drewN | apply Kd.R_drew)); exact HO_2.out) gb119 (Nat.le_of_eq hg.symm)) hb); have BK119 := Aside0.mk (hbox); have GW119 := Aside0.mk (ge_ (w := w) hg); have GE119 := Aside0.mk (ge_ (w := w) hg); replace HB := Aside0.mk (below_step bq_ hb); clear hb hbox hg; have hcz29_0 := cz_ BK119 0 (.string (⟨#[]⟩ : ByteArray)); have hcz29_1 := cz_ BK119 1 (.string (⟨#[]⟩ : ByteArray)); have hfz29_0 := bf_ BK119 0; have hfz29_1 := bf_ BK119 1))
              (try simp only [Act.put, List.setIfInBounds_toArray, List.set_cons_zero, List.set_cons_succ])
              go_cut [65] (fun v65 wc => ∃ (kq : Nat) (x65_21 : Bool), v65 = .bool x65_21 ∧ Aside0 (header_Parse.j2 kq l0 x2_1 (wrap64 (x3_1 + (wrap64 (t112 + 1)))) x65_21 t115 t118 = some (r1, r2, r3)) ∧ Aside0 (kq ≤ kj4) ∧ Aside0 (Kd.R k67 67 wc w.heap.size (fun k_ => k_ ≠ gb119) u2 x2_1) ∧ Aside0 (wc.heap[gb119]? = some (.cells #[.string t115, .string t118] 67 (0, 0))) ∧ Aside0 (Below w.heap.size w wc))
              case first =>
               have H := HC22.out
               clear HC22
               by_cases c30 : t117 = true
               ·subst c30
                replace H := ifT_ H
                replace H := Option.bind_eq_some_iff.mp H
                obtain ⟨t120, A310, H⟩ := H
                (try dsimp only at H)
                have A31 := Aside0.mk A310
                clear A310
                have H' := Aside0.mk H
                clear H
                have hcz32_0 := cz_ BK119 0 (.string (⟨#[]⟩ : ByteArray))
                have hcz32_1 := cz_ BK119 1 (.string (⟨#[]⟩ : ByteArray))
                have hfz32_0 := bf_ BK119 0
                have hfz32_1 := bf_ BK119 1
                go_wp2_with (first | (go_at_call 53; (with_reducible refine (header_may.calls kj4 t115 t118 t120 _ ?side1 A31.out).mono ?_); (case side1 => exact lg_); rintro e w33 ⟨rfl, hb⟩; replace HO_2 := Aside0.mk (Kd.R_below (by (with_reducible repeat (first | apply Kd.R_alloc | apply Kd.R_drewN | apply Kd.R_drew)); exact (Kd.R_mono (Kd.R_far (p := ⟨gb119, 1, none⟩) (Kd.R_far (p := ⟨gb119, 0, none⟩) (Kd.R_mono HO_2.out (fun k_ hk => (⟨hk, hk.2⟩ : _ ∧ k_ ≠ gb119))) (fun _ hk => hk.2) (.string t115)) (fun _ hk => hk.2) (.string t118)) (fun _ h_ => h_.1))) hb); replace BK119 := Aside0.mk (blk_below (g := gb119) (o := .cells #[.string t115, .string t118] 67 (0, 0)) (by (with_reducible repeat (first | refine blk_drewN ?_ _ | refine blk_drew ?_ | refine blk_alloc ?_ _)); refine blk_put (cs := #[.string t115, .string (⟨#[]⟩ : ByteArray)]) ?_ 1 _ rfl; (with_reducible repeat (first | refine blk_drewN ?_ _ | refine blk_drew ?_ | refine blk_alloc ?_ _)); refine blk_put (cs := #[.string (⟨#[]⟩ : ByteArray), .string (⟨#[]⟩ : ByteArray)]) ?_ 0 _ rfl; (with_reducible repeat (first | refine blk_drewN ?_ _ | refine blk_drew ?_ | refine blk_alloc ?_ _)); exact BK119.out) hb); replace HB := Aside0.mk (below_step bg_ hb)))
                go_meet
                case rel => exact ⟨_, (!t120), sq_, H', ⟨by have := HK1.out; have := HJ4.out; first | omega | exact Nat.le_refl _⟩, ⟨by (with_reducible repeat (first | apply Kd.R_alloc | apply Kd.R_drewN | apply Kd.R_drew)); exact Kd.R_mono HO_2.out (fun _ hk => hk.2)⟩, ⟨bk_⟩, ⟨bg_⟩⟩
               ·replace c30 := Bool.eq_false_iff.mpr c30
                subst c30
                replace H := ifF_ H
                have H' := Aside0.mk H
                clear H
                go_wp2
                go_meet
                case rel => exact ⟨_, (true), sq_, H', ⟨by have := HK1.out; have := HJ4.out; first | omega | exact Nat.le_refl _⟩, ⟨by (with_reducible repeat (first | apply Kd.R_alloc | apply Kd.R_drewN | apply Kd.R_drew)); exact Kd.R_mono (Kd.R_far (p := ⟨gb119, 1, none⟩) (Kd.R_far (p := ⟨gb119, 0, none⟩) (Kd.R_mono HO_2.out (fun k_ hk => (⟨hk, hk.2⟩ : _ ∧ k_ ≠ gb119))) (fun _ hk => hk.2) (.string t115)) (fun _ hk => hk.2) (.string t118)) (fun _ hk => hk.1.2)⟩, ⟨by (with_reducible repeat (first | refine blk_drewN ?_ _ | refine blk_drew ?_ | refine blk_alloc ?_ _)); refine blk_put (cs := #[.string t115, .string (⟨#[]⟩ : ByteArray)]) ?_ 1 _ rfl; (with_reducible repeat (first | refine blk_drewN ?_ _ | refine blk_drew ?_ | refine blk_alloc ?_ _)); refine blk_put (cs := #[.string (⟨#[]⟩ : ByteArray), .string (⟨#[]⟩ : ByteArray)]) ?_ 0 _ rfl; (with_reducible repeat (first | refine blk_drewN ?_ _ | refine blk_drew ?_ | refine blk_alloc ?_ _)); exact BK119.out⟩, ⟨bg_⟩⟩
              case rest =>
               clear HC22
               obtain ⟨kq, x65_21, rfl, HA, HJ21, HO_2, BK119, HB⟩ := hcut
               cases kq with
               | zero => exact absurd HA.out (by simp [header_Parse.j2])
               | succ kj21 =>
                have H := HA.out
                clear HA
                simp only [header_Parse.j2] at H
                by_cases c34 : x65_21 = true
                ·subst c34
                 replace H := ifT_ H
                 simp only [Option.some.injEq, Prod.mk.injEq] at H
                 obtain ⟨rfl, rfl, rfl⟩ := H
                 go_wp2
                 go_ret3
                 exact ⟨_, rq_, by first | exact Kd.R_nil _ _ _ _ _ | exact Kd.N_nil _ _ _ _ _ | exact Kd.V_nil _ _ _ _ _ | exact Kd.Q_nil _ _ _ _ _ | exact Kd.S_nil _ _ _ _ _, bg_⟩
                ·replace c34 := Bool.eq_false_iff.mpr c34
                 subst c34
                 replace H := ifF_ H
                 by_cases c35 : (x2_1.length : Int) ≥ 64
                 ·rw [if_pos c35] at H
                  have c35b0 := decide_eq_true c35
                  have c35b1 : decide (64 ≤ x2_1.length) = true := decide_eq_true (by omega)
                  clear c35
                  simp only [Option.some.injEq, Prod.mk.injEq] at H
                  obtain ⟨rfl, rfl, rfl⟩ := H
                  obtain ⟨Ao36, co36, eo36⟩ := Kd.R_slice HO_2.out
                  subst eo36
                  go_wp2
                  go_ret3
                  exact ⟨_, rq_, by first | exact Kd.R_nil _ _ _ _ _ | exact Kd.N_nil _ _ _ _ _ | exact Kd.V_nil _ _ _ _ _ | exact Kd.Q_nil _ _ _ _ _ | exact Kd.S_nil _ _ _ _ _, bg_⟩
                 ·rw [if_neg c35] at H
                  have c35b0 := decide_eq_false c35
                  have c35b1 : decide (64 ≤ x2_1.length) = false := decide_eq_false (by omega)
                  clear c35
                  by_cases c37 : x2_1.length < 4398046511104
                  ·rw [if_pos c37] at H
                   have LMc37 := Aside0.mk c37
                   clear c37
                   obtain ⟨y121, hy121⟩ : ∃ y_ : List (S67), y_ = (x2_1 ++ [(⟨t115, t118⟩ : S67)]) := ⟨_, rfl⟩
                   replace H : (header_Parse.l0 kj21 l0 y121 (wrap64 (x3_1 + (wrap64 (t112 + 1))))) = some (r1, r2, r3) := by first | (rw [hy121]; with_reducible exact H) | (have H2_ := (Option.bind_some _ _).symm.trans H; rw [hy121]; with_reducible exact H2_) | (have H2_ := (Option.bind_some _ _).symm.trans H; with_reducible exact H2_) | with_reducible exact H | (rw [hy121]; exact H) | exact H
                   have Ny121 := Aside0.mk hy121
                   clear hy121
                   have H' := Aside0.mk H
                   clear H
                   obtain ⟨Ao38, co38, eo38⟩ := Kd.R_slice HO_2.out
                   subst eo38
                   have hcz39_0 := cz_ BK119 0 (.string t115)
                   have hcz39_1 := cz_ BK119 1 (.string t118)
                   have hfz39_0 := bf_ BK119 0
                   have hfz39_1 := bf_ BK119 1
                   go_wp2_with (first | ((with_reducible refine gate_builtin (b := .append) (xs := #[.tmp 69, .tmp 71]) rfl ?_); (try (refine gate_guard (by rfl) ?_; dsimp only)); at_builtin; refine Kd.R_append k67 (w0 := w) w.heap.size rfl (.tmp 69) (.tmp 71) 24 67 (.agg #[(.string ⟨#[]⟩), (.string ⟨#[]⟩)]) 32 rfl Tryz.underlying24 info67 rfl (by decide) (by omega) (.slice Ao38 x2_1.length co38) x2_1 (⟨t115, t118⟩ : S67) [.string t115, .string t118] (fun k_ => k_ ≠ gb119) (fun _ => False) rfl rfl ?aP (fun _ hk => hk.elim) ?aF ?aO ?aB ?aS ?aL ?_; (case aP => exact k67_mkM _ _ _ (⟨t115, t118⟩ : S67)); (case aB => exact bg_); (case aF => exact (fun k_ hk => Kd.freshB (g := gb119) (o := .cells #[.string t115, .string t118] 67 (0, 0)) bk_ k_ hk)); (case aO => exact (by (with_reducible repeat (first | apply Kd.R_alloc | apply Kd.R_drewN | apply Kd.R_drew)); exact HO_2.out)); (case aS => exact (below_size bg_)); (case aL => have := LMc37.out; omega); intro v122 w40 ho hb hg hat; rw [← Ny121.out] at ho; replace BK119 := Aside0.mk (blk_grown (g := gb119) (o := .cells #[.string t115, .string t118] 67 (0, 0)) bk_ hg (Kd.R_away HO_2.out (fun _ hk => hk))); have HO123 := Aside0.mk (ho); replace HB := Aside0.mk (hb); clear HO_2; clear ho hb hg hat))
                   go_roundg kj21
                   case measure => have := HK1.out; have := HJ4.out; have := HJ21.out; omega
                   case rel => exact ⟨(y121), ((wrap64 (x3_1 + (wrap64 (t112 + 1))))), sq_, H', ⟨by have := HK1.out; have := HJ4.out; have := HJ21.out; omega⟩, ⟨by (with_reducible repeat (first | apply Kd.R_alloc | apply Kd.R_drewN | apply Kd.R_drew)); exact Kd.R_mono HO123.out (fun _ hk => trivial)⟩, ⟨bg_⟩⟩
                  ·rw [if_neg c37] at H
                   exact absurd H (by simp)
            ·rw [if_neg c14] at H
             exact absurd H (by simp)
           ·rw [if_neg c13] at H
            exact absurd H (by simp)
          ·rw [if_neg c12] at H
           exact absurd H (by simp)
    ·rw [if_neg c3] at H
     exact absurd H (by simp)
   ·rw [if_neg c2] at H
    exact absurd H (by simp)

def chunk_take.j0 : Nat → List Int → Int → Bool → Option (ByteArray × Int × Int)
 | 0, _, _, _ => none
 | k + 1, x0, x5, x8 => if x8 = true then (some ((⟨#[]⟩ : ByteArray), 0, 10)) else (if x5 < 1 then (some ((⟨#[]⟩ : ByteArray), 0, 5)) else (if x5 > 257 then (some ((⟨#[]⟩ : ByteArray), 0, 5)) else (if 0 ≤ (wrap64 (x5 - 1)) then (if (wrap64 (x5 - 1)) < (x0.length : Int) then (if (rd x0 (wrap64 (x5 - 1))) = 13 then (if (wrap64 (x5 - 1)) ≤ (x0.length : Int) then (some (strOfNums (x0.take ((wrap64 (x5 - 1)) : Int).toNat), wrap64 (x5 + 1), 0)) else (none)) else (some ((⟨#[]⟩ : ByteArray), 0, 5))) else (none)) else (none))))
def chunk_take.f (k : Nat) (l0 : List Int) : Option (ByteArray × Int × Int) := (bytes_IndexByte.f l0 10).bind fun t124 => (if t124 < 0 then (chunk_take.j0 k l0 t124 (decide ((l0.length : Int) < 258))) else (chunk_take.j0 k l0 t124 false))
theorem chunk_take.mono_l : ∀ k, (∀ y0 y1 y2, LeO (chunk_take.j0 k y0 y1 y2) (chunk_take.j0 (k + 1) y0 y1 y2))
 | 0 => fun _ _ _ r h => by simp [chunk_take.j0] at h
 | k + 1 => by
  have ih0 := chunk_take.mono_l k
  ·intro y0 y1 y2
   unfold chunk_take.j0
   repeat' first | (with_reducible first | exact ih0 _ _ _ | exact LeO.refl _ | exact LeO.none _ | refine LeO.ite ?_ ?_ | refine LeO.bind ?_ (fun _ => ?_))
theorem chunk_take.mono : ∀ a0 k, LeO (chunk_take.f k a0) (chunk_take.f (k + 1) a0) := by
 intro a0 k
 have ih0 := chunk_take.mono_l k
 unfold chunk_take.f
 repeat' first | (with_reducible first | exact ih0 _ _ _ | exact LeO.refl _ | exact LeO.none _ | refine LeO.ite ?_ ?_ | refine LeO.bind ?_ (fun _ => ?_))
set_option maxHeartbeats 8000000 in
set_option maxRecDepth 100000 in
theorem chunk_take.calls (k : Nat) (A0 : Option Addr) (c0 : Nat) (l0 : List Int) (r1 : ByteArray) (r2 : Int) (r3 : Int) (w : World) (hLW : LW w) (hr0 : Kd.C (Kd.int .u8) w A0 l0.length l0) (hc0 : l0.length ≤ c0) (h : chunk_take.f k l0 = some (r1, r2, r3)) :
  Calls Tryz.prog 87 #[.slice A0 l0.length c0] w fun e w' => e = .returned (.tuple #[.string r1, .int .i64 r2, .int .i64 r3]) ∧ Below w.heap.size w w' := by
 have HLW := Aside0.mk hLW
 clear hLW
 have HR0 := Aside0.mk hr0
 have HC0 := Aside0.mk hc0
 clear hr0 hc0
 have HB := Aside0.mk (Below.refl w.heap.size w)
 have H := h
 unfold chunk_take.f at H
 clear h
 replace H := Option.bind_eq_some_iff.mp H
 obtain ⟨t124, A20, H⟩ := H
 (try dsimp only at H)
 have A2 := Aside0.mk A20
 clear A20
 have HC3 := Aside0.mk H
 clear H
 go_enter Tryz.func87, Tryz.ntmps87
 go_upto_region 2 with (first | ((with_reducible refine gate_callee (f := 48) rfl ?_); refine goesL_ (some 7) rfl rfl Tryz.func48 (by kernel_rfl) rfl #[.slice A0 l0.length c0, .int .u8 10] rfl lq_ ?_; (with_reducible refine (bytes_IndexByte.calls _ _ l0 10 t124 _ ?side3 ?side1 ?side2 A2.out).mono ?_); (case side1 => repeat (first | exact HR0.out | (with_reducible refine Kd.C_alloc ?_ _) | (with_reducible refine Kd.C_drewN ?_ _) | (with_reducible refine Kd.C_drew ?_))); (case side2 => exact HC0.out); (case side3 => exact lw_); rintro e w4 ⟨rfl, hb⟩; refine ⟨_, rfl, ?_⟩; replace HB := Aside0.mk (below_step bq_ hb)))
 (try simp only [Act.put, List.setIfInBounds_toArray, List.set_cons_zero, List.set_cons_succ])
 go_cut [8] (fun v8 wc => ∃ (kq : Nat) (x8_2 : Bool), v8 = .bool x8_2 ∧ Aside0 (chunk_take.j0 kq l0 t124 x8_2 = some (r1, r2, r3)) ∧ Aside0 (kq ≤ k) ∧ Aside0 (Below w.heap.size w wc))
 case first =>
  have H := HC3.out
  clear HC3
  by_cases c5 : t124 < 0
  ·rw [if_pos c5] at H
   have c5b0 := decide_eq_true c5
   clear c5
   (first | rw [c5b0] | (simp only [i64_w, i32_w]; rw [c5b0]) | skip)
   have H' := Aside0.mk H
   clear H
   go_wp2
   go_meet
   case rel => exact ⟨_, (decide ((l0.length : Int) < 258)), sq_, H', ⟨by first | omega | exact Nat.le_refl _⟩, ⟨bq_⟩⟩
  ·rw [if_neg c5] at H
   have c5b0 := decide_eq_false c5
   clear c5
   (first | rw [c5b0] | (simp only [i64_w, i32_w]; rw [c5b0]) | skip)
   have H' := Aside0.mk H
   clear H
   go_wp2
   go_meet
   case rel => exact ⟨_, (false), sq_, H', ⟨by first | omega | exact Nat.le_refl _⟩, ⟨bq_⟩⟩
 case rest =>
  clear HC3
  obtain ⟨kq, x8_2, rfl, HA, HJ2, HB⟩ := hcut
  cases kq with
  | zero => exact absurd HA.out (by simp [chunk_take.j0])
  | succ kj2 =>
   have H := HA.out
   clear HA
   simp only [chunk_take.j0] at H
   by_cases c6 : x8_2 = true
   ·subst c6
    replace H := ifT_ H
    simp only [Option.some.injEq, Prod.mk.injEq] at H
    obtain ⟨rfl, rfl, rfl⟩ := H
    go_wp2
    go_ret3
    exact ⟨rq_, bq_⟩
   ·replace c6 := Bool.eq_false_iff.mpr c6
    subst c6
    replace H := ifF_ H
    by_cases c7 : t124 < 1
    ·rw [if_pos c7] at H
     have c7b0 := decide_eq_true c7
     clear c7
     simp only [Option.some.injEq, Prod.mk.injEq] at H
     obtain ⟨rfl, rfl, rfl⟩ := H
     go_wp2
     go_ret3
     exact ⟨rq_, bq_⟩
    ·rw [if_neg c7] at H
     have c7b0 := decide_eq_false c7
     clear c7
     by_cases c8 : t124 > 257
     ·rw [if_pos c8] at H
      have c8b0 := decide_eq_true c8
      clear c8
      simp only [Option.some.injEq, Prod.mk.injEq] at H
      obtain ⟨rfl, rfl, rfl⟩ := H
      go_wp2
      go_ret3
      exact ⟨rq_, bq_⟩
     ·rw [if_neg c8] at H
      have c8b0 := decide_eq_false c8
      clear c8
      obtain ⟨ji9, hji9⟩ : ∃ j_ : Int, (wrap64 (t124 - 1)) = j_ := ⟨_, rfl⟩
      replace H : (if 0 ≤ (ji9) then (if (ji9) < (l0.length : Int) then (if (rd l0 (ji9)) = 13 then (if (ji9) ≤ (l0.length : Int) then (some (strOfNums (l0.take ((ji9) : Int).toNat), wrap64 (t124 + 1), 0)) else (none)) else (some ((⟨#[]⟩ : ByteArray), 0, 5))) else (none)) else (none)) = some (r1, r2, r3) := by first | (rw [hji9] at H; exact H) | (simp only [hji9] at H ⊢; exact H)
      have hji9w : (IntKind.i64.wrap (t124 - 1)) = ji9 := (i64_w _).trans hji9
      by_cases c10 : 0 ≤ (ji9)
      ·rw [if_pos c10] at H
       have c10b0 := decide_eq_true c10
       clear c10
       by_cases c11 : (ji9) < (l0.length : Int)
       ·rw [if_pos c11] at H
        have c11b0 := decide_eq_true c11
        clear c11
        by_cases c12 : (rd l0 (ji9)) = 13
        ·rw [if_pos c12] at H
         have c12b0 := beq_iff_eq.mpr c12
         have c12b1 := bne_eq_false_iff_eq.mpr c12
         clear c12
         have c13b0 := eq_true (of_decide_eq_true as_ : 0 ≤ (ji9))
         by_cases c14 : (ji9) ≤ (l0.length : Int)
         ·rw [if_pos c14] at H
          have c14b0 := eq_true c14
          have c14b1 := decide_eq_true c14
          clear c14
          simp only [Option.some.injEq, Prod.mk.injEq] at H
          obtain ⟨rfl, rfl, rfl⟩ := H
          have p125 : 0 ≤ ((ji9) : Int) := of_decide_eq_true as_
          have q125 : (ji9) < (l0.length : Int) := of_decide_eq_true as_
          obtain ⟨ad125, e125, hx125_0⟩ := Kd.at_int HR0.out (ji9) p125 q125
          cases e125
          replace hx125_0 := (HB.out.cell (World.block_lt_of_cell? w _ hx125_0)).trans hx125_0
          replace p125 := eq_true p125
          replace q125 := eq_true q125
          obtain ⟨i015, hi015, _, hsz15, _⟩ := info_parts info5
          obtain ⟨hcut15, hA15, hC15⟩ := print_take_of (P := Tryz.prog) (Value.int .u8) 0 22 5 .i64 Tryz.underlying22 hi015 hsz15 (some ad125) c0 l0 (ji9) (of_decide_eq_true as_) (of_decide_eq_true as_) HC0.out
          have HR126 := Aside0.mk (Kd.C_of_reads (h1 := fun _ => rfl) (hA15 _ (Kd.reads_of_C HR0.out)))
          have HC126 := Aside0.mk hC15
          clear hA15 hC15 hi015 hsz15
          have hcv16 := Kd.C_string (P := Tryz.prog) (A := (some ad125)) (c := c0) Tryz.underlying22 Tryz.underlying5 Tryz.underlying9 (Kd.C_below HR126.out HB.out)
          have hcv16b := hcv16
          rw [show (l0.take ((ji9) : Int).toNat).length = (ji9).toNat from (by rw [List.length_take]; have h_ : ((ji9) : Int) ≤ (l0.length : Int) := of_decide_eq_true as_; omega)] at hcv16b
          go_wp2
          go_ret3
          exact ⟨by first | rfl | (simp [errW_none, errW_some] <;> rfl) | (simp only [← hji9]; first | rfl | (simp [errW_none, errW_some] <;> rfl)) | (simp [*, errW_none, errW_some] <;> rfl) | (simp [errW_none, errW_some]; first | exact isEmpty_bne _ | exact isEmpty_beq _ | exact (isEmpty_bne _).symm), bq_⟩
         ·rw [if_neg c14] at H
          exact absurd H (by simp)
        ·rw [if_neg c12] at H
         have c12b0 := beq_eq_false_iff_ne.mpr c12
         have c12b1 := bne_iff_ne.mpr c12
         simp only [Option.some.injEq, Prod.mk.injEq] at H
         obtain ⟨rfl, rfl, rfl⟩ := H
         have p125 : 0 ≤ ((ji9) : Int) := of_decide_eq_true as_
         have q125 : (ji9) < (l0.length : Int) := of_decide_eq_true as_
         obtain ⟨ad125, e125, hx125_0⟩ := Kd.at_int HR0.out (ji9) p125 q125
         cases e125
         replace hx125_0 := (HB.out.cell (World.block_lt_of_cell? w _ hx125_0)).trans hx125_0
         replace p125 := eq_true p125
         replace q125 := eq_true q125
         go_wp2
         go_ret3
         exact ⟨by first | rfl | (simp [errW_none, errW_some] <;> rfl) | (simp only [← hji9]; first | rfl | (simp [errW_none, errW_some] <;> rfl)) | (simp [*, errW_none, errW_some] <;> rfl) | (simp [errW_none, errW_some]; first | exact isEmpty_bne _ | exact isEmpty_beq _ | exact (isEmpty_bne _).symm), bq_⟩
       ·rw [if_neg c11] at H
        exact absurd H (by simp)
      ·rw [if_neg c10] at H
       exact absurd H (by simp)

mutual
def chunk_Size.j0 : Nat → ByteArray → Bool → Option (Int × Int)
 | 0, _, _ => none
 | k + 1, x0, x13 => if x13 = true then (some (0, 5)) else ((strings_Cut.f x0 (⟨#[59]⟩ : ByteArray)).bind fun bt128 => (if bt128.1.toList = ([] : List UInt8) then (chunk_Size.j1 k bt128.1 true) else (if (bt128.1.size : Int) > 8 then (chunk_Size.j1 k bt128.1 true) else ((strings_Trim.f bt128.1 (⟨#[48, 49, 50, 51, 52, 53, 54, 55, 56, 57, 97, 98, 99, 100, 101, 102, 65, 66, 67, 68, 69, 70]⟩ : ByteArray)).bind fun t131 => (chunk_Size.j1 k bt128.1 (t131.toList != ([] : List UInt8)))))))
def chunk_Size.j1 : Nat → ByteArray → Bool → Option (Int × Int)
 | 0, _, _ => none
 | k + 1, x0, x31 => if x31 = true then (some (0, 5)) else ((strconv_ParseUint.f k x0 16 64).bind fun bt132 => (if bt132.2.isNone = true then (some (wrap64 (bt132.1), 0)) else (some (0, 5))))
end
def chunk_Size.f (k : Nat) (a0 : ByteArray) : Option (Int × Int) := if (a0.size : Int) > 256 then (chunk_Size.j0 k a0 true) else ((strings_IndexByte.f a0 13).bind fun t127 => (chunk_Size.j0 k a0 (decide (t127 ≥ 0))))
theorem chunk_Size.mono_l : ∀ k, (∀ y0 y1, LeO (chunk_Size.j0 k y0 y1) (chunk_Size.j0 (k + 1) y0 y1)) ∧ (∀ y0 y1, LeO (chunk_Size.j1 k y0 y1) (chunk_Size.j1 (k + 1) y0 y1))
 | 0 => ⟨fun _ _ r h => by simp [chunk_Size.j0] at h, fun _ _ r h => by simp [chunk_Size.j1] at h⟩
 | k + 1 => by
  obtain ⟨ih0, ih1⟩ := chunk_Size.mono_l k
  refine ⟨?_, ?_⟩
  ·intro y0 y1
   unfold chunk_Size.j0
   repeat' first
   | (with_reducible exact ih0 _ _)
   | (with_reducible exact ih1 _ _)
   | (with_reducible exact strconv_ParseUint.mono _ _ _ _)
   | (with_reducible exact LeO.refl _)
   | (with_reducible exact LeO.none _)
   | (with_reducible refine LeO.ite ?_ ?_)
   | (with_reducible refine LeO.bind ?_ (fun _ => ?_))
   | exact ih0 _ _
   | exact ih1 _ _
   | exact strconv_ParseUint.mono _ _ _ _
   | exact LeO.none _
   | refine LeO.ite ?_ ?_
   | refine LeO.bind ?_ (fun _ => ?_)
  ·intro y0 y1
   unfold chunk_Size.j1
   repeat' first
   | (with_reducible exact ih0 _ _)
   | (with_reducible exact ih1 _ _)
   | (with_reducible exact strconv_ParseUint.mono _ _ _ _)
   | (with_reducible exact LeO.refl _)
   | (with_reducible exact LeO.none _)
   | (with_reducible refine LeO.ite ?_ ?_)
   | (with_reducible refine LeO.bind ?_ (fun _ => ?_))
   | exact ih0 _ _
   | exact ih1 _ _
   | exact strconv_ParseUint.mono _ _ _ _
   | exact LeO.none _
   | refine LeO.ite ?_ ?_
   | refine LeO.bind ?_ (fun _ => ?_)
theorem chunk_Size.mono : ∀ a0 k, LeO (chunk_Size.f k a0) (chunk_Size.f (k + 1) a0) := by
 intro a0 k
 obtain ⟨ih0, ih1⟩ := chunk_Size.mono_l k
 unfold chunk_Size.f
 repeat' first
   | (with_reducible exact ih0 _ _)
   | (with_reducible exact ih1 _ _)
   | (with_reducible exact strconv_ParseUint.mono _ _ _ _)
   | (with_reducible exact LeO.refl _)
   | (with_reducible exact LeO.none _)
   | (with_reducible refine LeO.ite ?_ ?_)
   | (with_reducible refine LeO.bind ?_ (fun _ => ?_))
   | exact ih0 _ _
   | exact ih1 _ _
   | exact strconv_ParseUint.mono _ _ _ _
   | exact LeO.none _
   | refine LeO.ite ?_ ?_
   | refine LeO.bind ?_ (fun _ => ?_)
set_option maxHeartbeats 8000000 in
set_option maxRecDepth 100000 in
theorem chunk_Size.calls (k : Nat) (a0 : ByteArray) (r1 : Int) (r2 : Int) (w : World) (hLW : LW w) (h : chunk_Size.f k a0 = some (r1, r2)) :
  Calls Tryz.prog 88 #[.string a0] w fun e w' => e = .returned (.tuple #[.int .i64 r1, .int .i64 r2]) ∧ Below w.heap.size w w' := by
 have hu92 := Tryz.underlying92
 have HLW := Aside0.mk hLW
 clear hLW
 have HB := Aside0.mk (Below.refl w.heap.size w)
 have H := h
 unfold chunk_Size.f at H
 clear h
 have HC2 := Aside0.mk H
 clear H
 go_enter Tryz.func88, Tryz.ntmps88
 go_upto_region 1 with (fail)
 go_cut [13] (fun v13 wc => ∃ (kq : Nat) (x13_1 : Bool), v13 = .bool x13_1 ∧ Aside0 (chunk_Size.j0 kq a0 x13_1 = some (r1, r2)) ∧ Aside0 (kq ≤ k) ∧ Aside0 (Below w.heap.size w wc))
 case first =>
  have H := HC2.out
  clear HC2
  by_cases c3 : (a0.size : Int) > 256
  ·rw [if_pos c3] at H
   have c3b0 := decide_eq_true c3
   have c3b1 : decide (256 < a0.size) = true := decide_eq_true (by omega)
   clear c3
   (first | rw [c3b0] | (simp only [i64_w, i32_w]; rw [c3b0]) | skip)
   have H' := Aside0.mk H
   clear H
   go_wp2
   go_meet
   case rel => exact ⟨_, (true), sq_, H', ⟨by first | omega | exact Nat.le_refl _⟩, ⟨bq_⟩⟩
  ·rw [if_neg c3] at H
   have c3b0 := decide_eq_false c3
   have c3b1 : decide (256 < a0.size) = false := decide_eq_false (by omega)
   clear c3
   (first | rw [c3b0] | (simp only [i64_w, i32_w]; rw [c3b0]) | skip)
   replace H := Option.bind_eq_some_iff.mp H
   obtain ⟨t127, A40, H⟩ := H
   (try dsimp only at H)
   have A4 := Aside0.mk A40
   clear A40
   have H' := Aside0.mk H
   clear H
   go_wp2_with (first | (go_at_call 110; (with_reducible refine (strings_IndexByte.calls a0 13 t127 _ ?side1 A4.out).mono ?_); (case side1 => exact lw_); rintro e w5 ⟨rfl, hb⟩; replace HB := Aside0.mk (below_step bq_ hb)))
   go_meet
   case rel => exact ⟨_, (decide (t127 ≥ 0)), sq_, H', ⟨by first | omega | exact Nat.le_refl _⟩, ⟨bq_⟩⟩
 case rest =>
  clear HC2
  obtain ⟨kq, x13_1, rfl, HA, HJ1, HB⟩ := hcut
  cases kq with
  | zero => exact absurd HA.out (by simp [chunk_Size.j0])
  | succ kj1 =>
   have H := HA.out
   clear HA
   simp only [chunk_Size.j0] at H
   by_cases c6 : x13_1 = true
   ·subst c6
    replace H := ifT_ H
    simp only [Option.some.injEq, Prod.mk.injEq] at H
    obtain ⟨rfl, rfl⟩ := H
    go_wp2
    go_ret2
    exact ⟨rq_, bq_⟩
   ·replace c6 := Bool.eq_false_iff.mpr c6
    subst c6
    replace H := ifF_ H
    replace H := Option.bind_eq_some_iff.mp H
    obtain ⟨⟨t128, t129, t130⟩, A70, H⟩ := H
    (try dsimp only at H)
    have A7 := Aside0.mk A70
    clear A70
    have HC8 := Aside0.mk H
    clear H
    go_upto_region 4 with (first | ((with_reducible refine gate_callee (f := 52) rfl ?_); refine goesL_ (some 16) rfl rfl Tryz.func52 (by kernel_rfl) rfl #[.string a0, .string (⟨#[59]⟩ : ByteArray)] rfl lq_ ?_; (with_reducible refine (strings_Cut.calls a0 (⟨#[59]⟩ : ByteArray) t128 t129 t130 _ ?side1 A7.out).mono ?_); (case side1 => exact lw_); rintro e w9 ⟨rfl, hb⟩; refine ⟨_, rfl, ?_⟩; replace HB := Aside0.mk (below_step bq_ hb)))
    (try simp only [Act.put, List.setIfInBounds_toArray, List.set_cons_zero, List.set_cons_succ])
    go_cut [31] (fun v31 wc => ∃ (kq : Nat) (x31_7 : Bool), v31 = .bool x31_7 ∧ Aside0 (chunk_Size.j1 kq t128 x31_7 = some (r1, r2)) ∧ Aside0 (kq ≤ kj1) ∧ Aside0 (Below w.heap.size w wc))
    case first =>
     have H := HC8.out
     clear HC8
     by_cases c10 : t128.toList = ([] : List UInt8)
     ·rw [if_pos c10] at H
      have c10b0 := beq_iff_eq.mpr c10
      have c10b1 := bne_eq_false_iff_eq.mpr c10
      clear c10
      (first | rw [c10b0] | (simp only [i64_w, i32_w]; rw [c10b0]) | skip)
      have H' := Aside0.mk H
      clear H
      go_wp2
      go_meet
      case rel => exact ⟨_, (true), sq_, H', ⟨by have := HJ1.out; first | omega | exact Nat.le_refl _⟩, ⟨bq_⟩⟩
     ·rw [if_neg c10] at H
      have c10b0 := beq_eq_false_iff_ne.mpr c10
      have c10b1 := bne_iff_ne.mpr c10
      (first | rw [c10b0] | (simp only [i64_w, i32_w]; rw [c10b0]) | skip)
      by_cases c11 : (t128.size : Int) > 8
      ·rw [if_pos c11] at H
       have c11b0 := decide_eq_true c11
       have c11b1 : decide (8 < t128.size) = true := decide_eq_true (by omega)
       clear c11
       have H' := Aside0.mk H
       clear H
       go_wp2
       go_meet
       case rel => exact ⟨_, (true), sq_, H', ⟨by have := HJ1.out; first | omega | exact Nat.le_refl _⟩, ⟨bq_⟩⟩
      ·rw [if_neg c11] at H
       have c11b0 := decide_eq_false c11
       have c11b1 : decide (8 < t128.size) = false := decide_eq_false (by omega)
       clear c11
       replace H := Option.bind_eq_some_iff.mp H
       obtain ⟨t131, A120, H⟩ := H
       (try dsimp only at H)
       have A12 := Aside0.mk A120
       clear A120
       have H' := Aside0.mk H
       clear H
       go_wp2_with (first | (go_at_call 51; (with_reducible refine (strings_Trim.calls t128 (⟨#[48, 49, 50, 51, 52, 53, 54, 55, 56, 57, 97, 98, 99, 100, 101, 102, 65, 66, 67, 68, 69, 70]⟩ : ByteArray) t131 _ ?side1 A12.out).mono ?_); (case side1 => exact lw_); rintro e w13 ⟨rfl, hb⟩; replace HB := Aside0.mk (below_step bq_ hb)))
       go_meet
       case rel => exact ⟨_, ((t131.toList != ([] : List UInt8))), sq_, H', ⟨by have := HJ1.out; first | omega | exact Nat.le_refl _⟩, ⟨bq_⟩⟩
    case rest =>
     clear HC8
     obtain ⟨kq, x31_7, rfl, HA, HJ7, HB⟩ := hcut
     cases kq with
     | zero => exact absurd HA.out (by simp [chunk_Size.j1])
     | succ kj7 =>
      have H := HA.out
      clear HA
      simp only [chunk_Size.j1] at H
      by_cases c14 : x31_7 = true
      ·subst c14
       replace H := ifT_ H
       simp only [Option.some.injEq, Prod.mk.injEq] at H
       obtain ⟨rfl, rfl⟩ := H
       go_wp2
       go_ret2
       exact ⟨rq_, bq_⟩
      ·replace c14 := Bool.eq_false_iff.mpr c14
       subst c14
       replace H := ifF_ H
       replace H := Option.bind_eq_some_iff.mp H
       obtain ⟨⟨t132, t133⟩, A150, H⟩ := H
       (try dsimp only at H)
       have A15 := Aside0.mk A150
       clear A150
       rcases t133 with _ | q134
       ·have H1 : (some (wrap64 (t132), 0)) = some (r1, r2) := by rw [if_pos (show (none : Option Int).isNone = true by rfl)] at H; exact H
        clear H
        have H := H1
        clear H1
        try simp only [errW_none, errW_some]
        simp only [Option.some.injEq, Prod.mk.injEq] at H
        obtain ⟨rfl, rfl⟩ := H
        go_wp2_with (first | ((with_reducible refine gate_callee (f := 111) rfl ?_); refine goesL_ (some 34) rfl rfl Tryz.func111 (by kernel_rfl) rfl #[.string t128, .int .i64 16, .int .i64 64] rfl lq_ ?_; (with_reducible refine (strconv_ParseUint.calls kj7 t128 16 64 t132 none _ ?side1 A15.out).mono ?_); (case side1 => exact lw_); rintro e w16 ⟨rfl, hb⟩; refine ⟨_, rfl, ?_⟩; replace HB := Aside0.mk (below_step bq_ hb); (try simp only [errW_none, errW_some])))
        go_ret2
        exact ⟨rq_, bq_⟩
       ·have H1 : (some (0, 5)) = some (r1, r2) := by rw [if_neg (show ¬ (some q134).isNone = true by simp)] at H; exact H
        clear H
        have H := H1
        clear H1
        try simp only [errW_none, errW_some]
        simp only [Option.some.injEq, Prod.mk.injEq] at H
        obtain ⟨rfl, rfl⟩ := H
        go_wp2_with (first | ((with_reducible refine gate_callee (f := 111) rfl ?_); refine goesL_ (some 34) rfl rfl Tryz.func111 (by kernel_rfl) rfl #[.string t128, .int .i64 16, .int .i64 64] rfl lq_ ?_; (with_reducible refine (strconv_ParseUint.calls kj7 t128 16 64 t132 (some q134) _ ?side1 A15.out).mono ?_); (case side1 => exact lw_); rintro e w17 ⟨rfl, hb⟩; refine ⟨_, rfl, ?_⟩; replace HB := Aside0.mk (below_step bq_ hb); (try simp only [errW_none, errW_some])))
        go_ret2
        exact ⟨rq_, bq_⟩

end Go.Proofs.YtipleegkonhfcaaGreatDoor.P
