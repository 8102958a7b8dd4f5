import Derived.Test.YtipleegkonhfcaaGreatDoorKT4
import Derived.Test.YtipleegkonhfcaaGreatDoorKT5
namespace Go.Proofs.YtipleegkonhfcaaGreatDoor.KT
open Go.Proofs.YtipleegkonhfcaaGreatDoorZ
open Go.Proofs.YtipleegkonhfcaaGreatDoor.E Go.Proofs.YtipleegkonhfcaaGreatDoorV
open Go.Proofs.YtipleegkonhfcaaGreatDoor.U
open Go.Proofs.YtipleegkonhfcaaGreatDoor.KF
open Go.Proofs.YtipleegkonhfcaaGreatDoor.P
open Go.Proofs.YtipleegkonhfcaaGreatDoor.KH
open Go.Proofs.YtipleegkonhfcaaGreatDoor.KA
open Go.Proofs.YtipleegkonhfcaaGreatDoor.KQ
open Go.RowKit Go.Proofs.YtipleegkonhfcaaGreatDoorW.PrintWords Go.Proofs.YtipleegkonhfcaaGreatDoorW.PrintLast Go.Proofs.YtipleegkonhfcaaGreatDoorW.PrintMore
attribute [local go_sem] max2_int min2_int max_two min_two max_three min_three max_four min_four   -- for this text's walks alone
set_option linter.unusedVariables false
set_option linter.unusedSimpArgs false

def lanternlaw11_HttpResponses.j0 : Nat → List Int → Bool → Int → ByteArray → List (S67) → List Int → Option (Bool)
 | 0, _, _, _, _, _, _ => none
 | k + 1, x1, x25, V0, V1, V2, V3 => if x25 = true then ((lanternlaw11_awake.f k).bind fun t175 => (some t175)) else ((http_PrintResponse.f k V0 V1 V2 V3).bind fun bt176 => ((lanternref11_MayResponse.f k V0 V1 V2 V3).bind fun t180 => (if t180 = true then ((http_CheckResponse.f k V0 V1 V2 V3).bind fun t183 => (if t183 = 0 then (if bt176.2 = 0 then ((lanternref11_Response.f k V0 V1 V2 V3).bind fun t184 => (if (strOfNums bt176.1).toList = (strOfNums t184).toList then ((some (([] : List Int) : List Int)).bind fun y187 => (if y187.length + bt176.1.length < 140737488355328 then ((some (y187 ++ bt176.1 : List Int)).bind fun y190 => (if y190.length + x1.length < 140737488355328 then ((http_ParseResponse.f k (y190 ++ x1)).bind fun bt196 => ((lanternref11_Bare.f V0).bind fun t207 => (if t207 = true then (if bt196.2.2.2.2.2 = 0 then (if bt196.2.2.2.2.1 = (bt176.1.length : Int) then ((lanternref11_SameResponse.f k bt196.1 bt196.2.1 bt196.2.2.1 bt196.2.2.2.1 V0 V1 V2 V3).bind fun t208 => (if t208 = true then ((lanternlaw11_awake.f k).bind fun t209 => (some t209)) else (none))) else (none)) else (none)) else ((lanternref11_With.f k V2 (V3.length : Int)).bind fun t210 => (if bt196.2.2.2.2.2 = 0 then (if bt196.2.2.2.2.1 = (bt176.1.length : Int) then ((lanternref11_SameResponse.f k bt196.1 bt196.2.1 bt196.2.2.1 bt196.2.2.2.1 V0 V1 t210 V3).bind fun t213 => (if t213 = true then ((lanternlaw11_awake.f k).bind fun t214 => (some t214)) else (none))) else (none)) else (none)))))) else (none))) else (none))) else (none))) else (none)) else (none))) else ((http_CheckResponse.f k V0 V1 V2 V3).bind fun t181 => (if t181 = 1 then (if bt176.2 = 1 then (if (bt176.1.length : Int) = 0 then ((lanternlaw11_awake.f k).bind fun t182 => (some t182)) else (none)) else (none)) else (none))))))
def lanternlaw11_HttpResponses.f (k : Nat) (z0 : Int) (z1 : ByteArray) (l0_2 : List (S67)) (l0_3 : List Int) (l1 : List Int) : Option (Bool) := (lanternlaw11_light.f k l0_2 l0_3).bind fun t174 => (if t174 = true then (if (z1.size : Int) > 5000 then (lanternlaw11_HttpResponses.j0 k l1 true z0 z1 l0_2 l0_3) else (lanternlaw11_HttpResponses.j0 k l1 (decide ((l1.length : Int) > 1000)) z0 z1 l0_2 l0_3)) else (lanternlaw11_HttpResponses.j0 k l1 true z0 z1 l0_2 l0_3))
theorem lanternlaw11_HttpResponses.mono_l : ∀ k, (∀ y0 y1 y2 y3 y4 y5, LeO (lanternlaw11_HttpResponses.j0 k y0 y1 y2 y3 y4 y5) (lanternlaw11_HttpResponses.j0 (k + 1) y0 y1 y2 y3 y4 y5))
 | 0 => fun _ _ _ _ _ _ r h => by simp [lanternlaw11_HttpResponses.j0] at h
 | k + 1 => by
  have ih0 := lanternlaw11_HttpResponses.mono_l k
  ·intro y0 y1 y2 y3 y4 y5
   unfold lanternlaw11_HttpResponses.j0
   repeat' first
   | (with_reducible exact ih0 _ _ _ _ _ _)
   | (with_reducible exact http_CheckResponse.mono _ _ _ _ _)
   | (with_reducible exact http_ParseResponse.mono _ _)
   | (with_reducible exact http_PrintResponse.mono _ _ _ _ _)
   | (with_reducible exact lanternlaw11_awake.mono _)
   | (with_reducible exact lanternlaw11_light.mono _ _ _)
   | (with_reducible exact lanternref11_MayResponse.mono _ _ _ _ _)
   | (with_reducible exact lanternref11_Response.mono _ _ _ _ _)
   | (with_reducible exact lanternref11_SameResponse.mono _ _ _ _ _ _ _ _ _)
   | (with_reducible exact lanternref11_With.mono _ _ _)
   | (with_reducible exact LeO.refl _)
   | (with_reducible exact LeO.none _)
   | (with_reducible refine LeO.ite ?_ ?_)
   | (with_reducible refine LeO.bind ?_ (fun _ => ?_))
   | exact ih0 _ _ _ _ _ _
   | exact http_CheckResponse.mono _ _ _ _ _
   | exact http_ParseResponse.mono _ _
   | exact http_PrintResponse.mono _ _ _ _ _
   | exact lanternlaw11_awake.mono _
   | exact lanternlaw11_light.mono _ _ _
   | exact lanternref11_MayResponse.mono _ _ _ _ _
   | exact lanternref11_Response.mono _ _ _ _ _
   | exact lanternref11_SameResponse.mono _ _ _ _ _ _ _ _ _
   | exact lanternref11_With.mono _ _ _
   | exact LeO.none _
   | refine LeO.ite ?_ ?_
   | refine LeO.bind ?_ (fun _ => ?_)
theorem lanternlaw11_HttpResponses.mono : ∀ a0 a1 a2 a3 a4 k, LeO (lanternlaw11_HttpResponses.f k a0 a1 a2 a3 a4) (lanternlaw11_HttpResponses.f (k + 1) a0 a1 a2 a3 a4) := by
 intro a0 a1 a2 a3 a4 k
 have ih0 := lanternlaw11_HttpResponses.mono_l k
 unfold lanternlaw11_HttpResponses.f
 repeat' first
   | (with_reducible exact ih0 _ _ _ _ _ _)
   | (with_reducible exact http_CheckResponse.mono _ _ _ _ _)
   | (with_reducible exact http_ParseResponse.mono _ _)
   | (with_reducible exact http_PrintResponse.mono _ _ _ _ _)
   | (with_reducible exact lanternlaw11_awake.mono _)
   | (with_reducible exact lanternlaw11_light.mono _ _ _)
   | (with_reducible exact lanternref11_MayResponse.mono _ _ _ _ _)
   | (with_reducible exact lanternref11_Response.mono _ _ _ _ _)
   | (with_reducible exact lanternref11_SameResponse.mono _ _ _ _ _ _ _ _ _)
   | (with_reducible exact lanternref11_With.mono _ _ _)
   | (with_reducible exact LeO.refl _)
   | (with_reducible exact LeO.none _)
   | (with_reducible refine LeO.ite ?_ ?_)
   | (with_reducible refine LeO.bind ?_ (fun _ => ?_))
   | exact ih0 _ _ _ _ _ _
   | exact http_CheckResponse.mono _ _ _ _ _
   | exact http_ParseResponse.mono _ _
   | exact http_PrintResponse.mono _ _ _ _ _
   | exact lanternlaw11_awake.mono _
   | exact lanternlaw11_light.mono _ _ _
   | exact lanternref11_MayResponse.mono _ _ _ _ _
   | exact lanternref11_Response.mono _ _ _ _ _
   | exact lanternref11_SameResponse.mono _ _ _ _ _ _ _ _ _
   | exact lanternref11_With.mono _ _ _
   | exact LeO.none _
   | refine LeO.ite ?_ ?_
   | refine LeO.bind ?_ (fun _ => ?_)
def lanternlaw11_HttpResponses.T6 : Bool × List (List Nat × List Nat) := (true, [([], []), ([0], [0]), ([1], [1]), ([2, 1], [2]), ([3], [3]), ([4, 3], [3, 4]), ([3, 5], [3, 5]), ([6, 3], [6]), ([7], [7]), ([8, 7], [7, 8]), ([7], [7]), ([10, 7, 7], [7, 10]), ([11, 7], [7, 11]), ([9, 12, 7], [7, 9, 12]), ([7, 13], [7, 13])])
def lanternlaw11_HttpResponses.B6 : List Nat := [0, 1, 3, 7, 15, 31, 63, 127, 255, 511, 255, 1279, 3327, 8191, 16383]
theorem lanternlaw11_HttpResponses.tab6 : rtab .any (opsOf Tryz.f5 6) = lanternlaw11_HttpResponses.T6 := by kernel_rfl
theorem lanternlaw11_HttpResponses.bits6 : waitsOk lanternlaw11_HttpResponses.T6.2 lanternlaw11_HttpResponses.B6 = true := by kernel_rfl
set_option maxHeartbeats 8000000 in
set_option maxRecDepth 100000 in
theorem lanternlaw11_HttpResponses.calls (k : Nat) (z0 : Int) (z1 : ByteArray) (A0_2 : Option Addr) (c0_2 : Nat) (l0_2 : List (S67)) (A0_3 : Option Addr) (c0_3 : Nat) (l0_3 : List Int) (A1 : Option Addr) (c1 : Nat) (l1 : List Int) (r : Bool) (w : World) (hLW : LW w) (hr0_2 : Kd.C k67 w A0_2 l0_2.length l0_2) (hc0_2 : l0_2.length ≤ c0_2) (hr0_3 : Kd.C (Kd.int .u8) w A0_3 l0_3.length l0_3) (hc0_3 : l0_3.length ≤ c0_3) (hr1 : Kd.C (Kd.int .u8) w A1 l1.length l1) (hc1 : l1.length ≤ c1) (h : lanternlaw11_HttpResponses.f k z0 z1 l0_2 l0_3 l1 = some r) :
  Calls Tryz.prog 5 #[.agg #[.int .i64 z0, .string z1, .slice A0_2 l0_2.length c0_2, .slice A0_3 l0_3.length c0_3], .slice A1 l1.length c1] w fun e w' => e = .returned (.bool r) ∧ Below w.heap.size w w' := by
 have hu41 := Tryz.underlying41
 have HLW := Aside0.mk hLW
 clear hLW
 have HR0_2 := Aside0.mk hr0_2
 have HC0_2 := Aside0.mk hc0_2
 clear hr0_2 hc0_2
 have HR0_3 := Aside0.mk hr0_3
 have HC0_3 := Aside0.mk hc0_3
 clear hr0_3 hc0_3
 have HR1 := Aside0.mk hr1
 have HC1 := Aside0.mk hc1
 clear hr1 hc1
 have HB := Aside0.mk (Below.refl w.heap.size w)
 have H := h
 unfold lanternlaw11_HttpResponses.f at H
 clear h
 have HC3 := Aside0.mk H
 clear H
 go_enter Tryz.func5, Tryz.ntmps5
 go_upto_region 1 with (first | ((with_reducible refine gate_dst (N := 2) rfl ?_); (try (refine gate_guard (by rfl) ?_; dsimp only)); refine bx_ 2 #[.int .i64 z0, .string z1, .slice A0_2 l0_2.length c0_2, .slice A0_3 l0_3.length c0_3] 41 ?_; intro gb173 hg w4 hbox hb; have BK173 := Aside0.mk (hbox); have GW173 := Aside0.mk (ge_ (w := w) hg); have GE173 := Aside0.mk (ge_ (w := w) hg); replace HB := Aside0.mk (below_step bq_ hb); clear hb hbox hg))
 (try simp only [Act.put, List.setIfInBounds_toArray, List.set_cons_zero, List.set_cons_succ])
 go_cut [25] (fun v25 wc => ∃ (kq : Nat) (x25_2 : Bool), v25 = .bool x25_2 ∧ Aside0 (lanternlaw11_HttpResponses.j0 kq l1 x25_2 z0 z1 l0_2 l0_3 = some r) ∧ Aside0 (kq ≤ k) ∧ Aside0 (wc.heap[gb173]? = some (.cells #[.int .i64 z0, .string z1, (.slice A0_2 l0_2.length c0_2), (.slice A0_3 l0_3.length c0_3)] 41 (0, 0))) ∧ Aside0 (Below w.heap.size w wc))
 case first =>
  have H := HC3.out
  clear HC3
  replace H := Option.bind_eq_some_iff.mp H
  obtain ⟨t174, A50, H⟩ := H
  (try dsimp only at H)
  have A5 := Aside0.mk A50
  clear A50
  by_cases c6 : t174 = true
  ·subst c6
   replace H := ifT_ H
   by_cases c7 : (z1.size : Int) > 5000
   ·rw [if_pos c7] at H
    have c7b0 := decide_eq_true c7
    have c7b1 : decide (5000 < z1.size) = true := decide_eq_true (by omega)
    clear c7
    (first | rw [c7b0] | rw [c7b1] | (simp only [i64_w, i32_w]; rw [c7b0]) | skip)
    have H' := Aside0.mk H
    clear H
    have hcz8_0 := cz_ BK173 0 (.int .i64 z0)
    have hcz8_1 := cz_ BK173 1 (.string z1)
    have hcz8_2 := cz_ BK173 2 (.slice A0_2 l0_2.length c0_2)
    have hcz8_3 := cz_ BK173 3 (.slice A0_3 l0_3.length c0_3)
    have hfz8_0 := bf_ BK173 0
    have hfz8_1 := bf_ BK173 1
    have hfz8_2 := bf_ BK173 2
    have hfz8_3 := bf_ BK173 3
    go_wp2_with (first | ((with_reducible refine gate_callee (f := 10) rfl ?_); refine goesL_ (some 13) rfl rfl Tryz.func10 (by kernel_rfl) rfl #[.slice A0_2 l0_2.length c0_2, .slice A0_3 l0_3.length c0_3] rfl lq_ ?_; (with_reducible refine (lanternlaw11_light.calls k _ _ l0_2 _ _ l0_3 true _ ?side5 ?side1 ?side2 ?side3 ?side4 A5.out).mono ?_); (case side1 => repeat (first | exact (Kd.C_below HR0_2.out HB.out) | (with_reducible refine Kd.C_alloc ?_ _) | (with_reducible refine Kd.C_drewN ?_ _) | (with_reducible refine Kd.C_drew ?_))); (case side2 => exact HC0_2.out); (case side3 => repeat (first | exact (Kd.C_below HR0_3.out HB.out) | (with_reducible refine Kd.C_alloc ?_ _) | (with_reducible refine Kd.C_drewN ?_ _) | (with_reducible refine Kd.C_drew ?_))); (case side4 => exact HC0_3.out); (case side5 => exact lg_); rintro e w' ⟨rfl, ⟨nd, rfl⟩⟩; refine ⟨_, rfl, ?_⟩))
    go_meet
    case rel => exact ⟨_, (true), sq_, H', ⟨by first | omega | exact Nat.le_refl _⟩, ⟨bk_⟩, ⟨bg_⟩⟩
   ·rw [if_neg c7] at H
    have c7b0 := decide_eq_false c7
    have c7b1 : decide (5000 < z1.size) = false := decide_eq_false (by omega)
    clear c7
    (first | rw [c7b0] | rw [c7b1] | (simp only [i64_w, i32_w]; rw [c7b0]) | skip)
    have H' := Aside0.mk H
    clear H
    have hcz9_0 := cz_ BK173 0 (.int .i64 z0)
    have hcz9_1 := cz_ BK173 1 (.string z1)
    have hcz9_2 := cz_ BK173 2 (.slice A0_2 l0_2.length c0_2)
    have hcz9_3 := cz_ BK173 3 (.slice A0_3 l0_3.length c0_3)
    have hfz9_0 := bf_ BK173 0
    have hfz9_1 := bf_ BK173 1
    have hfz9_2 := bf_ BK173 2
    have hfz9_3 := bf_ BK173 3
    go_wp2_with (first | ((with_reducible refine gate_callee (f := 10) rfl ?_); refine goesL_ (some 13) rfl rfl Tryz.func10 (by kernel_rfl) rfl #[.slice A0_2 l0_2.length c0_2, .slice A0_3 l0_3.length c0_3] rfl lq_ ?_; (with_reducible refine (lanternlaw11_light.calls k _ _ l0_2 _ _ l0_3 true _ ?side5 ?side1 ?side2 ?side3 ?side4 A5.out).mono ?_); (case side1 => repeat (first | exact (Kd.C_below HR0_2.out HB.out) | (with_reducible refine Kd.C_alloc ?_ _) | (with_reducible refine Kd.C_drewN ?_ _) | (with_reducible refine Kd.C_drew ?_))); (case side2 => exact HC0_2.out); (case side3 => repeat (first | exact (Kd.C_below HR0_3.out HB.out) | (with_reducible refine Kd.C_alloc ?_ _) | (with_reducible refine Kd.C_drewN ?_ _) | (with_reducible refine Kd.C_drew ?_))); (case side4 => exact HC0_3.out); (case side5 => exact lg_); rintro e w' ⟨rfl, ⟨nd, rfl⟩⟩; refine ⟨_, rfl, ?_⟩))
    go_meet
    case rel => exact ⟨_, (decide ((l1.length : Int) > 1000)), sq_, H', ⟨by first | omega | exact Nat.le_refl _⟩, ⟨bk_⟩, ⟨bg_⟩⟩
  ·replace c6 := Bool.eq_false_iff.mpr c6
   subst c6
   replace H := ifF_ H
   have H' := Aside0.mk H
   clear H
   have hcz10_0 := cz_ BK173 0 (.int .i64 z0)
   have hcz10_1 := cz_ BK173 1 (.string z1)
   have hcz10_2 := cz_ BK173 2 (.slice A0_2 l0_2.length c0_2)
   have hcz10_3 := cz_ BK173 3 (.slice A0_3 l0_3.length c0_3)
   have hfz10_0 := bf_ BK173 0
   have hfz10_1 := bf_ BK173 1
   have hfz10_2 := bf_ BK173 2
   have hfz10_3 := bf_ BK173 3
   go_wp2_with (first | ((with_reducible refine gate_callee (f := 10) rfl ?_); refine goesL_ (some 13) rfl rfl Tryz.func10 (by kernel_rfl) rfl #[.slice A0_2 l0_2.length c0_2, .slice A0_3 l0_3.length c0_3] rfl lq_ ?_; (with_reducible refine (lanternlaw11_light.calls k _ _ l0_2 _ _ l0_3 false _ ?side5 ?side1 ?side2 ?side3 ?side4 A5.out).mono ?_); (case side1 => repeat (first | exact (Kd.C_below HR0_2.out HB.out) | (with_reducible refine Kd.C_alloc ?_ _) | (with_reducible refine Kd.C_drewN ?_ _) | (with_reducible refine Kd.C_drew ?_))); (case side2 => exact HC0_2.out); (case side3 => repeat (first | exact (Kd.C_below HR0_3.out HB.out) | (with_reducible refine Kd.C_alloc ?_ _) | (with_reducible refine Kd.C_drewN ?_ _) | (with_reducible refine Kd.C_drew ?_))); (case side4 => exact HC0_3.out); (case side5 => exact lg_); rintro e w' ⟨rfl, ⟨nd, rfl⟩⟩; refine ⟨_, rfl, ?_⟩))
   go_meet
   case rel => exact ⟨_, (true), sq_, H', ⟨by first | omega | exact Nat.le_refl _⟩, ⟨bk_⟩, ⟨bg_⟩⟩
 case rest =>
  clear HC3
  obtain ⟨kq, x25_2, rfl, HA, HJ2, BK173, HB⟩ := hcut
  cases kq with
  | zero => exact absurd HA.out (by simp [lanternlaw11_HttpResponses.j0])
  | succ kj2 =>
   have H := HA.out
   clear HA
   simp only [lanternlaw11_HttpResponses.j0] at H
   by_cases c11 : x25_2 = true
   ·subst c11
    replace H := ifT_ H
    replace H := Option.bind_eq_some_iff.mp H
    obtain ⟨t175, A120, H⟩ := H
    (try dsimp only at H)
    have A12 := Aside0.mk A120
    clear A120
    obtain rfl := Option.some.inj H
    go_wp2_with (first | ((with_reducible refine gate_callee (f := 6) rfl ?_); refine goesL_ (some 26) rfl rfl Tryz.func6 (by kernel_rfl) rfl #[] rfl lq_ ?_; (with_reducible refine (lanternlaw11_awake.calls kj2  t175 _ ?side1 A12.out).mono ?_); (case side1 => exact lg_); rintro e w13 ⟨rfl, hb⟩; refine ⟨_, rfl, ?_⟩; replace BK173 := Aside0.mk (bb_ BK173 hb); replace HB := Aside0.mk (below_step bg_ hb)))
    go_ret
    exact ⟨rq_, bg_⟩
   ·replace c11 := Bool.eq_false_iff.mpr c11
    subst c11
    replace H := ifF_ H
    replace H := Option.bind_eq_some_iff.mp H
    obtain ⟨⟨t176, t179⟩, A140, H⟩ := H
    (try dsimp only at H)
    have A14 := Aside0.mk A140
    clear A140
    replace H := Option.bind_eq_some_iff.mp H
    obtain ⟨t180, A150, H⟩ := H
    (try dsimp only at H)
    have A15 := Aside0.mk A150
    clear A150
    by_cases c16 : t180 = true
    ·subst c16
     replace H := ifT_ H
     replace H := Option.bind_eq_some_iff.mp H
     obtain ⟨t183, A170, H⟩ := H
     (try dsimp only at H)
     have A17 := Aside0.mk A170
     clear A170
     by_cases c18 : t183 = 0
     ·rw [if_pos c18] at H
      have c18b0 := beq_iff_eq.mpr c18
      have c18b1 := bne_eq_false_iff_eq.mpr c18
      clear c18
      by_cases c19 : t179 = 0
      ·rw [if_pos c19] at H
       have c19b0 := beq_iff_eq.mpr c19
       have c19b1 := bne_eq_false_iff_eq.mpr c19
       clear c19
       replace H := Option.bind_eq_some_iff.mp H
       obtain ⟨t184, A200, H⟩ := H
       (try dsimp only at H)
       have A20 := Aside0.mk A200
       clear A200
       by_cases c21 : (strOfNums t176).toList = (strOfNums t184).toList
       ·rw [if_pos c21] at H
        have c21b0 := beq_iff_eq.mpr c21
        have c21b1 := bne_eq_false_iff_eq.mpr c21
        clear c21
        obtain ⟨y187, hy187⟩ : ∃ y_ : List Int, y_ = (([] : List Int)) := ⟨_, rfl⟩
        replace H : (if y187.length + t176.length < 140737488355328 then ((some (y187 ++ t176 : List Int)).bind fun y190 => (if y190.length + l1.length < 140737488355328 then ((http_ParseResponse.f kj2 (y190 ++ l1)).bind fun bt196 => ((lanternref11_Bare.f z0).bind fun t207 => (if t207 = true then (if bt196.2.2.2.2.2 = 0 then (if bt196.2.2.2.2.1 = (t176.length : Int) then ((lanternref11_SameResponse.f kj2 bt196.1 bt196.2.1 bt196.2.2.1 bt196.2.2.2.1 z0 z1 l0_2 l0_3).bind fun t208 => (if t208 = true then ((lanternlaw11_awake.f kj2).bind fun t209 => (some t209)) else (none))) else (none)) else (none)) else ((lanternref11_With.f kj2 l0_2 (l0_3.length : Int)).bind fun t210 => (if bt196.2.2.2.2.2 = 0 then (if bt196.2.2.2.2.1 = (t176.length : Int) then ((lanternref11_SameResponse.f kj2 bt196.1 bt196.2.1 bt196.2.2.1 bt196.2.2.2.1 z0 z1 t210 l0_3).bind fun t213 => (if t213 = true then ((lanternlaw11_awake.f kj2).bind fun t214 => (some t214)) else (none))) else (none)) else (none)))))) else (none))) else (none)) = some r := by first | (rw [hy187]; with_reducible exact H) | (have H2_ := (Option.bind_some _ _).symm.trans H; rw [hy187]; with_reducible exact H2_) | (have H2_ := (Option.bind_some _ _).symm.trans H; with_reducible exact H2_) | with_reducible exact H | (rw [hy187]; exact H) | exact H
        have Ny187 := Aside0.mk hy187
        clear hy187
        by_cases c22 : y187.length + t176.length < 140737488355328
        ·rw [if_pos c22] at H
         have LMc22 := Aside0.mk c22
         clear c22
         obtain ⟨y190, hy190⟩ : ∃ y_ : List Int, y_ = (y187 ++ t176) := ⟨_, rfl⟩
         replace H : (if y190.length + l1.length < 140737488355328 then ((http_ParseResponse.f kj2 (y190 ++ l1)).bind fun bt196 => ((lanternref11_Bare.f z0).bind fun t207 => (if t207 = true then (if bt196.2.2.2.2.2 = 0 then (if bt196.2.2.2.2.1 = (t176.length : Int) then ((lanternref11_SameResponse.f kj2 bt196.1 bt196.2.1 bt196.2.2.1 bt196.2.2.2.1 z0 z1 l0_2 l0_3).bind fun t208 => (if t208 = true then ((lanternlaw11_awake.f kj2).bind fun t209 => (some t209)) else (none))) else (none)) else (none)) else ((lanternref11_With.f kj2 l0_2 (l0_3.length : Int)).bind fun t210 => (if bt196.2.2.2.2.2 = 0 then (if bt196.2.2.2.2.1 = (t176.length : Int) then ((lanternref11_SameResponse.f kj2 bt196.1 bt196.2.1 bt196.2.2.1 bt196.2.2.2.1 z0 z1 t210 l0_3).bind fun t213 => (if t213 = true then ((lanternlaw11_awake.f kj2).bind fun t214 => (some t214)) else (none))) else (none)) else (none)))))) else (none)) = some r := by first | (rw [hy190]; with_reducible exact H) | (have H2_ := (Option.bind_some _ _).symm.trans H; rw [hy190]; with_reducible exact H2_) | (have H2_ := (Option.bind_some _ _).symm.trans H; with_reducible exact H2_) | with_reducible exact H | (rw [hy190]; exact H) | exact H
         have Ny190 := Aside0.mk hy190
         clear hy190
         by_cases c23 : y190.length + l1.length < 140737488355328
         ·rw [if_pos c23] at H
          have LMc23 := Aside0.mk c23
          clear c23
          obtain ⟨y193, hy193⟩ : ∃ y_ : List Int, y_ = (y190 ++ l1) := ⟨_, rfl⟩
          replace H : ((http_ParseResponse.f kj2 y193).bind fun bt196 => ((lanternref11_Bare.f z0).bind fun t207 => (if t207 = true then (if bt196.2.2.2.2.2 = 0 then (if bt196.2.2.2.2.1 = (t176.length : Int) then ((lanternref11_SameResponse.f kj2 bt196.1 bt196.2.1 bt196.2.2.1 bt196.2.2.2.1 z0 z1 l0_2 l0_3).bind fun t208 => (if t208 = true then ((lanternlaw11_awake.f kj2).bind fun t209 => (some t209)) else (none))) else (none)) else (none)) else ((lanternref11_With.f kj2 l0_2 (l0_3.length : Int)).bind fun t210 => (if bt196.2.2.2.2.2 = 0 then (if bt196.2.2.2.2.1 = (t176.length : Int) then ((lanternref11_SameResponse.f kj2 bt196.1 bt196.2.1 bt196.2.2.1 bt196.2.2.2.1 z0 z1 t210 l0_3).bind fun t213 => (if t213 = true then ((lanternlaw11_awake.f kj2).bind fun t214 => (some t214)) else (none))) else (none)) else (none)))))) = some r := by first | (rw [hy193]; with_reducible exact H) | (have H2_ := (Option.bind_some _ _).symm.trans H; rw [hy193]; with_reducible exact H2_) | (have H2_ := (Option.bind_some _ _).symm.trans H; with_reducible exact H2_) | with_reducible exact H | (rw [hy193]; exact H) | exact H
          have Ny193 := Aside0.mk hy193
          clear hy193
          replace H := Option.bind_eq_some_iff.mp H
          obtain ⟨⟨t196, t197, t198, t201, t204, t205⟩, A240, H⟩ := H
          (try dsimp only at H)
          have A24 := Aside0.mk A240
          clear A240
          replace H := Option.bind_eq_some_iff.mp H
          obtain ⟨t207, A250, H⟩ := H
          (try dsimp only at H)
          have A25 := Aside0.mk A250
          clear A250
          by_cases c26 : t207 = true
          ·subst c26
           replace H := ifT_ H
           by_cases c27 : t205 = 0
           ·rw [if_pos c27] at H
            have c27b0 := beq_iff_eq.mpr c27
            have c27b1 := bne_eq_false_iff_eq.mpr c27
            clear c27
            by_cases c28 : t204 = (t176.length : Int)
            ·rw [if_pos c28] at H
             have c28b0 := beq_iff_eq.mpr c28
             have c28b1 := bne_eq_false_iff_eq.mpr c28
             clear c28
             replace H := Option.bind_eq_some_iff.mp H
             obtain ⟨t208, A290, H⟩ := H
             (try dsimp only at H)
             have A29 := Aside0.mk A290
             clear A290
             by_cases c30 : t208 = true
             ·subst c30
              replace H := ifT_ H
              replace H := Option.bind_eq_some_iff.mp H
              obtain ⟨t209, A310, H⟩ := H
              (try dsimp only at H)
              have A31 := Aside0.mk A310
              clear A310
              obtain rfl := Option.some.inj H
              have hcz32_0 := cz_ BK173 0 (.int .i64 z0)
              have hcz32_1 := cz_ BK173 1 (.string z1)
              have hcz32_2 := cz_ BK173 2 (.slice A0_2 l0_2.length c0_2)
              have hcz32_3 := cz_ BK173 3 (.slice A0_3 l0_3.length c0_3)
              have hfz32_0 := bf_ BK173 0
              have hfz32_1 := bf_ BK173 1
              have hfz32_2 := bf_ BK173 2
              have hfz32_3 := bf_ BK173 3
              try go_wp2_with (first | ((with_reducible refine gate_callee (f := 16) rfl ?_); refine goesL_ (some 29) rfl rfl Tryz.func16 (by kernel_rfl) rfl #[.agg #[.int .i64 z0, .string z1, .slice A0_2 l0_2.length c0_2, .slice A0_3 l0_3.length c0_3]] rfl lq_ ?_; (with_reducible refine (http_PrintResponse.calls kj2 z0 z1 _ _ l0_2 _ _ l0_3 t176 t179 _ ?side5 ?side1 ?side2 ?side3 ?side4 A14.out).mono ?_); (case side1 => repeat (first | exact (Kd.C_below HR0_2.out HB.out) | (with_reducible refine Kd.C_alloc ?_ _) | (with_reducible refine Kd.C_drewN ?_ _) | (with_reducible refine Kd.C_drew ?_))); (case side2 => exact HC0_2.out); (case side3 => repeat (first | exact (Kd.C_below HR0_3.out HB.out) | (with_reducible refine Kd.C_alloc ?_ _) | (with_reducible refine Kd.C_drewN ?_ _) | (with_reducible refine Kd.C_drew ?_))); (case side4 => exact HC0_3.out); (case side5 => exact lg_); rintro e w33 ⟨v177, rfl, ho0, hb⟩; refine ⟨_, rfl, ?_⟩; have HO178 := Aside0.mk (Kd.R_lower ho0 (below_size bg_)); replace BK173 := Aside0.mk (bb_ BK173 hb); replace HB := Aside0.mk (below_step bg_ hb); have hcz34_0 := cz_ BK173 0 (.int .i64 z0); have hcz34_1 := cz_ BK173 1 (.string z1); have hcz34_2 := cz_ BK173 2 (.slice A0_2 l0_2.length c0_2); have hcz34_3 := cz_ BK173 3 (.slice A0_3 l0_3.length c0_3); have hfz34_0 := bf_ BK173 0; have hfz34_1 := bf_ BK173 1; have hfz34_2 := bf_ BK173 2; have hfz34_3 := bf_ BK173 3) | ((with_reducible refine gate_callee (f := 17) rfl ?_); refine goesL_ (some 33) rfl rfl Tryz.func17 (by kernel_rfl) rfl #[.agg #[.int .i64 z0, .string z1, .slice A0_2 l0_2.length c0_2, .slice A0_3 l0_3.length c0_3]] rfl lq_ ?_; (with_reducible refine (lanternref11_MayResponse.calls kj2 z0 z1 _ _ l0_2 _ _ l0_3 true _ ?side5 ?side1 ?side2 ?side3 ?side4 A15.out).mono ?_); (case side1 => repeat (first | exact (Kd.C_below HR0_2.out HB.out) | (with_reducible refine Kd.C_alloc ?_ _) | (with_reducible refine Kd.C_drewN ?_ _) | (with_reducible refine Kd.C_drew ?_))); (case side2 => exact HC0_2.out); (case side3 => repeat (first | exact (Kd.C_below HR0_3.out HB.out) | (with_reducible refine Kd.C_alloc ?_ _) | (with_reducible refine Kd.C_drewN ?_ _) | (with_reducible refine Kd.C_drew ?_))); (case side4 => exact HC0_3.out); (case side5 => exact lg_); rintro e w35 ⟨rfl, hb⟩; refine ⟨_, rfl, ?_⟩; replace HO178 := Aside0.mk (Kd.R_below (by (with_reducible repeat (first | apply Kd.R_alloc | apply Kd.R_drewN | apply Kd.R_drew)); exact HO178.out) hb); replace BK173 := Aside0.mk (bb_ BK173 hb); replace HB := Aside0.mk (below_step bg_ hb)))
              replace HO178 := Aside0.mk (Kd.R_drew HO178.out)
              replace BK173 := Aside0.mk (blk_drew BK173.out)
              replace HB := Aside0.mk (below_drew1 HB.out)
              refine start_ (n := 15) (S := fun w' => w'.cell? ⟨gb173, 0, none⟩ = some (.int .i64 z0) ∧ w'.cell? ⟨gb173, 1, none⟩ = some (.string z1) ∧ w'.cell? ⟨gb173, 2, none⟩ = some (.slice A0_2 l0_2.length c0_2) ∧ w'.cell? ⟨gb173, 3, none⟩ = some (.slice A0_3 l0_3.length c0_3) ∧ (convert 22 9 (v177)).run Tryz.prog w' = .ok (.string (strOfNums t176)) w') (ds := []) (bv_ 0 15) (by kernel_rfl) rfl rfl ⟨(blk_cell BK173.out 0).trans rfl, (blk_cell BK173.out 1).trans rfl, (blk_cell BK173.out 2).trans rfl, (blk_cell BK173.out 3).trans rfl, own_string (P := Tryz.prog) Tryz.underlying22 Tryz.underlying5 Tryz.underlying9 (Kd.own_of_R HO178.out)⟩ (fun hHeld => ?_); refine with_tabW lanternlaw11_HttpResponses.tab6 lanternlaw11_HttpResponses.bits6 (fun HT_ HW_ => ?_)
              generalize w35.drew = w36 at HO178 BK173 HB hHeld ⊢
              refine t5_ HT_ HW_ hHeld ?_
              refine one_ (i := 1) (N := some 51) (bv_ 2 13) rfl rfl (one_of HT_.out (by kernel_rfl)) (by decide) (fun K hK => ?_)
              refine goes_ Tryz.func18 (by kernel_rfl) rfl #[.agg #[.int .i64 z0, .string z1, .slice A0_2 l0_2.length c0_2, .slice A0_3 l0_3.length c0_3]] (by rfl) rfl rfl lq_ ?_
              with_reducible refine (http_CheckResponse.calls kj2 z0 z1 _ _ l0_2 _ _ l0_3 t183 _ ?side5 ?side1 ?side2 ?side3 ?side4 A17.out).mono ?_
              (case side1 => repeat (first | exact (Kd.C_below HR0_2.out HB.out) | (with_reducible refine Kd.C_alloc ?_ _) | (with_reducible refine Kd.C_drewN ?_ _) | (with_reducible refine Kd.C_drew ?_)))
              (case side2 => exact HC0_2.out)
              (case side3 => repeat (first | exact (Kd.C_below HR0_3.out HB.out) | (with_reducible refine Kd.C_alloc ?_ _) | (with_reducible refine Kd.C_drewN ?_ _) | (with_reducible refine Kd.C_drew ?_)))
              (case side4 => exact HC0_3.out)
              (case side5 => exact lg_)
              rintro e w37 ⟨rfl, hb⟩
              refine ⟨_, rfl, ?_⟩
              replace HO178 := Aside0.mk (Kd.R_below (by (with_reducible repeat (first | apply Kd.R_alloc | apply Kd.R_drewN | apply Kd.R_drew)); exact HO178.out) hb)
              replace BK173 := Aside0.mk (bb_ BK173 hb)
              replace HB := Aside0.mk (below_step bg_ hb)
              refine hK.out _ _ ⟨(blk_cell BK173.out 0).trans rfl, (blk_cell BK173.out 1).trans rfl, (blk_cell BK173.out 2).trans rfl, (blk_cell BK173.out 3).trans rfl, own_string (P := Tryz.prog) Tryz.underlying22 Tryz.underlying5 Tryz.underlying9 (Kd.own_of_R HO178.out)⟩ (fun hHeld => ?_)
              clear hK K
              refine norm_ (a' := ?_) ?_ ?_
              rotate_left
              ·show Act.put _ (some 51) _ = _
               simp only [Act.put, sa_, s0_, s1_, i64_w, i32_w]
               rfl
              iterate 7 refine p1_ HT_ ?_
              iterate 2 refine t5_ HT_ HW_ hHeld ?_
              refine one_ (i := 11) (N := some 61) (bv_ 12 3) rfl rfl (one_of HT_.out (by kernel_rfl)) (by decide) (fun K hK => ?_)
              refine goes_ Tryz.func19 (by kernel_rfl) rfl #[.agg #[.int .i64 z0, .string z1, .slice A0_2 l0_2.length c0_2, .slice A0_3 l0_3.length c0_3]] (by rfl) rfl rfl lq_ ?_
              with_reducible refine (lanternref11_Response.calls kj2 z0 z1 _ _ l0_2 _ _ l0_3 t184 _ ?side5 ?side1 ?side2 ?side3 ?side4 A20.out).mono ?_
              (case side1 => repeat (first | exact (Kd.C_below HR0_2.out HB.out) | (with_reducible refine Kd.C_alloc ?_ _) | (with_reducible refine Kd.C_drewN ?_ _) | (with_reducible refine Kd.C_drew ?_)))
              (case side2 => exact HC0_2.out)
              (case side3 => repeat (first | exact (Kd.C_below HR0_3.out HB.out) | (with_reducible refine Kd.C_alloc ?_ _) | (with_reducible refine Kd.C_drewN ?_ _) | (with_reducible refine Kd.C_drew ?_)))
              (case side4 => exact HC0_3.out)
              (case side5 => exact lg_)
              rintro e w39 ⟨v185, rfl, ho0, hb⟩
              refine ⟨_, rfl, ?_⟩
              have n0_ := Aside0.mk (Kd.R_elder' (by (with_reducible repeat (first | apply Kd.R_alloc | apply Kd.R_drewN | apply Kd.R_drew)); exact HO178.out) (Ko.R_base ho0) hb)
              have n1_ := Aside0.mk (Ko.R_lower (Ko.R_new' ho0 (Kd.R_lt (by (with_reducible repeat (first | apply Kd.R_alloc | apply Kd.R_drewN | apply Kd.R_drew)); exact HO178.out))) (below_size bg_))
              have n2_ := Aside0.mk (bb_ BK173 hb)
              have n3_ := Aside0.mk (below_step bg_ hb)
              clear HO178 BK173 HB
              have HO178 := n0_
              have HO186 := n1_
              have BK173 := n2_
              have HB := n3_
              clear n0_ n1_ n2_ n3_
              refine hK.out _ _ ⟨(blk_cell BK173.out 0).trans rfl, (blk_cell BK173.out 1).trans rfl, (blk_cell BK173.out 2).trans rfl, (blk_cell BK173.out 3).trans rfl, own_string (P := Tryz.prog) Tryz.underlying22 Tryz.underlying5 Tryz.underlying9 (Kd.own_of_R HO178.out)⟩ (fun hHeld => ?_)
              clear hK K
              refine norm_ (a' := ?_) ?_ ?_
              rotate_left
              ·show Act.put _ (some 61) _ = _
               simp only [Act.put, sa_, s0_, s1_, i64_w, i32_w]
               rfl
              refine one_ (i := 12) (N := some 62) (bv_ 13 2) rfl rfl (one_of HT_.out (by kernel_rfl)) (by decide) (fun K hK => ?_)
              have hcv40 := Ko.string_ (P := Tryz.prog) Tryz.underlying22 Tryz.underlying5 Tryz.underlying9 HO186.out
              refine value_ (w1 := ?_) (v := ?_) (by rfl) rfl ?_ ?_
              rotate_left 2
              ·go_simp
               constructor
               ·rfl
               ·rfl
              clear hcv40
              refine hK.out _ _ ⟨(blk_cell BK173.out 0).trans rfl, (blk_cell BK173.out 1).trans rfl, (blk_cell BK173.out 2).trans rfl, (blk_cell BK173.out 3).trans rfl, own_string (P := Tryz.prog) Tryz.underlying22 Tryz.underlying5 Tryz.underlying9 (Kd.own_of_R HO178.out)⟩ (fun hHeld => ?_)
              clear hK K
              refine norm_ (a' := ?_) ?_ ?_
              rotate_left
              ·show Act.put _ (some 62) _ = _
               simp only [Act.put, sa_, s0_, s1_, i64_w, i32_w]
               rfl
              iterate 2 refine p1_ HT_ ?_
              refine done_ (done_of HT_.out (by kernel_rfl)) ?_
              try go_wp2_with (first | ((with_reducible refine gate_dst (N := 66) rfl ?_); (try (refine gate_guard (by rfl) ?_; dsimp only)); refine Kd.R_lit (Kd.int .u8) _ 5 ?hg (N := 66) ?hd (xs := ([] : List Int)) (inner := []) (ok := fun _ => True) (okp := fun _ => True) ?hr ?hp (fun _ hk => hk) trivial (Below.refl _ _) (Nat.le_refl _) (by simp) ?_; (case hd => rfl); (case hg => rfl); (case hr => first | (go_simp; done) | (go_simp; rfl)); (case hp => exact (Reps.none _ _)); intro v188 w42 ho43 hb hg_ hnew_; clear hg_ hnew_; (first | rw [← Ny187.out] at ho43 | (simp only [Int.reduceToNat] at ho43; rw [← Ny187.out] at ho43)); have n0_ := Aside0.mk (Kd.R_elder' (by (with_reducible repeat (first | apply Kd.R_alloc | apply Kd.R_drewN | apply Kd.R_drew)); exact HO178.out) (Kd.R_base ho43) hb); have n1_ := Aside0.mk (Ko.R_elder' (by (with_reducible repeat (first | apply Ko.R_alloc | apply Ko.R_drewN | apply Ko.R_drew)); exact HO186.out) (Kd.R_base ho43) hb); have n2_ := Aside0.mk (Kd.R_lower (Kd.R_new' (Kd.R_new' ho43 (Kd.R_lt (by (with_reducible repeat (first | apply Kd.R_alloc | apply Kd.R_drewN | apply Kd.R_drew)); exact HO178.out))) (Ko.R_lt (by (with_reducible repeat (first | apply Ko.R_alloc | apply Ko.R_drewN | apply Ko.R_drew)); exact HO186.out))) (below_size bg_)); have n3_ := Aside0.mk (bb_ BK173 hb); have n4_ := Aside0.mk (below_step bg_ hb); clear HO178; clear HO186; clear BK173; clear HB; have HO178 := n0_; have HO186 := n1_; have HO189 := n2_; have BK173 := n3_; have HB := n4_; clear n0_ n1_ n2_ n3_ n4_; clear hb ho43; obtain ⟨Ao45, co45, eo45⟩ := Kd.R_slice HO178.out; subst eo45) | ((with_reducible refine gate_builtin (b := .append) (xs := #[.tmp 66, .tmp 67]) rfl ?_); (try (refine gate_guard (by rfl) ?_; dsimp only)); at_builtin; refine Kd.R_append_rows (Kd.int .u8) (w0 := w) w.heap.size rfl (.tmp 66) (.tmp 67) 22 5 (.int .u8 0) 1 rfl Tryz.underlying22 Go.Proofs.YtipleegkonhfcaaGreatDoor.P.info5 rfl (by decide) (by omega) v188 y187 t176 _ _ _ (fun k_ => some k_ ≠ (.slice Ao45 t176.length co45 : Value).ownBlock ∧ some k_ ≠ (v185 : Value).ownBlock) (fun _ => False) rfl rfl ?aO ?aR (fun _ _ h => h) (fun _ h => h.elim) ?aF ?aB ?aS ?aL ?_; (case aR => repeat (first | exact (Kd.R_reads' HO178.out).2.2 | (with_reducible refine Kd.C_alloc ?_ _) | (with_reducible refine Kd.C_drewN ?_ _) | (with_reducible refine Kd.C_drew ?_))); (case aB => exact bg_); (case aF => exact (fun k_ hk => ⟨Kd.fresh' (Kd.R_lt (by (with_reducible repeat (first | apply Kd.R_alloc | apply Kd.R_drewN | apply Kd.R_drew)); exact HO178.out)) k_ hk, Kd.fresh' (Ko.R_lt (by (with_reducible repeat (first | apply Ko.R_alloc | apply Ko.R_drewN | apply Ko.R_drew)); exact HO186.out)) k_ hk⟩)); (case aO => exact (by (with_reducible repeat (first | apply Kd.R_alloc | apply Kd.R_drewN | apply Kd.R_drew)); exact Kd.R_mono HO189.out (fun _ hk => ⟨hk.1.2, hk.2⟩))); (case aS => exact (below_size bg_)); (case aL => have := LMc22.out; omega); intro v191 w44 ho hb hg hat; rw [← Ny190.out] at ho; replace BK173 := Aside0.mk (blk_grown (g := gb173) (o := .cells #[.int .i64 z0, .string z1, .slice A0_2 l0_2.length c0_2, .slice A0_3 l0_3.length c0_3] 41 (0, 0)) bk_ hg (Kd.R_ne HO189.out BK173.out (by decide))); replace HO178 := Aside0.mk (Kd.R_after (ok := (fun k_ => some k_ ≠ (v185 : Value).ownBlock)) (by (with_reducible repeat (first | apply Kd.R_alloc | apply Kd.R_drewN | apply Kd.R_drew)); exact Kd.R_mono HO178.out (fun _ hk => ⟨hk.1.2, hk.2⟩)) hg hat); replace HO186 := Aside0.mk (Ko.R_after (ok := (fun k_ => some k_ ≠ (.slice Ao45 t176.length co45 : Value).ownBlock)) (by (with_reducible repeat (first | apply Ko.R_alloc | apply Ko.R_drewN | apply Ko.R_drew)); exact Ko.R_mono HO186.out (fun _ hk => ⟨hk.1.2, hk.2⟩)) hg hat); have HO192 := Aside0.mk (ho); replace HB := Aside0.mk (hb); clear HO189; clear ho hb hg hat) | ((with_reducible refine gate_builtin (b := .append) (xs := #[.tmp 68, .tmp 69]) rfl ?_); (try (refine gate_guard (by rfl) ?_; dsimp only)); at_builtin; refine Kd.R_append_rows (Kd.int .u8) (w0 := w) w.heap.size rfl (.tmp 68) (.tmp 69) 22 5 (.int .u8 0) 1 rfl Tryz.underlying22 Go.Proofs.YtipleegkonhfcaaGreatDoor.P.info5 rfl (by decide) (by omega) v191 y190 l1 _ _ _ (fun k_ => some k_ ≠ (.slice Ao45 t176.length co45 : Value).ownBlock ∧ some k_ ≠ (v185 : Value).ownBlock) (fun _ => False) rfl rfl ?aO ?aR (fun _ _ h => h) (fun _ h => h.elim) ?aF ?aB ?aS ?aL ?_; (case aR => repeat (first | exact (Kd.C_below HR1.out HB.out) | (with_reducible refine Kd.C_alloc ?_ _) | (with_reducible refine Kd.C_drewN ?_ _) | (with_reducible refine Kd.C_drew ?_))); (case aB => exact bg_); (case aF => exact (fun k_ hk => ⟨Kd.fresh' (Kd.R_lt (by (with_reducible repeat (first | apply Kd.R_alloc | apply Kd.R_drewN | apply Kd.R_drew)); exact HO178.out)) k_ hk, Kd.fresh' (Ko.R_lt (by (with_reducible repeat (first | apply Ko.R_alloc | apply Ko.R_drewN | apply Ko.R_drew)); exact HO186.out)) k_ hk⟩)); (case aO => exact (by (with_reducible repeat (first | apply Kd.R_alloc | apply Kd.R_drewN | apply Kd.R_drew)); exact HO192.out)); (case aS => exact (below_size bg_)); (case aL => have := LMc23.out; omega); intro v194 w46 ho hb hg hat; rw [← Ny193.out] at ho; replace BK173 := Aside0.mk (blk_grown (g := gb173) (o := .cells #[.int .i64 z0, .string z1, .slice A0_2 l0_2.length c0_2, .slice A0_3 l0_3.length c0_3] 41 (0, 0)) bk_ hg (Kd.R_ne HO192.out BK173.out (by decide))); replace HO178 := Aside0.mk (Kd.R_after (ok := (fun k_ => some k_ ≠ (v185 : Value).ownBlock)) (by (with_reducible repeat (first | apply Kd.R_alloc | apply Kd.R_drewN | apply Kd.R_drew)); exact HO178.out) hg hat); replace HO186 := Aside0.mk (Ko.R_after (ok := (fun k_ => some k_ ≠ (.slice Ao45 t176.length co45 : Value).ownBlock)) (by (with_reducible repeat (first | apply Ko.R_alloc | apply Ko.R_drewN | apply Ko.R_drew)); exact HO186.out) hg hat); have HO195 := Aside0.mk (ho); replace HB := Aside0.mk (hb); clear HO192; clear ho hb hg hat; obtain ⟨Ao47, co47, eo47⟩ := Kd.R_slice HO195.out; subst eo47) | ((with_reducible refine gate_callee (f := 20) rfl ?_); refine goesL_ (some 71) rfl rfl Tryz.func20 (by kernel_rfl) rfl #[.slice Ao47 y193.length co47] rfl lq_ ?_; (with_reducible refine (http_ParseResponse.calls kj2 _ _ y193 t196 t197 t198 t201 t204 t205 _ ?side3 ?side1 ?side2 A24.out).mono ?_); (case side1 => repeat (first | exact (Kd.R_reads' HO195.out).2.2 | (with_reducible refine Kd.C_alloc ?_ _) | (with_reducible refine Kd.C_drewN ?_ _) | (with_reducible refine Kd.C_drew ?_))); (case side2 => exact (Kd.R_reads' HO195.out).2.1); (case side3 => exact lg_); rintro e w48 ⟨v199, v202, rfl, ho0, ho1, hb⟩; refine ⟨_, rfl, ?_⟩; have n0_ := Aside0.mk (Kd.R_elder' (by (with_reducible repeat (first | apply Kd.R_alloc | apply Kd.R_drewN | apply Kd.R_drew)); exact HO178.out) (Kd.R_base ho1) hb); have n1_ := Aside0.mk (Ko.R_elder' (by (with_reducible repeat (first | apply Ko.R_alloc | apply Ko.R_drewN | apply Ko.R_drew)); exact HO186.out) (Kd.R_base ho1) hb); have n2_ := Aside0.mk (Kd.R_elder' (by (with_reducible repeat (first | apply Kd.R_alloc | apply Kd.R_drewN | apply Kd.R_drew)); exact HO195.out) (Kd.R_base ho1) hb); have n3_ := Aside0.mk (Kd.R_lower ho0 (below_size bg_)); have n4_ := Aside0.mk (Kd.R_lower (Kd.R_new' (Kd.R_new' (Kd.R_new' ho1 (Kd.R_lt (by (with_reducible repeat (first | apply Kd.R_alloc | apply Kd.R_drewN | apply Kd.R_drew)); exact HO178.out))) (Ko.R_lt (by (with_reducible repeat (first | apply Ko.R_alloc | apply Ko.R_drewN | apply Ko.R_drew)); exact HO186.out))) (Kd.R_lt (by (with_reducible repeat (first | apply Kd.R_alloc | apply Kd.R_drewN | apply Kd.R_drew)); exact HO195.out))) (below_size bg_)); have n5_ := Aside0.mk (bb_ BK173 hb); have n6_ := Aside0.mk (below_step bg_ hb); clear HO178; clear HO186; clear HO195; clear BK173; clear HB; have HO178 := n0_; have HO186 := n1_; have HO195 := n2_; have HO200 := n3_; have HO203 := n4_; have BK173 := n5_; have HB := n6_; clear n0_ n1_ n2_ n3_ n4_ n5_ n6_) | ((with_reducible refine gate_dst (N := 7) rfl ?_); (try (refine gate_guard (by rfl) ?_; dsimp only)); refine bx_ 7 #[.int .i64 0, .string (⟨#[]⟩ : ByteArray), .slice none 0 0, .slice none 0 0] 41 ?_; intro gb206 hg w49 hbox hb; have n0_ := Aside0.mk (Kd.R_below (by (with_reducible repeat (first | apply Kd.R_alloc | apply Kd.R_drewN | apply Kd.R_drew)); exact HO178.out) hb); have n1_ := Aside0.mk (Ko.R_below (by (with_reducible repeat (first | apply Ko.R_alloc | apply Ko.R_drewN | apply Ko.R_drew)); exact HO186.out) hb); have n2_ := Aside0.mk (Kd.R_below (by (with_reducible repeat (first | apply Kd.R_alloc | apply Kd.R_drewN | apply Kd.R_drew)); exact HO195.out) hb); have n3_ := Aside0.mk (Kd.R_below (by (with_reducible repeat (first | apply Kd.R_alloc | apply Kd.R_drewN | apply Kd.R_drew)); exact HO200.out) hb); have n4_ := Aside0.mk (Kd.R_below (by (with_reducible repeat (first | apply Kd.R_alloc | apply Kd.R_drewN | apply Kd.R_drew)); exact HO203.out) hb); have n5_ := Aside0.mk (bb_ BK173 hb); have n6_ := Aside0.mk (below_step bg_ hb); have n7_ := Aside0.mk (hbox); have n8_ := Aside0.mk (gg_ (w := w) hg); have n9_ := Aside0.mk (gg_ (w := w) hg); have n10_ := Aside0.mk (nl_ BK173 hg); have n11_ := Aside0.mk (ng_ BK173 hg); clear HO178; clear HO186; clear HO195; clear HO200; clear HO203; clear BK173; clear HB; have HO178 := n0_; have HO186 := n1_; have HO195 := n2_; have HO200 := n3_; have HO203 := n4_; have BK173 := n5_; have HB := n6_; have BK206 := n7_; have GW206 := n8_; have GE206 := n9_; have NB173_206 := n10_; have NB206_173 := n11_; clear n0_ n1_ n2_ n3_ n4_ n5_ n6_ n7_ n8_ n9_ n10_ n11_; clear hb hbox hg; have hnb50 := NB206_173.out; have hnc50 := NB173_206.out; have hcz51_0 := cz_ BK206 0 (.int .i64 0); have hcz51_1 := cz_ BK206 1 (.string (⟨#[]⟩ : ByteArray)); have hcz51_2 := cz_ BK206 2 (.slice none 0 0); have hcz51_3 := cz_ BK206 3 (.slice none 0 0); have hfz51_0 := bf_ BK206 0; have hfz51_1 := bf_ BK206 1; have hfz51_2 := bf_ BK206 2; have hfz51_3 := bf_ BK206 3; obtain ⟨Ao52, co52, eo52⟩ := Kd.R_slice HO200.out; subst eo52; obtain ⟨Ao53, co53, eo53⟩ := Kd.R_slice HO203.out; subst eo53) | ((with_reducible refine gate_store (t := 41) (p := 7) rfl ?_); refine store_all ?hg 41 7 _ rfl rfl gb206 [.int .i64 0, .string (⟨#[]⟩ : ByteArray), .slice none 0 0, .slice none 0 0] [.int .i64 t196, .string t197, .slice Ao52 t198.length co52, .slice Ao53 t201.length co53] BK206.out rfl rfl rfl (by kernel_rfl) rfl ?_; (case hg => rfl); intro w54 hw; have n0_ : Aside0 (Kd.R (Kd.int .u8) 5 w54 w.heap.size (fun k_ => some k_ ≠ (v185 : Value).ownBlock ∧ some k_ ≠ (.slice Ao47 y193.length co47 : Value).ownBlock ∧ some k_ ≠ (.slice Ao53 t201.length co53 : Value).ownBlock) (.slice Ao45 t176.length co45) t176) := ⟨(by rw [hw]; exact (by (with_reducible repeat (first | apply Kd.R_alloc | apply Kd.R_drewN | apply Kd.R_drew)); exact Kd.R_mono (R_farC (g := gb206) (fun _ hk => hk.2) (Kd.R_types HO178.out BK206.out (by decide)) [.int .i64 t196, .string t197, .slice Ao52 t198.length co52, .slice Ao53 t201.length co53] 0) (fun _ hk => ⟨hk.1.1.1, ⟨hk.1.1.2, hk.1.2⟩⟩)))⟩; have n1_ : Aside0 (Ko.R w54 w.heap.size (fun k_ => some k_ ≠ (.slice Ao45 t176.length co45 : Value).ownBlock ∧ some k_ ≠ (.slice Ao47 y193.length co47 : Value).ownBlock ∧ some k_ ≠ (.slice Ao53 t201.length co53 : Value).ownBlock) v185 t184) := ⟨(by rw [hw]; exact (by (with_reducible repeat (first | apply Ko.R_alloc | apply Ko.R_drewN | apply Ko.R_drew)); exact Ko.R_mono (Ko.R_farC (g := gb206) (fun _ hk => hk.2) (Ko.R_types HO186.out BK206.out (by decide)) [.int .i64 t196, .string t197, .slice Ao52 t198.length co52, .slice Ao53 t201.length co53] 0) (fun _ hk => ⟨hk.1.1.1, ⟨hk.1.1.2, hk.1.2⟩⟩)))⟩; have n2_ : Aside0 (Kd.R (Kd.int .u8) 5 w54 w.heap.size (fun k_ => some k_ ≠ (.slice Ao45 t176.length co45 : Value).ownBlock ∧ some k_ ≠ (v185 : Value).ownBlock ∧ some k_ ≠ (.slice Ao53 t201.length co53 : Value).ownBlock) (.slice Ao47 y193.length co47) y193) := ⟨(by rw [hw]; exact (by (with_reducible repeat (first | apply Kd.R_alloc | apply Kd.R_drewN | apply Kd.R_drew)); exact Kd.R_mono (R_farC (g := gb206) (fun _ hk => hk.2) (Kd.R_types HO195.out BK206.out (by decide)) [.int .i64 t196, .string t197, .slice Ao52 t198.length co52, .slice Ao53 t201.length co53] 0) (fun _ hk => ⟨hk.1.1.1, ⟨hk.1.1.2, hk.1.2⟩⟩)))⟩; have n3_ : Aside0 (Kd.R k67 67 w54 w.heap.size (fun _ => True) (.slice Ao52 t198.length co52) t198) := ⟨(by rw [hw]; exact (by (with_reducible repeat (first | apply Kd.R_alloc | apply Kd.R_drewN | apply Kd.R_drew)); exact Kd.R_mono (R_farC (g := gb206) (fun _ hk => hk.2) (Kd.R_types HO200.out BK206.out (by decide)) [.int .i64 t196, .string t197, .slice Ao52 t198.length co52, .slice Ao53 t201.length co53] 0) (fun _ hk => trivial)))⟩; have n4_ : Aside0 (Kd.R (Kd.int .u8) 5 w54 w.heap.size (fun k_ => some k_ ≠ (.slice Ao45 t176.length co45 : Value).ownBlock ∧ some k_ ≠ (v185 : Value).ownBlock ∧ some k_ ≠ (.slice Ao47 y193.length co47 : Value).ownBlock) (.slice Ao53 t201.length co53) t201) := ⟨(by rw [hw]; exact (by (with_reducible repeat (first | apply Kd.R_alloc | apply Kd.R_drewN | apply Kd.R_drew)); exact Kd.R_mono (R_farC (g := gb206) (fun _ hk => hk.2) (Kd.R_types HO203.out BK206.out (by decide)) [.int .i64 t196, .string t197, .slice Ao52 t198.length co52, .slice Ao53 t201.length co53] 0) (fun _ hk => ⟨hk.1.1.1.2, ⟨hk.1.1.2, hk.1.2⟩⟩)))⟩; have n5_ := Aside0.mk (sf_ BK173 NB173_206 hw); have n6_ : Aside0 (w54.heap[gb206]? = some (.cells #[.int .i64 t196, .string t197, .slice Ao52 t198.length co52, .slice Ao53 t201.length co53] 41 (0, 0))) := ⟨(by rw [hw]; exact (by (with_reducible repeat (first | refine blk_drewN ?_ _ | refine blk_drew ?_ | refine blk_alloc ?_ _)); refine blk_part [.int .i64 t196, .string t197, .slice Ao52 t198.length co52, .slice Ao53 t201.length co53] [.int .i64 0, .string (⟨#[]⟩ : ByteArray), .slice none 0 0, .slice none 0 0] [] [] (cs := #[.int .i64 0, .string (⟨#[]⟩ : ByteArray), .slice none 0 0, .slice none 0 0]) ?_ rfl rfl rfl; (with_reducible repeat (first | refine blk_drewN ?_ _ | refine blk_drew ?_ | refine blk_alloc ?_ _)); exact BK206.out))⟩; have n7_ := Aside0.mk (sb_ hw); clear hw; clear HO178; clear HO186; clear HO195; clear HO200; clear HO203; clear BK173; clear BK206; clear HB; have HO178 := n0_; have HO186 := n1_; have HO195 := n2_; have HO200 := n3_; have HO203 := n4_; have BK173 := n5_; have BK206 := n6_; have HB := n7_; clear n0_ n1_ n2_ n3_ n4_ n5_ n6_ n7_; have hcz55_0 := cz_ BK173 0 (.int .i64 z0); have hcz55_1 := cz_ BK173 1 (.string z1); have hcz55_2 := cz_ BK173 2 (.slice A0_2 l0_2.length c0_2); have hcz55_3 := cz_ BK173 3 (.slice A0_3 l0_3.length c0_3); have hfz55_0 := bf_ BK173 0; have hfz55_1 := bf_ BK173 1; have hfz55_2 := bf_ BK173 2; have hfz55_3 := bf_ BK173 3) | ((with_reducible refine gate_callee (f := 21) rfl ?_); refine goesL_ (some 77) rfl rfl Tryz.func21 (by kernel_rfl) rfl #[.int .i64 z0] rfl lq_ ?_; (with_reducible refine (lanternref11_Bare.calls z0 true _ ?side1 A25.out).mono ?_); (case side1 => exact lg_); rintro e w' ⟨rfl, ⟨nd, rfl⟩⟩; refine ⟨_, rfl, ?_⟩; have hcz56_0 := cz_ BK206 0 (.int .i64 t196); have hcz56_1 := cz_ BK206 1 (.string t197); have hcz56_2 := cz_ BK206 2 (.slice Ao52 t198.length co52); have hcz56_3 := cz_ BK206 3 (.slice Ao53 t201.length co53); have hfz56_0 := bf_ BK206 0; have hfz56_1 := bf_ BK206 1; have hfz56_2 := bf_ BK206 2; have hfz56_3 := bf_ BK206 3) | (go_at_call 22; (with_reducible refine (lanternref11_SameResponse.calls kj2 t196 t197 _ _ t198 _ _ t201 z0 z1 _ _ l0_2 _ _ l0_3 true _ ?side9 ?side1 ?side2 ?side3 ?side4 ?side5 ?side6 ?side7 ?side8 A29.out).mono ?_); (case side1 => repeat (first | exact (Kd.R_reads' HO200.out).2.2 | (with_reducible refine Kd.C_alloc ?_ _) | (with_reducible refine Kd.C_drewN ?_ _) | (with_reducible refine Kd.C_drew ?_))); (case side2 => exact (Kd.R_reads' HO200.out).2.1); (case side3 => repeat (first | exact (Kd.R_reads' HO203.out).2.2 | (with_reducible refine Kd.C_alloc ?_ _) | (with_reducible refine Kd.C_drewN ?_ _) | (with_reducible refine Kd.C_drew ?_))); (case side4 => exact (Kd.R_reads' HO203.out).2.1); (case side5 => repeat (first | exact (Kd.C_below HR0_2.out bg_) | (with_reducible refine Kd.C_alloc ?_ _) | (with_reducible refine Kd.C_drewN ?_ _) | (with_reducible refine Kd.C_drew ?_))); (case side6 => exact HC0_2.out); (case side7 => repeat (first | exact (Kd.C_below HR0_3.out bg_) | (with_reducible refine Kd.C_alloc ?_ _) | (with_reducible refine Kd.C_drewN ?_ _) | (with_reducible refine Kd.C_drew ?_))); (case side8 => exact HC0_3.out); (case side9 => exact lg_); rintro e w57 ⟨rfl, hb⟩; replace HO178 := Aside0.mk (Kd.R_below (by (with_reducible repeat (first | apply Kd.R_alloc | apply Kd.R_drewN | apply Kd.R_drew)); exact HO178.out) hb); replace HO186 := Aside0.mk (Ko.R_below (by (with_reducible repeat (first | apply Ko.R_alloc | apply Ko.R_drewN | apply Ko.R_drew)); exact HO186.out) hb); replace HO195 := Aside0.mk (Kd.R_below (by (with_reducible repeat (first | apply Kd.R_alloc | apply Kd.R_drewN | apply Kd.R_drew)); exact HO195.out) hb); replace HO200 := Aside0.mk (Kd.R_below (by (with_reducible repeat (first | apply Kd.R_alloc | apply Kd.R_drewN | apply Kd.R_drew)); exact HO200.out) hb); replace HO203 := Aside0.mk (Kd.R_below (by (with_reducible repeat (first | apply Kd.R_alloc | apply Kd.R_drewN | apply Kd.R_drew)); exact HO203.out) hb); replace BK173 := Aside0.mk (bb_ BK173 hb); replace BK206 := Aside0.mk (bb_ BK206 hb); replace HB := Aside0.mk (below_step bg_ hb)) | (go_at_call 6; (with_reducible refine (lanternlaw11_awake.calls kj2  t209 _ ?side1 A31.out).mono ?_); (case side1 => exact lg_); rintro e w58 ⟨rfl, hb⟩; replace HO178 := Aside0.mk (Kd.R_below (by (with_reducible repeat (first | apply Kd.R_alloc | apply Kd.R_drewN | apply Kd.R_drew)); exact HO178.out) hb); replace HO186 := Aside0.mk (Ko.R_below (by (with_reducible repeat (first | apply Ko.R_alloc | apply Ko.R_drewN | apply Ko.R_drew)); exact HO186.out) hb); replace HO195 := Aside0.mk (Kd.R_below (by (with_reducible repeat (first | apply Kd.R_alloc | apply Kd.R_drewN | apply Kd.R_drew)); exact HO195.out) hb); replace HO200 := Aside0.mk (Kd.R_below (by (with_reducible repeat (first | apply Kd.R_alloc | apply Kd.R_drewN | apply Kd.R_drew)); exact HO200.out) hb); replace HO203 := Aside0.mk (Kd.R_below (by (with_reducible repeat (first | apply Kd.R_alloc | apply Kd.R_drewN | apply Kd.R_drew)); exact HO203.out) hb); replace BK173 := Aside0.mk (bb_ BK173 hb); replace BK206 := Aside0.mk (bb_ BK206 hb); replace HB := Aside0.mk (below_step bg_ hb)))
              go_ret
              exact ⟨rq_, bg_⟩
             ·replace c30 := Bool.eq_false_iff.mpr c30
              subst c30
              replace H := ifF_ H
              exact absurd H (by simp)
            ·rw [if_neg c28] at H
             exact absurd H (by simp)
           ·rw [if_neg c27] at H
            exact absurd H (by simp)
          ·replace c26 := Bool.eq_false_iff.mpr c26
           subst c26
           replace H := ifF_ H
           replace H := Option.bind_eq_some_iff.mp H
           obtain ⟨t210, A590, H⟩ := H
           (try dsimp only at H)
           have A59 := Aside0.mk A590
           clear A590
           by_cases c60 : t205 = 0
           ·rw [if_pos c60] at H
            have c60b0 := beq_iff_eq.mpr c60
            have c60b1 := bne_eq_false_iff_eq.mpr c60
            clear c60
            by_cases c61 : t204 = (t176.length : Int)
            ·rw [if_pos c61] at H
             have c61b0 := beq_iff_eq.mpr c61
             have c61b1 := bne_eq_false_iff_eq.mpr c61
             clear c61
             replace H := Option.bind_eq_some_iff.mp H
             obtain ⟨t213, A620, H⟩ := H
             (try dsimp only at H)
             have A62 := Aside0.mk A620
             clear A620
             by_cases c63 : t213 = true
             ·subst c63
              replace H := ifT_ H
              replace H := Option.bind_eq_some_iff.mp H
              obtain ⟨t214, A640, H⟩ := H
              (try dsimp only at H)
              have A64 := Aside0.mk A640
              clear A640
              obtain rfl := Option.some.inj H
              have hcz65_0 := cz_ BK173 0 (.int .i64 z0)
              have hcz65_1 := cz_ BK173 1 (.string z1)
              have hcz65_2 := cz_ BK173 2 (.slice A0_2 l0_2.length c0_2)
              have hcz65_3 := cz_ BK173 3 (.slice A0_3 l0_3.length c0_3)
              have hfz65_0 := bf_ BK173 0
              have hfz65_1 := bf_ BK173 1
              have hfz65_2 := bf_ BK173 2
              have hfz65_3 := bf_ BK173 3
              try go_wp2_with (first | ((with_reducible refine gate_callee (f := 16) rfl ?_); refine goesL_ (some 29) rfl rfl Tryz.func16 (by kernel_rfl) rfl #[.agg #[.int .i64 z0, .string z1, .slice A0_2 l0_2.length c0_2, .slice A0_3 l0_3.length c0_3]] rfl lq_ ?_; (with_reducible refine (http_PrintResponse.calls kj2 z0 z1 _ _ l0_2 _ _ l0_3 t176 t179 _ ?side5 ?side1 ?side2 ?side3 ?side4 A14.out).mono ?_); (case side1 => repeat (first | exact (Kd.C_below HR0_2.out HB.out) | (with_reducible refine Kd.C_alloc ?_ _) | (with_reducible refine Kd.C_drewN ?_ _) | (with_reducible refine Kd.C_drew ?_))); (case side2 => exact HC0_2.out); (case side3 => repeat (first | exact (Kd.C_below HR0_3.out HB.out) | (with_reducible refine Kd.C_alloc ?_ _) | (with_reducible refine Kd.C_drewN ?_ _) | (with_reducible refine Kd.C_drew ?_))); (case side4 => exact HC0_3.out); (case side5 => exact lg_); rintro e w66 ⟨v177, rfl, ho0, hb⟩; refine ⟨_, rfl, ?_⟩; have HO178 := Aside0.mk (Kd.R_lower ho0 (below_size bg_)); replace BK173 := Aside0.mk (bb_ BK173 hb); replace HB := Aside0.mk (below_step bg_ hb); have hcz67_0 := cz_ BK173 0 (.int .i64 z0); have hcz67_1 := cz_ BK173 1 (.string z1); have hcz67_2 := cz_ BK173 2 (.slice A0_2 l0_2.length c0_2); have hcz67_3 := cz_ BK173 3 (.slice A0_3 l0_3.length c0_3); have hfz67_0 := bf_ BK173 0; have hfz67_1 := bf_ BK173 1; have hfz67_2 := bf_ BK173 2; have hfz67_3 := bf_ BK173 3) | ((with_reducible refine gate_callee (f := 17) rfl ?_); refine goesL_ (some 33) rfl rfl Tryz.func17 (by kernel_rfl) rfl #[.agg #[.int .i64 z0, .string z1, .slice A0_2 l0_2.length c0_2, .slice A0_3 l0_3.length c0_3]] rfl lq_ ?_; (with_reducible refine (lanternref11_MayResponse.calls kj2 z0 z1 _ _ l0_2 _ _ l0_3 true _ ?side5 ?side1 ?side2 ?side3 ?side4 A15.out).mono ?_); (case side1 => repeat (first | exact (Kd.C_below HR0_2.out HB.out) | (with_reducible refine Kd.C_alloc ?_ _) | (with_reducible refine Kd.C_drewN ?_ _) | (with_reducible refine Kd.C_drew ?_))); (case side2 => exact HC0_2.out); (case side3 => repeat (first | exact (Kd.C_below HR0_3.out HB.out) | (with_reducible refine Kd.C_alloc ?_ _) | (with_reducible refine Kd.C_drewN ?_ _) | (with_reducible refine Kd.C_drew ?_))); (case side4 => exact HC0_3.out); (case side5 => exact lg_); rintro e w68 ⟨rfl, hb⟩; refine ⟨_, rfl, ?_⟩; replace HO178 := Aside0.mk (Kd.R_below (by (with_reducible repeat (first | apply Kd.R_alloc | apply Kd.R_drewN | apply Kd.R_drew)); exact HO178.out) hb); replace BK173 := Aside0.mk (bb_ BK173 hb); replace HB := Aside0.mk (below_step bg_ hb)))
              replace HO178 := Aside0.mk (Kd.R_drew HO178.out)
              replace BK173 := Aside0.mk (blk_drew BK173.out)
              replace HB := Aside0.mk (below_drew1 HB.out)
              refine start_ (n := 15) (S := fun w' => w'.cell? ⟨gb173, 0, none⟩ = some (.int .i64 z0) ∧ w'.cell? ⟨gb173, 1, none⟩ = some (.string z1) ∧ w'.cell? ⟨gb173, 2, none⟩ = some (.slice A0_2 l0_2.length c0_2) ∧ w'.cell? ⟨gb173, 3, none⟩ = some (.slice A0_3 l0_3.length c0_3) ∧ (convert 22 9 (v177)).run Tryz.prog w' = .ok (.string (strOfNums t176)) w') (ds := []) (bv_ 0 15) (by kernel_rfl) rfl rfl ⟨(blk_cell BK173.out 0).trans rfl, (blk_cell BK173.out 1).trans rfl, (blk_cell BK173.out 2).trans rfl, (blk_cell BK173.out 3).trans rfl, own_string (P := Tryz.prog) Tryz.underlying22 Tryz.underlying5 Tryz.underlying9 (Kd.own_of_R HO178.out)⟩ (fun hHeld => ?_); refine with_tabW lanternlaw11_HttpResponses.tab6 lanternlaw11_HttpResponses.bits6 (fun HT_ HW_ => ?_)
              generalize w68.drew = w69 at HO178 BK173 HB hHeld ⊢
              refine t5_ HT_ HW_ hHeld ?_
              refine one_ (i := 1) (N := some 51) (bv_ 2 13) rfl rfl (one_of HT_.out (by kernel_rfl)) (by decide) (fun K hK => ?_)
              refine goes_ Tryz.func18 (by kernel_rfl) rfl #[.agg #[.int .i64 z0, .string z1, .slice A0_2 l0_2.length c0_2, .slice A0_3 l0_3.length c0_3]] (by rfl) rfl rfl lq_ ?_
              with_reducible refine (http_CheckResponse.calls kj2 z0 z1 _ _ l0_2 _ _ l0_3 t183 _ ?side5 ?side1 ?side2 ?side3 ?side4 A17.out).mono ?_
              (case side1 => repeat (first | exact (Kd.C_below HR0_2.out HB.out) | (with_reducible refine Kd.C_alloc ?_ _) | (with_reducible refine Kd.C_drewN ?_ _) | (with_reducible refine Kd.C_drew ?_)))
              (case side2 => exact HC0_2.out)
              (case side3 => repeat (first | exact (Kd.C_below HR0_3.out HB.out) | (with_reducible refine Kd.C_alloc ?_ _) | (with_reducible refine Kd.C_drewN ?_ _) | (with_reducible refine Kd.C_drew ?_)))
              (case side4 => exact HC0_3.out)
              (case side5 => exact lg_)
              rintro e w70 ⟨rfl, hb⟩
              refine ⟨_, rfl, ?_⟩
              replace HO178 := Aside0.mk (Kd.R_below (by (with_reducible repeat (first | apply Kd.R_alloc | apply Kd.R_drewN | apply Kd.R_drew)); exact HO178.out) hb)
              replace BK173 := Aside0.mk (bb_ BK173 hb)
              replace HB := Aside0.mk (below_step bg_ hb)
              refine hK.out _ _ ⟨(blk_cell BK173.out 0).trans rfl, (blk_cell BK173.out 1).trans rfl, (blk_cell BK173.out 2).trans rfl, (blk_cell BK173.out 3).trans rfl, own_string (P := Tryz.prog) Tryz.underlying22 Tryz.underlying5 Tryz.underlying9 (Kd.own_of_R HO178.out)⟩ (fun hHeld => ?_)
              clear hK K
              refine norm_ (a' := ?_) ?_ ?_
              rotate_left
              ·show Act.put _ (some 51) _ = _
               simp only [Act.put, sa_, s0_, s1_, i64_w, i32_w]
               rfl
              iterate 7 refine p1_ HT_ ?_
              iterate 2 refine t5_ HT_ HW_ hHeld ?_
              refine one_ (i := 11) (N := some 61) (bv_ 12 3) rfl rfl (one_of HT_.out (by kernel_rfl)) (by decide) (fun K hK => ?_)
              refine goes_ Tryz.func19 (by kernel_rfl) rfl #[.agg #[.int .i64 z0, .string z1, .slice A0_2 l0_2.length c0_2, .slice A0_3 l0_3.length c0_3]] (by rfl) rfl rfl lq_ ?_
              with_reducible refine (lanternref11_Response.calls kj2 z0 z1 _ _ l0_2 _ _ l0_3 t184 _ ?side5 ?side1 ?side2 ?side3 ?side4 A20.out).mono ?_
              (case side1 => repeat (first | exact (Kd.C_below HR0_2.out HB.out) | (with_reducible refine Kd.C_alloc ?_ _) | (with_reducible refine Kd.C_drewN ?_ _) | (with_reducible refine Kd.C_drew ?_)))
              (case side2 => exact HC0_2.out)
              (case side3 => repeat (first | exact (Kd.C_below HR0_3.out HB.out) | (with_reducible refine Kd.C_alloc ?_ _) | (with_reducible refine Kd.C_drewN ?_ _) | (with_reducible refine Kd.C_drew ?_)))
              (case side4 => exact HC0_3.out)
              (case side5 => exact lg_)
              rintro e w72 ⟨v185, rfl, ho0, hb⟩
              refine ⟨_, rfl, ?_⟩
              have n0_ := Aside0.mk (Kd.R_elder' (by (with_reducible repeat (first | apply Kd.R_alloc | apply Kd.R_drewN | apply Kd.R_drew)); exact HO178.out) (Ko.R_base ho0) hb)
              have n1_ := Aside0.mk (Ko.R_lower (Ko.R_new' ho0 (Kd.R_lt (by (with_reducible repeat (first | apply Kd.R_alloc | apply Kd.R_drewN | apply Kd.R_drew)); exact HO178.out))) (below_size bg_))
              have n2_ := Aside0.mk (bb_ BK173 hb)
              have n3_ := Aside0.mk (below_step bg_ hb)
              clear HO178 BK173 HB
              have HO178 := n0_
              have HO186 := n1_
              have BK173 := n2_
              have HB := n3_
              clear n0_ n1_ n2_ n3_
              refine hK.out _ _ ⟨(blk_cell BK173.out 0).trans rfl, (blk_cell BK173.out 1).trans rfl, (blk_cell BK173.out 2).trans rfl, (blk_cell BK173.out 3).trans rfl, own_string (P := Tryz.prog) Tryz.underlying22 Tryz.underlying5 Tryz.underlying9 (Kd.own_of_R HO178.out)⟩ (fun hHeld => ?_)
              clear hK K
              refine norm_ (a' := ?_) ?_ ?_
              rotate_left
              ·show Act.put _ (some 61) _ = _
               simp only [Act.put, sa_, s0_, s1_, i64_w, i32_w]
               rfl
              refine one_ (i := 12) (N := some 62) (bv_ 13 2) rfl rfl (one_of HT_.out (by kernel_rfl)) (by decide) (fun K hK => ?_)
              have hcv73 := Ko.string_ (P := Tryz.prog) Tryz.underlying22 Tryz.underlying5 Tryz.underlying9 HO186.out
              refine value_ (w1 := ?_) (v := ?_) (by rfl) rfl ?_ ?_
              rotate_left 2
              ·go_simp
               constructor
               ·rfl
               ·rfl
              clear hcv73
              refine hK.out _ _ ⟨(blk_cell BK173.out 0).trans rfl, (blk_cell BK173.out 1).trans rfl, (blk_cell BK173.out 2).trans rfl, (blk_cell BK173.out 3).trans rfl, own_string (P := Tryz.prog) Tryz.underlying22 Tryz.underlying5 Tryz.underlying9 (Kd.own_of_R HO178.out)⟩ (fun hHeld => ?_)
              clear hK K
              refine norm_ (a' := ?_) ?_ ?_
              rotate_left
              ·show Act.put _ (some 62) _ = _
               simp only [Act.put, sa_, s0_, s1_, i64_w, i32_w]
               rfl
              iterate 2 refine p1_ HT_ ?_
              refine done_ (done_of HT_.out (by kernel_rfl)) ?_
              try go_wp2_with (first | ((with_reducible refine gate_dst (N := 66) rfl ?_); (try (refine gate_guard (by rfl) ?_; dsimp only)); refine Kd.R_lit (Kd.int .u8) _ 5 ?hg (N := 66) ?hd (xs := ([] : List Int)) (inner := []) (ok := fun _ => True) (okp := fun _ => True) ?hr ?hp (fun _ hk => hk) trivial (Below.refl _ _) (Nat.le_refl _) (by simp) ?_; (case hd => rfl); (case hg => rfl); (case hr => first | (go_simp; done) | (go_simp; rfl)); (case hp => exact (Reps.none _ _)); intro v188 w75 ho76 hb hg_ hnew_; clear hg_ hnew_; (first | rw [← Ny187.out] at ho76 | (simp only [Int.reduceToNat] at ho76; rw [← Ny187.out] at ho76)); have n0_ := Aside0.mk (Kd.R_elder' (by (with_reducible repeat (first | apply Kd.R_alloc | apply Kd.R_drewN | apply Kd.R_drew)); exact HO178.out) (Kd.R_base ho76) hb); have n1_ := Aside0.mk (Ko.R_elder' (by (with_reducible repeat (first | apply Ko.R_alloc | apply Ko.R_drewN | apply Ko.R_drew)); exact HO186.out) (Kd.R_base ho76) hb); have n2_ := Aside0.mk (Kd.R_lower (Kd.R_new' (Kd.R_new' ho76 (Kd.R_lt (by (with_reducible repeat (first | apply Kd.R_alloc | apply Kd.R_drewN | apply Kd.R_drew)); exact HO178.out))) (Ko.R_lt (by (with_reducible repeat (first | apply Ko.R_alloc | apply Ko.R_drewN | apply Ko.R_drew)); exact HO186.out))) (below_size bg_)); have n3_ := Aside0.mk (bb_ BK173 hb); have n4_ := Aside0.mk (below_step bg_ hb); clear HO178; clear HO186; clear BK173; clear HB; have HO178 := n0_; have HO186 := n1_; have HO189 := n2_; have BK173 := n3_; have HB := n4_; clear n0_ n1_ n2_ n3_ n4_; clear hb ho76; obtain ⟨Ao78, co78, eo78⟩ := Kd.R_slice HO178.out; subst eo78) | ((with_reducible refine gate_builtin (b := .append) (xs := #[.tmp 66, .tmp 67]) rfl ?_); (try (refine gate_guard (by rfl) ?_; dsimp only)); at_builtin; refine Kd.R_append_rows (Kd.int .u8) (w0 := w) w.heap.size rfl (.tmp 66) (.tmp 67) 22 5 (.int .u8 0) 1 rfl Tryz.underlying22 Go.Proofs.YtipleegkonhfcaaGreatDoor.P.info5 rfl (by decide) (by omega) v188 y187 t176 _ _ _ (fun k_ => some k_ ≠ (.slice Ao78 t176.length co78 : Value).ownBlock ∧ some k_ ≠ (v185 : Value).ownBlock) (fun _ => False) rfl rfl ?aO ?aR (fun _ _ h => h) (fun _ h => h.elim) ?aF ?aB ?aS ?aL ?_; (case aR => repeat (first | exact (Kd.R_reads' HO178.out).2.2 | (with_reducible refine Kd.C_alloc ?_ _) | (with_reducible refine Kd.C_drewN ?_ _) | (with_reducible refine Kd.C_drew ?_))); (case aB => exact bg_); (case aF => exact (fun k_ hk => ⟨Kd.fresh' (Kd.R_lt (by (with_reducible repeat (first | apply Kd.R_alloc | apply Kd.R_drewN | apply Kd.R_drew)); exact HO178.out)) k_ hk, Kd.fresh' (Ko.R_lt (by (with_reducible repeat (first | apply Ko.R_alloc | apply Ko.R_drewN | apply Ko.R_drew)); exact HO186.out)) k_ hk⟩)); (case aO => exact (by (with_reducible repeat (first | apply Kd.R_alloc | apply Kd.R_drewN | apply Kd.R_drew)); exact Kd.R_mono HO189.out (fun _ hk => ⟨hk.1.2, hk.2⟩))); (case aS => exact (below_size bg_)); (case aL => have := LMc22.out; omega); intro v191 w77 ho hb hg hat; rw [← Ny190.out] at ho; replace BK173 := Aside0.mk (blk_grown (g := gb173) (o := .cells #[.int .i64 z0, .string z1, .slice A0_2 l0_2.length c0_2, .slice A0_3 l0_3.length c0_3] 41 (0, 0)) bk_ hg (Kd.R_ne HO189.out BK173.out (by decide))); replace HO178 := Aside0.mk (Kd.R_after (ok := (fun k_ => some k_ ≠ (v185 : Value).ownBlock)) (by (with_reducible repeat (first | apply Kd.R_alloc | apply Kd.R_drewN | apply Kd.R_drew)); exact Kd.R_mono HO178.out (fun _ hk => ⟨hk.1.2, hk.2⟩)) hg hat); replace HO186 := Aside0.mk (Ko.R_after (ok := (fun k_ => some k_ ≠ (.slice Ao78 t176.length co78 : Value).ownBlock)) (by (with_reducible repeat (first | apply Ko.R_alloc | apply Ko.R_drewN | apply Ko.R_drew)); exact Ko.R_mono HO186.out (fun _ hk => ⟨hk.1.2, hk.2⟩)) hg hat); have HO192 := Aside0.mk (ho); replace HB := Aside0.mk (hb); clear HO189; clear ho hb hg hat) | ((with_reducible refine gate_builtin (b := .append) (xs := #[.tmp 68, .tmp 69]) rfl ?_); (try (refine gate_guard (by rfl) ?_; dsimp only)); at_builtin; refine Kd.R_append_rows (Kd.int .u8) (w0 := w) w.heap.size rfl (.tmp 68) (.tmp 69) 22 5 (.int .u8 0) 1 rfl Tryz.underlying22 Go.Proofs.YtipleegkonhfcaaGreatDoor.P.info5 rfl (by decide) (by omega) v191 y190 l1 _ _ _ (fun k_ => some k_ ≠ (.slice Ao78 t176.length co78 : Value).ownBlock ∧ some k_ ≠ (v185 : Value).ownBlock) (fun _ => False) rfl rfl ?aO ?aR (fun _ _ h => h) (fun _ h => h.elim) ?aF ?aB ?aS ?aL ?_; (case aR => repeat (first | exact (Kd.C_below HR1.out HB.out) | (with_reducible refine Kd.C_alloc ?_ _) | (with_reducible refine Kd.C_drewN ?_ _) | (with_reducible refine Kd.C_drew ?_))); (case aB => exact bg_); (case aF => exact (fun k_ hk => ⟨Kd.fresh' (Kd.R_lt (by (with_reducible repeat (first | apply Kd.R_alloc | apply Kd.R_drewN | apply Kd.R_drew)); exact HO178.out)) k_ hk, Kd.fresh' (Ko.R_lt (by (with_reducible repeat (first | apply Ko.R_alloc | apply Ko.R_drewN | apply Ko.R_drew)); exact HO186.out)) k_ hk⟩)); (case aO => exact (by (with_reducible repeat (first | apply Kd.R_alloc | apply Kd.R_drewN | apply Kd.R_drew)); exact HO192.out)); (case aS => exact (below_size bg_)); (case aL => have := LMc23.out; omega); intro v194 w79 ho hb hg hat; rw [← Ny193.out] at ho; replace BK173 := Aside0.mk (blk_grown (g := gb173) (o := .cells #[.int .i64 z0, .string z1, .slice A0_2 l0_2.length c0_2, .slice A0_3 l0_3.length c0_3] 41 (0, 0)) bk_ hg (Kd.R_ne HO192.out BK173.out (by decide))); replace HO178 := Aside0.mk (Kd.R_after (ok := (fun k_ => some k_ ≠ (v185 : Value).ownBlock)) (by (with_reducible repeat (first | apply Kd.R_alloc | apply Kd.R_drewN | apply Kd.R_drew)); exact HO178.out) hg hat); replace HO186 := Aside0.mk (Ko.R_after (ok := (fun k_ => some k_ ≠ (.slice Ao78 t176.length co78 : Value).ownBlock)) (by (with_reducible repeat (first | apply Ko.R_alloc | apply Ko.R_drewN | apply Ko.R_drew)); exact HO186.out) hg hat); have HO195 := Aside0.mk (ho); replace HB := Aside0.mk (hb); clear HO192; clear ho hb hg hat; obtain ⟨Ao80, co80, eo80⟩ := Kd.R_slice HO195.out; subst eo80) | ((with_reducible refine gate_callee (f := 20) rfl ?_); refine goesL_ (some 71) rfl rfl Tryz.func20 (by kernel_rfl) rfl #[.slice Ao80 y193.length co80] rfl lq_ ?_; (with_reducible refine (http_ParseResponse.calls kj2 _ _ y193 t196 t197 t198 t201 t204 t205 _ ?side3 ?side1 ?side2 A24.out).mono ?_); (case side1 => repeat (first | exact (Kd.R_reads' HO195.out).2.2 | (with_reducible refine Kd.C_alloc ?_ _) | (with_reducible refine Kd.C_drewN ?_ _) | (with_reducible refine Kd.C_drew ?_))); (case side2 => exact (Kd.R_reads' HO195.out).2.1); (case side3 => exact lg_); rintro e w81 ⟨v199, v202, rfl, ho0, ho1, hb⟩; refine ⟨_, rfl, ?_⟩; have n0_ := Aside0.mk (Kd.R_elder' (by (with_reducible repeat (first | apply Kd.R_alloc | apply Kd.R_drewN | apply Kd.R_drew)); exact HO178.out) (Kd.R_base ho1) hb); have n1_ := Aside0.mk (Ko.R_elder' (by (with_reducible repeat (first | apply Ko.R_alloc | apply Ko.R_drewN | apply Ko.R_drew)); exact HO186.out) (Kd.R_base ho1) hb); have n2_ := Aside0.mk (Kd.R_elder' (by (with_reducible repeat (first | apply Kd.R_alloc | apply Kd.R_drewN | apply Kd.R_drew)); exact HO195.out) (Kd.R_base ho1) hb); have n3_ := Aside0.mk (Kd.R_lower ho0 (below_size bg_)); have n4_ := Aside0.mk (Kd.R_lower (Kd.R_new' (Kd.R_new' (Kd.R_new' ho1 (Kd.R_lt (by (with_reducible repeat (first | apply Kd.R_alloc | apply Kd.R_drewN | apply Kd.R_drew)); exact HO178.out))) (Ko.R_lt (by (with_reducible repeat (first | apply Ko.R_alloc | apply Ko.R_drewN | apply Ko.R_drew)); exact HO186.out))) (Kd.R_lt (by (with_reducible repeat (first | apply Kd.R_alloc | apply Kd.R_drewN | apply Kd.R_drew)); exact HO195.out))) (below_size bg_)); have n5_ := Aside0.mk (bb_ BK173 hb); have n6_ := Aside0.mk (below_step bg_ hb); clear HO178; clear HO186; clear HO195; clear BK173; clear HB; have HO178 := n0_; have HO186 := n1_; have HO195 := n2_; have HO200 := n3_; have HO203 := n4_; have BK173 := n5_; have HB := n6_; clear n0_ n1_ n2_ n3_ n4_ n5_ n6_) | ((with_reducible refine gate_dst (N := 7) rfl ?_); (try (refine gate_guard (by rfl) ?_; dsimp only)); refine bx_ 7 #[.int .i64 0, .string (⟨#[]⟩ : ByteArray), .slice none 0 0, .slice none 0 0] 41 ?_; intro gb206 hg w82 hbox hb; have n0_ := Aside0.mk (Kd.R_below (by (with_reducible repeat (first | apply Kd.R_alloc | apply Kd.R_drewN | apply Kd.R_drew)); exact HO178.out) hb); have n1_ := Aside0.mk (Ko.R_below (by (with_reducible repeat (first | apply Ko.R_alloc | apply Ko.R_drewN | apply Ko.R_drew)); exact HO186.out) hb); have n2_ := Aside0.mk (Kd.R_below (by (with_reducible repeat (first | apply Kd.R_alloc | apply Kd.R_drewN | apply Kd.R_drew)); exact HO195.out) hb); have n3_ := Aside0.mk (Kd.R_below (by (with_reducible repeat (first | apply Kd.R_alloc | apply Kd.R_drewN | apply Kd.R_drew)); exact HO200.out) hb); have n4_ := Aside0.mk (Kd.R_below (by (with_reducible repeat (first | apply Kd.R_alloc | apply Kd.R_drewN | apply Kd.R_drew)); exact HO203.out) hb); have n5_ := Aside0.mk (bb_ BK173 hb); have n6_ := Aside0.mk (below_step bg_ hb); have n7_ := Aside0.mk (hbox); have n8_ := Aside0.mk (gg_ (w := w) hg); have n9_ := Aside0.mk (gg_ (w := w) hg); have n10_ := Aside0.mk (nl_ BK173 hg); have n11_ := Aside0.mk (ng_ BK173 hg); clear HO178; clear HO186; clear HO195; clear HO200; clear HO203; clear BK173; clear HB; have HO178 := n0_; have HO186 := n1_; have HO195 := n2_; have HO200 := n3_; have HO203 := n4_; have BK173 := n5_; have HB := n6_; have BK206 := n7_; have GW206 := n8_; have GE206 := n9_; have NB173_206 := n10_; have NB206_173 := n11_; clear n0_ n1_ n2_ n3_ n4_ n5_ n6_ n7_ n8_ n9_ n10_ n11_; clear hb hbox hg; have hnb83 := NB206_173.out; have hnc83 := NB173_206.out; have hcz84_0 := cz_ BK206 0 (.int .i64 0); have hcz84_1 := cz_ BK206 1 (.string (⟨#[]⟩ : ByteArray)); have hcz84_2 := cz_ BK206 2 (.slice none 0 0); have hcz84_3 := cz_ BK206 3 (.slice none 0 0); have hfz84_0 := bf_ BK206 0; have hfz84_1 := bf_ BK206 1; have hfz84_2 := bf_ BK206 2; have hfz84_3 := bf_ BK206 3; obtain ⟨Ao85, co85, eo85⟩ := Kd.R_slice HO200.out; subst eo85; obtain ⟨Ao86, co86, eo86⟩ := Kd.R_slice HO203.out; subst eo86) | ((with_reducible refine gate_store (t := 41) (p := 7) rfl ?_); refine store_all ?hg 41 7 _ rfl rfl gb206 [.int .i64 0, .string (⟨#[]⟩ : ByteArray), .slice none 0 0, .slice none 0 0] [.int .i64 t196, .string t197, .slice Ao85 t198.length co85, .slice Ao86 t201.length co86] BK206.out rfl rfl rfl (by kernel_rfl) rfl ?_; (case hg => rfl); intro w87 hw; have n0_ : Aside0 (Kd.R (Kd.int .u8) 5 w87 w.heap.size (fun k_ => some k_ ≠ (v185 : Value).ownBlock ∧ some k_ ≠ (.slice Ao80 y193.length co80 : Value).ownBlock ∧ some k_ ≠ (.slice Ao86 t201.length co86 : Value).ownBlock) (.slice Ao78 t176.length co78) t176) := ⟨(by rw [hw]; exact (by (with_reducible repeat (first | apply Kd.R_alloc | apply Kd.R_drewN | apply Kd.R_drew)); exact Kd.R_mono (R_farC (g := gb206) (fun _ hk => hk.2) (Kd.R_types HO178.out BK206.out (by decide)) [.int .i64 t196, .string t197, .slice Ao85 t198.length co85, .slice Ao86 t201.length co86] 0) (fun _ hk => ⟨hk.1.1.1, ⟨hk.1.1.2, hk.1.2⟩⟩)))⟩; have n1_ : Aside0 (Ko.R w87 w.heap.size (fun k_ => some k_ ≠ (.slice Ao78 t176.length co78 : Value).ownBlock ∧ some k_ ≠ (.slice Ao80 y193.length co80 : Value).ownBlock ∧ some k_ ≠ (.slice Ao86 t201.length co86 : Value).ownBlock) v185 t184) := ⟨(by rw [hw]; exact (by (with_reducible repeat (first | apply Ko.R_alloc | apply Ko.R_drewN | apply Ko.R_drew)); exact Ko.R_mono (Ko.R_farC (g := gb206) (fun _ hk => hk.2) (Ko.R_types HO186.out BK206.out (by decide)) [.int .i64 t196, .string t197, .slice Ao85 t198.length co85, .slice Ao86 t201.length co86] 0) (fun _ hk => ⟨hk.1.1.1, ⟨hk.1.1.2, hk.1.2⟩⟩)))⟩; have n2_ : Aside0 (Kd.R (Kd.int .u8) 5 w87 w.heap.size (fun k_ => some k_ ≠ (.slice Ao78 t176.length co78 : Value).ownBlock ∧ some k_ ≠ (v185 : Value).ownBlock ∧ some k_ ≠ (.slice Ao86 t201.length co86 : Value).ownBlock) (.slice Ao80 y193.length co80) y193) := ⟨(by rw [hw]; exact (by (with_reducible repeat (first | apply Kd.R_alloc | apply Kd.R_drewN | apply Kd.R_drew)); exact Kd.R_mono (R_farC (g := gb206) (fun _ hk => hk.2) (Kd.R_types HO195.out BK206.out (by decide)) [.int .i64 t196, .string t197, .slice Ao85 t198.length co85, .slice Ao86 t201.length co86] 0) (fun _ hk => ⟨hk.1.1.1, ⟨hk.1.1.2, hk.1.2⟩⟩)))⟩; have n3_ : Aside0 (Kd.R k67 67 w87 w.heap.size (fun _ => True) (.slice Ao85 t198.length co85) t198) := ⟨(by rw [hw]; exact (by (with_reducible repeat (first | apply Kd.R_alloc | apply Kd.R_drewN | apply Kd.R_drew)); exact Kd.R_mono (R_farC (g := gb206) (fun _ hk => hk.2) (Kd.R_types HO200.out BK206.out (by decide)) [.int .i64 t196, .string t197, .slice Ao85 t198.length co85, .slice Ao86 t201.length co86] 0) (fun _ hk => trivial)))⟩; have n4_ : Aside0 (Kd.R (Kd.int .u8) 5 w87 w.heap.size (fun k_ => some k_ ≠ (.slice Ao78 t176.length co78 : Value).ownBlock ∧ some k_ ≠ (v185 : Value).ownBlock ∧ some k_ ≠ (.slice Ao80 y193.length co80 : Value).ownBlock) (.slice Ao86 t201.length co86) t201) := ⟨(by rw [hw]; exact (by (with_reducible repeat (first | apply Kd.R_alloc | apply Kd.R_drewN | apply Kd.R_drew)); exact Kd.R_mono (R_farC (g := gb206) (fun _ hk => hk.2) (Kd.R_types HO203.out BK206.out (by decide)) [.int .i64 t196, .string t197, .slice Ao85 t198.length co85, .slice Ao86 t201.length co86] 0) (fun _ hk => ⟨hk.1.1.1.2, ⟨hk.1.1.2, hk.1.2⟩⟩)))⟩; have n5_ := Aside0.mk (sf_ BK173 NB173_206 hw); have n6_ : Aside0 (w87.heap[gb206]? = some (.cells #[.int .i64 t196, .string t197, .slice Ao85 t198.length co85, .slice Ao86 t201.length co86] 41 (0, 0))) := ⟨(by rw [hw]; exact (by (with_reducible repeat (first | refine blk_drewN ?_ _ | refine blk_drew ?_ | refine blk_alloc ?_ _)); refine blk_part [.int .i64 t196, .string t197, .slice Ao85 t198.length co85, .slice Ao86 t201.length co86] [.int .i64 0, .string (⟨#[]⟩ : ByteArray), .slice none 0 0, .slice none 0 0] [] [] (cs := #[.int .i64 0, .string (⟨#[]⟩ : ByteArray), .slice none 0 0, .slice none 0 0]) ?_ rfl rfl rfl; (with_reducible repeat (first | refine blk_drewN ?_ _ | refine blk_drew ?_ | refine blk_alloc ?_ _)); exact BK206.out))⟩; have n7_ := Aside0.mk (sb_ hw); clear hw; clear HO178; clear HO186; clear HO195; clear HO200; clear HO203; clear BK173; clear BK206; clear HB; have HO178 := n0_; have HO186 := n1_; have HO195 := n2_; have HO200 := n3_; have HO203 := n4_; have BK173 := n5_; have BK206 := n6_; have HB := n7_; clear n0_ n1_ n2_ n3_ n4_ n5_ n6_ n7_; have hcz88_0 := cz_ BK173 0 (.int .i64 z0); have hcz88_1 := cz_ BK173 1 (.string z1); have hcz88_2 := cz_ BK173 2 (.slice A0_2 l0_2.length c0_2); have hcz88_3 := cz_ BK173 3 (.slice A0_3 l0_3.length c0_3); have hfz88_0 := bf_ BK173 0; have hfz88_1 := bf_ BK173 1; have hfz88_2 := bf_ BK173 2; have hfz88_3 := bf_ BK173 3) | ((with_reducible refine gate_callee (f := 21) rfl ?_); refine goesL_ (some 77) rfl rfl Tryz.func21 (by kernel_rfl) rfl #[.int .i64 z0] rfl lq_ ?_; (with_reducible refine (lanternref11_Bare.calls z0 false _ ?side1 A25.out).mono ?_); (case side1 => exact lg_); rintro e w' ⟨rfl, ⟨nd, rfl⟩⟩; refine ⟨_, rfl, ?_⟩; (try (rw [drewN_self w87]; generalize hq_ : World.drewN w87 _ = w87; have n0_ : Aside0 (Kd.R (Kd.int .u8) 5 w87 w.heap.size (fun k_ => some k_ ≠ (v185 : Value).ownBlock ∧ some k_ ≠ (.slice Ao80 y193.length co80 : Value).ownBlock ∧ some k_ ≠ (.slice Ao86 t201.length co86 : Value).ownBlock) (.slice Ao78 t176.length co78) t176) := ⟨by rw [← hq_]; exact (by (with_reducible repeat (first | apply Kd.R_alloc | apply Kd.R_drewN | apply Kd.R_drew)); exact HO178.out)⟩; have n1_ : Aside0 (Ko.R w87 w.heap.size (fun k_ => some k_ ≠ (.slice Ao78 t176.length co78 : Value).ownBlock ∧ some k_ ≠ (.slice Ao80 y193.length co80 : Value).ownBlock ∧ some k_ ≠ (.slice Ao86 t201.length co86 : Value).ownBlock) v185 t184) := ⟨by rw [← hq_]; exact (by (with_reducible repeat (first | apply Ko.R_alloc | apply Ko.R_drewN | apply Ko.R_drew)); exact HO186.out)⟩; have n2_ : Aside0 (Kd.R (Kd.int .u8) 5 w87 w.heap.size (fun k_ => some k_ ≠ (.slice Ao78 t176.length co78 : Value).ownBlock ∧ some k_ ≠ (v185 : Value).ownBlock ∧ some k_ ≠ (.slice Ao86 t201.length co86 : Value).ownBlock) (.slice Ao80 y193.length co80) y193) := ⟨by rw [← hq_]; exact (by (with_reducible repeat (first | apply Kd.R_alloc | apply Kd.R_drewN | apply Kd.R_drew)); exact HO195.out)⟩; have n3_ : Aside0 (Kd.R k67 67 w87 w.heap.size (fun _ => True) (.slice Ao85 t198.length co85) t198) := ⟨by rw [← hq_]; exact (by (with_reducible repeat (first | apply Kd.R_alloc | apply Kd.R_drewN | apply Kd.R_drew)); exact HO200.out)⟩; have n4_ : Aside0 (Kd.R (Kd.int .u8) 5 w87 w.heap.size (fun k_ => some k_ ≠ (.slice Ao78 t176.length co78 : Value).ownBlock ∧ some k_ ≠ (v185 : Value).ownBlock ∧ some k_ ≠ (.slice Ao80 y193.length co80 : Value).ownBlock) (.slice Ao86 t201.length co86) t201) := ⟨by rw [← hq_]; exact (by (with_reducible repeat (first | apply Kd.R_alloc | apply Kd.R_drewN | apply Kd.R_drew)); exact HO203.out)⟩; have n5_ : Aside0 (w87.heap[gb173]? = some (.cells #[.int .i64 z0, .string z1, .slice A0_2 l0_2.length c0_2, .slice A0_3 l0_3.length c0_3] 41 (0, 0))) := ⟨by rw [← hq_]; exact bk_⟩; have n6_ : Aside0 (w87.heap[gb206]? = some (.cells #[.int .i64 t196, .string t197, .slice Ao85 t198.length co85, .slice Ao86 t201.length co86] 41 (0, 0))) := ⟨by rw [← hq_]; exact bk_⟩; have n7_ : Aside0 (Below w.heap.size w w87) := ⟨by rw [← hq_]; exact bg_⟩; clear HO178 HO186 HO195 HO200 HO203 BK173 BK206 HB hq_; have HO178 := n0_; have HO186 := n1_; have HO195 := n2_; have HO200 := n3_; have HO203 := n4_; have BK173 := n5_; have BK206 := n6_; have HB := n7_; clear n0_ n1_ n2_ n3_ n4_ n5_ n6_ n7_)); have hczw_2 := cz_ BK173 2 (.slice A0_2 l0_2.length c0_2); have hczw_3 := cz_ BK173 3 (.slice A0_3 l0_3.length c0_3)) | ((with_reducible refine gate_callee (f := 15) rfl ?_); refine goesL_ (some 84) rfl rfl Tryz.func15 (by kernel_rfl) rfl #[.slice A0_2 l0_2.length c0_2, .int .i64 (l0_3.length : Int)] rfl lq_ ?_; (with_reducible refine (lanternref11_With.calls kj2 _ _ l0_2 (l0_3.length : Int) t210 _ ?side3 ?side1 ?side2 A59.out).mono ?_); (case side1 => repeat (first | exact (Kd.C_below HR0_2.out HB.out) | (with_reducible refine Kd.C_alloc ?_ _) | (with_reducible refine Kd.C_drewN ?_ _) | (with_reducible refine Kd.C_drew ?_))); (case side2 => exact HC0_2.out); (case side3 => exact lg_); rintro e w89 ⟨v211, rfl, ho0, hb⟩; refine ⟨_, rfl, ?_⟩; have n0_ := Aside0.mk (Kd.R_below (by (with_reducible repeat (first | apply Kd.R_alloc | apply Kd.R_drewN | apply Kd.R_drew)); exact HO178.out) hb); have n1_ := Aside0.mk (Ko.R_below (by (with_reducible repeat (first | apply Ko.R_alloc | apply Ko.R_drewN | apply Ko.R_drew)); exact HO186.out) hb); have n2_ := Aside0.mk (Kd.R_below (by (with_reducible repeat (first | apply Kd.R_alloc | apply Kd.R_drewN | apply Kd.R_drew)); exact HO195.out) hb); have n3_ := Aside0.mk (Kd.R_elder' (by (with_reducible repeat (first | apply Kd.R_alloc | apply Kd.R_drewN | apply Kd.R_drew)); exact HO200.out) (Kd.R_base ho0) hb); have n4_ := Aside0.mk (Kd.R_below (by (with_reducible repeat (first | apply Kd.R_alloc | apply Kd.R_drewN | apply Kd.R_drew)); exact HO203.out) hb); have n5_ := Aside0.mk (Kd.R_lower (Kd.R_new' ho0 (Kd.R_lt (by (with_reducible repeat (first | apply Kd.R_alloc | apply Kd.R_drewN | apply Kd.R_drew)); exact HO200.out))) (below_size bg_)); have n6_ := Aside0.mk (bb_ BK173 hb); have n7_ := Aside0.mk (bb_ BK206 hb); have n8_ := Aside0.mk (below_step bg_ hb); clear HO178; clear HO186; clear HO195; clear HO200; clear HO203; clear BK173; clear BK206; clear HB; have HO178 := n0_; have HO186 := n1_; have HO195 := n2_; have HO200 := n3_; have HO203 := n4_; have HO212 := n5_; have BK173 := n6_; have BK206 := n7_; have HB := n8_; clear n0_ n1_ n2_ n3_ n4_ n5_ n6_ n7_ n8_; obtain ⟨Ao90, co90, eo90⟩ := Kd.R_slice HO212.out; subst eo90; have hcz91_0 := cz_ BK173 0 (.int .i64 z0); have hcz91_1 := cz_ BK173 1 (.string z1); have hcz91_2 := cz_ BK173 2 (.slice A0_2 l0_2.length c0_2); have hcz91_3 := cz_ BK173 3 (.slice A0_3 l0_3.length c0_3); have hfz91_0 := bf_ BK173 0; have hfz91_1 := bf_ BK173 1; have hfz91_2 := bf_ BK173 2; have hfz91_3 := bf_ BK173 3; have hcz92_0 := cz_ BK206 0 (.int .i64 t196); have hcz92_1 := cz_ BK206 1 (.string t197); have hcz92_2 := cz_ BK206 2 (.slice Ao85 t198.length co85); have hcz92_3 := cz_ BK206 3 (.slice Ao86 t201.length co86); have hfz92_0 := bf_ BK206 0; have hfz92_1 := bf_ BK206 1; have hfz92_2 := bf_ BK206 2; have hfz92_3 := bf_ BK206 3) | (go_at_call 22; (with_reducible refine (lanternref11_SameResponse.calls kj2 t196 t197 _ _ t198 _ _ t201 z0 z1 _ _ t210 _ _ l0_3 true _ ?side9 ?side1 ?side2 ?side3 ?side4 ?side5 ?side6 ?side7 ?side8 A62.out).mono ?_); (case side1 => refine (Kd.R_reads' (e := 67) (base := w.heap.size) (ok := fun k_ => (True ∧ some k_ ≠ (.slice Ao90 t210.length co90 : Value).ownBlock)) (n := t198.length) (c := co85) ?_).2.2; exact (by (with_reducible repeat (first | apply Kd.R_alloc | apply Kd.R_drewN | apply Kd.R_drew)); exact (Kd.R_mono (Kd.R_far (p := ⟨gb173, 2, none⟩) (Kd.R_types HO200.out BK173.out (by decide)) (fun _ hk => hk.2) (.slice Ao90 t210.length co90)) (fun _ h_ => h_.1)))); (case side2 => exact (Kd.R_reads' HO200.out).2.1); (case side3 => refine (Kd.R_reads' (e := 5) (base := w.heap.size) (ok := fun k_ => (some k_ ≠ (.slice Ao78 t176.length co78 : Value).ownBlock ∧ (some k_ ≠ (v185 : Value).ownBlock ∧ some k_ ≠ (.slice Ao80 y193.length co80 : Value).ownBlock))) (n := t201.length) (c := co86) ?_).2.2; exact (by (with_reducible repeat (first | apply Kd.R_alloc | apply Kd.R_drewN | apply Kd.R_drew)); exact (Kd.R_mono (Kd.R_far (p := ⟨gb173, 2, none⟩) (Kd.R_types HO203.out BK173.out (by decide)) (fun _ hk => hk.2) (.slice Ao90 t210.length co90)) (fun _ h_ => h_.1)))); (case side4 => exact (Kd.R_reads' HO203.out).2.1); (case side5 => refine (Kd.R_reads' (e := 67) (base := w.heap.size) (ok := fun k_ => (True ∧ some k_ ≠ (.slice Ao85 t198.length co85 : Value).ownBlock)) (n := t210.length) (c := co90) ?_).2.2; exact (by (with_reducible repeat (first | apply Kd.R_alloc | apply Kd.R_drewN | apply Kd.R_drew)); exact (Kd.R_mono (Kd.R_far (p := ⟨gb173, 2, none⟩) (Kd.R_types HO212.out BK173.out (by decide)) (fun _ hk => hk.2) (.slice Ao90 t210.length co90)) (fun _ h_ => h_.1)))); (case side6 => exact (Kd.R_reads' HO212.out).2.1); (case side7 => exact Kd.C_below HR0_3.out bg_); (case side8 => exact HC0_3.out); (case side9 => exact lg_); rintro e w93 ⟨rfl, hb⟩; replace HO178 := Aside0.mk (Kd.R_below (by (with_reducible repeat (first | apply Kd.R_alloc | apply Kd.R_drewN | apply Kd.R_drew)); exact (Kd.R_mono (Kd.R_far (p := ⟨gb173, 2, none⟩) (Kd.R_types HO178.out BK173.out (by decide)) (fun _ hk => hk.2) (.slice Ao90 t210.length co90)) (fun _ h_ => h_.1))) hb); replace HO186 := Aside0.mk (Ko.R_below (by (with_reducible repeat (first | apply Ko.R_alloc | apply Ko.R_drewN | apply Ko.R_drew)); exact (Ko.R_mono (Ko.R_far (p := ⟨gb173, 2, none⟩) (Ko.R_types HO186.out BK173.out (by decide)) (fun _ hk => hk.2) (.slice Ao90 t210.length co90)) (fun _ h_ => h_.1))) hb); replace HO195 := Aside0.mk (Kd.R_below (by (with_reducible repeat (first | apply Kd.R_alloc | apply Kd.R_drewN | apply Kd.R_drew)); exact (Kd.R_mono (Kd.R_far (p := ⟨gb173, 2, none⟩) (Kd.R_types HO195.out BK173.out (by decide)) (fun _ hk => hk.2) (.slice Ao90 t210.length co90)) (fun _ h_ => h_.1))) hb); replace HO200 := Aside0.mk (Kd.R_below (by (with_reducible repeat (first | apply Kd.R_alloc | apply Kd.R_drewN | apply Kd.R_drew)); exact (Kd.R_mono (Kd.R_far (p := ⟨gb173, 2, none⟩) (Kd.R_types HO200.out BK173.out (by decide)) (fun _ hk => hk.2) (.slice Ao90 t210.length co90)) (fun _ h_ => h_.1))) hb); replace HO203 := Aside0.mk (Kd.R_below (by (with_reducible repeat (first | apply Kd.R_alloc | apply Kd.R_drewN | apply Kd.R_drew)); exact (Kd.R_mono (Kd.R_far (p := ⟨gb173, 2, none⟩) (Kd.R_types HO203.out BK173.out (by decide)) (fun _ hk => hk.2) (.slice Ao90 t210.length co90)) (fun _ h_ => h_.1))) hb); replace HO212 := Aside0.mk (Kd.R_below (by (with_reducible repeat (first | apply Kd.R_alloc | apply Kd.R_drewN | apply Kd.R_drew)); exact (Kd.R_mono (Kd.R_far (p := ⟨gb173, 2, none⟩) (Kd.R_types HO212.out BK173.out (by decide)) (fun _ hk => hk.2) (.slice Ao90 t210.length co90)) (fun _ h_ => h_.1))) hb); replace BK173 := Aside0.mk (blk_below (g := gb173) (o := .cells #[.int .i64 z0, .string z1, .slice Ao90 t210.length co90, .slice A0_3 l0_3.length c0_3] 41 (0, 0)) (by (with_reducible repeat (first | refine blk_drewN ?_ _ | refine blk_drew ?_ | refine blk_alloc ?_ _)); refine blk_put (cs := #[.int .i64 z0, .string z1, .slice A0_2 l0_2.length c0_2, .slice A0_3 l0_3.length c0_3]) ?_ 2 _ rfl; (with_reducible repeat (first | refine blk_drewN ?_ _ | refine blk_drew ?_ | refine blk_alloc ?_ _)); exact BK173.out) hb); replace BK206 := Aside0.mk (blk_below (g := gb206) (o := .cells #[.int .i64 t196, .string t197, .slice Ao85 t198.length co85, .slice Ao86 t201.length co86] 41 (0, 0)) (by (with_reducible repeat (first | refine blk_drewN ?_ _ | refine blk_drew ?_ | refine blk_alloc ?_ _)); refine blk_far ?_ NB206_173.out _; (with_reducible repeat (first | refine blk_drewN ?_ _ | refine blk_drew ?_ | refine blk_alloc ?_ _)); exact BK206.out) hb); replace HB := Aside0.mk (below_step bg_ hb)) | (go_at_call 6; (with_reducible refine (lanternlaw11_awake.calls kj2  t214 _ ?side1 A64.out).mono ?_); (case side1 => exact lg_); rintro e w94 ⟨rfl, hb⟩; replace HO178 := Aside0.mk (Kd.R_below (by (with_reducible repeat (first | apply Kd.R_alloc | apply Kd.R_drewN | apply Kd.R_drew)); exact HO178.out) hb); replace HO186 := Aside0.mk (Ko.R_below (by (with_reducible repeat (first | apply Ko.R_alloc | apply Ko.R_drewN | apply Ko.R_drew)); exact HO186.out) hb); replace HO195 := Aside0.mk (Kd.R_below (by (with_reducible repeat (first | apply Kd.R_alloc | apply Kd.R_drewN | apply Kd.R_drew)); exact HO195.out) hb); replace HO200 := Aside0.mk (Kd.R_below (by (with_reducible repeat (first | apply Kd.R_alloc | apply Kd.R_drewN | apply Kd.R_drew)); exact HO200.out) hb); replace HO203 := Aside0.mk (Kd.R_below (by (with_reducible repeat (first | apply Kd.R_alloc | apply Kd.R_drewN | apply Kd.R_drew)); exact HO203.out) hb); replace HO212 := Aside0.mk (Kd.R_below (by (with_reducible repeat (first | apply Kd.R_alloc | apply Kd.R_drewN | apply Kd.R_drew)); exact HO212.out) hb); replace BK173 := Aside0.mk (bb_ BK173 hb); replace BK206 := Aside0.mk (bb_ BK206 hb); replace HB := Aside0.mk (below_step bg_ hb)))
              go_ret
              exact ⟨rq_, bg_⟩
             ·replace c63 := Bool.eq_false_iff.mpr c63
              subst c63
              replace H := ifF_ H
              exact absurd H (by simp)
            ·rw [if_neg c61] at H
             exact absurd H (by simp)
           ·rw [if_neg c60] at H
            exact absurd H (by simp)
         ·rw [if_neg c23] at H
          exact absurd H (by simp)
        ·rw [if_neg c22] at H
         exact absurd H (by simp)
       ·rw [if_neg c21] at H
        exact absurd H (by simp)
      ·rw [if_neg c19] at H
       exact absurd H (by simp)
     ·rw [if_neg c18] at H
      exact absurd H (by simp)
    ·replace c16 := Bool.eq_false_iff.mpr c16
     subst c16
     replace H := ifF_ H
     replace H := Option.bind_eq_some_iff.mp H
     obtain ⟨t181, A950, H⟩ := H
     (try dsimp only at H)
     have A95 := Aside0.mk A950
     clear A950
     by_cases c96 : t181 = 1
     ·rw [if_pos c96] at H
      have c96b0 := beq_iff_eq.mpr c96
      have c96b1 := bne_eq_false_iff_eq.mpr c96
      clear c96
      by_cases c97 : t179 = 1
      ·rw [if_pos c97] at H
       have c97b0 := beq_iff_eq.mpr c97
       have c97b1 := bne_eq_false_iff_eq.mpr c97
       clear c97
       by_cases c98 : (t176.length : Int) = 0
       ·rw [if_pos c98] at H
        have c98b0 := beq_iff_eq.mpr c98
        have c98b1 := bne_eq_false_iff_eq.mpr c98
        clear c98
        replace H := Option.bind_eq_some_iff.mp H
        obtain ⟨t182, A990, H⟩ := H
        (try dsimp only at H)
        have A99 := Aside0.mk A990
        clear A990
        obtain rfl := Option.some.inj H
        have hcz100_0 := cz_ BK173 0 (.int .i64 z0)
        have hcz100_1 := cz_ BK173 1 (.string z1)
        have hcz100_2 := cz_ BK173 2 (.slice A0_2 l0_2.length c0_2)
        have hcz100_3 := cz_ BK173 3 (.slice A0_3 l0_3.length c0_3)
        have hfz100_0 := bf_ BK173 0
        have hfz100_1 := bf_ BK173 1
        have hfz100_2 := bf_ BK173 2
        have hfz100_3 := bf_ BK173 3
        go_wp2_with (first | ((with_reducible refine gate_callee (f := 16) rfl ?_); refine goesL_ (some 29) rfl rfl Tryz.func16 (by kernel_rfl) rfl #[.agg #[.int .i64 z0, .string z1, .slice A0_2 l0_2.length c0_2, .slice A0_3 l0_3.length c0_3]] rfl lq_ ?_; (with_reducible refine (http_PrintResponse.calls kj2 z0 z1 _ _ l0_2 _ _ l0_3 t176 t179 _ ?side5 ?side1 ?side2 ?side3 ?side4 A14.out).mono ?_); (case side1 => repeat (first | exact (Kd.C_below HR0_2.out HB.out) | (with_reducible refine Kd.C_alloc ?_ _) | (with_reducible refine Kd.C_drewN ?_ _) | (with_reducible refine Kd.C_drew ?_))); (case side2 => exact HC0_2.out); (case side3 => repeat (first | exact (Kd.C_below HR0_3.out HB.out) | (with_reducible refine Kd.C_alloc ?_ _) | (with_reducible refine Kd.C_drewN ?_ _) | (with_reducible refine Kd.C_drew ?_))); (case side4 => exact HC0_3.out); (case side5 => exact lg_); rintro e w101 ⟨v177, rfl, ho0, hb⟩; refine ⟨_, rfl, ?_⟩; have HO178 := Aside0.mk (Kd.R_lower ho0 (below_size bg_)); replace BK173 := Aside0.mk (bb_ BK173 hb); replace HB := Aside0.mk (below_step bg_ hb); have hcz102_0 := cz_ BK173 0 (.int .i64 z0); have hcz102_1 := cz_ BK173 1 (.string z1); have hcz102_2 := cz_ BK173 2 (.slice A0_2 l0_2.length c0_2); have hcz102_3 := cz_ BK173 3 (.slice A0_3 l0_3.length c0_3); have hfz102_0 := bf_ BK173 0; have hfz102_1 := bf_ BK173 1; have hfz102_2 := bf_ BK173 2; have hfz102_3 := bf_ BK173 3) | ((with_reducible refine gate_callee (f := 17) rfl ?_); refine goesL_ (some 33) rfl rfl Tryz.func17 (by kernel_rfl) rfl #[.agg #[.int .i64 z0, .string z1, .slice A0_2 l0_2.length c0_2, .slice A0_3 l0_3.length c0_3]] rfl lq_ ?_; (with_reducible refine (lanternref11_MayResponse.calls kj2 z0 z1 _ _ l0_2 _ _ l0_3 false _ ?side5 ?side1 ?side2 ?side3 ?side4 A15.out).mono ?_); (case side1 => repeat (first | exact (Kd.C_below HR0_2.out HB.out) | (with_reducible refine Kd.C_alloc ?_ _) | (with_reducible refine Kd.C_drewN ?_ _) | (with_reducible refine Kd.C_drew ?_))); (case side2 => exact HC0_2.out); (case side3 => repeat (first | exact (Kd.C_below HR0_3.out HB.out) | (with_reducible refine Kd.C_alloc ?_ _) | (with_reducible refine Kd.C_drewN ?_ _) | (with_reducible refine Kd.C_drew ?_))); (case side4 => exact HC0_3.out); (case side5 => exact lg_); rintro e w103 ⟨rfl, hb⟩; refine ⟨_, rfl, ?_⟩; replace HO178 := Aside0.mk (Kd.R_below (by (with_reducible repeat (first | apply Kd.R_alloc | apply Kd.R_drewN | apply Kd.R_drew)); exact HO178.out) hb); replace BK173 := Aside0.mk (bb_ BK173 hb); replace HB := Aside0.mk (below_step bg_ hb); have hcz104_0 := cz_ BK173 0 (.int .i64 z0); have hcz104_1 := cz_ BK173 1 (.string z1); have hcz104_2 := cz_ BK173 2 (.slice A0_2 l0_2.length c0_2); have hcz104_3 := cz_ BK173 3 (.slice A0_3 l0_3.length c0_3); have hfz104_0 := bf_ BK173 0; have hfz104_1 := bf_ BK173 1; have hfz104_2 := bf_ BK173 2; have hfz104_3 := bf_ BK173 3) | ((with_reducible refine gate_callee (f := 18) rfl ?_); refine goesL_ (some 36) rfl rfl Tryz.func18 (by kernel_rfl) rfl #[.agg #[.int .i64 z0, .string z1, .slice A0_2 l0_2.length c0_2, .slice A0_3 l0_3.length c0_3]] rfl lq_ ?_; (with_reducible refine (http_CheckResponse.calls kj2 z0 z1 _ _ l0_2 _ _ l0_3 t181 _ ?side5 ?side1 ?side2 ?side3 ?side4 A95.out).mono ?_); (case side1 => repeat (first | exact (Kd.C_below HR0_2.out HB.out) | (with_reducible refine Kd.C_alloc ?_ _) | (with_reducible refine Kd.C_drewN ?_ _) | (with_reducible refine Kd.C_drew ?_))); (case side2 => exact HC0_2.out); (case side3 => repeat (first | exact (Kd.C_below HR0_3.out HB.out) | (with_reducible refine Kd.C_alloc ?_ _) | (with_reducible refine Kd.C_drewN ?_ _) | (with_reducible refine Kd.C_drew ?_))); (case side4 => exact HC0_3.out); (case side5 => exact lg_); rintro e w105 ⟨rfl, hb⟩; refine ⟨_, rfl, ?_⟩; replace HO178 := Aside0.mk (Kd.R_below (by (with_reducible repeat (first | apply Kd.R_alloc | apply Kd.R_drewN | apply Kd.R_drew)); exact HO178.out) hb); replace BK173 := Aside0.mk (bb_ BK173 hb); replace HB := Aside0.mk (below_step bg_ hb); obtain ⟨Ao106, co106, eo106⟩ := Kd.R_slice HO178.out; subst eo106) | (go_at_call 6; (with_reducible refine (lanternlaw11_awake.calls kj2  t182 _ ?side1 A99.out).mono ?_); (case side1 => exact lg_); rintro e w107 ⟨rfl, hb⟩; replace HO178 := Aside0.mk (Kd.R_below (by (with_reducible repeat (first | apply Kd.R_alloc | apply Kd.R_drewN | apply Kd.R_drew)); exact HO178.out) hb); replace BK173 := Aside0.mk (bb_ BK173 hb); replace HB := Aside0.mk (below_step bg_ hb)))
        go_ret
        exact ⟨rq_, bg_⟩
       ·rw [if_neg c98] at H
        exact absurd H (by simp)
      ·rw [if_neg c97] at H
       exact absurd H (by simp)
     ·rw [if_neg c96] at H
      exact absurd H (by simp)

end Go.Proofs.YtipleegkonhfcaaGreatDoor.KT
