import Derived.Test.YtipleegkonhfcaaGreatDoorKT1
namespace Go.Proofs.YtipleegkonhfcaaGreatDoor.KT
open Go.Proofs.YtipleegkonhfcaaGreatDoorZ
open Go.Proofs.YtipleegkonhfcaaGreatDoor.E Go.Proofs.YtipleegkonhfcaaGreatDoorV
open Go.Proofs.YtipleegkonhfcaaGreatDoor.U
open Go.Proofs.YtipleegkonhfcaaGreatDoor.KF
open Go.Proofs.YtipleegkonhfcaaGreatDoor.P
open Go.Proofs.YtipleegkonhfcaaGreatDoor.KH
open Go.Proofs.YtipleegkonhfcaaGreatDoor.KA
open Go.Proofs.YtipleegkonhfcaaGreatDoor.KQ
open Go.RowKit Go.Proofs.YtipleegkonhfcaaGreatDoorW.PrintWords Go.Proofs.YtipleegkonhfcaaGreatDoorW.PrintLast Go.Proofs.YtipleegkonhfcaaGreatDoorW.PrintMore
attribute [local go_sem] max2_int min2_int max_two min_two max_three min_three max_four min_four   -- for this text's walks alone
set_option linter.unusedVariables false
set_option linter.unusedSimpArgs false

def http_status.f (k : Nat) (a0 : ByteArray) : Option (Int × ByteArray) := (strings_Cut.f a0 (⟨#[32]⟩ : ByteArray)).bind fun bt140 => ((strings_Cut.f bt140.2.1 (⟨#[32]⟩ : ByteArray)).bind fun bt143 => ((strconv_Atoi.f bt143.1).bind fun bt146 => (if bt140.2.2 = true then (if bt140.1.toList = ([72, 84, 84, 80, 47, 49, 46, 49] : List UInt8) then (if bt146.2.isNone = true then (if (bt143.1.size : Int) = 3 then ((http_within.f k bt143.1 48 57).bind fun t149 => (if t149 = true then (if bt146.1 < 100 then (some (0, (⟨#[]⟩ : ByteArray))) else (if bt146.1 > 599 then (some (0, (⟨#[]⟩ : ByteArray))) else (if (bt143.2.1.size : Int) > 128 then (some (0, (⟨#[]⟩ : ByteArray))) else ((http_within.f k bt143.2.1 32 126).bind fun t150 => (if t150 = true then (some (bt146.1, bt143.2.1)) else (some (0, (⟨#[]⟩ : ByteArray)))))))) else (some (0, (⟨#[]⟩ : ByteArray))))) else (some (0, (⟨#[]⟩ : ByteArray)))) else (some (0, (⟨#[]⟩ : ByteArray)))) else (some (0, (⟨#[]⟩ : ByteArray)))) else (some (0, (⟨#[]⟩ : ByteArray))))))
theorem http_status.mono : ∀ a0 k, LeO (http_status.f k a0) (http_status.f (k + 1) a0) := by
 intro a0 k
 unfold http_status.f
 repeat' first
   | (with_reducible exact http_within.mono _ _ _ _)
   | (with_reducible exact LeO.refl _)
   | (with_reducible exact LeO.none _)
   | (with_reducible refine LeO.ite ?_ ?_)
   | (with_reducible refine LeO.bind ?_ (fun _ => ?_))
   | exact http_within.mono _ _ _ _
   | exact LeO.none _
   | refine LeO.ite ?_ ?_
   | refine LeO.bind ?_ (fun _ => ?_)
set_option maxHeartbeats 8000000 in
set_option maxRecDepth 100000 in
theorem http_status.calls (k : Nat) (a0 : ByteArray) (r1 : Int) (r2 : ByteArray) (w : World) (hLW : LW w) (h : http_status.f k a0 = some (r1, r2)) :
  Calls Tryz.prog 47 #[.string a0] w fun e w' => e = .returned (.tuple #[.int .i64 r1, .string r2]) ∧ Below w.heap.size w w' := by
 have hu92 := Tryz.underlying92
 have HLW := Aside0.mk hLW
 clear hLW
 have HB := Aside0.mk (Below.refl w.heap.size w)
 have H := h
 unfold http_status.f at H
 clear h
 replace H := Option.bind_eq_some_iff.mp H
 obtain ⟨⟨t140, t141, t142⟩, A20, H⟩ := H
 (try dsimp only at H)
 have A2 := Aside0.mk A20
 clear A20
 replace H := Option.bind_eq_some_iff.mp H
 obtain ⟨⟨t143, t144, t145⟩, A30, H⟩ := H
 (try dsimp only at H)
 have A3 := Aside0.mk A30
 clear A30
 replace H := Option.bind_eq_some_iff.mp H
 obtain ⟨⟨t146, t147⟩, A40, H⟩ := H
 (try dsimp only at H)
 have A4 := Aside0.mk A40
 clear A40
 obtain rfl : t147 = none := strconv_Atoi.none A4.out
 by_cases c5 : t142 = true
 ·subst c5
  replace H := ifT_ H
  by_cases c6 : t140.toList = ([72, 84, 84, 80, 47, 49, 46, 49] : List UInt8)
  ·rw [if_pos c6] at H
   have c6b0 := beq_iff_eq.mpr c6
   have c6b1 := bne_eq_false_iff_eq.mpr c6
   clear c6
   ·have H1 : (if (t143.size : Int) = 3 then ((http_within.f k t143 48 57).bind fun t149 => (if t149 = true then (if t146 < 100 then (some (0, (⟨#[]⟩ : ByteArray))) else (if t146 > 599 then (some (0, (⟨#[]⟩ : ByteArray))) else (if (t144.size : Int) > 128 then (some (0, (⟨#[]⟩ : ByteArray))) else ((http_within.f k t144 32 126).bind fun t150 => (if t150 = true then (some (t146, t144)) else (some (0, (⟨#[]⟩ : ByteArray)))))))) else (some (0, (⟨#[]⟩ : ByteArray))))) else (some (0, (⟨#[]⟩ : ByteArray)))) = some (r1, r2) := by rw [if_pos (show (none : Option Int).isNone = true by rfl)] at H; exact H
    clear H
    have H := H1
    clear H1
    try simp only [errW_none, errW_some]
    by_cases c7 : (t143.size : Int) = 3
    ·rw [if_pos c7] at H
     have c7b0 := beq_iff_eq.mpr c7
     have c7b1 := bne_eq_false_iff_eq.mpr c7
     clear c7
     replace H := Option.bind_eq_some_iff.mp H
     obtain ⟨t149, A80, H⟩ := H
     (try dsimp only at H)
     have A8 := Aside0.mk A80
     clear A80
     by_cases c9 : t149 = true
     ·subst c9
      replace H := ifT_ H
      by_cases c10 : t146 < 100
      ·rw [if_pos c10] at H
       have c10b0 := decide_eq_true c10
       clear c10
       simp only [Option.some.injEq, Prod.mk.injEq] at H
       obtain ⟨rfl, rfl⟩ := H
       go_enter Tryz.func47, Tryz.ntmps47
       go_wp2_with (first | ((with_reducible refine gate_callee (f := 52) rfl ?_); refine goesL_ (some 10) rfl rfl Tryz.func52 (by kernel_rfl) rfl #[.string a0, .string (⟨#[32]⟩ : ByteArray)] rfl lq_ ?_; (with_reducible refine (strings_Cut.calls a0 (⟨#[32]⟩ : ByteArray) t140 t141 true _ ?side1 A2.out).mono ?_); (case side1 => exact lw_); rintro e w11 ⟨rfl, hb⟩; refine ⟨_, rfl, ?_⟩; replace HB := Aside0.mk (below_step bq_ hb)) | ((with_reducible refine gate_callee (f := 52) rfl ?_); refine goesL_ (some 16) rfl rfl Tryz.func52 (by kernel_rfl) rfl #[.string t141, .string (⟨#[32]⟩ : ByteArray)] rfl lq_ ?_; (with_reducible refine (strings_Cut.calls t141 (⟨#[32]⟩ : ByteArray) t143 t144 t145 _ ?side1 A3.out).mono ?_); (case side1 => exact lw_); rintro e w12 ⟨rfl, hb⟩; refine ⟨_, rfl, ?_⟩; replace HB := Aside0.mk (below_step bq_ hb)) | ((with_reducible refine gate_callee (f := 70) rfl ?_); refine goesL_ (some 22) rfl rfl Tryz.func70 (by kernel_rfl) rfl #[.string t143] rfl lq_ ?_; (with_reducible refine (strconv_Atoi.calls t143 t146 none _ ?side1 A4.out).mono ?_); (case side1 => exact lw_); rintro e w13 ⟨rfl, hb⟩; refine ⟨_, rfl, ?_⟩; replace HB := Aside0.mk (below_step bq_ hb); (try simp only [errW_none, errW_some])) | (go_at_call 46; (with_reducible refine (http_within.calls k t143 48 57 true _ ?side1 A8.out).mono ?_); (case side1 => exact lw_); rintro e w' ⟨rfl, ⟨nd, rfl⟩⟩))
       go_ret2
       exact ⟨rq_, bq_⟩
      ·rw [if_neg c10] at H
       have c10b0 := decide_eq_false c10
       clear c10
       by_cases c14 : t146 > 599
       ·rw [if_pos c14] at H
        have c14b0 := decide_eq_true c14
        clear c14
        simp only [Option.some.injEq, Prod.mk.injEq] at H
        obtain ⟨rfl, rfl⟩ := H
        go_enter Tryz.func47, Tryz.ntmps47
        go_wp2_with (first | ((with_reducible refine gate_callee (f := 52) rfl ?_); refine goesL_ (some 10) rfl rfl Tryz.func52 (by kernel_rfl) rfl #[.string a0, .string (⟨#[32]⟩ : ByteArray)] rfl lq_ ?_; (with_reducible refine (strings_Cut.calls a0 (⟨#[32]⟩ : ByteArray) t140 t141 true _ ?side1 A2.out).mono ?_); (case side1 => exact lw_); rintro e w15 ⟨rfl, hb⟩; refine ⟨_, rfl, ?_⟩; replace HB := Aside0.mk (below_step bq_ hb)) | ((with_reducible refine gate_callee (f := 52) rfl ?_); refine goesL_ (some 16) rfl rfl Tryz.func52 (by kernel_rfl) rfl #[.string t141, .string (⟨#[32]⟩ : ByteArray)] rfl lq_ ?_; (with_reducible refine (strings_Cut.calls t141 (⟨#[32]⟩ : ByteArray) t143 t144 t145 _ ?side1 A3.out).mono ?_); (case side1 => exact lw_); rintro e w16 ⟨rfl, hb⟩; refine ⟨_, rfl, ?_⟩; replace HB := Aside0.mk (below_step bq_ hb)) | ((with_reducible refine gate_callee (f := 70) rfl ?_); refine goesL_ (some 22) rfl rfl Tryz.func70 (by kernel_rfl) rfl #[.string t143] rfl lq_ ?_; (with_reducible refine (strconv_Atoi.calls t143 t146 none _ ?side1 A4.out).mono ?_); (case side1 => exact lw_); rintro e w17 ⟨rfl, hb⟩; refine ⟨_, rfl, ?_⟩; replace HB := Aside0.mk (below_step bq_ hb); (try simp only [errW_none, errW_some])) | (go_at_call 46; (with_reducible refine (http_within.calls k t143 48 57 true _ ?side1 A8.out).mono ?_); (case side1 => exact lw_); rintro e w' ⟨rfl, ⟨nd, rfl⟩⟩))
        go_ret2
        exact ⟨rq_, bq_⟩
       ·rw [if_neg c14] at H
        have c14b0 := decide_eq_false c14
        clear c14
        by_cases c18 : (t144.size : Int) > 128
        ·rw [if_pos c18] at H
         have c18b0 := decide_eq_true c18
         have c18b1 : decide (128 < t144.size) = true := decide_eq_true (by omega)
         clear c18
         simp only [Option.some.injEq, Prod.mk.injEq] at H
         obtain ⟨rfl, rfl⟩ := H
         go_enter Tryz.func47, Tryz.ntmps47
         go_wp2_with (first | ((with_reducible refine gate_callee (f := 52) rfl ?_); refine goesL_ (some 10) rfl rfl Tryz.func52 (by kernel_rfl) rfl #[.string a0, .string (⟨#[32]⟩ : ByteArray)] rfl lq_ ?_; (with_reducible refine (strings_Cut.calls a0 (⟨#[32]⟩ : ByteArray) t140 t141 true _ ?side1 A2.out).mono ?_); (case side1 => exact lw_); rintro e w19 ⟨rfl, hb⟩; refine ⟨_, rfl, ?_⟩; replace HB := Aside0.mk (below_step bq_ hb)) | ((with_reducible refine gate_callee (f := 52) rfl ?_); refine goesL_ (some 16) rfl rfl Tryz.func52 (by kernel_rfl) rfl #[.string t141, .string (⟨#[32]⟩ : ByteArray)] rfl lq_ ?_; (with_reducible refine (strings_Cut.calls t141 (⟨#[32]⟩ : ByteArray) t143 t144 t145 _ ?side1 A3.out).mono ?_); (case side1 => exact lw_); rintro e w20 ⟨rfl, hb⟩; refine ⟨_, rfl, ?_⟩; replace HB := Aside0.mk (below_step bq_ hb)) | ((with_reducible refine gate_callee (f := 70) rfl ?_); refine goesL_ (some 22) rfl rfl Tryz.func70 (by kernel_rfl) rfl #[.string t143] rfl lq_ ?_; (with_reducible refine (strconv_Atoi.calls t143 t146 none _ ?side1 A4.out).mono ?_); (case side1 => exact lw_); rintro e w21 ⟨rfl, hb⟩; refine ⟨_, rfl, ?_⟩; replace HB := Aside0.mk (below_step bq_ hb); (try simp only [errW_none, errW_some])) | (go_at_call 46; (with_reducible refine (http_within.calls k t143 48 57 true _ ?side1 A8.out).mono ?_); (case side1 => exact lw_); rintro e w' ⟨rfl, ⟨nd, rfl⟩⟩))
         go_ret2
         exact ⟨rq_, bq_⟩
        ·rw [if_neg c18] at H
         have c18b0 := decide_eq_false c18
         have c18b1 : decide (128 < t144.size) = false := decide_eq_false (by omega)
         clear c18
         replace H := Option.bind_eq_some_iff.mp H
         obtain ⟨t150, A220, H⟩ := H
         (try dsimp only at H)
         have A22 := Aside0.mk A220
         clear A220
         by_cases c23 : t150 = true
         ·subst c23
          replace H := ifT_ H
          simp only [Option.some.injEq, Prod.mk.injEq] at H
          obtain ⟨rfl, rfl⟩ := H
          go_enter Tryz.func47, Tryz.ntmps47
          go_wp2_with (first | ((with_reducible refine gate_callee (f := 52) rfl ?_); refine goesL_ (some 10) rfl rfl Tryz.func52 (by kernel_rfl) rfl #[.string a0, .string (⟨#[32]⟩ : ByteArray)] rfl lq_ ?_; (with_reducible refine (strings_Cut.calls a0 (⟨#[32]⟩ : ByteArray) t140 t141 true _ ?side1 A2.out).mono ?_); (case side1 => exact lw_); rintro e w24 ⟨rfl, hb⟩; refine ⟨_, rfl, ?_⟩; replace HB := Aside0.mk (below_step bq_ hb)) | ((with_reducible refine gate_callee (f := 52) rfl ?_); refine goesL_ (some 16) rfl rfl Tryz.func52 (by kernel_rfl) rfl #[.string t141, .string (⟨#[32]⟩ : ByteArray)] rfl lq_ ?_; (with_reducible refine (strings_Cut.calls t141 (⟨#[32]⟩ : ByteArray) t143 t144 t145 _ ?side1 A3.out).mono ?_); (case side1 => exact lw_); rintro e w25 ⟨rfl, hb⟩; refine ⟨_, rfl, ?_⟩; replace HB := Aside0.mk (below_step bq_ hb)) | ((with_reducible refine gate_callee (f := 70) rfl ?_); refine goesL_ (some 22) rfl rfl Tryz.func70 (by kernel_rfl) rfl #[.string t143] rfl lq_ ?_; (with_reducible refine (strconv_Atoi.calls t143 t146 none _ ?side1 A4.out).mono ?_); (case side1 => exact lw_); rintro e w26 ⟨rfl, hb⟩; refine ⟨_, rfl, ?_⟩; replace HB := Aside0.mk (below_step bq_ hb); (try simp only [errW_none, errW_some])) | (go_at_call 46; (with_reducible refine (http_within.calls k t143 48 57 true _ ?side1 A8.out).mono ?_); (case side1 => exact lw_); rintro e w' ⟨rfl, ⟨nd, rfl⟩⟩) | (go_at_call 46; (with_reducible refine (http_within.calls k t144 32 126 true _ ?side1 A22.out).mono ?_); (case side1 => exact lw_); rintro e w' ⟨rfl, ⟨nd, rfl⟩⟩))
          go_ret2
          exact ⟨rq_, bq_⟩
         ·replace c23 := Bool.eq_false_iff.mpr c23
          subst c23
          replace H := ifF_ H
          simp only [Option.some.injEq, Prod.mk.injEq] at H
          obtain ⟨rfl, rfl⟩ := H
          go_enter Tryz.func47, Tryz.ntmps47
          go_wp2_with (first | ((with_reducible refine gate_callee (f := 52) rfl ?_); refine goesL_ (some 10) rfl rfl Tryz.func52 (by kernel_rfl) rfl #[.string a0, .string (⟨#[32]⟩ : ByteArray)] rfl lq_ ?_; (with_reducible refine (strings_Cut.calls a0 (⟨#[32]⟩ : ByteArray) t140 t141 true _ ?side1 A2.out).mono ?_); (case side1 => exact lw_); rintro e w27 ⟨rfl, hb⟩; refine ⟨_, rfl, ?_⟩; replace HB := Aside0.mk (below_step bq_ hb)) | ((with_reducible refine gate_callee (f := 52) rfl ?_); refine goesL_ (some 16) rfl rfl Tryz.func52 (by kernel_rfl) rfl #[.string t141, .string (⟨#[32]⟩ : ByteArray)] rfl lq_ ?_; (with_reducible refine (strings_Cut.calls t141 (⟨#[32]⟩ : ByteArray) t143 t144 t145 _ ?side1 A3.out).mono ?_); (case side1 => exact lw_); rintro e w28 ⟨rfl, hb⟩; refine ⟨_, rfl, ?_⟩; replace HB := Aside0.mk (below_step bq_ hb)) | ((with_reducible refine gate_callee (f := 70) rfl ?_); refine goesL_ (some 22) rfl rfl Tryz.func70 (by kernel_rfl) rfl #[.string t143] rfl lq_ ?_; (with_reducible refine (strconv_Atoi.calls t143 t146 none _ ?side1 A4.out).mono ?_); (case side1 => exact lw_); rintro e w29 ⟨rfl, hb⟩; refine ⟨_, rfl, ?_⟩; replace HB := Aside0.mk (below_step bq_ hb); (try simp only [errW_none, errW_some])) | (go_at_call 46; (with_reducible refine (http_within.calls k t143 48 57 true _ ?side1 A8.out).mono ?_); (case side1 => exact lw_); rintro e w' ⟨rfl, ⟨nd, rfl⟩⟩) | (go_at_call 46; (with_reducible refine (http_within.calls k t144 32 126 false _ ?side1 A22.out).mono ?_); (case side1 => exact lw_); rintro e w' ⟨rfl, ⟨nd, rfl⟩⟩))
          go_ret2
          exact ⟨rq_, bq_⟩
     ·replace c9 := Bool.eq_false_iff.mpr c9
      subst c9
      replace H := ifF_ H
      simp only [Option.some.injEq, Prod.mk.injEq] at H
      obtain ⟨rfl, rfl⟩ := H
      go_enter Tryz.func47, Tryz.ntmps47
      go_wp2_with (first | ((with_reducible refine gate_callee (f := 52) rfl ?_); refine goesL_ (some 10) rfl rfl Tryz.func52 (by kernel_rfl) rfl #[.string a0, .string (⟨#[32]⟩ : ByteArray)] rfl lq_ ?_; (with_reducible refine (strings_Cut.calls a0 (⟨#[32]⟩ : ByteArray) t140 t141 true _ ?side1 A2.out).mono ?_); (case side1 => exact lw_); rintro e w30 ⟨rfl, hb⟩; refine ⟨_, rfl, ?_⟩; replace HB := Aside0.mk (below_step bq_ hb)) | ((with_reducible refine gate_callee (f := 52) rfl ?_); refine goesL_ (some 16) rfl rfl Tryz.func52 (by kernel_rfl) rfl #[.string t141, .string (⟨#[32]⟩ : ByteArray)] rfl lq_ ?_; (with_reducible refine (strings_Cut.calls t141 (⟨#[32]⟩ : ByteArray) t143 t144 t145 _ ?side1 A3.out).mono ?_); (case side1 => exact lw_); rintro e w31 ⟨rfl, hb⟩; refine ⟨_, rfl, ?_⟩; replace HB := Aside0.mk (below_step bq_ hb)) | ((with_reducible refine gate_callee (f := 70) rfl ?_); refine goesL_ (some 22) rfl rfl Tryz.func70 (by kernel_rfl) rfl #[.string t143] rfl lq_ ?_; (with_reducible refine (strconv_Atoi.calls t143 t146 none _ ?side1 A4.out).mono ?_); (case side1 => exact lw_); rintro e w32 ⟨rfl, hb⟩; refine ⟨_, rfl, ?_⟩; replace HB := Aside0.mk (below_step bq_ hb); (try simp only [errW_none, errW_some])) | (go_at_call 46; (with_reducible refine (http_within.calls k t143 48 57 false _ ?side1 A8.out).mono ?_); (case side1 => exact lw_); rintro e w' ⟨rfl, ⟨nd, rfl⟩⟩))
      go_ret2
      exact ⟨rq_, bq_⟩
    ·rw [if_neg c7] at H
     have c7b0 := beq_eq_false_iff_ne.mpr c7
     have c7b1 := bne_iff_ne.mpr c7
     simp only [Option.some.injEq, Prod.mk.injEq] at H
     obtain ⟨rfl, rfl⟩ := H
     go_enter Tryz.func47, Tryz.ntmps47
     go_wp2_with (first | ((with_reducible refine gate_callee (f := 52) rfl ?_); refine goesL_ (some 10) rfl rfl Tryz.func52 (by kernel_rfl) rfl #[.string a0, .string (⟨#[32]⟩ : ByteArray)] rfl lq_ ?_; (with_reducible refine (strings_Cut.calls a0 (⟨#[32]⟩ : ByteArray) t140 t141 true _ ?side1 A2.out).mono ?_); (case side1 => exact lw_); rintro e w33 ⟨rfl, hb⟩; refine ⟨_, rfl, ?_⟩; replace HB := Aside0.mk (below_step bq_ hb)) | ((with_reducible refine gate_callee (f := 52) rfl ?_); refine goesL_ (some 16) rfl rfl Tryz.func52 (by kernel_rfl) rfl #[.string t141, .string (⟨#[32]⟩ : ByteArray)] rfl lq_ ?_; (with_reducible refine (strings_Cut.calls t141 (⟨#[32]⟩ : ByteArray) t143 t144 t145 _ ?side1 A3.out).mono ?_); (case side1 => exact lw_); rintro e w34 ⟨rfl, hb⟩; refine ⟨_, rfl, ?_⟩; replace HB := Aside0.mk (below_step bq_ hb)) | ((with_reducible refine gate_callee (f := 70) rfl ?_); refine goesL_ (some 22) rfl rfl Tryz.func70 (by kernel_rfl) rfl #[.string t143] rfl lq_ ?_; (with_reducible refine (strconv_Atoi.calls t143 t146 none _ ?side1 A4.out).mono ?_); (case side1 => exact lw_); rintro e w35 ⟨rfl, hb⟩; refine ⟨_, rfl, ?_⟩; replace HB := Aside0.mk (below_step bq_ hb); (try simp only [errW_none, errW_some])))
     go_ret2
     exact ⟨rq_, bq_⟩
  ·rw [if_neg c6] at H
   have c6b0 := beq_eq_false_iff_ne.mpr c6
   have c6b1 := bne_iff_ne.mpr c6
   simp only [Option.some.injEq, Prod.mk.injEq] at H
   obtain ⟨rfl, rfl⟩ := H
   go_enter Tryz.func47, Tryz.ntmps47
   go_wp2_with (first | ((with_reducible refine gate_callee (f := 52) rfl ?_); refine goesL_ (some 10) rfl rfl Tryz.func52 (by kernel_rfl) rfl #[.string a0, .string (⟨#[32]⟩ : ByteArray)] rfl lq_ ?_; (with_reducible refine (strings_Cut.calls a0 (⟨#[32]⟩ : ByteArray) t140 t141 true _ ?side1 A2.out).mono ?_); (case side1 => exact lw_); rintro e w39 ⟨rfl, hb⟩; refine ⟨_, rfl, ?_⟩; replace HB := Aside0.mk (below_step bq_ hb)) | ((with_reducible refine gate_callee (f := 52) rfl ?_); refine goesL_ (some 16) rfl rfl Tryz.func52 (by kernel_rfl) rfl #[.string t141, .string (⟨#[32]⟩ : ByteArray)] rfl lq_ ?_; (with_reducible refine (strings_Cut.calls t141 (⟨#[32]⟩ : ByteArray) t143 t144 t145 _ ?side1 A3.out).mono ?_); (case side1 => exact lw_); rintro e w40 ⟨rfl, hb⟩; refine ⟨_, rfl, ?_⟩; replace HB := Aside0.mk (below_step bq_ hb)) | ((with_reducible refine gate_callee (f := 70) rfl ?_); refine goesL_ (some 22) rfl rfl Tryz.func70 (by kernel_rfl) rfl #[.string t143] rfl lq_ ?_; (with_reducible refine (strconv_Atoi.calls t143 t146 none _ ?side1 A4.out).mono ?_); (case side1 => exact lw_); rintro e w41 ⟨rfl, hb⟩; refine ⟨_, rfl, ?_⟩; replace HB := Aside0.mk (below_step bq_ hb); (try simp only [errW_none, errW_some])))
   go_ret2
   exact ⟨rq_, bq_⟩
 ·replace c5 := Bool.eq_false_iff.mpr c5
  subst c5
  replace H := ifF_ H
  simp only [Option.some.injEq, Prod.mk.injEq] at H
  obtain ⟨rfl, rfl⟩ := H
  go_enter Tryz.func47, Tryz.ntmps47
  go_wp2_with (first | ((with_reducible refine gate_callee (f := 52) rfl ?_); refine goesL_ (some 10) rfl rfl Tryz.func52 (by kernel_rfl) rfl #[.string a0, .string (⟨#[32]⟩ : ByteArray)] rfl lq_ ?_; (with_reducible refine (strings_Cut.calls a0 (⟨#[32]⟩ : ByteArray) t140 t141 false _ ?side1 A2.out).mono ?_); (case side1 => exact lw_); rintro e w42 ⟨rfl, hb⟩; refine ⟨_, rfl, ?_⟩; replace HB := Aside0.mk (below_step bq_ hb)) | ((with_reducible refine gate_callee (f := 52) rfl ?_); refine goesL_ (some 16) rfl rfl Tryz.func52 (by kernel_rfl) rfl #[.string t141, .string (⟨#[32]⟩ : ByteArray)] rfl lq_ ?_; (with_reducible refine (strings_Cut.calls t141 (⟨#[32]⟩ : ByteArray) t143 t144 t145 _ ?side1 A3.out).mono ?_); (case side1 => exact lw_); rintro e w43 ⟨rfl, hb⟩; refine ⟨_, rfl, ?_⟩; replace HB := Aside0.mk (below_step bq_ hb)) | ((with_reducible refine gate_callee (f := 70) rfl ?_); refine goesL_ (some 22) rfl rfl Tryz.func70 (by kernel_rfl) rfl #[.string t143] rfl lq_ ?_; (with_reducible refine (strconv_Atoi.calls t143 t146 none _ ?side1 A4.out).mono ?_); (case side1 => exact lw_); rintro e w44 ⟨rfl, hb⟩; refine ⟨_, rfl, ?_⟩; replace HB := Aside0.mk (below_step bq_ hb); (try simp only [errW_none, errW_some])))
  go_ret2
  exact ⟨rq_, bq_⟩

def http_ParseResponse.f (k : Nat) (l0 : List Int) : Option (Int × ByteArray × (List (S67)) × List Int × Int × Int) := (http_first.f k l0).bind fun bt152 => (if bt152.2.2 = 0 then ((http_status.f k bt152.1).bind fun bt155 => (if bt155.1 = 0 then (some (0, (⟨#[]⟩ : ByteArray), ([] : List (S67)), ([] : List Int), 0, 5)) else (if 0 ≤ bt152.2.1 then (if bt152.2.1 ≤ (l0.length : Int) then ((header_Parse.f k (l0.drop (bt152.2.1 : Int).toNat)).bind fun bt158 => (if bt158.2.2 = 0 then ((http_bare.f bt155.1).bind fun t163 => (if t163 = true then (some (bt155.1, bt155.2, bt158.1, ([] : List Int), wrap64 (bt152.2.1 + bt158.2.1), 0)) else (if 0 ≤ (wrap64 (bt152.2.1 + bt158.2.1)) then (if (wrap64 (bt152.2.1 + bt158.2.1)) ≤ (l0.length : Int) then ((http_body.f k (l0.drop ((wrap64 (bt152.2.1 + bt158.2.1)) : Int).toNat) bt158.1 true).bind fun bt165 => (if bt165.2.2 = 0 then (some (bt155.1, bt155.2, bt158.1, bt165.1, wrap64 ((wrap64 (bt152.2.1 + bt158.2.1)) + bt165.2.1), 0)) else (some (0, (⟨#[]⟩ : ByteArray), ([] : List (S67)), ([] : List Int), 0, bt165.2.2)))) else (none)) else (none)))) else (some (0, (⟨#[]⟩ : ByteArray), ([] : List (S67)), ([] : List Int), 0, bt158.2.2)))) else (none)) else (none)))) else (some (0, (⟨#[]⟩ : ByteArray), ([] : List (S67)), ([] : List Int), 0, bt152.2.2)))
theorem http_ParseResponse.mono : ∀ a0 k, LeO (http_ParseResponse.f k a0) (http_ParseResponse.f (k + 1) a0) := by
 intro a0 k
 unfold http_ParseResponse.f
 repeat' first
   | (with_reducible exact header_Parse.mono _ _)
   | (with_reducible exact http_body.mono _ _ _ _)
   | (with_reducible exact http_first.mono _ _)
   | (with_reducible exact http_status.mono _ _)
   | (with_reducible exact LeO.refl _)
   | (with_reducible exact LeO.none _)
   | (with_reducible refine LeO.ite ?_ ?_)
   | (with_reducible refine LeO.bind ?_ (fun _ => ?_))
   | exact header_Parse.mono _ _
   | exact http_body.mono _ _ _ _
   | exact http_first.mono _ _
   | exact http_status.mono _ _
   | exact LeO.none _
   | refine LeO.ite ?_ ?_
   | refine LeO.bind ?_ (fun _ => ?_)
set_option maxHeartbeats 8000000 in
set_option maxRecDepth 100000 in
theorem http_ParseResponse.calls (k : Nat) (A0 : Option Addr) (c0 : Nat) (l0 : List Int) (r1 : Int) (r2 : ByteArray) (r3 : List (S67)) (r4 : List Int) (r5 : Int) (r6 : Int) (w : World) (hLW : LW w) (hr0 : Kd.C (Kd.int .u8) w A0 l0.length l0) (hc0 : l0.length ≤ c0) (h : http_ParseResponse.f k l0 = some (r1, r2, r3, r4, r5, r6)) :
  Calls Tryz.prog 20 #[.slice A0 l0.length c0] w fun e w' => ∃ v2_ v3_ : Value, e = .returned (.tuple #[.agg #[.int .i64 r1, .string r2, v2_, v3_], .int .i64 r5, .int .i64 r6]) ∧ Kd.R k67 67 w' w.heap.size (fun _ => True) v2_ r3 ∧ Kd.R (Kd.int .u8) 5 w' w.heap.size (fun _ => True) v3_ r4 ∧ Below w.heap.size w w' := by
 have hu41 := Tryz.underlying41
 have HLW := Aside0.mk hLW
 clear hLW
 have HR0 := Aside0.mk hr0
 have HC0 := Aside0.mk hc0
 clear hr0 hc0
 have HB := Aside0.mk (Below.refl w.heap.size w)
 have H := h
 unfold http_ParseResponse.f at H
 clear h
 replace H := Option.bind_eq_some_iff.mp H
 obtain ⟨⟨t152, t153, t154⟩, A20, H⟩ := H
 (try dsimp only at H)
 have A2 := Aside0.mk A20
 clear A20
 by_cases c3 : t154 = 0
 ·rw [if_pos c3] at H
  have c3b0 := beq_iff_eq.mpr c3
  have c3b1 := bne_eq_false_iff_eq.mpr c3
  clear c3
  replace H := Option.bind_eq_some_iff.mp H
  obtain ⟨⟨t155, t156⟩, A40, H⟩ := H
  (try dsimp only at H)
  have A4 := Aside0.mk A40
  clear A40
  by_cases c5 : t155 = 0
  ·rw [if_pos c5] at H
   have c5b0 := beq_iff_eq.mpr c5
   have c5b1 := bne_eq_false_iff_eq.mpr c5
   clear c5
   simp only [Option.some.injEq, Prod.mk.injEq] at H
   obtain ⟨rfl, rfl, rfl, rfl, rfl, rfl⟩ := H
   go_enter Tryz.func20, Tryz.ntmps20
   go_wp2_with (first | ((with_reducible refine gate_dst (N := 2) rfl ?_); refine bx_ 2 #[.int .i64 0, .string (⟨#[]⟩ : ByteArray), .slice none 0 0, .slice none 0 0] 41 ?_; intro gb151 hg w6 hbox hb; have BK151 := Aside0.mk (hbox); have GW151 := Aside0.mk (ge_ (w := w) hg); have GE151 := Aside0.mk (ge_ (w := w) hg); replace HB := Aside0.mk (below_step bq_ hb); clear hb hbox hg) | ((with_reducible refine gate_callee (f := 23) rfl ?_); refine goesL_ (some 13) rfl rfl Tryz.func23 (by kernel_rfl) rfl #[.slice A0 l0.length c0] rfl lq_ ?_; (with_reducible refine (http_first.calls k _ _ l0 t152 t153 t154 _ ?side3 ?side1 ?side2 A2.out).mono ?_); (case side1 => repeat (first | exact (Kd.C_below HR0.out HB.out) | (with_reducible refine Kd.C_alloc ?_ _) | (with_reducible refine Kd.C_drewN ?_ _) | (with_reducible refine Kd.C_drew ?_))); (case side2 => exact HC0.out); (case side3 => exact lg_); rintro e w7 ⟨rfl, hb⟩; refine ⟨_, rfl, ?_⟩; replace BK151 := Aside0.mk (blk_below (g := gb151) (o := .cells #[.int .i64 0, .string (⟨#[]⟩ : ByteArray), .slice none 0 0, .slice none 0 0] 41 (0, 0)) bk_ hb); replace HB := Aside0.mk (below_step bg_ hb)) | ((with_reducible refine gate_callee (f := 47) rfl ?_); refine goesL_ (some 23) rfl rfl Tryz.func47 (by kernel_rfl) rfl #[.string t152] rfl lq_ ?_; (with_reducible refine (http_status.calls k t152 t155 t156 _ ?side1 A4.out).mono ?_); (case side1 => exact lg_); rintro e w8 ⟨rfl, hb⟩; refine ⟨_, rfl, ?_⟩; replace BK151 := Aside0.mk (blk_below (g := gb151) (o := .cells #[.int .i64 0, .string (⟨#[]⟩ : ByteArray), .slice none 0 0, .slice none 0 0] 41 (0, 0)) bk_ hb); replace HB := Aside0.mk (below_step bg_ hb); have hcz9_0 := cz_ BK151 0 (.int .i64 0); have hcz9_1 := cz_ BK151 1 (.string (⟨#[]⟩ : ByteArray)); have hcz9_2 := cz_ BK151 2 (.slice none 0 0); have hcz9_3 := cz_ BK151 3 (.slice none 0 0); have hfz9_0 := bf_ BK151 0; have hfz9_1 := bf_ BK151 1; have hfz9_2 := bf_ BK151 2; have hfz9_3 := bf_ BK151 3) | ((with_reducible refine gate_store (t := 41) (p := 2) rfl ?_); refine store_all ?hg 41 2 _ rfl rfl gb151 [.int .i64 0, .string (⟨#[]⟩ : ByteArray), .slice none 0 0, .slice none 0 0] [.int .i64 0, .string (⟨#[]⟩ : ByteArray), .slice none 0 0, .slice none 0 0] BK151.out rfl rfl rfl (by kernel_rfl) rfl ?_; (case hg => rfl); intro w10 hw; have n0_ : Aside0 (w10.heap[gb151]? = some (.cells #[.int .i64 0, .string (⟨#[]⟩ : ByteArray), .slice none 0 0, .slice none 0 0] 41 (0, 0))) := ⟨(by rw [hw]; exact (by (with_reducible repeat (first | refine blk_drewN ?_ _ | refine blk_drew ?_ | refine blk_alloc ?_ _)); refine blk_part [.int .i64 0, .string (⟨#[]⟩ : ByteArray), .slice none 0 0, .slice none 0 0] [.int .i64 0, .string (⟨#[]⟩ : ByteArray), .slice none 0 0, .slice none 0 0] [] [] (cs := #[.int .i64 0, .string (⟨#[]⟩ : ByteArray), .slice none 0 0, .slice none 0 0]) ?_ rfl rfl rfl; (with_reducible repeat (first | refine blk_drewN ?_ _ | refine blk_drew ?_ | refine blk_alloc ?_ _)); exact BK151.out))⟩; have n1_ := Aside0.mk (sb_ hw); clear hw; clear BK151; clear HB; have BK151 := n0_; have HB := n1_; clear n0_ n1_))
   refine bodyPost_ret (results_ctt rfl _ _ gb151 41 #[.int .i64 0, .string (⟨#[]⟩ : ByteArray), .slice none 0 0, .slice none 0 0] (0, 0) _ rfl bk_ Tryz.underlying41 rfl (by kernel_rfl)) rfl ?_
   exact ⟨_, _, rq_, by first | exact Kd.R_nil _ _ _ _ _ | exact Kd.N_nil _ _ _ _ _ | exact Kd.V_nil _ _ _ _ _ | exact Kd.Q_nil _ _ _ _ _ | exact Kd.S_nil _ _ _ _ _, by first | exact Kd.R_nil _ _ _ _ _ | exact Kd.N_nil _ _ _ _ _ | exact Kd.V_nil _ _ _ _ _ | exact Kd.Q_nil _ _ _ _ _ | exact Kd.S_nil _ _ _ _ _, bg_⟩
  ·rw [if_neg c5] at H
   have c5b0 := beq_eq_false_iff_ne.mpr c5
   have c5b1 := bne_iff_ne.mpr c5
   by_cases c11 : 0 ≤ t153
   ·rw [if_pos c11] at H
    have c11b0 := eq_true c11
    have c11b1 := decide_eq_true c11
    clear c11
    by_cases c12 : t153 ≤ (l0.length : Int)
    ·rw [if_pos c12] at H
     have c12b0 := eq_true c12
     have c12b1 := decide_eq_true c12
     clear c12
     replace H := Option.bind_eq_some_iff.mp H
     obtain ⟨⟨t158, t159, t160⟩, A130, H⟩ := H
     (try dsimp only at H)
     have A13 := Aside0.mk A130
     clear A130
     by_cases c14 : t160 = 0
     ·rw [if_pos c14] at H
      have c14b0 := beq_iff_eq.mpr c14
      have c14b1 := bne_eq_false_iff_eq.mpr c14
      clear c14
      replace H := Option.bind_eq_some_iff.mp H
      obtain ⟨t163, A150, H⟩ := H
      (try dsimp only at H)
      have A15 := Aside0.mk A150
      clear A150
      by_cases c16 : t163 = true
      ·subst c16
       replace H := ifT_ H
       simp only [Option.some.injEq, Prod.mk.injEq] at H
       obtain ⟨rfl, rfl, rfl, rfl, rfl, rfl⟩ := H
       go_enter Tryz.func20, Tryz.ntmps20
       go_wp2_with (first | ((with_reducible refine gate_dst (N := 2) rfl ?_); refine bx_ 2 #[.int .i64 0, .string (⟨#[]⟩ : ByteArray), .slice none 0 0, .slice none 0 0] 41 ?_; intro gb151 hg w17 hbox hb; have BK151 := Aside0.mk (hbox); have GW151 := Aside0.mk (ge_ (w := w) hg); have GE151 := Aside0.mk (ge_ (w := w) hg); replace HB := Aside0.mk (below_step bq_ hb); clear hb hbox hg) | ((with_reducible refine gate_callee (f := 23) rfl ?_); refine goesL_ (some 13) rfl rfl Tryz.func23 (by kernel_rfl) rfl #[.slice A0 l0.length c0] rfl lq_ ?_; (with_reducible refine (http_first.calls k _ _ l0 t152 t153 t154 _ ?side3 ?side1 ?side2 A2.out).mono ?_); (case side1 => repeat (first | exact (Kd.C_below HR0.out HB.out) | (with_reducible refine Kd.C_alloc ?_ _) | (with_reducible refine Kd.C_drewN ?_ _) | (with_reducible refine Kd.C_drew ?_))); (case side2 => exact HC0.out); (case side3 => exact lg_); rintro e w18 ⟨rfl, hb⟩; refine ⟨_, rfl, ?_⟩; replace BK151 := Aside0.mk (blk_below (g := gb151) (o := .cells #[.int .i64 0, .string (⟨#[]⟩ : ByteArray), .slice none 0 0, .slice none 0 0] 41 (0, 0)) bk_ hb); replace HB := Aside0.mk (below_step bg_ hb)) | ((with_reducible refine gate_callee (f := 47) rfl ?_); refine goesL_ (some 23) rfl rfl Tryz.func47 (by kernel_rfl) rfl #[.string t152] rfl lq_ ?_; (with_reducible refine (http_status.calls k t152 t155 t156 _ ?side1 A4.out).mono ?_); (case side1 => exact lg_); rintro e w19 ⟨rfl, hb⟩; refine ⟨_, rfl, ?_⟩; replace BK151 := Aside0.mk (blk_below (g := gb151) (o := .cells #[.int .i64 0, .string (⟨#[]⟩ : ByteArray), .slice none 0 0, .slice none 0 0] 41 (0, 0)) bk_ hb); replace HB := Aside0.mk (below_step bg_ hb); obtain ⟨i020, hi020, _, hsz20, _⟩ := info_parts Go.Proofs.YtipleegkonhfcaaGreatDoor.P.info5; obtain ⟨A20, hcut20, hA20, hC20⟩ := print_drop_of (P := Tryz.prog) (Value.int .u8) 0 22 5 .i64 Tryz.underlying22 hi020 hsz20 A0 c0 l0 t153 (of_decide_eq_true as_) (of_decide_eq_true as_) HC0.out; have HR157 := Aside0.mk (Kd.C_of_reads (h1 := fun _ => rfl) (hA20 _ (Kd.reads_of_C HR0.out))); have HC157 := Aside0.mk hC20; clear hA20 hC20 hi020 hsz20) | ((with_reducible refine gate_callee (f := 27) rfl ?_); refine goesL_ (some 33) rfl rfl Tryz.func27 (by kernel_rfl) rfl #[.slice A20 (l0.drop (t153 : Int).toNat).length (c0 - t153.toNat)] rfl (by (try simp only [List.map_toArray, List.map_cons, List.map_nil]); first | done | (rw [show (l0.drop (t153 : Int).toNat).length = (l0.length - t153.toNat) from List.length_drop] <;> rfl) | rfl | (simp only [List.length_drop, List.length_take]; rfl)) ?_; (with_reducible refine (header_Parse.calls k _ _ (l0.drop (t153 : Int).toNat) t158 t159 t160 _ ?side3 ?side1 ?side2 A13.out).mono ?_); (case side1 => repeat (first | exact (Kd.C_below HR157.out HB.out) | (with_reducible refine Kd.C_alloc ?_ _) | (with_reducible refine Kd.C_drewN ?_ _) | (with_reducible refine Kd.C_drew ?_))); (case side2 => exact HC157.out); (case side3 => exact lg_); rintro e w21 ⟨v161, rfl, ho0, hb⟩; refine ⟨_, rfl, ?_⟩; have HO162 := Aside0.mk (Kd.R_lower ho0 (below_size bg_)); replace BK151 := Aside0.mk (blk_below (g := gb151) (o := .cells #[.int .i64 0, .string (⟨#[]⟩ : ByteArray), .slice none 0 0, .slice none 0 0] 41 (0, 0)) bk_ hb); replace HB := Aside0.mk (below_step bg_ hb)) | ((with_reducible refine gate_callee (f := 43) rfl ?_); refine goesL_ (some 45) rfl rfl Tryz.func43 (by kernel_rfl) rfl #[.int .i64 t155] rfl lq_ ?_; (with_reducible refine (http_bare.calls t155 true _ ?side1 A15.out).mono ?_); (case side1 => exact lg_); rintro e w' ⟨rfl, ⟨nd, rfl⟩⟩; refine ⟨_, rfl, ?_⟩; (try (rw [drewN_self w21]; generalize hq_ : World.drewN w21 _ = w21; have n0_ : Aside0 (Kd.R k67 67 w21 w.heap.size (fun _ => True) v161 t158) := ⟨by rw [← hq_]; exact (by (with_reducible repeat (first | apply Kd.R_alloc | apply Kd.R_drewN | apply Kd.R_drew)); exact HO162.out)⟩; have n1_ : Aside0 (w21.heap[gb151]? = some (.cells #[.int .i64 0, .string (⟨#[]⟩ : ByteArray), .slice none 0 0, .slice none 0 0] 41 (0, 0))) := ⟨by rw [← hq_]; exact bk_⟩; have n2_ : Aside0 (Below w.heap.size w w21) := ⟨by rw [← hq_]; exact bg_⟩; clear HO162 BK151 HB hq_; have HO162 := n0_; have BK151 := n1_; have HB := n2_; clear n0_ n1_ n2_)); obtain ⟨Ao22, co22, eo22⟩ := Kd.R_slice HO162.out; subst eo22; have hcz23_0 := cz_ BK151 0 (.int .i64 0); have hcz23_1 := cz_ BK151 1 (.string (⟨#[]⟩ : ByteArray)); have hcz23_2 := cz_ BK151 2 (.slice none 0 0); have hcz23_3 := cz_ BK151 3 (.slice none 0 0); have hfz23_0 := bf_ BK151 0; have hfz23_1 := bf_ BK151 1; have hfz23_2 := bf_ BK151 2; have hfz23_3 := bf_ BK151 3) | ((with_reducible refine gate_store (t := 41) (p := 2) rfl ?_); refine store_all ?hg 41 2 _ rfl rfl gb151 [.int .i64 0, .string (⟨#[]⟩ : ByteArray), .slice none 0 0, .slice none 0 0] [.int .i64 t155, .string t156, .slice Ao22 t158.length co22, .slice none 0 0] BK151.out rfl rfl rfl (by kernel_rfl) rfl ?_; (case hg => rfl); intro w24 hw; have n0_ : Aside0 (Kd.R k67 67 w24 w.heap.size (fun _ => True) (.slice Ao22 t158.length co22) t158) := ⟨(by rw [hw]; exact (by (with_reducible repeat (first | apply Kd.R_alloc | apply Kd.R_drewN | apply Kd.R_drew)); exact Kd.R_mono (R_farC (g := gb151) (fun _ hk => hk.2) (Kd.R_types HO162.out BK151.out (by decide)) [.int .i64 t155, .string t156, .slice Ao22 t158.length co22, .slice none 0 0] 0) (fun _ hk => trivial)))⟩; have n1_ : Aside0 (w24.heap[gb151]? = some (.cells #[.int .i64 t155, .string t156, .slice Ao22 t158.length co22, .slice none 0 0] 41 (0, 0))) := ⟨(by rw [hw]; exact (by (with_reducible repeat (first | refine blk_drewN ?_ _ | refine blk_drew ?_ | refine blk_alloc ?_ _)); refine blk_part [.int .i64 t155, .string t156, .slice Ao22 t158.length co22, .slice none 0 0] [.int .i64 0, .string (⟨#[]⟩ : ByteArray), .slice none 0 0, .slice none 0 0] [] [] (cs := #[.int .i64 0, .string (⟨#[]⟩ : ByteArray), .slice none 0 0, .slice none 0 0]) ?_ rfl rfl rfl; (with_reducible repeat (first | refine blk_drewN ?_ _ | refine blk_drew ?_ | refine blk_alloc ?_ _)); exact BK151.out))⟩; have n2_ := Aside0.mk (sb_ hw); clear hw; clear HO162; clear BK151; clear HB; have HO162 := n0_; have BK151 := n1_; have HB := n2_; clear n0_ n1_ n2_))
       refine bodyPost_ret (results_ctt rfl _ _ gb151 41 #[.int .i64 t155, .string t156, .slice Ao22 t158.length co22, .slice none 0 0] (0, 0) _ rfl bk_ Tryz.underlying41 rfl (by kernel_rfl)) rfl ?_
       exact ⟨_, _, rq_, by (with_reducible repeat (first | apply Kd.R_alloc | apply Kd.R_drewN | apply Kd.R_drew)); exact HO162.out, by first | exact Kd.R_nil _ _ _ _ _ | exact Kd.N_nil _ _ _ _ _ | exact Kd.V_nil _ _ _ _ _ | exact Kd.Q_nil _ _ _ _ _ | exact Kd.S_nil _ _ _ _ _, bg_⟩
      ·replace c16 := Bool.eq_false_iff.mpr c16
       subst c16
       replace H := ifF_ H
       obtain ⟨ji25, hji25⟩ : ∃ j_ : Int, (wrap64 (t153 + t159)) = j_ := ⟨_, rfl⟩
       replace H : (if 0 ≤ (ji25) then (if (ji25) ≤ (l0.length : Int) then ((http_body.f k (l0.drop ((ji25) : Int).toNat) t158 true).bind fun bt165 => (if bt165.2.2 = 0 then (some (t155, t156, t158, bt165.1, wrap64 ((ji25) + bt165.2.1), 0)) else (some (0, (⟨#[]⟩ : ByteArray), ([] : List (S67)), ([] : List Int), 0, bt165.2.2)))) else (none)) else (none)) = some (r1, r2, r3, r4, r5, r6) := by first | (rw [hji25] at H; exact H) | (simp only [hji25] at H ⊢; exact H)
       (try rw [hji25] at A2)
       (try rw [hji25] at A4)
       (try rw [hji25] at A13)
       (try rw [hji25] at A15)
       have hji25w : (IntKind.i64.wrap (t153 + t159)) = ji25 := (i64_w _).trans hji25
       by_cases c26 : 0 ≤ (ji25)
       ·rw [if_pos c26] at H
        have c26b0 := eq_true c26
        have c26b1 := decide_eq_true c26
        clear c26
        by_cases c27 : (ji25) ≤ (l0.length : Int)
        ·rw [if_pos c27] at H
         have c27b0 := eq_true c27
         have c27b1 := decide_eq_true c27
         clear c27
         replace H := Option.bind_eq_some_iff.mp H
         obtain ⟨⟨t165, t166, t167⟩, A280, H⟩ := H
         (try dsimp only at H)
         have A28 := Aside0.mk A280
         clear A280
         by_cases c29 : t167 = 0
         ·rw [if_pos c29] at H
          have c29b0 := beq_iff_eq.mpr c29
          have c29b1 := bne_eq_false_iff_eq.mpr c29
          clear c29
          simp only [Option.some.injEq, Prod.mk.injEq] at H
          obtain ⟨rfl, rfl, rfl, rfl, rfl, rfl⟩ := H
          go_enter Tryz.func20, Tryz.ntmps20
          go_wp2_with (first | ((with_reducible refine gate_dst (N := 2) rfl ?_); refine bx_ 2 #[.int .i64 0, .string (⟨#[]⟩ : ByteArray), .slice none 0 0, .slice none 0 0] 41 ?_; intro gb151 hg w30 hbox hb; have BK151 := Aside0.mk (hbox); have GW151 := Aside0.mk (ge_ (w := w) hg); have GE151 := Aside0.mk (ge_ (w := w) hg); replace HB := Aside0.mk (below_step bq_ hb); clear hb hbox hg) | ((with_reducible refine gate_callee (f := 23) rfl ?_); refine goesL_ (some 13) rfl rfl Tryz.func23 (by kernel_rfl) rfl #[.slice A0 l0.length c0] rfl lq_ ?_; (with_reducible refine (http_first.calls k _ _ l0 t152 t153 t154 _ ?side3 ?side1 ?side2 A2.out).mono ?_); (case side1 => repeat (first | exact (Kd.C_below HR0.out HB.out) | (with_reducible refine Kd.C_alloc ?_ _) | (with_reducible refine Kd.C_drewN ?_ _) | (with_reducible refine Kd.C_drew ?_))); (case side2 => exact HC0.out); (case side3 => exact lg_); rintro e w31 ⟨rfl, hb⟩; refine ⟨_, rfl, ?_⟩; replace BK151 := Aside0.mk (blk_below (g := gb151) (o := .cells #[.int .i64 0, .string (⟨#[]⟩ : ByteArray), .slice none 0 0, .slice none 0 0] 41 (0, 0)) bk_ hb); replace HB := Aside0.mk (below_step bg_ hb)) | ((with_reducible refine gate_callee (f := 47) rfl ?_); refine goesL_ (some 23) rfl rfl Tryz.func47 (by kernel_rfl) rfl #[.string t152] rfl lq_ ?_; (with_reducible refine (http_status.calls k t152 t155 t156 _ ?side1 A4.out).mono ?_); (case side1 => exact lg_); rintro e w32 ⟨rfl, hb⟩; refine ⟨_, rfl, ?_⟩; replace BK151 := Aside0.mk (blk_below (g := gb151) (o := .cells #[.int .i64 0, .string (⟨#[]⟩ : ByteArray), .slice none 0 0, .slice none 0 0] 41 (0, 0)) bk_ hb); replace HB := Aside0.mk (below_step bg_ hb); obtain ⟨i033, hi033, _, hsz33, _⟩ := info_parts Go.Proofs.YtipleegkonhfcaaGreatDoor.P.info5; obtain ⟨A33, hcut33, hA33, hC33⟩ := print_drop_of (P := Tryz.prog) (Value.int .u8) 0 22 5 .i64 Tryz.underlying22 hi033 hsz33 A0 c0 l0 t153 (of_decide_eq_true as_) (of_decide_eq_true as_) HC0.out; have HR157 := Aside0.mk (Kd.C_of_reads (h1 := fun _ => rfl) (hA33 _ (Kd.reads_of_C HR0.out))); have HC157 := Aside0.mk hC33; clear hA33 hC33 hi033 hsz33) | ((with_reducible refine gate_callee (f := 27) rfl ?_); refine goesL_ (some 33) rfl rfl Tryz.func27 (by kernel_rfl) rfl #[.slice A33 (l0.drop (t153 : Int).toNat).length (c0 - t153.toNat)] rfl (by (try simp only [List.map_toArray, List.map_cons, List.map_nil]); first | done | (rw [show (l0.drop (t153 : Int).toNat).length = (l0.length - t153.toNat) from List.length_drop] <;> rfl) | rfl | (simp only [List.length_drop, List.length_take]; rfl)) ?_; (with_reducible refine (header_Parse.calls k _ _ (l0.drop (t153 : Int).toNat) t158 t159 t160 _ ?side3 ?side1 ?side2 A13.out).mono ?_); (case side1 => repeat (first | exact (Kd.C_below HR157.out HB.out) | (with_reducible refine Kd.C_alloc ?_ _) | (with_reducible refine Kd.C_drewN ?_ _) | (with_reducible refine Kd.C_drew ?_))); (case side2 => exact HC157.out); (case side3 => exact lg_); rintro e w34 ⟨v161, rfl, ho0, hb⟩; refine ⟨_, rfl, ?_⟩; have HO162 := Aside0.mk (Kd.R_lower ho0 (below_size bg_)); replace BK151 := Aside0.mk (blk_below (g := gb151) (o := .cells #[.int .i64 0, .string (⟨#[]⟩ : ByteArray), .slice none 0 0, .slice none 0 0] 41 (0, 0)) bk_ hb); replace HB := Aside0.mk (below_step bg_ hb)) | ((with_reducible refine gate_callee (f := 43) rfl ?_); refine goesL_ (some 45) rfl rfl Tryz.func43 (by kernel_rfl) rfl #[.int .i64 t155] rfl lq_ ?_; (with_reducible refine (http_bare.calls t155 false _ ?side1 A15.out).mono ?_); (case side1 => exact lg_); rintro e w' ⟨rfl, ⟨nd, rfl⟩⟩; refine ⟨_, rfl, ?_⟩; (try (rw [drewN_self w34]; generalize hq_ : World.drewN w34 _ = w34; have n0_ : Aside0 (Kd.R k67 67 w34 w.heap.size (fun _ => True) v161 t158) := ⟨by rw [← hq_]; exact (by (with_reducible repeat (first | apply Kd.R_alloc | apply Kd.R_drewN | apply Kd.R_drew)); exact HO162.out)⟩; have n1_ : Aside0 (w34.heap[gb151]? = some (.cells #[.int .i64 0, .string (⟨#[]⟩ : ByteArray), .slice none 0 0, .slice none 0 0] 41 (0, 0))) := ⟨by rw [← hq_]; exact bk_⟩; have n2_ : Aside0 (Below w.heap.size w w34) := ⟨by rw [← hq_]; exact bg_⟩; clear HO162 BK151 HB hq_; have HO162 := n0_; have BK151 := n1_; have HB := n2_; clear n0_ n1_ n2_)); obtain ⟨i035, hi035, _, hsz35, _⟩ := info_parts Go.Proofs.YtipleegkonhfcaaGreatDoor.P.info5; obtain ⟨A35, hcut35, hA35, hC35⟩ := print_drop_of (P := Tryz.prog) (Value.int .u8) 0 22 5 .i64 Tryz.underlying22 hi035 hsz35 A0 c0 l0 (ji25) (of_decide_eq_true as_) (of_decide_eq_true as_) HC0.out; have HR164 := Aside0.mk (Kd.C_of_reads (h1 := fun _ => rfl) (hA35 _ (Kd.reads_of_C HR0.out))); have HC164 := Aside0.mk hC35; clear hA35 hC35 hi035 hsz35; obtain ⟨Ao36, co36, eo36⟩ := Kd.R_slice HO162.out; subst eo36) | ((with_reducible refine gate_callee (f := 28) rfl ?_); refine goesL_ (some 52) rfl rfl Tryz.func28 (by kernel_rfl) rfl #[.slice A35 (l0.drop ((ji25) : Int).toNat).length (c0 - (ji25).toNat), .slice Ao36 t158.length co36, .bool true] rfl (by (try simp only [List.map_toArray, List.map_cons, List.map_nil]); first | done | (rw [show (l0.drop ((ji25) : Int).toNat).length = (l0.length - (ji25).toNat) from List.length_drop] <;> rfl) | (simp only [hji25]; rfl) | rfl | (simp only [List.length_drop, List.length_take]; rfl)) ?_; (with_reducible refine (http_body.calls k _ _ (l0.drop ((ji25) : Int).toNat) _ _ t158 true t165 t166 t167 _ ?side5 ?side1 ?side2 ?side3 ?side4 A28.out).mono ?_); (case side1 => repeat (first | exact (Kd.C_below HR164.out HB.out) | (with_reducible refine Kd.C_alloc ?_ _) | (with_reducible refine Kd.C_drewN ?_ _) | (with_reducible refine Kd.C_drew ?_))); (case side2 => exact HC164.out); (case side3 => repeat (first | exact (Kd.R_reads' HO162.out).2.2 | (with_reducible refine Kd.C_alloc ?_ _) | (with_reducible refine Kd.C_drewN ?_ _) | (with_reducible refine Kd.C_drew ?_))); (case side4 => exact (Kd.R_reads' HO162.out).2.1); (case side5 => exact lg_); rintro e w37 ⟨v168, rfl, ho0, hb⟩; refine ⟨_, rfl, ?_⟩; replace HO162 := Aside0.mk (Kd.R_below (by (with_reducible repeat (first | apply Kd.R_alloc | apply Kd.R_drewN | apply Kd.R_drew)); exact HO162.out) hb); have HO169 := Aside0.mk (Kd.R_lower ho0 (below_size bg_)); replace BK151 := Aside0.mk (blk_below (g := gb151) (o := .cells #[.int .i64 0, .string (⟨#[]⟩ : ByteArray), .slice none 0 0, .slice none 0 0] 41 (0, 0)) bk_ hb); replace HB := Aside0.mk (below_step bg_ hb); obtain ⟨Ao38, co38, eo38⟩ := Kd.R_slice HO169.out; subst eo38; have hcz39_0 := cz_ BK151 0 (.int .i64 0); have hcz39_1 := cz_ BK151 1 (.string (⟨#[]⟩ : ByteArray)); have hcz39_2 := cz_ BK151 2 (.slice none 0 0); have hcz39_3 := cz_ BK151 3 (.slice none 0 0); have hfz39_0 := bf_ BK151 0; have hfz39_1 := bf_ BK151 1; have hfz39_2 := bf_ BK151 2; have hfz39_3 := bf_ BK151 3) | ((with_reducible refine gate_store (t := 41) (p := 2) rfl ?_); refine store_all ?hg 41 2 _ rfl rfl gb151 [.int .i64 0, .string (⟨#[]⟩ : ByteArray), .slice none 0 0, .slice none 0 0] [.int .i64 t155, .string t156, .slice Ao36 t158.length co36, .slice Ao38 t165.length co38] BK151.out rfl rfl rfl (by kernel_rfl) rfl ?_; (case hg => rfl); intro w40 hw; have n0_ : Aside0 (Kd.R k67 67 w40 w.heap.size (fun _ => True) (.slice Ao36 t158.length co36) t158) := ⟨(by rw [hw]; exact (by (with_reducible repeat (first | apply Kd.R_alloc | apply Kd.R_drewN | apply Kd.R_drew)); exact Kd.R_mono (R_farC (g := gb151) (fun _ hk => hk.2) (Kd.R_types HO162.out BK151.out (by decide)) [.int .i64 t155, .string t156, .slice Ao36 t158.length co36, .slice Ao38 t165.length co38] 0) (fun _ hk => trivial)))⟩; have n1_ : Aside0 (Kd.R (Kd.int .u8) 5 w40 w.heap.size (fun _ => True) (.slice Ao38 t165.length co38) t165) := ⟨(by rw [hw]; exact (by (with_reducible repeat (first | apply Kd.R_alloc | apply Kd.R_drewN | apply Kd.R_drew)); exact Kd.R_mono (R_farC (g := gb151) (fun _ hk => hk.2) (Kd.R_types HO169.out BK151.out (by decide)) [.int .i64 t155, .string t156, .slice Ao36 t158.length co36, .slice Ao38 t165.length co38] 0) (fun _ hk => trivial)))⟩; have n2_ : Aside0 (w40.heap[gb151]? = some (.cells #[.int .i64 t155, .string t156, .slice Ao36 t158.length co36, .slice Ao38 t165.length co38] 41 (0, 0))) := ⟨(by rw [hw]; exact (by (with_reducible repeat (first | refine blk_drewN ?_ _ | refine blk_drew ?_ | refine blk_alloc ?_ _)); refine blk_part [.int .i64 t155, .string t156, .slice Ao36 t158.length co36, .slice Ao38 t165.length co38] [.int .i64 0, .string (⟨#[]⟩ : ByteArray), .slice none 0 0, .slice none 0 0] [] [] (cs := #[.int .i64 0, .string (⟨#[]⟩ : ByteArray), .slice none 0 0, .slice none 0 0]) ?_ rfl rfl rfl; (with_reducible repeat (first | refine blk_drewN ?_ _ | refine blk_drew ?_ | refine blk_alloc ?_ _)); exact BK151.out))⟩; have n3_ := Aside0.mk (sb_ hw); clear hw; clear HO162; clear HO169; clear BK151; clear HB; have HO162 := n0_; have HO169 := n1_; have BK151 := n2_; have HB := n3_; clear n0_ n1_ n2_ n3_))
          refine bodyPost_ret (results_ctt rfl _ _ gb151 41 #[.int .i64 t155, .string t156, .slice Ao36 t158.length co36, .slice Ao38 t165.length co38] (0, 0) _ rfl bk_ Tryz.underlying41 rfl (by kernel_rfl)) rfl ?_
          exact ⟨_, _, by first | rfl | (simp [errW_none, errW_some] <;> rfl) | (simp only [← hji25]; first | rfl | (simp [errW_none, errW_some] <;> rfl)) | (simp [*, errW_none, errW_some] <;> rfl) | (simp [errW_none, errW_some]; first | exact isEmpty_bne _ | exact isEmpty_beq _ | exact (isEmpty_bne _).symm), by (with_reducible repeat (first | apply Kd.R_alloc | apply Kd.R_drewN | apply Kd.R_drew)); exact HO162.out, by (with_reducible repeat (first | apply Kd.R_alloc | apply Kd.R_drewN | apply Kd.R_drew)); exact HO169.out, bg_⟩
         ·rw [if_neg c29] at H
          have c29b0 := beq_eq_false_iff_ne.mpr c29
          have c29b1 := bne_iff_ne.mpr c29
          simp only [Option.some.injEq, Prod.mk.injEq] at H
          obtain ⟨rfl, rfl, rfl, rfl, rfl, rfl⟩ := H
          go_enter Tryz.func20, Tryz.ntmps20
          go_wp2_with (first | ((with_reducible refine gate_dst (N := 2) rfl ?_); refine bx_ 2 #[.int .i64 0, .string (⟨#[]⟩ : ByteArray), .slice none 0 0, .slice none 0 0] 41 ?_; intro gb151 hg w41 hbox hb; have BK151 := Aside0.mk (hbox); have GW151 := Aside0.mk (ge_ (w := w) hg); have GE151 := Aside0.mk (ge_ (w := w) hg); replace HB := Aside0.mk (below_step bq_ hb); clear hb hbox hg) | ((with_reducible refine gate_callee (f := 23) rfl ?_); refine goesL_ (some 13) rfl rfl Tryz.func23 (by kernel_rfl) rfl #[.slice A0 l0.length c0] rfl lq_ ?_; (with_reducible refine (http_first.calls k _ _ l0 t152 t153 t154 _ ?side3 ?side1 ?side2 A2.out).mono ?_); (case side1 => repeat (first | exact (Kd.C_below HR0.out HB.out) | (with_reducible refine Kd.C_alloc ?_ _) | (with_reducible refine Kd.C_drewN ?_ _) | (with_reducible refine Kd.C_drew ?_))); (case side2 => exact HC0.out); (case side3 => exact lg_); rintro e w42 ⟨rfl, hb⟩; refine ⟨_, rfl, ?_⟩; replace BK151 := Aside0.mk (blk_below (g := gb151) (o := .cells #[.int .i64 0, .string (⟨#[]⟩ : ByteArray), .slice none 0 0, .slice none 0 0] 41 (0, 0)) bk_ hb); replace HB := Aside0.mk (below_step bg_ hb)) | ((with_reducible refine gate_callee (f := 47) rfl ?_); refine goesL_ (some 23) rfl rfl Tryz.func47 (by kernel_rfl) rfl #[.string t152] rfl lq_ ?_; (with_reducible refine (http_status.calls k t152 t155 t156 _ ?side1 A4.out).mono ?_); (case side1 => exact lg_); rintro e w43 ⟨rfl, hb⟩; refine ⟨_, rfl, ?_⟩; replace BK151 := Aside0.mk (blk_below (g := gb151) (o := .cells #[.int .i64 0, .string (⟨#[]⟩ : ByteArray), .slice none 0 0, .slice none 0 0] 41 (0, 0)) bk_ hb); replace HB := Aside0.mk (below_step bg_ hb); obtain ⟨i044, hi044, _, hsz44, _⟩ := info_parts Go.Proofs.YtipleegkonhfcaaGreatDoor.P.info5; obtain ⟨A44, hcut44, hA44, hC44⟩ := print_drop_of (P := Tryz.prog) (Value.int .u8) 0 22 5 .i64 Tryz.underlying22 hi044 hsz44 A0 c0 l0 t153 (of_decide_eq_true as_) (of_decide_eq_true as_) HC0.out; have HR157 := Aside0.mk (Kd.C_of_reads (h1 := fun _ => rfl) (hA44 _ (Kd.reads_of_C HR0.out))); have HC157 := Aside0.mk hC44; clear hA44 hC44 hi044 hsz44) | ((with_reducible refine gate_callee (f := 27) rfl ?_); refine goesL_ (some 33) rfl rfl Tryz.func27 (by kernel_rfl) rfl #[.slice A44 (l0.drop (t153 : Int).toNat).length (c0 - t153.toNat)] rfl (by (try simp only [List.map_toArray, List.map_cons, List.map_nil]); first | done | (rw [show (l0.drop (t153 : Int).toNat).length = (l0.length - t153.toNat) from List.length_drop] <;> rfl) | rfl | (simp only [List.length_drop, List.length_take]; rfl)) ?_; (with_reducible refine (header_Parse.calls k _ _ (l0.drop (t153 : Int).toNat) t158 t159 t160 _ ?side3 ?side1 ?side2 A13.out).mono ?_); (case side1 => repeat (first | exact (Kd.C_below HR157.out HB.out) | (with_reducible refine Kd.C_alloc ?_ _) | (with_reducible refine Kd.C_drewN ?_ _) | (with_reducible refine Kd.C_drew ?_))); (case side2 => exact HC157.out); (case side3 => exact lg_); rintro e w45 ⟨v161, rfl, ho0, hb⟩; refine ⟨_, rfl, ?_⟩; have HO162 := Aside0.mk (Kd.R_lower ho0 (below_size bg_)); replace BK151 := Aside0.mk (blk_below (g := gb151) (o := .cells #[.int .i64 0, .string (⟨#[]⟩ : ByteArray), .slice none 0 0, .slice none 0 0] 41 (0, 0)) bk_ hb); replace HB := Aside0.mk (below_step bg_ hb)) | ((with_reducible refine gate_callee (f := 43) rfl ?_); refine goesL_ (some 45) rfl rfl Tryz.func43 (by kernel_rfl) rfl #[.int .i64 t155] rfl lq_ ?_; (with_reducible refine (http_bare.calls t155 false _ ?side1 A15.out).mono ?_); (case side1 => exact lg_); rintro e w' ⟨rfl, ⟨nd, rfl⟩⟩; refine ⟨_, rfl, ?_⟩; (try (rw [drewN_self w45]; generalize hq_ : World.drewN w45 _ = w45; have n0_ : Aside0 (Kd.R k67 67 w45 w.heap.size (fun _ => True) v161 t158) := ⟨by rw [← hq_]; exact (by (with_reducible repeat (first | apply Kd.R_alloc | apply Kd.R_drewN | apply Kd.R_drew)); exact HO162.out)⟩; have n1_ : Aside0 (w45.heap[gb151]? = some (.cells #[.int .i64 0, .string (⟨#[]⟩ : ByteArray), .slice none 0 0, .slice none 0 0] 41 (0, 0))) := ⟨by rw [← hq_]; exact bk_⟩; have n2_ : Aside0 (Below w.heap.size w w45) := ⟨by rw [← hq_]; exact bg_⟩; clear HO162 BK151 HB hq_; have HO162 := n0_; have BK151 := n1_; have HB := n2_; clear n0_ n1_ n2_)); obtain ⟨i046, hi046, _, hsz46, _⟩ := info_parts Go.Proofs.YtipleegkonhfcaaGreatDoor.P.info5; obtain ⟨A46, hcut46, hA46, hC46⟩ := print_drop_of (P := Tryz.prog) (Value.int .u8) 0 22 5 .i64 Tryz.underlying22 hi046 hsz46 A0 c0 l0 (ji25) (of_decide_eq_true as_) (of_decide_eq_true as_) HC0.out; have HR164 := Aside0.mk (Kd.C_of_reads (h1 := fun _ => rfl) (hA46 _ (Kd.reads_of_C HR0.out))); have HC164 := Aside0.mk hC46; clear hA46 hC46 hi046 hsz46; obtain ⟨Ao47, co47, eo47⟩ := Kd.R_slice HO162.out; subst eo47) | ((with_reducible refine gate_callee (f := 28) rfl ?_); refine goesL_ (some 52) rfl rfl Tryz.func28 (by kernel_rfl) rfl #[.slice A46 (l0.drop ((ji25) : Int).toNat).length (c0 - (ji25).toNat), .slice Ao47 t158.length co47, .bool true] rfl (by (try simp only [List.map_toArray, List.map_cons, List.map_nil]); first | done | (rw [show (l0.drop ((ji25) : Int).toNat).length = (l0.length - (ji25).toNat) from List.length_drop] <;> rfl) | (simp only [hji25]; rfl) | rfl | (simp only [List.length_drop, List.length_take]; rfl)) ?_; (with_reducible refine (http_body.calls k _ _ (l0.drop ((ji25) : Int).toNat) _ _ t158 true t165 t166 t167 _ ?side5 ?side1 ?side2 ?side3 ?side4 A28.out).mono ?_); (case side1 => repeat (first | exact (Kd.C_below HR164.out HB.out) | (with_reducible refine Kd.C_alloc ?_ _) | (with_reducible refine Kd.C_drewN ?_ _) | (with_reducible refine Kd.C_drew ?_))); (case side2 => exact HC164.out); (case side3 => repeat (first | exact (Kd.R_reads' HO162.out).2.2 | (with_reducible refine Kd.C_alloc ?_ _) | (with_reducible refine Kd.C_drewN ?_ _) | (with_reducible refine Kd.C_drew ?_))); (case side4 => exact (Kd.R_reads' HO162.out).2.1); (case side5 => exact lg_); rintro e w48 ⟨v168, rfl, ho0, hb⟩; refine ⟨_, rfl, ?_⟩; replace HO162 := Aside0.mk (Kd.R_below (by (with_reducible repeat (first | apply Kd.R_alloc | apply Kd.R_drewN | apply Kd.R_drew)); exact HO162.out) hb); have HO169 := Aside0.mk (Kd.R_lower ho0 (below_size bg_)); replace BK151 := Aside0.mk (blk_below (g := gb151) (o := .cells #[.int .i64 0, .string (⟨#[]⟩ : ByteArray), .slice none 0 0, .slice none 0 0] 41 (0, 0)) bk_ hb); replace HB := Aside0.mk (below_step bg_ hb); have hcz49_0 := cz_ BK151 0 (.int .i64 0); have hcz49_1 := cz_ BK151 1 (.string (⟨#[]⟩ : ByteArray)); have hcz49_2 := cz_ BK151 2 (.slice none 0 0); have hcz49_3 := cz_ BK151 3 (.slice none 0 0); have hfz49_0 := bf_ BK151 0; have hfz49_1 := bf_ BK151 1; have hfz49_2 := bf_ BK151 2; have hfz49_3 := bf_ BK151 3) | ((with_reducible refine gate_store (t := 41) (p := 2) rfl ?_); refine store_all ?hg 41 2 _ rfl rfl gb151 [.int .i64 0, .string (⟨#[]⟩ : ByteArray), .slice none 0 0, .slice none 0 0] [.int .i64 0, .string (⟨#[]⟩ : ByteArray), .slice none 0 0, .slice none 0 0] BK151.out rfl rfl rfl (by kernel_rfl) rfl ?_; (case hg => rfl); intro w50 hw; have n0_ : Aside0 (Kd.R k67 67 w50 w.heap.size (fun _ => True) (.slice Ao47 t158.length co47) t158) := ⟨(by rw [hw]; exact (by (with_reducible repeat (first | apply Kd.R_alloc | apply Kd.R_drewN | apply Kd.R_drew)); exact Kd.R_mono (R_farC (g := gb151) (fun _ hk => hk.2) (Kd.R_types HO162.out BK151.out (by decide)) [.int .i64 0, .string (⟨#[]⟩ : ByteArray), .slice none 0 0, .slice none 0 0] 0) (fun _ hk => trivial)))⟩; have n1_ : Aside0 (Kd.R (Kd.int .u8) 5 w50 w.heap.size (fun _ => True) v168 t165) := ⟨(by rw [hw]; exact (by (with_reducible repeat (first | apply Kd.R_alloc | apply Kd.R_drewN | apply Kd.R_drew)); exact Kd.R_mono (R_farC (g := gb151) (fun _ hk => hk.2) (Kd.R_types HO169.out BK151.out (by decide)) [.int .i64 0, .string (⟨#[]⟩ : ByteArray), .slice none 0 0, .slice none 0 0] 0) (fun _ hk => trivial)))⟩; have n2_ : Aside0 (w50.heap[gb151]? = some (.cells #[.int .i64 0, .string (⟨#[]⟩ : ByteArray), .slice none 0 0, .slice none 0 0] 41 (0, 0))) := ⟨(by rw [hw]; exact (by (with_reducible repeat (first | refine blk_drewN ?_ _ | refine blk_drew ?_ | refine blk_alloc ?_ _)); refine blk_part [.int .i64 0, .string (⟨#[]⟩ : ByteArray), .slice none 0 0, .slice none 0 0] [.int .i64 0, .string (⟨#[]⟩ : ByteArray), .slice none 0 0, .slice none 0 0] [] [] (cs := #[.int .i64 0, .string (⟨#[]⟩ : ByteArray), .slice none 0 0, .slice none 0 0]) ?_ rfl rfl rfl; (with_reducible repeat (first | refine blk_drewN ?_ _ | refine blk_drew ?_ | refine blk_alloc ?_ _)); exact BK151.out))⟩; have n3_ := Aside0.mk (sb_ hw); clear hw; clear HO162; clear HO169; clear BK151; clear HB; have HO162 := n0_; have HO169 := n1_; have BK151 := n2_; have HB := n3_; clear n0_ n1_ n2_ n3_))
          refine bodyPost_ret (results_ctt rfl _ _ gb151 41 #[.int .i64 0, .string (⟨#[]⟩ : ByteArray), .slice none 0 0, .slice none 0 0] (0, 0) _ rfl bk_ Tryz.underlying41 rfl (by kernel_rfl)) rfl ?_
          exact ⟨_, _, by first | rfl | (simp [errW_none, errW_some] <;> rfl) | (simp only [← hji25]; first | rfl | (simp [errW_none, errW_some] <;> rfl)) | (simp [*, errW_none, errW_some] <;> rfl) | (simp [errW_none, errW_some]; first | exact isEmpty_bne _ | exact isEmpty_beq _ | exact (isEmpty_bne _).symm), by first | exact Kd.R_nil _ _ _ _ _ | exact Kd.N_nil _ _ _ _ _ | exact Kd.V_nil _ _ _ _ _ | exact Kd.Q_nil _ _ _ _ _ | exact Kd.S_nil _ _ _ _ _, by first | exact Kd.R_nil _ _ _ _ _ | exact Kd.N_nil _ _ _ _ _ | exact Kd.V_nil _ _ _ _ _ | exact Kd.Q_nil _ _ _ _ _ | exact Kd.S_nil _ _ _ _ _, bg_⟩
        ·rw [if_neg c27] at H
         exact absurd H (by simp)
       ·rw [if_neg c26] at H
        exact absurd H (by simp)
     ·rw [if_neg c14] at H
      have c14b0 := beq_eq_false_iff_ne.mpr c14
      have c14b1 := bne_iff_ne.mpr c14
      simp only [Option.some.injEq, Prod.mk.injEq] at H
      obtain ⟨rfl, rfl, rfl, rfl, rfl, rfl⟩ := H
      go_enter Tryz.func20, Tryz.ntmps20
      go_wp2_with (first | ((with_reducible refine gate_dst (N := 2) rfl ?_); refine bx_ 2 #[.int .i64 0, .string (⟨#[]⟩ : ByteArray), .slice none 0 0, .slice none 0 0] 41 ?_; intro gb151 hg w51 hbox hb; have BK151 := Aside0.mk (hbox); have GW151 := Aside0.mk (ge_ (w := w) hg); have GE151 := Aside0.mk (ge_ (w := w) hg); replace HB := Aside0.mk (below_step bq_ hb); clear hb hbox hg) | ((with_reducible refine gate_callee (f := 23) rfl ?_); refine goesL_ (some 13) rfl rfl Tryz.func23 (by kernel_rfl) rfl #[.slice A0 l0.length c0] rfl lq_ ?_; (with_reducible refine (http_first.calls k _ _ l0 t152 t153 t154 _ ?side3 ?side1 ?side2 A2.out).mono ?_); (case side1 => repeat (first | exact (Kd.C_below HR0.out HB.out) | (with_reducible refine Kd.C_alloc ?_ _) | (with_reducible refine Kd.C_drewN ?_ _) | (with_reducible refine Kd.C_drew ?_))); (case side2 => exact HC0.out); (case side3 => exact lg_); rintro e w52 ⟨rfl, hb⟩; refine ⟨_, rfl, ?_⟩; replace BK151 := Aside0.mk (blk_below (g := gb151) (o := .cells #[.int .i64 0, .string (⟨#[]⟩ : ByteArray), .slice none 0 0, .slice none 0 0] 41 (0, 0)) bk_ hb); replace HB := Aside0.mk (below_step bg_ hb)) | ((with_reducible refine gate_callee (f := 47) rfl ?_); refine goesL_ (some 23) rfl rfl Tryz.func47 (by kernel_rfl) rfl #[.string t152] rfl lq_ ?_; (with_reducible refine (http_status.calls k t152 t155 t156 _ ?side1 A4.out).mono ?_); (case side1 => exact lg_); rintro e w53 ⟨rfl, hb⟩; refine ⟨_, rfl, ?_⟩; replace BK151 := Aside0.mk (blk_below (g := gb151) (o := .cells #[.int .i64 0, .string (⟨#[]⟩ : ByteArray), .slice none 0 0, .slice none 0 0] 41 (0, 0)) bk_ hb); replace HB := Aside0.mk (below_step bg_ hb); obtain ⟨i054, hi054, _, hsz54, _⟩ := info_parts Go.Proofs.YtipleegkonhfcaaGreatDoor.P.info5; obtain ⟨A54, hcut54, hA54, hC54⟩ := print_drop_of (P := Tryz.prog) (Value.int .u8) 0 22 5 .i64 Tryz.underlying22 hi054 hsz54 A0 c0 l0 t153 (of_decide_eq_true as_) (of_decide_eq_true as_) HC0.out; have HR157 := Aside0.mk (Kd.C_of_reads (h1 := fun _ => rfl) (hA54 _ (Kd.reads_of_C HR0.out))); have HC157 := Aside0.mk hC54; clear hA54 hC54 hi054 hsz54) | ((with_reducible refine gate_callee (f := 27) rfl ?_); refine goesL_ (some 33) rfl rfl Tryz.func27 (by kernel_rfl) rfl #[.slice A54 (l0.drop (t153 : Int).toNat).length (c0 - t153.toNat)] rfl (by (try simp only [List.map_toArray, List.map_cons, List.map_nil]); first | done | (rw [show (l0.drop (t153 : Int).toNat).length = (l0.length - t153.toNat) from List.length_drop] <;> rfl) | rfl | (simp only [List.length_drop, List.length_take]; rfl)) ?_; (with_reducible refine (header_Parse.calls k _ _ (l0.drop (t153 : Int).toNat) t158 t159 t160 _ ?side3 ?side1 ?side2 A13.out).mono ?_); (case side1 => repeat (first | exact (Kd.C_below HR157.out HB.out) | (with_reducible refine Kd.C_alloc ?_ _) | (with_reducible refine Kd.C_drewN ?_ _) | (with_reducible refine Kd.C_drew ?_))); (case side2 => exact HC157.out); (case side3 => exact lg_); rintro e w55 ⟨v161, rfl, ho0, hb⟩; refine ⟨_, rfl, ?_⟩; have HO162 := Aside0.mk (Kd.R_lower ho0 (below_size bg_)); replace BK151 := Aside0.mk (blk_below (g := gb151) (o := .cells #[.int .i64 0, .string (⟨#[]⟩ : ByteArray), .slice none 0 0, .slice none 0 0] 41 (0, 0)) bk_ hb); replace HB := Aside0.mk (below_step bg_ hb); have hcz56_0 := cz_ BK151 0 (.int .i64 0); have hcz56_1 := cz_ BK151 1 (.string (⟨#[]⟩ : ByteArray)); have hcz56_2 := cz_ BK151 2 (.slice none 0 0); have hcz56_3 := cz_ BK151 3 (.slice none 0 0); have hfz56_0 := bf_ BK151 0; have hfz56_1 := bf_ BK151 1; have hfz56_2 := bf_ BK151 2; have hfz56_3 := bf_ BK151 3) | ((with_reducible refine gate_store (t := 41) (p := 2) rfl ?_); refine store_all ?hg 41 2 _ rfl rfl gb151 [.int .i64 0, .string (⟨#[]⟩ : ByteArray), .slice none 0 0, .slice none 0 0] [.int .i64 0, .string (⟨#[]⟩ : ByteArray), .slice none 0 0, .slice none 0 0] BK151.out rfl rfl rfl (by kernel_rfl) rfl ?_; (case hg => rfl); intro w57 hw; have n0_ : Aside0 (Kd.R k67 67 w57 w.heap.size (fun _ => True) v161 t158) := ⟨(by rw [hw]; exact (by (with_reducible repeat (first | apply Kd.R_alloc | apply Kd.R_drewN | apply Kd.R_drew)); exact Kd.R_mono (R_farC (g := gb151) (fun _ hk => hk.2) (Kd.R_types HO162.out BK151.out (by decide)) [.int .i64 0, .string (⟨#[]⟩ : ByteArray), .slice none 0 0, .slice none 0 0] 0) (fun _ hk => trivial)))⟩; have n1_ : Aside0 (w57.heap[gb151]? = some (.cells #[.int .i64 0, .string (⟨#[]⟩ : ByteArray), .slice none 0 0, .slice none 0 0] 41 (0, 0))) := ⟨(by rw [hw]; exact (by (with_reducible repeat (first | refine blk_drewN ?_ _ | refine blk_drew ?_ | refine blk_alloc ?_ _)); refine blk_part [.int .i64 0, .string (⟨#[]⟩ : ByteArray), .slice none 0 0, .slice none 0 0] [.int .i64 0, .string (⟨#[]⟩ : ByteArray), .slice none 0 0, .slice none 0 0] [] [] (cs := #[.int .i64 0, .string (⟨#[]⟩ : ByteArray), .slice none 0 0, .slice none 0 0]) ?_ rfl rfl rfl; (with_reducible repeat (first | refine blk_drewN ?_ _ | refine blk_drew ?_ | refine blk_alloc ?_ _)); exact BK151.out))⟩; have n2_ := Aside0.mk (sb_ hw); clear hw; clear HO162; clear BK151; clear HB; have HO162 := n0_; have BK151 := n1_; have HB := n2_; clear n0_ n1_ n2_))
      refine bodyPost_ret (results_ctt rfl _ _ gb151 41 #[.int .i64 0, .string (⟨#[]⟩ : ByteArray), .slice none 0 0, .slice none 0 0] (0, 0) _ rfl bk_ Tryz.underlying41 rfl (by kernel_rfl)) rfl ?_
      exact ⟨_, _, rq_, by first | exact Kd.R_nil _ _ _ _ _ | exact Kd.N_nil _ _ _ _ _ | exact Kd.V_nil _ _ _ _ _ | exact Kd.Q_nil _ _ _ _ _ | exact Kd.S_nil _ _ _ _ _, by first | exact Kd.R_nil _ _ _ _ _ | exact Kd.N_nil _ _ _ _ _ | exact Kd.V_nil _ _ _ _ _ | exact Kd.Q_nil _ _ _ _ _ | exact Kd.S_nil _ _ _ _ _, bg_⟩
    ·rw [if_neg c12] at H
     exact absurd H (by simp)
   ·rw [if_neg c11] at H
    exact absurd H (by simp)
 ·rw [if_neg c3] at H
  have c3b0 := beq_eq_false_iff_ne.mpr c3
  have c3b1 := bne_iff_ne.mpr c3
  simp only [Option.some.injEq, Prod.mk.injEq] at H
  obtain ⟨rfl, rfl, rfl, rfl, rfl, rfl⟩ := H
  go_enter Tryz.func20, Tryz.ntmps20
  go_wp2_with (first | ((with_reducible refine gate_dst (N := 2) rfl ?_); refine bx_ 2 #[.int .i64 0, .string (⟨#[]⟩ : ByteArray), .slice none 0 0, .slice none 0 0] 41 ?_; intro gb151 hg w58 hbox hb; have BK151 := Aside0.mk (hbox); have GW151 := Aside0.mk (ge_ (w := w) hg); have GE151 := Aside0.mk (ge_ (w := w) hg); replace HB := Aside0.mk (below_step bq_ hb); clear hb hbox hg) | ((with_reducible refine gate_callee (f := 23) rfl ?_); refine goesL_ (some 13) rfl rfl Tryz.func23 (by kernel_rfl) rfl #[.slice A0 l0.length c0] rfl lq_ ?_; (with_reducible refine (http_first.calls k _ _ l0 t152 t153 t154 _ ?side3 ?side1 ?side2 A2.out).mono ?_); (case side1 => repeat (first | exact (Kd.C_below HR0.out HB.out) | (with_reducible refine Kd.C_alloc ?_ _) | (with_reducible refine Kd.C_drewN ?_ _) | (with_reducible refine Kd.C_drew ?_))); (case side2 => exact HC0.out); (case side3 => exact lg_); rintro e w59 ⟨rfl, hb⟩; refine ⟨_, rfl, ?_⟩; replace BK151 := Aside0.mk (blk_below (g := gb151) (o := .cells #[.int .i64 0, .string (⟨#[]⟩ : ByteArray), .slice none 0 0, .slice none 0 0] 41 (0, 0)) bk_ hb); replace HB := Aside0.mk (below_step bg_ hb); have hcz60_0 := cz_ BK151 0 (.int .i64 0); have hcz60_1 := cz_ BK151 1 (.string (⟨#[]⟩ : ByteArray)); have hcz60_2 := cz_ BK151 2 (.slice none 0 0); have hcz60_3 := cz_ BK151 3 (.slice none 0 0); have hfz60_0 := bf_ BK151 0; have hfz60_1 := bf_ BK151 1; have hfz60_2 := bf_ BK151 2; have hfz60_3 := bf_ BK151 3) | ((with_reducible refine gate_store (t := 41) (p := 2) rfl ?_); refine store_all ?hg 41 2 _ rfl rfl gb151 [.int .i64 0, .string (⟨#[]⟩ : ByteArray), .slice none 0 0, .slice none 0 0] [.int .i64 0, .string (⟨#[]⟩ : ByteArray), .slice none 0 0, .slice none 0 0] BK151.out rfl rfl rfl (by kernel_rfl) rfl ?_; (case hg => rfl); intro w61 hw; have n0_ : Aside0 (w61.heap[gb151]? = some (.cells #[.int .i64 0, .string (⟨#[]⟩ : ByteArray), .slice none 0 0, .slice none 0 0] 41 (0, 0))) := ⟨(by rw [hw]; exact (by (with_reducible repeat (first | refine blk_drewN ?_ _ | refine blk_drew ?_ | refine blk_alloc ?_ _)); refine blk_part [.int .i64 0, .string (⟨#[]⟩ : ByteArray), .slice none 0 0, .slice none 0 0] [.int .i64 0, .string (⟨#[]⟩ : ByteArray), .slice none 0 0, .slice none 0 0] [] [] (cs := #[.int .i64 0, .string (⟨#[]⟩ : ByteArray), .slice none 0 0, .slice none 0 0]) ?_ rfl rfl rfl; (with_reducible repeat (first | refine blk_drewN ?_ _ | refine blk_drew ?_ | refine blk_alloc ?_ _)); exact BK151.out))⟩; have n1_ := Aside0.mk (sb_ hw); clear hw; clear BK151; clear HB; have BK151 := n0_; have HB := n1_; clear n0_ n1_))
  refine bodyPost_ret (results_ctt rfl _ _ gb151 41 #[.int .i64 0, .string (⟨#[]⟩ : ByteArray), .slice none 0 0, .slice none 0 0] (0, 0) _ rfl bk_ Tryz.underlying41 rfl (by kernel_rfl)) rfl ?_
  exact ⟨_, _, rq_, by first | exact Kd.R_nil _ _ _ _ _ | exact Kd.N_nil _ _ _ _ _ | exact Kd.V_nil _ _ _ _ _ | exact Kd.Q_nil _ _ _ _ _ | exact Kd.S_nil _ _ _ _ _, by first | exact Kd.R_nil _ _ _ _ _ | exact Kd.N_nil _ _ _ _ _ | exact Kd.V_nil _ _ _ _ _ | exact Kd.Q_nil _ _ _ _ _ | exact Kd.S_nil _ _ _ _ _, bg_⟩

def lanternref11_SameResponse.f (k : Nat) (z0 : Int) (z1 : ByteArray) (l0_2 : List (S67)) (l0_3 : List Int) (Z0 : Int) (Z1 : ByteArray) (l1_2 : List (S67)) (l1_3 : List Int) : Option (Bool) := if z0 = Z0 then (if z1.toList = Z1.toList then ((lanternref09_Same.f k l0_2 l1_2).bind fun t172 => (if t172 = true then (some ((strOfNums l0_3).toList == (strOfNums l1_3).toList)) else (some false))) else (some false)) else (some false)
theorem lanternref11_SameResponse.mono : ∀ a0 a1 a2 a3 a4 a5 a6 a7 k, LeO (lanternref11_SameResponse.f k a0 a1 a2 a3 a4 a5 a6 a7) (lanternref11_SameResponse.f (k + 1) a0 a1 a2 a3 a4 a5 a6 a7) := by
 intro a0 a1 a2 a3 a4 a5 a6 a7 k
 unfold lanternref11_SameResponse.f
 repeat' first
   | (with_reducible exact lanternref09_Same.mono _ _ _)
   | (with_reducible exact LeO.refl _)
   | (with_reducible exact LeO.none _)
   | (with_reducible refine LeO.ite ?_ ?_)
   | (with_reducible refine LeO.bind ?_ (fun _ => ?_))
   | exact lanternref09_Same.mono _ _ _
   | exact LeO.none _
   | refine LeO.ite ?_ ?_
   | refine LeO.bind ?_ (fun _ => ?_)
set_option maxHeartbeats 8000000 in
set_option maxRecDepth 100000 in
theorem lanternref11_SameResponse.calls (k : Nat) (z0 : Int) (z1 : ByteArray) (A0_2 : Option Addr) (c0_2 : Nat) (l0_2 : List (S67)) (A0_3 : Option Addr) (c0_3 : Nat) (l0_3 : List Int) (Z0 : Int) (Z1 : ByteArray) (A1_2 : Option Addr) (c1_2 : Nat) (l1_2 : List (S67)) (A1_3 : Option Addr) (c1_3 : Nat) (l1_3 : List Int) (r : Bool) (w : World) (hLW : LW w) (hr0_2 : Kd.C k67 w A0_2 l0_2.length l0_2) (hc0_2 : l0_2.length ≤ c0_2) (hr0_3 : Kd.C (Kd.int .u8) w A0_3 l0_3.length l0_3) (hc0_3 : l0_3.length ≤ c0_3) (hr1_2 : Kd.C k67 w A1_2 l1_2.length l1_2) (hc1_2 : l1_2.length ≤ c1_2) (hr1_3 : Kd.C (Kd.int .u8) w A1_3 l1_3.length l1_3) (hc1_3 : l1_3.length ≤ c1_3) (h : lanternref11_SameResponse.f k z0 z1 l0_2 l0_3 Z0 Z1 l1_2 l1_3 = some r) :
  Calls Tryz.prog 22 #[.agg #[.int .i64 z0, .string z1, .slice A0_2 l0_2.length c0_2, .slice A0_3 l0_3.length c0_3], .agg #[.int .i64 Z0, .string Z1, .slice A1_2 l1_2.length c1_2, .slice A1_3 l1_3.length c1_3]] w fun e w' => e = .returned (.bool r) ∧ Below w.heap.size w w' := by
 have hu41 := Tryz.underlying41
 have HLW := Aside0.mk hLW
 clear hLW
 have HR0_2 := Aside0.mk hr0_2
 have HC0_2 := Aside0.mk hc0_2
 clear hr0_2 hc0_2
 have HR0_3 := Aside0.mk hr0_3
 have HC0_3 := Aside0.mk hc0_3
 clear hr0_3 hc0_3
 have HR1_2 := Aside0.mk hr1_2
 have HC1_2 := Aside0.mk hc1_2
 clear hr1_2 hc1_2
 have HR1_3 := Aside0.mk hr1_3
 have HC1_3 := Aside0.mk hc1_3
 clear hr1_3 hc1_3
 have HB := Aside0.mk (Below.refl w.heap.size w)
 have H := h
 unfold lanternref11_SameResponse.f at H
 clear h
 by_cases c3 : z0 = Z0
 ·rw [if_pos c3] at H
  have c3b0 := beq_iff_eq.mpr c3
  have c3b1 := bne_eq_false_iff_eq.mpr c3
  clear c3
  by_cases c4 : z1.toList = Z1.toList
  ·rw [if_pos c4] at H
   have c4b0 := beq_iff_eq.mpr c4
   have c4b1 := bne_eq_false_iff_eq.mpr c4
   clear c4
   replace H := Option.bind_eq_some_iff.mp H
   obtain ⟨t172, A50, H⟩ := H
   (try dsimp only at H)
   have A5 := Aside0.mk A50
   clear A50
   by_cases c6 : t172 = true
   ·subst c6
    replace H := ifT_ H
    obtain rfl := Option.some.inj H
    go_enter Tryz.func22, Tryz.ntmps22
    go_wp2_with (first | ((with_reducible refine gate_dst (N := 2) rfl ?_); refine bx_ 2 #[.int .i64 z0, .string z1, .slice A0_2 l0_2.length c0_2, .slice A0_3 l0_3.length c0_3] 41 ?_; intro gb170 hg w7 hbox hb; have BK170 := Aside0.mk (hbox); have GW170 := Aside0.mk (ge_ (w := w) hg); have GE170 := Aside0.mk (ge_ (w := w) hg); replace HB := Aside0.mk (below_step bq_ hb); clear hb hbox hg) | ((with_reducible refine gate_dst (N := 3) rfl ?_); refine bx_ 3 #[.int .i64 Z0, .string Z1, .slice A1_2 l1_2.length c1_2, .slice A1_3 l1_3.length c1_3] 41 ?_; intro gb171 hg w8 hbox hb; have n0_ := Aside0.mk (bb_ BK170 hb); have n1_ := Aside0.mk (below_step bg_ hb); have n2_ := Aside0.mk (hbox); have n3_ := Aside0.mk (gg_ (w := w) hg); have n4_ := Aside0.mk (gg_ (w := w) hg); have n5_ := Aside0.mk (nl_ BK170 hg); have n6_ := Aside0.mk (ng_ BK170 hg); clear BK170; clear HB; have BK170 := n0_; have HB := n1_; have BK171 := n2_; have GW171 := n3_; have GE171 := n4_; have NB170_171 := n5_; have NB171_170 := n6_; clear n0_ n1_ n2_ n3_ n4_ n5_ n6_; clear hb hbox hg; have hnb9 := NB170_171.out; have hnc9 := NB171_170.out; have hcz10_0 := cz_ BK170 0 (.int .i64 z0); have hcz10_1 := cz_ BK170 1 (.string z1); have hcz10_2 := cz_ BK170 2 (.slice A0_2 l0_2.length c0_2); have hcz10_3 := cz_ BK170 3 (.slice A0_3 l0_3.length c0_3); have hfz10_0 := bf_ BK170 0; have hfz10_1 := bf_ BK170 1; have hfz10_2 := bf_ BK170 2; have hfz10_3 := bf_ BK170 3; have hcz11_0 := cz_ BK171 0 (.int .i64 Z0); have hcz11_1 := cz_ BK171 1 (.string Z1); have hcz11_2 := cz_ BK171 2 (.slice A1_2 l1_2.length c1_2); have hcz11_3 := cz_ BK171 3 (.slice A1_3 l1_3.length c1_3); have hfz11_0 := bf_ BK171 0; have hfz11_1 := bf_ BK171 1; have hfz11_2 := bf_ BK171 2; have hfz11_3 := bf_ BK171 3) | (go_at_call 35; (with_reducible refine (lanternref09_Same.calls k _ _ l0_2 _ _ l1_2 true _ ?side5 ?side1 ?side2 ?side3 ?side4 A5.out).mono ?_); (case side1 => repeat (first | exact (Kd.C_below HR0_2.out HB.out) | (with_reducible refine Kd.C_alloc ?_ _) | (with_reducible refine Kd.C_drewN ?_ _) | (with_reducible refine Kd.C_drew ?_))); (case side2 => exact HC0_2.out); (case side3 => repeat (first | exact (Kd.C_below HR1_2.out HB.out) | (with_reducible refine Kd.C_alloc ?_ _) | (with_reducible refine Kd.C_drewN ?_ _) | (with_reducible refine Kd.C_drew ?_))); (case side4 => exact HC1_2.out); (case side5 => exact lg_); rintro e w' ⟨rfl, ⟨nd, rfl⟩⟩; have hcv12 := Kd.C_string (P := Tryz.prog) (A := A0_3) (c := c0_3) Tryz.underlying22 Tryz.underlying5 Tryz.underlying9 (Kd.C_drewN (Kd.C_below HR0_3.out HB.out) nd); have hcv13 := Kd.C_string (P := Tryz.prog) (A := A1_3) (c := c1_3) Tryz.underlying22 Tryz.underlying5 Tryz.underlying9 (Kd.C_drewN (Kd.C_below HR1_3.out HB.out) nd)))
    go_ret
    exact ⟨rq_, bg_⟩
   ·replace c6 := Bool.eq_false_iff.mpr c6
    subst c6
    replace H := ifF_ H
    obtain rfl := Option.some.inj H
    go_enter Tryz.func22, Tryz.ntmps22
    go_wp2_with (first | ((with_reducible refine gate_dst (N := 2) rfl ?_); refine bx_ 2 #[.int .i64 z0, .string z1, .slice A0_2 l0_2.length c0_2, .slice A0_3 l0_3.length c0_3] 41 ?_; intro gb170 hg w14 hbox hb; have BK170 := Aside0.mk (hbox); have GW170 := Aside0.mk (ge_ (w := w) hg); have GE170 := Aside0.mk (ge_ (w := w) hg); replace HB := Aside0.mk (below_step bq_ hb); clear hb hbox hg) | ((with_reducible refine gate_dst (N := 3) rfl ?_); refine bx_ 3 #[.int .i64 Z0, .string Z1, .slice A1_2 l1_2.length c1_2, .slice A1_3 l1_3.length c1_3] 41 ?_; intro gb171 hg w15 hbox hb; have n0_ := Aside0.mk (bb_ BK170 hb); have n1_ := Aside0.mk (below_step bg_ hb); have n2_ := Aside0.mk (hbox); have n3_ := Aside0.mk (gg_ (w := w) hg); have n4_ := Aside0.mk (gg_ (w := w) hg); have n5_ := Aside0.mk (nl_ BK170 hg); have n6_ := Aside0.mk (ng_ BK170 hg); clear BK170; clear HB; have BK170 := n0_; have HB := n1_; have BK171 := n2_; have GW171 := n3_; have GE171 := n4_; have NB170_171 := n5_; have NB171_170 := n6_; clear n0_ n1_ n2_ n3_ n4_ n5_ n6_; clear hb hbox hg; have hnb16 := NB170_171.out; have hnc16 := NB171_170.out; have hcz17_0 := cz_ BK170 0 (.int .i64 z0); have hcz17_1 := cz_ BK170 1 (.string z1); have hcz17_2 := cz_ BK170 2 (.slice A0_2 l0_2.length c0_2); have hcz17_3 := cz_ BK170 3 (.slice A0_3 l0_3.length c0_3); have hfz17_0 := bf_ BK170 0; have hfz17_1 := bf_ BK170 1; have hfz17_2 := bf_ BK170 2; have hfz17_3 := bf_ BK170 3; have hcz18_0 := cz_ BK171 0 (.int .i64 Z0); have hcz18_1 := cz_ BK171 1 (.string Z1); have hcz18_2 := cz_ BK171 2 (.slice A1_2 l1_2.length c1_2); have hcz18_3 := cz_ BK171 3 (.slice A1_3 l1_3.length c1_3); have hfz18_0 := bf_ BK171 0; have hfz18_1 := bf_ BK171 1; have hfz18_2 := bf_ BK171 2; have hfz18_3 := bf_ BK171 3) | (go_at_call 35; (with_reducible refine (lanternref09_Same.calls k _ _ l0_2 _ _ l1_2 false _ ?side5 ?side1 ?side2 ?side3 ?side4 A5.out).mono ?_); (case side1 => repeat (first | exact (Kd.C_below HR0_2.out HB.out) | (with_reducible refine Kd.C_alloc ?_ _) | (with_reducible refine Kd.C_drewN ?_ _) | (with_reducible refine Kd.C_drew ?_))); (case side2 => exact HC0_2.out); (case side3 => repeat (first | exact (Kd.C_below HR1_2.out HB.out) | (with_reducible refine Kd.C_alloc ?_ _) | (with_reducible refine Kd.C_drewN ?_ _) | (with_reducible refine Kd.C_drew ?_))); (case side4 => exact HC1_2.out); (case side5 => exact lg_); rintro e w' ⟨rfl, ⟨nd, rfl⟩⟩))
    go_ret
    exact ⟨rq_, bg_⟩
  ·rw [if_neg c4] at H
   have c4b0 := beq_eq_false_iff_ne.mpr c4
   have c4b1 := bne_iff_ne.mpr c4
   obtain rfl := Option.some.inj H
   go_enter Tryz.func22, Tryz.ntmps22
   go_wp2_with (first | ((with_reducible refine gate_dst (N := 2) rfl ?_); refine bx_ 2 #[.int .i64 z0, .string z1, .slice A0_2 l0_2.length c0_2, .slice A0_3 l0_3.length c0_3] 41 ?_; intro gb170 hg w19 hbox hb; have BK170 := Aside0.mk (hbox); have GW170 := Aside0.mk (ge_ (w := w) hg); have GE170 := Aside0.mk (ge_ (w := w) hg); replace HB := Aside0.mk (below_step bq_ hb); clear hb hbox hg) | ((with_reducible refine gate_dst (N := 3) rfl ?_); refine bx_ 3 #[.int .i64 Z0, .string Z1, .slice A1_2 l1_2.length c1_2, .slice A1_3 l1_3.length c1_3] 41 ?_; intro gb171 hg w20 hbox hb; have n0_ := Aside0.mk (bb_ BK170 hb); have n1_ := Aside0.mk (below_step bg_ hb); have n2_ := Aside0.mk (hbox); have n3_ := Aside0.mk (gg_ (w := w) hg); have n4_ := Aside0.mk (gg_ (w := w) hg); have n5_ := Aside0.mk (nl_ BK170 hg); have n6_ := Aside0.mk (ng_ BK170 hg); clear BK170; clear HB; have BK170 := n0_; have HB := n1_; have BK171 := n2_; have GW171 := n3_; have GE171 := n4_; have NB170_171 := n5_; have NB171_170 := n6_; clear n0_ n1_ n2_ n3_ n4_ n5_ n6_; clear hb hbox hg; have hnb21 := NB170_171.out; have hnc21 := NB171_170.out; have hcz22_0 := cz_ BK170 0 (.int .i64 z0); have hcz22_1 := cz_ BK170 1 (.string z1); have hcz22_2 := cz_ BK170 2 (.slice A0_2 l0_2.length c0_2); have hcz22_3 := cz_ BK170 3 (.slice A0_3 l0_3.length c0_3); have hfz22_0 := bf_ BK170 0; have hfz22_1 := bf_ BK170 1; have hfz22_2 := bf_ BK170 2; have hfz22_3 := bf_ BK170 3; have hcz23_0 := cz_ BK171 0 (.int .i64 Z0); have hcz23_1 := cz_ BK171 1 (.string Z1); have hcz23_2 := cz_ BK171 2 (.slice A1_2 l1_2.length c1_2); have hcz23_3 := cz_ BK171 3 (.slice A1_3 l1_3.length c1_3); have hfz23_0 := bf_ BK171 0; have hfz23_1 := bf_ BK171 1; have hfz23_2 := bf_ BK171 2; have hfz23_3 := bf_ BK171 3))
   go_ret
   exact ⟨rq_, bg_⟩
 ·rw [if_neg c3] at H
  have c3b0 := beq_eq_false_iff_ne.mpr c3
  have c3b1 := bne_iff_ne.mpr c3
  obtain rfl := Option.some.inj H
  go_enter Tryz.func22, Tryz.ntmps22
  go_wp2_with (first | ((with_reducible refine gate_dst (N := 2) rfl ?_); refine bx_ 2 #[.int .i64 z0, .string z1, .slice A0_2 l0_2.length c0_2, .slice A0_3 l0_3.length c0_3] 41 ?_; intro gb170 hg w24 hbox hb; have BK170 := Aside0.mk (hbox); have GW170 := Aside0.mk (ge_ (w := w) hg); have GE170 := Aside0.mk (ge_ (w := w) hg); replace HB := Aside0.mk (below_step bq_ hb); clear hb hbox hg) | ((with_reducible refine gate_dst (N := 3) rfl ?_); refine bx_ 3 #[.int .i64 Z0, .string Z1, .slice A1_2 l1_2.length c1_2, .slice A1_3 l1_3.length c1_3] 41 ?_; intro gb171 hg w25 hbox hb; have n0_ := Aside0.mk (bb_ BK170 hb); have n1_ := Aside0.mk (below_step bg_ hb); have n2_ := Aside0.mk (hbox); have n3_ := Aside0.mk (gg_ (w := w) hg); have n4_ := Aside0.mk (gg_ (w := w) hg); have n5_ := Aside0.mk (nl_ BK170 hg); have n6_ := Aside0.mk (ng_ BK170 hg); clear BK170; clear HB; have BK170 := n0_; have HB := n1_; have BK171 := n2_; have GW171 := n3_; have GE171 := n4_; have NB170_171 := n5_; have NB171_170 := n6_; clear n0_ n1_ n2_ n3_ n4_ n5_ n6_; clear hb hbox hg; have hnb26 := NB170_171.out; have hnc26 := NB171_170.out; have hcz27_0 := cz_ BK170 0 (.int .i64 z0); have hcz27_1 := cz_ BK170 1 (.string z1); have hcz27_2 := cz_ BK170 2 (.slice A0_2 l0_2.length c0_2); have hcz27_3 := cz_ BK170 3 (.slice A0_3 l0_3.length c0_3); have hfz27_0 := bf_ BK170 0; have hfz27_1 := bf_ BK170 1; have hfz27_2 := bf_ BK170 2; have hfz27_3 := bf_ BK170 3; have hcz28_0 := cz_ BK171 0 (.int .i64 Z0); have hcz28_1 := cz_ BK171 1 (.string Z1); have hcz28_2 := cz_ BK171 2 (.slice A1_2 l1_2.length c1_2); have hcz28_3 := cz_ BK171 3 (.slice A1_3 l1_3.length c1_3); have hfz28_0 := bf_ BK171 0; have hfz28_1 := bf_ BK171 1; have hfz28_2 := bf_ BK171 2; have hfz28_3 := bf_ BK171 3))
  go_ret
  exact ⟨rq_, bg_⟩

end Go.Proofs.YtipleegkonhfcaaGreatDoor.KT
