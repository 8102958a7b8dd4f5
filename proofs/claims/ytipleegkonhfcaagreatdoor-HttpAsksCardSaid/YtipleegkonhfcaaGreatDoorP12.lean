-- Written by a program of this session (wip/gen/lprint.py over the kit's print.py) out of the translation. Lean checks it.
import Derived.Test.YtipleegkonhfcaaGreatDoorP2
import Derived.Test.YtipleegkonhfcaaGreatDoorP7
import Derived.Test.YtipleegkonhfcaaGreatDoorP9
import Derived.Test.YtipleegkonhfcaaGreatDoorP11
import Derived.Test.YtipleegkonhfcaaGreatDoorZ
import Derived.Test.YtipleegkonhfcaaGreatDoorKS
namespace Go.Proofs.YtipleegkonhfcaaGreatDoor.P
open Go.Proofs.YtipleegkonhfcaaGreatDoorZ
open Go.Proofs.YtipleegkonhfcaaGreatDoor.E Go.Proofs.YtipleegkonhfcaaGreatDoorV
open Go.Proofs.YtipleegkonhfcaaGreatDoor.U
open Go.Proofs.YtipleegkonhfcaaGreatDoor.KF
open Go.RowKit Go.Proofs.YtipleegkonhfcaaGreatDoorW.PrintWords Go.Proofs.YtipleegkonhfcaaGreatDoorW.PrintLast Go.Proofs.YtipleegkonhfcaaGreatDoorW.PrintMore
attribute [local go_sem] max2_int min2_int max_two min_two max_three min_three max_four min_four   -- for this text's walks alone
set_option linter.unusedVariables false
set_option linter.unusedSimpArgs false

mutual
def lanternref11_body.j0 : Nat → List Int → List ByteArray → Int → Bool → Option (List Int × Int × Int)
 | 0, _, _, _, _ => none
 | k + 1, x0, x10, x11, x46 => if x46 = true then (lanternref11_body.j1 k x0 x10 (x0.length : Int)) else (lanternref11_body.j1 k x0 x10 x11)
def lanternref11_body.j1 : Nat → List Int → List ByteArray → Int → Option (List Int × Int × Int)
 | 0, _, _, _ => none
 | k + 1, x0, x10, x11 => lanternref11_body.l0 k x0 x10 x11 0
def lanternref11_body.l0 : Nat → List Int → List ByteArray → Int → Int → Option (List Int × Int × Int)
 | 0, _, _, _, _ => none
 | k + 1, x0, x10, x11, x12 => if x12 < (x10.length : Int) then (if 0 ≤ x12 then (if 0 < (x10.length : Int) then (if (rdOf ByteArray.empty x10 x12).toList = (rdOf ByteArray.empty x10 0).toList then (if ((rdOf ByteArray.empty x10 x12).size : Int) < 1 then (some (([] : List Int), 0, 5)) else (if ((rdOf ByteArray.empty x10 x12).size : Int) > 8 then (some (([] : List Int), 0, 5)) else ((lanternref11_between.f k (rdOf ByteArray.empty x10 x12) 48 57).bind fun t321 => (if t321 = true then (lanternref11_body.l0 k x0 x10 x11 (wrap64 (x12 + 1))) else (some (([] : List Int), 0, 5)))))) else (some (([] : List Int), 0, 5))) else (none)) else (none)) else (if (x10.length : Int) > 0 then (lanternref11_body.l1 k x0 x10 x11 0) else (lanternref11_body.j4 k x0 x11))
def lanternref11_body.j4 : Nat → List Int → Int → Option (List Int × Int × Int)
 | 0, _, _ => none
 | k + 1, x0, x11 => if x11 > 32768 then (some (([] : List Int), 0, 3)) else (if x11 > (x0.length : Int) then (some (([] : List Int), 0, 10)) else (if 0 ≤ x11 then (if x11 ≤ (x0.length : Int) then (some ((x0.take (x11 : Int).toNat), x11, 0)) else (none)) else (none)))
def lanternref11_body.l1 : Nat → List Int → List ByteArray → Int → Int → Option (List Int × Int × Int)
 | 0, _, _, _, _ => none
 | k + 1, x0, x10, x11, x13 => if 0 < (x10.length : Int) then (if x13 < ((rdOf ByteArray.empty x10 0).size : Int) then (if 0 ≤ x13 then (lanternref11_body.l1 k x0 x10 (wrap64 ((wrap64 (x11 * 10)) + (((bt (rdOf ByteArray.empty x10 0) x13) - 48) % 256))) (wrap64 (x13 + 1))) else (none)) else (lanternref11_body.j4 k x0 x11)) else (none)
end
def lanternref11_body.f (k : Nat) (l0 : List Int) (l1 : List (S67)) (a2 : Bool) : Option (List Int × Int × Int) := (lanternref09_All.f k l1 (⟨#[116, 114, 97, 110, 115, 102, 101, 114, 45, 101, 110, 99, 111, 100, 105, 110, 103]⟩ : ByteArray)).bind fun t303 => ((lanternref09_All.f k l1 (⟨#[99, 111, 110, 116, 101, 110, 116, 45, 108, 101, 110, 103, 116, 104]⟩ : ByteArray)).bind fun t306 => (if (t303.length : Int) > 0 then (if (t303.length : Int) > 1 then (some (([] : List Int), 0, 5)) else (if 0 < (t303.length : Int) then ((lanternref01_Lower.f (rdOf ByteArray.empty t303 0)).bind fun t310 => (if t310.toList = ([99, 104, 117, 110, 107, 101, 100] : List UInt8) then (if (t306.length : Int) > 0 then (some (([] : List Int), 0, 5)) else ((lanternref10_Decode.f k l0).bind fun bt311 => (some (bt311.1, bt311.2.1, bt311.2.2)))) else (some (([] : List Int), 0, 5)))) else (none))) else (if (t306.length : Int) = 0 then (lanternref11_body.j0 k l0 t306 0 a2) else (lanternref11_body.j0 k l0 t306 0 false))))
theorem lanternref11_body.mono_l : ∀ k, (∀ y0 y1 y2 y3, LeO (lanternref11_body.j0 k y0 y1 y2 y3) (lanternref11_body.j0 (k + 1) y0 y1 y2 y3)) ∧ (∀ y0 y1 y2, LeO (lanternref11_body.j1 k y0 y1 y2) (lanternref11_body.j1 (k + 1) y0 y1 y2)) ∧ (∀ y0 y1 y2 y3, LeO (lanternref11_body.l0 k y0 y1 y2 y3) (lanternref11_body.l0 (k + 1) y0 y1 y2 y3)) ∧ (∀ y0 y1, LeO (lanternref11_body.j4 k y0 y1) (lanternref11_body.j4 (k + 1) y0 y1)) ∧ (∀ y0 y1 y2 y3, LeO (lanternref11_body.l1 k y0 y1 y2 y3) (lanternref11_body.l1 (k + 1) y0 y1 y2 y3))
 | 0 => ⟨fun _ _ _ _ r h => by simp [lanternref11_body.j0] at h, fun _ _ _ r h => by simp [lanternref11_body.j1] at h, fun _ _ _ _ r h => by simp [lanternref11_body.l0] at h, fun _ _ r h => by simp [lanternref11_body.j4] at h, fun _ _ _ _ r h => by simp [lanternref11_body.l1] at h⟩
 | k + 1 => by
  obtain ⟨ih0, ih1, ih2, ih3, ih4⟩ := lanternref11_body.mono_l k
  refine ⟨?_, ?_, ?_, ?_, ?_⟩
  ·intro y0 y1 y2 y3
   unfold lanternref11_body.j0
   repeat' first
   | (with_reducible exact ih0 _ _ _ _)
   | (with_reducible exact ih1 _ _ _)
   | (with_reducible exact ih2 _ _ _ _)
   | (with_reducible exact ih3 _ _)
   | (with_reducible exact ih4 _ _ _ _)
   | (with_reducible exact lanternref09_All.mono _ _ _)
   | (with_reducible exact lanternref10_Decode.mono _ _)
   | (with_reducible exact lanternref11_between.mono _ _ _ _)
   | (with_reducible exact LeO.refl _)
   | (with_reducible exact LeO.none _)
   | (with_reducible refine LeO.ite ?_ ?_)
   | (with_reducible refine LeO.bind ?_ (fun _ => ?_))
   | exact ih0 _ _ _ _
   | exact ih1 _ _ _
   | exact ih2 _ _ _ _
   | exact ih3 _ _
   | exact ih4 _ _ _ _
   | exact lanternref09_All.mono _ _ _
   | exact lanternref10_Decode.mono _ _
   | exact lanternref11_between.mono _ _ _ _
   | exact LeO.none _
   | refine LeO.ite ?_ ?_
   | refine LeO.bind ?_ (fun _ => ?_)
  ·intro y0 y1 y2
   unfold lanternref11_body.j1
   repeat' first
   | (with_reducible exact ih0 _ _ _ _)
   | (with_reducible exact ih1 _ _ _)
   | (with_reducible exact ih2 _ _ _ _)
   | (with_reducible exact ih3 _ _)
   | (with_reducible exact ih4 _ _ _ _)
   | (with_reducible exact lanternref09_All.mono _ _ _)
   | (with_reducible exact lanternref10_Decode.mono _ _)
   | (with_reducible exact lanternref11_between.mono _ _ _ _)
   | (with_reducible exact LeO.refl _)
   | (with_reducible exact LeO.none _)
   | (with_reducible refine LeO.ite ?_ ?_)
   | (with_reducible refine LeO.bind ?_ (fun _ => ?_))
   | exact ih0 _ _ _ _
   | exact ih1 _ _ _
   | exact ih2 _ _ _ _
   | exact ih3 _ _
   | exact ih4 _ _ _ _
   | exact lanternref09_All.mono _ _ _
   | exact lanternref10_Decode.mono _ _
   | exact lanternref11_between.mono _ _ _ _
   | exact LeO.none _
   | refine LeO.ite ?_ ?_
   | refine LeO.bind ?_ (fun _ => ?_)
  ·intro y0 y1 y2 y3
   unfold lanternref11_body.l0
   repeat' first
   | (with_reducible exact ih0 _ _ _ _)
   | (with_reducible exact ih1 _ _ _)
   | (with_reducible exact ih2 _ _ _ _)
   | (with_reducible exact ih3 _ _)
   | (with_reducible exact ih4 _ _ _ _)
   | (with_reducible exact lanternref09_All.mono _ _ _)
   | (with_reducible exact lanternref10_Decode.mono _ _)
   | (with_reducible exact lanternref11_between.mono _ _ _ _)
   | (with_reducible exact LeO.refl _)
   | (with_reducible exact LeO.none _)
   | (with_reducible refine LeO.ite ?_ ?_)
   | (with_reducible refine LeO.bind ?_ (fun _ => ?_))
   | exact ih0 _ _ _ _
   | exact ih1 _ _ _
   | exact ih2 _ _ _ _
   | exact ih3 _ _
   | exact ih4 _ _ _ _
   | exact lanternref09_All.mono _ _ _
   | exact lanternref10_Decode.mono _ _
   | exact lanternref11_between.mono _ _ _ _
   | exact LeO.none _
   | refine LeO.ite ?_ ?_
   | refine LeO.bind ?_ (fun _ => ?_)
  ·intro y0 y1
   unfold lanternref11_body.j4
   repeat' first
   | (with_reducible exact ih0 _ _ _ _)
   | (with_reducible exact ih1 _ _ _)
   | (with_reducible exact ih2 _ _ _ _)
   | (with_reducible exact ih3 _ _)
   | (with_reducible exact ih4 _ _ _ _)
   | (with_reducible exact lanternref09_All.mono _ _ _)
   | (with_reducible exact lanternref10_Decode.mono _ _)
   | (with_reducible exact lanternref11_between.mono _ _ _ _)
   | (with_reducible exact LeO.refl _)
   | (with_reducible exact LeO.none _)
   | (with_reducible refine LeO.ite ?_ ?_)
   | (with_reducible refine LeO.bind ?_ (fun _ => ?_))
   | exact ih0 _ _ _ _
   | exact ih1 _ _ _
   | exact ih2 _ _ _ _
   | exact ih3 _ _
   | exact ih4 _ _ _ _
   | exact lanternref09_All.mono _ _ _
   | exact lanternref10_Decode.mono _ _
   | exact lanternref11_between.mono _ _ _ _
   | exact LeO.none _
   | refine LeO.ite ?_ ?_
   | refine LeO.bind ?_ (fun _ => ?_)
  ·intro y0 y1 y2 y3
   unfold lanternref11_body.l1
   repeat' first
   | (with_reducible exact ih0 _ _ _ _)
   | (with_reducible exact ih1 _ _ _)
   | (with_reducible exact ih2 _ _ _ _)
   | (with_reducible exact ih3 _ _)
   | (with_reducible exact ih4 _ _ _ _)
   | (with_reducible exact lanternref09_All.mono _ _ _)
   | (with_reducible exact lanternref10_Decode.mono _ _)
   | (with_reducible exact lanternref11_between.mono _ _ _ _)
   | (with_reducible exact LeO.refl _)
   | (with_reducible exact LeO.none _)
   | (with_reducible refine LeO.ite ?_ ?_)
   | (with_reducible refine LeO.bind ?_ (fun _ => ?_))
   | exact ih0 _ _ _ _
   | exact ih1 _ _ _
   | exact ih2 _ _ _ _
   | exact ih3 _ _
   | exact ih4 _ _ _ _
   | exact lanternref09_All.mono _ _ _
   | exact lanternref10_Decode.mono _ _
   | exact lanternref11_between.mono _ _ _ _
   | exact LeO.none _
   | refine LeO.ite ?_ ?_
   | refine LeO.bind ?_ (fun _ => ?_)
theorem lanternref11_body.mono : ∀ a0 a1 a2 k, LeO (lanternref11_body.f k a0 a1 a2) (lanternref11_body.f (k + 1) a0 a1 a2) := by
 intro a0 a1 a2 k
 obtain ⟨ih0, ih1, ih2, ih3, ih4⟩ := lanternref11_body.mono_l k
 unfold lanternref11_body.f
 repeat' first
   | (with_reducible exact ih0 _ _ _ _)
   | (with_reducible exact ih1 _ _ _)
   | (with_reducible exact ih2 _ _ _ _)
   | (with_reducible exact ih3 _ _)
   | (with_reducible exact ih4 _ _ _ _)
   | (with_reducible exact lanternref09_All.mono _ _ _)
   | (with_reducible exact lanternref10_Decode.mono _ _)
   | (with_reducible exact lanternref11_between.mono _ _ _ _)
   | (with_reducible exact LeO.refl _)
   | (with_reducible exact LeO.none _)
   | (with_reducible refine LeO.ite ?_ ?_)
   | (with_reducible refine LeO.bind ?_ (fun _ => ?_))
   | exact ih0 _ _ _ _
   | exact ih1 _ _ _
   | exact ih2 _ _ _ _
   | exact ih3 _ _
   | exact ih4 _ _ _ _
   | exact lanternref09_All.mono _ _ _
   | exact lanternref10_Decode.mono _ _
   | exact lanternref11_between.mono _ _ _ _
   | exact LeO.none _
   | refine LeO.ite ?_ ?_
   | refine LeO.bind ?_ (fun _ => ?_)
def lanternref11_body.T13 : Bool × List (List Nat × List Nat) := (true, [([], []), ([], []), ([0, 1], [0, 1]), ([2], [2]), ([], []), ([4], [4]), ([5], [5]), ([3, 6], [3, 6]), ([7], [7]), ([8], [8]), ([8], [8]), ([9, 10, 8], [8, 9, 10]), ([11, 8], [8, 11]), ([12, 8], [8, 12]), ([13, 8], [8, 13]), ([8, 14], [8, 14]), ([15, 8], [15]), ([16], [16]), ([16], [16]), ([17, 18, 16], [16, 17, 18]), ([19, 16], [16, 19]), ([20, 16], [16, 20]), ([21, 16], [16, 21]), ([16, 22], [16, 22]), ([23, 16], [23]), ([24], [24]), ([24], [24]), ([25, 26, 24], [24, 25, 26]), ([27, 24], [24, 27]), ([28, 24, 24], [24, 28]), ([29, 24], [24, 29]), ([24, 30], [24, 30])])
def lanternref11_body.B13 : List Nat := [0, 0, 3, 7, 0, 16, 48, 127, 255, 511, 511, 2047, 4095, 8191, 16383, 32767, 65535, 131071, 131071, 524287, 1048575, 2097151, 4194303, 8388607, 16777215, 33554431, 33554431, 134217727, 268435455, 536870911, 1073741823, 2147483647]
theorem lanternref11_body.tab13 : rtab .any (opsOf Tryz.f34 13) = lanternref11_body.T13 := by kernel_rfl
theorem lanternref11_body.bits13 : waitsOk lanternref11_body.T13.2 lanternref11_body.B13 = true := by kernel_rfl
set_option maxHeartbeats 8000000 in
set_option maxRecDepth 100000 in
theorem lanternref11_body.callsG (k : Nat) (P0_ : Nat → Prop) (u9000_ : Value) (l0 : List Int) (A1 : Option Addr) (c1 : Nat) (l1 : List (S67)) (a2 : Bool) (r1 : List Int) (r2 : Int) (r3 : Int) (w0 w : World) (hLW : LW w0) (hB : Below w0.heap.size w0 w) (ho0 : Cs w u9000_ l0) (hr1 : ∀ W_, Kept w W_ (fun k_ => P0_ k_) → Kd.C k67 W_ A1 l1.length l1) (hc1 : l1.length ≤ c1) (h : lanternref11_body.f k l0 l1 a2 = some (r1, r2, r3)) :
  Calls Tryz.prog 34 #[u9000_, .slice A1 l1.length c1, .bool a2] w fun e w' => ∃ v0_ : Value, e = .returned (.tuple #[v0_, .int .i64 r2, .int .i64 r3]) ∧ Cs w' v0_ r1 ∧ Below w0.heap.size w0 w' ∧ Kept w w' (fun k_ => P0_ k_) := by
 have HLW := Aside0.mk hLW
 clear hLW
 have HO0 := Aside0.mk ho0
 have HR1 := Aside0.mk hr1
 have HC1 := Aside0.mk hc1
 clear hr1 hc1
 have HK := Aside0.mk (Kept.refl w (fun k_ => P0_ k_))
 have HW0 := Aside0.mk hB.size
 have HB := Aside0.mk hB
 clear hB
 have H : ((lanternref09_All.f k l1 (⟨#[116, 114, 97, 110, 115, 102, 101, 114, 45, 101, 110, 99, 111, 100, 105, 110, 103]⟩ : ByteArray)).bind fun t303 => ((lanternref09_All.f k l1 (⟨#[99, 111, 110, 116, 101, 110, 116, 45, 108, 101, 110, 103, 116, 104]⟩ : ByteArray)).bind fun t306 => (if (t303.length : Int) > 0 then (if (t303.length : Int) > 1 then (some (([] : List Int), 0, 5)) else (if 0 < (t303.length : Int) then ((lanternref01_Lower.f (rdOf ByteArray.empty t303 0)).bind fun t310 => (if t310.toList = ([99, 104, 117, 110, 107, 101, 100] : List UInt8) then (if (t306.length : Int) > 0 then (some (([] : List Int), 0, 5)) else ((lanternref10_Decode.f k l0).bind fun bt311 => (some (bt311.1, bt311.2.1, bt311.2.2)))) else (some (([] : List Int), 0, 5)))) else (none))) else (if (t306.length : Int) = 0 then (lanternref11_body.j0 k l0 t306 0 a2) else (lanternref11_body.j0 k l0 t306 0 false))))) = some (r1, r2, r3) := h
 clear h
 replace H := Option.bind_eq_some_iff.mp H
 obtain ⟨t303, A40, H⟩ := H
 (try dsimp only at H)
 have A4 := Aside0.mk A40
 clear A40
 replace H := Option.bind_eq_some_iff.mp H
 obtain ⟨t306, A50, H⟩ := H
 (try dsimp only at H)
 have A5 := Aside0.mk A50
 clear A50
 by_cases c6 : (t303.length : Int) > 0
 ·rw [if_pos c6] at H
  have c6b0 : decide (0 < (t303.length : Int)) = true := decide_eq_true c6
  have c6b1 : decide (0 < t303.length) = true := decide_eq_true (by omega)
  clear c6
  by_cases c7 : (t303.length : Int) > 1
  ·rw [if_pos c7] at H
   have c7b0 : decide (1 < (t303.length : Int)) = true := decide_eq_true c7
   have c7b1 : decide (1 < t303.length) = true := decide_eq_true (by omega)
   clear c7
   simp only [Option.some.injEq, Prod.mk.injEq] at H
   obtain ⟨rfl, rfl, rfl⟩ := H
   go_enter Tryz.func34, Tryz.ntmps34
   go_wp2_with (first | ((with_reducible refine gate_callee (f := 59) rfl ?_); refine goesL_ (some 15) rfl rfl Tryz.func59 (by kernel_rfl) rfl #[.slice A1 l1.length c1, .string (⟨#[116, 114, 97, 110, 115, 102, 101, 114, 45, 101, 110, 99, 111, 100, 105, 110, 103]⟩ : ByteArray)] rfl lq_ ?_; (with_reducible refine (lanternref09_All.calls k _ _ l1 (⟨#[116, 114, 97, 110, 115, 102, 101, 114, 45, 101, 110, 99, 111, 100, 105, 110, 103]⟩ : ByteArray) t303 _ ?side3 ?side1 ?side2 A4.out).mono ?_); (case side1 => exact Kd.C_kept_now HR1.out (by repeat (first | (with_reducible first | exact HK.out | apply Kept.alloc | apply Kept.drewN | apply Kept.drew) | exact HK.out))); (case side2 => exact HC1.out); (case side3 => exact lw_); rintro e w8 ⟨v304, rfl, ho0, hb⟩; refine ⟨_, rfl, ?_⟩; replace HO0 := Aside0.mk (Cs.below (by (with_reducible repeat (first | apply Cs.drewN | apply Cs.drew)); exact HO0.out) hb); have HO305 := Aside0.mk (Kd.R_lower (Kd.R_newM (M := fun k_ => (P0_ k_ ∨ w.heap.size ≤ k_)) ho0 (by first | exact HK.out.1 | exact (show Kept w _ (fun k_ => P0_ k_) from by repeat (first | (with_reducible first | exact HK.out | apply Kept.alloc | apply Kept.drewN | apply Kept.drew) | exact HK.out)).1) (fun k_ h_ => .inr h_)) (below_size bq_)); replace HK := Aside0.mk (Kept.below (S := (fun k_ => P0_ k_)) (by repeat (first | (with_reducible first | exact HK.out | apply Kept.alloc | apply Kept.drewN | apply Kept.drew) | exact HK.out)) hb); replace HB := Aside0.mk (below_step bq_ hb); (try clear hb); (try clear hb2); (try clear hk); (try clear hi); (try clear ho0)) | ((with_reducible refine gate_callee (f := 59) rfl ?_); refine goesL_ (some 17) rfl rfl Tryz.func59 (by kernel_rfl) rfl #[.slice A1 l1.length c1, .string (⟨#[99, 111, 110, 116, 101, 110, 116, 45, 108, 101, 110, 103, 116, 104]⟩ : ByteArray)] rfl lq_ ?_; (with_reducible refine (lanternref09_All.calls k _ _ l1 (⟨#[99, 111, 110, 116, 101, 110, 116, 45, 108, 101, 110, 103, 116, 104]⟩ : ByteArray) t306 _ ?side3 ?side1 ?side2 A5.out).mono ?_); (case side1 => exact Kd.C_kept_now HR1.out (by repeat (first | (with_reducible first | exact HK.out | apply Kept.alloc | apply Kept.drewN | apply Kept.drew) | exact HK.out))); (case side2 => exact HC1.out); (case side3 => exact lw_); rintro e w9 ⟨v307, rfl, ho0, hb⟩; refine ⟨_, rfl, ?_⟩; have n0_ := Aside0.mk (Cs.below (by (with_reducible repeat (first | apply Cs.drewN | apply Cs.drew)); exact HO0.out) hb); have n1_ := Aside0.mk (Kd.R_elder' (by (with_reducible repeat (first | apply Kd.R_alloc | apply Kd.R_drewN | apply Kd.R_drew)); exact HO305.out) (Kd.R_base ho0) hb); have n2_ := Aside0.mk (Kd.R_lower (Kd.R_new' (Kd.R_newM (M := fun k_ => (P0_ k_ ∨ w.heap.size ≤ k_)) ho0 (by first | exact HK.out.1 | exact (show Kept w _ (fun k_ => P0_ k_) from by repeat (first | (with_reducible first | exact HK.out | apply Kept.alloc | apply Kept.drewN | apply Kept.drew) | exact HK.out)).1) (fun k_ h_ => .inr h_)) (Kd.R_lt (by (with_reducible repeat (first | apply Kd.R_alloc | apply Kd.R_drewN | apply Kd.R_drew)); exact HO305.out))) (below_size bq_)); have n3_ := Aside0.mk (Kept.below (S := (fun k_ => P0_ k_)) (by repeat (first | (with_reducible first | exact HK.out | apply Kept.alloc | apply Kept.drewN | apply Kept.drew) | exact HK.out)) hb); have n4_ := Aside0.mk (below_step bq_ hb); clear HO0; clear HO305; clear HK; clear HB; have HO0 := n0_; have HO305 := n1_; have HO308 := n2_; have HK := n3_; have HB := n4_; clear n0_ n1_ n2_ n3_ n4_; (try clear hb); (try clear hb2); (try clear hk); (try clear hi); (try clear ho0); obtain ⟨Ao10, co10, eo10⟩ := Kd.R_slice HO305.out; subst eo10))
   go_ret3
   exact ⟨_, rq_, by first | exact Cs.nil _ | exact Kd.R_nil _ _ _ _ _ | exact Kd.N_nil _ _ _ _ _ | exact Kd.V_nil _ _ _ _ _ | exact Kd.Q_nil _ _ _ _ _ | exact Kd.S_nil _ _ _ _ _, bq_, by repeat (first | (with_reducible first | exact HK.out | apply Kept.alloc | apply Kept.drewN | apply Kept.drew) | exact HK.out)⟩
  ·rw [if_neg c7] at H
   have c7b0 : decide (1 < (t303.length : Int)) = false := decide_eq_false c7
   have c7b1 : decide (1 < t303.length) = false := decide_eq_false (by omega)
   clear c7
   by_cases c11 : 0 < (t303.length : Int)
   ·rw [if_pos c11] at H
    have c11b0 : decide (0 < (t303.length : Int)) = true := decide_eq_true c11
    have c11b1 : decide (0 < t303.length) = true := decide_eq_true (by omega)
    clear c11
    replace H := Option.bind_eq_some_iff.mp H
    obtain ⟨t310, A120, H⟩ := H
    (try dsimp only at H)
    have A12 := Aside0.mk A120
    clear A120
    by_cases c13 : t310.toList = ([99, 104, 117, 110, 107, 101, 100] : List UInt8)
    ·rw [if_pos c13] at H
     have c13b0 : (t310.toList == ([99, 104, 117, 110, 107, 101, 100] : List UInt8)) = true := beq_iff_eq.mpr c13
     have c13b1 : (t310.toList != ([99, 104, 117, 110, 107, 101, 100] : List UInt8)) = false := bne_eq_false_iff_eq.mpr c13
     clear c13
     by_cases c14 : (t306.length : Int) > 0
     ·rw [if_pos c14] at H
      have c14b0 : decide (0 < (t306.length : Int)) = true := decide_eq_true c14
      have c14b1 : decide (0 < t306.length) = true := decide_eq_true (by omega)
      clear c14
      simp only [Option.some.injEq, Prod.mk.injEq] at H
      obtain ⟨rfl, rfl, rfl⟩ := H
      go_enter Tryz.func34, Tryz.ntmps34
      go_wp2_with (first | ((with_reducible refine gate_callee (f := 59) rfl ?_); refine goesL_ (some 15) rfl rfl Tryz.func59 (by kernel_rfl) rfl #[.slice A1 l1.length c1, .string (⟨#[116, 114, 97, 110, 115, 102, 101, 114, 45, 101, 110, 99, 111, 100, 105, 110, 103]⟩ : ByteArray)] rfl lq_ ?_; (with_reducible refine (lanternref09_All.calls k _ _ l1 (⟨#[116, 114, 97, 110, 115, 102, 101, 114, 45, 101, 110, 99, 111, 100, 105, 110, 103]⟩ : ByteArray) t303 _ ?side3 ?side1 ?side2 A4.out).mono ?_); (case side1 => exact Kd.C_kept_now HR1.out (by repeat (first | (with_reducible first | exact HK.out | apply Kept.alloc | apply Kept.drewN | apply Kept.drew) | exact HK.out))); (case side2 => exact HC1.out); (case side3 => exact lw_); rintro e w15 ⟨v304, rfl, ho0, hb⟩; refine ⟨_, rfl, ?_⟩; replace HO0 := Aside0.mk (Cs.below (by (with_reducible repeat (first | apply Cs.drewN | apply Cs.drew)); exact HO0.out) hb); have HO305 := Aside0.mk (Kd.R_lower (Kd.R_newM (M := fun k_ => (P0_ k_ ∨ w.heap.size ≤ k_)) ho0 (by first | exact HK.out.1 | exact (show Kept w _ (fun k_ => P0_ k_) from by repeat (first | (with_reducible first | exact HK.out | apply Kept.alloc | apply Kept.drewN | apply Kept.drew) | exact HK.out)).1) (fun k_ h_ => .inr h_)) (below_size bq_)); replace HK := Aside0.mk (Kept.below (S := (fun k_ => P0_ k_)) (by repeat (first | (with_reducible first | exact HK.out | apply Kept.alloc | apply Kept.drewN | apply Kept.drew) | exact HK.out)) hb); replace HB := Aside0.mk (below_step bq_ hb); (try clear hb); (try clear hb2); (try clear hk); (try clear hi); (try clear ho0)) | ((with_reducible refine gate_callee (f := 59) rfl ?_); refine goesL_ (some 17) rfl rfl Tryz.func59 (by kernel_rfl) rfl #[.slice A1 l1.length c1, .string (⟨#[99, 111, 110, 116, 101, 110, 116, 45, 108, 101, 110, 103, 116, 104]⟩ : ByteArray)] rfl lq_ ?_; (with_reducible refine (lanternref09_All.calls k _ _ l1 (⟨#[99, 111, 110, 116, 101, 110, 116, 45, 108, 101, 110, 103, 116, 104]⟩ : ByteArray) t306 _ ?side3 ?side1 ?side2 A5.out).mono ?_); (case side1 => exact Kd.C_kept_now HR1.out (by repeat (first | (with_reducible first | exact HK.out | apply Kept.alloc | apply Kept.drewN | apply Kept.drew) | exact HK.out))); (case side2 => exact HC1.out); (case side3 => exact lw_); rintro e w16 ⟨v307, rfl, ho0, hb⟩; refine ⟨_, rfl, ?_⟩; have n0_ := Aside0.mk (Cs.below (by (with_reducible repeat (first | apply Cs.drewN | apply Cs.drew)); exact HO0.out) hb); have n1_ := Aside0.mk (Kd.R_elder' (by (with_reducible repeat (first | apply Kd.R_alloc | apply Kd.R_drewN | apply Kd.R_drew)); exact HO305.out) (Kd.R_base ho0) hb); have n2_ := Aside0.mk (Kd.R_lower (Kd.R_new' (Kd.R_newM (M := fun k_ => (P0_ k_ ∨ w.heap.size ≤ k_)) ho0 (by first | exact HK.out.1 | exact (show Kept w _ (fun k_ => P0_ k_) from by repeat (first | (with_reducible first | exact HK.out | apply Kept.alloc | apply Kept.drewN | apply Kept.drew) | exact HK.out)).1) (fun k_ h_ => .inr h_)) (Kd.R_lt (by (with_reducible repeat (first | apply Kd.R_alloc | apply Kd.R_drewN | apply Kd.R_drew)); exact HO305.out))) (below_size bq_)); have n3_ := Aside0.mk (Kept.below (S := (fun k_ => P0_ k_)) (by repeat (first | (with_reducible first | exact HK.out | apply Kept.alloc | apply Kept.drewN | apply Kept.drew) | exact HK.out)) hb); have n4_ := Aside0.mk (below_step bq_ hb); clear HO0; clear HO305; clear HK; clear HB; have HO0 := n0_; have HO305 := n1_; have HO308 := n2_; have HK := n3_; have HB := n4_; clear n0_ n1_ n2_ n3_ n4_; (try clear hb); (try clear hb2); (try clear hk); (try clear hi); (try clear ho0); obtain ⟨Ao17, co17, eo17⟩ := Kd.R_slice HO305.out; subst eo17; have p309 : 0 ≤ (0 : Int) := (by omega); have q309 : 0 < (t303.length : Int) := of_decide_eq_true as_; obtain ⟨ad309, e309, hx309_0⟩ := Kd.at_string (Kd.R_reads' HO305.out).2.2 0 p309 q309; cases e309; have qi309 : (0 < t303.length) = True := eq_true (by omega); (try rw [show ((0 : Int)).toNat = 0 from rfl] at hx309_0); (try rw [Addr.add_zero'] at hx309_0); replace p309 := eq_true p309; replace q309 := eq_true q309) | (go_at_call 60; (with_reducible refine (lanternref01_Lower.calls (rdOf ByteArray.empty t303 0) t310 _ ?side1 A12.out).mono ?_); (case side1 => exact lw_); rintro e w18 ⟨rfl, hb⟩; replace HO0 := Aside0.mk (Cs.below (by (with_reducible repeat (first | apply Cs.drewN | apply Cs.drew)); exact HO0.out) hb); replace HO305 := Aside0.mk (Kd.R_below (by (with_reducible repeat (first | apply Kd.R_alloc | apply Kd.R_drewN | apply Kd.R_drew)); exact HO305.out) hb); replace HO308 := Aside0.mk (Kd.R_below (by (with_reducible repeat (first | apply Kd.R_alloc | apply Kd.R_drewN | apply Kd.R_drew)); exact HO308.out) hb); replace HK := Aside0.mk (Kept.below (S := (fun k_ => P0_ k_)) (by repeat (first | (with_reducible first | exact HK.out | apply Kept.alloc | apply Kept.drewN | apply Kept.drew) | exact HK.out)) hb); replace HB := Aside0.mk (below_step bq_ hb); (try clear hb); (try clear hb2); (try clear hk); (try clear hi); obtain ⟨Ao19, co19, eo19⟩ := Kd.R_slice HO308.out; subst eo19))
      go_ret3
      exact ⟨_, rq_, by first | exact Cs.nil _ | exact Kd.R_nil _ _ _ _ _ | exact Kd.N_nil _ _ _ _ _ | exact Kd.V_nil _ _ _ _ _ | exact Kd.Q_nil _ _ _ _ _ | exact Kd.S_nil _ _ _ _ _, bq_, by repeat (first | (with_reducible first | exact HK.out | apply Kept.alloc | apply Kept.drewN | apply Kept.drew) | exact HK.out)⟩
     ·rw [if_neg c14] at H
      have c14b0 : decide (0 < (t306.length : Int)) = false := decide_eq_false c14
      have c14b1 : decide (0 < t306.length) = false := decide_eq_false (by omega)
      clear c14
      replace H := Option.bind_eq_some_iff.mp H
      obtain ⟨⟨t311, t312, t313⟩, A200, H⟩ := H
      (try dsimp only at H)
      have A20 := Aside0.mk A200
      clear A200
      simp only [Option.some.injEq, Prod.mk.injEq] at H
      obtain ⟨rfl, rfl, rfl⟩ := H
      go_enter Tryz.func34, Tryz.ntmps34
      go_wp2_with (first | ((with_reducible refine gate_callee (f := 59) rfl ?_); refine goesL_ (some 15) rfl rfl Tryz.func59 (by kernel_rfl) rfl #[.slice A1 l1.length c1, .string (⟨#[116, 114, 97, 110, 115, 102, 101, 114, 45, 101, 110, 99, 111, 100, 105, 110, 103]⟩ : ByteArray)] rfl lq_ ?_; (with_reducible refine (lanternref09_All.calls k _ _ l1 (⟨#[116, 114, 97, 110, 115, 102, 101, 114, 45, 101, 110, 99, 111, 100, 105, 110, 103]⟩ : ByteArray) t303 _ ?side3 ?side1 ?side2 A4.out).mono ?_); (case side1 => exact Kd.C_kept_now HR1.out (by repeat (first | (with_reducible first | exact HK.out | apply Kept.alloc | apply Kept.drewN | apply Kept.drew) | exact HK.out))); (case side2 => exact HC1.out); (case side3 => exact lw_); rintro e w21 ⟨v304, rfl, ho0, hb⟩; refine ⟨_, rfl, ?_⟩; replace HO0 := Aside0.mk (Cs.below (by (with_reducible repeat (first | apply Cs.drewN | apply Cs.drew)); exact HO0.out) hb); have HO305 := Aside0.mk (Kd.R_lower (Kd.R_newM (M := fun k_ => (P0_ k_ ∨ w.heap.size ≤ k_)) ho0 (by first | exact HK.out.1 | exact (show Kept w _ (fun k_ => P0_ k_) from by repeat (first | (with_reducible first | exact HK.out | apply Kept.alloc | apply Kept.drewN | apply Kept.drew) | exact HK.out)).1) (fun k_ h_ => .inr h_)) (below_size bq_)); replace HK := Aside0.mk (Kept.below (S := (fun k_ => P0_ k_)) (by repeat (first | (with_reducible first | exact HK.out | apply Kept.alloc | apply Kept.drewN | apply Kept.drew) | exact HK.out)) hb); replace HB := Aside0.mk (below_step bq_ hb); (try clear hb); (try clear hb2); (try clear hk); (try clear hi); (try clear ho0)) | ((with_reducible refine gate_callee (f := 59) rfl ?_); refine goesL_ (some 17) rfl rfl Tryz.func59 (by kernel_rfl) rfl #[.slice A1 l1.length c1, .string (⟨#[99, 111, 110, 116, 101, 110, 116, 45, 108, 101, 110, 103, 116, 104]⟩ : ByteArray)] rfl lq_ ?_; (with_reducible refine (lanternref09_All.calls k _ _ l1 (⟨#[99, 111, 110, 116, 101, 110, 116, 45, 108, 101, 110, 103, 116, 104]⟩ : ByteArray) t306 _ ?side3 ?side1 ?side2 A5.out).mono ?_); (case side1 => exact Kd.C_kept_now HR1.out (by repeat (first | (with_reducible first | exact HK.out | apply Kept.alloc | apply Kept.drewN | apply Kept.drew) | exact HK.out))); (case side2 => exact HC1.out); (case side3 => exact lw_); rintro e w22 ⟨v307, rfl, ho0, hb⟩; refine ⟨_, rfl, ?_⟩; have n0_ := Aside0.mk (Cs.below (by (with_reducible repeat (first | apply Cs.drewN | apply Cs.drew)); exact HO0.out) hb); have n1_ := Aside0.mk (Kd.R_elder' (by (with_reducible repeat (first | apply Kd.R_alloc | apply Kd.R_drewN | apply Kd.R_drew)); exact HO305.out) (Kd.R_base ho0) hb); have n2_ := Aside0.mk (Kd.R_lower (Kd.R_new' (Kd.R_newM (M := fun k_ => (P0_ k_ ∨ w.heap.size ≤ k_)) ho0 (by first | exact HK.out.1 | exact (show Kept w _ (fun k_ => P0_ k_) from by repeat (first | (with_reducible first | exact HK.out | apply Kept.alloc | apply Kept.drewN | apply Kept.drew) | exact HK.out)).1) (fun k_ h_ => .inr h_)) (Kd.R_lt (by (with_reducible repeat (first | apply Kd.R_alloc | apply Kd.R_drewN | apply Kd.R_drew)); exact HO305.out))) (below_size bq_)); have n3_ := Aside0.mk (Kept.below (S := (fun k_ => P0_ k_)) (by repeat (first | (with_reducible first | exact HK.out | apply Kept.alloc | apply Kept.drewN | apply Kept.drew) | exact HK.out)) hb); have n4_ := Aside0.mk (below_step bq_ hb); clear HO0; clear HO305; clear HK; clear HB; have HO0 := n0_; have HO305 := n1_; have HO308 := n2_; have HK := n3_; have HB := n4_; clear n0_ n1_ n2_ n3_ n4_; (try clear hb); (try clear hb2); (try clear hk); (try clear hi); (try clear ho0); obtain ⟨Ao23, co23, eo23⟩ := Kd.R_slice HO305.out; subst eo23; have p309 : 0 ≤ (0 : Int) := (by omega); have q309 : 0 < (t303.length : Int) := of_decide_eq_true as_; obtain ⟨ad309, e309, hx309_0⟩ := Kd.at_string (Kd.R_reads' HO305.out).2.2 0 p309 q309; cases e309; have qi309 : (0 < t303.length) = True := eq_true (by omega); (try rw [show ((0 : Int)).toNat = 0 from rfl] at hx309_0); (try rw [Addr.add_zero'] at hx309_0); replace p309 := eq_true p309; replace q309 := eq_true q309) | (go_at_call 60; (with_reducible refine (lanternref01_Lower.calls (rdOf ByteArray.empty t303 0) t310 _ ?side1 A12.out).mono ?_); (case side1 => exact lw_); rintro e w24 ⟨rfl, hb⟩; replace HO0 := Aside0.mk (Cs.below (by (with_reducible repeat (first | apply Cs.drewN | apply Cs.drew)); exact HO0.out) hb); replace HO305 := Aside0.mk (Kd.R_below (by (with_reducible repeat (first | apply Kd.R_alloc | apply Kd.R_drewN | apply Kd.R_drew)); exact HO305.out) hb); replace HO308 := Aside0.mk (Kd.R_below (by (with_reducible repeat (first | apply Kd.R_alloc | apply Kd.R_drewN | apply Kd.R_drew)); exact HO308.out) hb); replace HK := Aside0.mk (Kept.below (S := (fun k_ => P0_ k_)) (by repeat (first | (with_reducible first | exact HK.out | apply Kept.alloc | apply Kept.drewN | apply Kept.drew) | exact HK.out)) hb); replace HB := Aside0.mk (below_step bq_ hb); (try clear hb); (try clear hb2); (try clear hk); (try clear hi); obtain ⟨Ao25, co25, eo25⟩ := Kd.R_slice HO308.out; subst eo25; obtain ⟨Ao26, co26, eo26⟩ := Cs.slice HO0.out; subst eo26) | ((with_reducible refine gate_callee (f := 61) rfl ?_); refine goesL_ (some 37) rfl rfl Tryz.func61 (by kernel_rfl) rfl #[.slice Ao26 l0.length co26] rfl lq_ ?_; (with_reducible refine (lanternref10_Decode.calls k _ _ l0 t311 t312 t313 _ ?side3 ?side1 ?side2 A20.out).mono ?_); (case side1 => repeat (first | exact (Cs.reads HO0.out).1 | (with_reducible refine Kd.C_alloc ?_ _) | (with_reducible refine Kd.C_drewN ?_ _) | (with_reducible refine Kd.C_drew ?_))); (case side2 => exact (Cs.reads HO0.out).2); (case side3 => exact lw_); rintro e w27 ⟨v314, rfl, ho0, hb⟩; refine ⟨_, rfl, ?_⟩; have n0_ := Aside0.mk (Cs.below (by (with_reducible repeat (first | apply Cs.drewN | apply Cs.drew)); exact HO0.out) hb); have n1_ := Aside0.mk (Kd.R_below (by (with_reducible repeat (first | apply Kd.R_alloc | apply Kd.R_drewN | apply Kd.R_drew)); exact HO305.out) hb); have n2_ := Aside0.mk (Kd.R_below (by (with_reducible repeat (first | apply Kd.R_alloc | apply Kd.R_drewN | apply Kd.R_drew)); exact HO308.out) hb); have n3_ := Aside0.mk (Cs.of_R ho0); have n4_ := Aside0.mk (Kept.below (S := (fun k_ => P0_ k_)) (by repeat (first | (with_reducible first | exact HK.out | apply Kept.alloc | apply Kept.drewN | apply Kept.drew) | exact HK.out)) hb); have n5_ := Aside0.mk (below_step bq_ hb); clear HO0; clear HO305; clear HO308; clear HK; clear HB; have HO0 := n0_; have HO305 := n1_; have HO308 := n2_; have HO315 := n3_; have HK := n4_; have HB := n5_; clear n0_ n1_ n2_ n3_ n4_ n5_; (try clear hb); (try clear hb2); (try clear hk); (try clear hi); (try clear ho0)))
      go_ret3
      exact ⟨_, rq_, by (with_reducible repeat (first | apply Cs.drewN | apply Cs.drew)); exact HO315.out, bq_, by repeat (first | (with_reducible first | exact HK.out | apply Kept.alloc | apply Kept.drewN | apply Kept.drew) | exact HK.out)⟩
    ·rw [if_neg c13] at H
     have c13b0 : (t310.toList == ([99, 104, 117, 110, 107, 101, 100] : List UInt8)) = false := beq_eq_false_iff_ne.mpr c13
     have c13b1 : (t310.toList != ([99, 104, 117, 110, 107, 101, 100] : List UInt8)) = true := bne_iff_ne.mpr c13
     simp only [Option.some.injEq, Prod.mk.injEq] at H
     obtain ⟨rfl, rfl, rfl⟩ := H
     go_enter Tryz.func34, Tryz.ntmps34
     go_wp2_with (first | ((with_reducible refine gate_callee (f := 59) rfl ?_); refine goesL_ (some 15) rfl rfl Tryz.func59 (by kernel_rfl) rfl #[.slice A1 l1.length c1, .string (⟨#[116, 114, 97, 110, 115, 102, 101, 114, 45, 101, 110, 99, 111, 100, 105, 110, 103]⟩ : ByteArray)] rfl lq_ ?_; (with_reducible refine (lanternref09_All.calls k _ _ l1 (⟨#[116, 114, 97, 110, 115, 102, 101, 114, 45, 101, 110, 99, 111, 100, 105, 110, 103]⟩ : ByteArray) t303 _ ?side3 ?side1 ?side2 A4.out).mono ?_); (case side1 => exact Kd.C_kept_now HR1.out (by repeat (first | (with_reducible first | exact HK.out | apply Kept.alloc | apply Kept.drewN | apply Kept.drew) | exact HK.out))); (case side2 => exact HC1.out); (case side3 => exact lw_); rintro e w28 ⟨v304, rfl, ho0, hb⟩; refine ⟨_, rfl, ?_⟩; replace HO0 := Aside0.mk (Cs.below (by (with_reducible repeat (first | apply Cs.drewN | apply Cs.drew)); exact HO0.out) hb); have HO305 := Aside0.mk (Kd.R_lower (Kd.R_newM (M := fun k_ => (P0_ k_ ∨ w.heap.size ≤ k_)) ho0 (by first | exact HK.out.1 | exact (show Kept w _ (fun k_ => P0_ k_) from by repeat (first | (with_reducible first | exact HK.out | apply Kept.alloc | apply Kept.drewN | apply Kept.drew) | exact HK.out)).1) (fun k_ h_ => .inr h_)) (below_size bq_)); replace HK := Aside0.mk (Kept.below (S := (fun k_ => P0_ k_)) (by repeat (first | (with_reducible first | exact HK.out | apply Kept.alloc | apply Kept.drewN | apply Kept.drew) | exact HK.out)) hb); replace HB := Aside0.mk (below_step bq_ hb); (try clear hb); (try clear hb2); (try clear hk); (try clear hi); (try clear ho0)) | ((with_reducible refine gate_callee (f := 59) rfl ?_); refine goesL_ (some 17) rfl rfl Tryz.func59 (by kernel_rfl) rfl #[.slice A1 l1.length c1, .string (⟨#[99, 111, 110, 116, 101, 110, 116, 45, 108, 101, 110, 103, 116, 104]⟩ : ByteArray)] rfl lq_ ?_; (with_reducible refine (lanternref09_All.calls k _ _ l1 (⟨#[99, 111, 110, 116, 101, 110, 116, 45, 108, 101, 110, 103, 116, 104]⟩ : ByteArray) t306 _ ?side3 ?side1 ?side2 A5.out).mono ?_); (case side1 => exact Kd.C_kept_now HR1.out (by repeat (first | (with_reducible first | exact HK.out | apply Kept.alloc | apply Kept.drewN | apply Kept.drew) | exact HK.out))); (case side2 => exact HC1.out); (case side3 => exact lw_); rintro e w29 ⟨v307, rfl, ho0, hb⟩; refine ⟨_, rfl, ?_⟩; have n0_ := Aside0.mk (Cs.below (by (with_reducible repeat (first | apply Cs.drewN | apply Cs.drew)); exact HO0.out) hb); have n1_ := Aside0.mk (Kd.R_elder' (by (with_reducible repeat (first | apply Kd.R_alloc | apply Kd.R_drewN | apply Kd.R_drew)); exact HO305.out) (Kd.R_base ho0) hb); have n2_ := Aside0.mk (Kd.R_lower (Kd.R_new' (Kd.R_newM (M := fun k_ => (P0_ k_ ∨ w.heap.size ≤ k_)) ho0 (by first | exact HK.out.1 | exact (show Kept w _ (fun k_ => P0_ k_) from by repeat (first | (with_reducible first | exact HK.out | apply Kept.alloc | apply Kept.drewN | apply Kept.drew) | exact HK.out)).1) (fun k_ h_ => .inr h_)) (Kd.R_lt (by (with_reducible repeat (first | apply Kd.R_alloc | apply Kd.R_drewN | apply Kd.R_drew)); exact HO305.out))) (below_size bq_)); have n3_ := Aside0.mk (Kept.below (S := (fun k_ => P0_ k_)) (by repeat (first | (with_reducible first | exact HK.out | apply Kept.alloc | apply Kept.drewN | apply Kept.drew) | exact HK.out)) hb); have n4_ := Aside0.mk (below_step bq_ hb); clear HO0; clear HO305; clear HK; clear HB; have HO0 := n0_; have HO305 := n1_; have HO308 := n2_; have HK := n3_; have HB := n4_; clear n0_ n1_ n2_ n3_ n4_; (try clear hb); (try clear hb2); (try clear hk); (try clear hi); (try clear ho0); obtain ⟨Ao30, co30, eo30⟩ := Kd.R_slice HO305.out; subst eo30; have p309 : 0 ≤ (0 : Int) := (by omega); have q309 : 0 < (t303.length : Int) := of_decide_eq_true as_; obtain ⟨ad309, e309, hx309_0⟩ := Kd.at_string (Kd.R_reads' HO305.out).2.2 0 p309 q309; cases e309; have qi309 : (0 < t303.length) = True := eq_true (by omega); (try rw [show ((0 : Int)).toNat = 0 from rfl] at hx309_0); (try rw [Addr.add_zero'] at hx309_0); replace p309 := eq_true p309; replace q309 := eq_true q309) | (go_at_call 60; (with_reducible refine (lanternref01_Lower.calls (rdOf ByteArray.empty t303 0) t310 _ ?side1 A12.out).mono ?_); (case side1 => exact lw_); rintro e w31 ⟨rfl, hb⟩; replace HO0 := Aside0.mk (Cs.below (by (with_reducible repeat (first | apply Cs.drewN | apply Cs.drew)); exact HO0.out) hb); replace HO305 := Aside0.mk (Kd.R_below (by (with_reducible repeat (first | apply Kd.R_alloc | apply Kd.R_drewN | apply Kd.R_drew)); exact HO305.out) hb); replace HO308 := Aside0.mk (Kd.R_below (by (with_reducible repeat (first | apply Kd.R_alloc | apply Kd.R_drewN | apply Kd.R_drew)); exact HO308.out) hb); replace HK := Aside0.mk (Kept.below (S := (fun k_ => P0_ k_)) (by repeat (first | (with_reducible first | exact HK.out | apply Kept.alloc | apply Kept.drewN | apply Kept.drew) | exact HK.out)) hb); replace HB := Aside0.mk (below_step bq_ hb); (try clear hb); (try clear hb2); (try clear hk); (try clear hi)))
     go_ret3
     exact ⟨_, rq_, by first | exact Cs.nil _ | exact Kd.R_nil _ _ _ _ _ | exact Kd.N_nil _ _ _ _ _ | exact Kd.V_nil _ _ _ _ _ | exact Kd.Q_nil _ _ _ _ _ | exact Kd.S_nil _ _ _ _ _, bq_, by repeat (first | (with_reducible first | exact HK.out | apply Kept.alloc | apply Kept.drewN | apply Kept.drew) | exact HK.out)⟩
   ·rw [if_neg c11] at H
    exact absurd H (by simp)
 ·rw [if_neg c6] at H
  have c6b0 : decide (0 < (t303.length : Int)) = false := decide_eq_false c6
  have c6b1 : decide (0 < t303.length) = false := decide_eq_false (by omega)
  clear c6
  have HC32 := Aside0.mk H
  clear H
  go_enter Tryz.func34, Tryz.ntmps34
  go_upto_region 8 with (first | ((with_reducible refine gate_callee (f := 59) rfl ?_); refine goesL_ (some 15) rfl rfl Tryz.func59 (by kernel_rfl) rfl #[.slice A1 l1.length c1, .string (⟨#[116, 114, 97, 110, 115, 102, 101, 114, 45, 101, 110, 99, 111, 100, 105, 110, 103]⟩ : ByteArray)] rfl lq_ ?_; (with_reducible refine (lanternref09_All.calls k _ _ l1 (⟨#[116, 114, 97, 110, 115, 102, 101, 114, 45, 101, 110, 99, 111, 100, 105, 110, 103]⟩ : ByteArray) t303 _ ?side3 ?side1 ?side2 A4.out).mono ?_); (case side1 => exact Kd.C_kept_now HR1.out (by repeat (first | (with_reducible first | exact HK.out | apply Kept.alloc | apply Kept.drewN | apply Kept.drew) | exact HK.out))); (case side2 => exact HC1.out); (case side3 => exact lw_); rintro e w33 ⟨v304, rfl, ho0, hb⟩; refine ⟨_, rfl, ?_⟩; replace HO0 := Aside0.mk (Cs.below (by (with_reducible repeat (first | apply Cs.drewN | apply Cs.drew)); exact HO0.out) hb); have HO305 := Aside0.mk (Kd.R_lower (Kd.R_newM (M := fun k_ => (P0_ k_ ∨ w.heap.size ≤ k_)) ho0 (by first | exact HK.out.1 | exact (show Kept w _ (fun k_ => P0_ k_) from by repeat (first | (with_reducible first | exact HK.out | apply Kept.alloc | apply Kept.drewN | apply Kept.drew) | exact HK.out)).1) (fun k_ h_ => .inr h_)) (below_size bq_)); replace HK := Aside0.mk (Kept.below (S := (fun k_ => P0_ k_)) (by repeat (first | (with_reducible first | exact HK.out | apply Kept.alloc | apply Kept.drewN | apply Kept.drew) | exact HK.out)) hb); replace HB := Aside0.mk (below_step bq_ hb); (try clear hb); (try clear hb2); (try clear hk); (try clear hi); (try clear ho0)) | ((with_reducible refine gate_callee (f := 59) rfl ?_); refine goesL_ (some 17) rfl rfl Tryz.func59 (by kernel_rfl) rfl #[.slice A1 l1.length c1, .string (⟨#[99, 111, 110, 116, 101, 110, 116, 45, 108, 101, 110, 103, 116, 104]⟩ : ByteArray)] rfl lq_ ?_; (with_reducible refine (lanternref09_All.calls k _ _ l1 (⟨#[99, 111, 110, 116, 101, 110, 116, 45, 108, 101, 110, 103, 116, 104]⟩ : ByteArray) t306 _ ?side3 ?side1 ?side2 A5.out).mono ?_); (case side1 => exact Kd.C_kept_now HR1.out (by repeat (first | (with_reducible first | exact HK.out | apply Kept.alloc | apply Kept.drewN | apply Kept.drew) | exact HK.out))); (case side2 => exact HC1.out); (case side3 => exact lw_); rintro e w34 ⟨v307, rfl, ho0, hb⟩; refine ⟨_, rfl, ?_⟩; have n0_ := Aside0.mk (Cs.below (by (with_reducible repeat (first | apply Cs.drewN | apply Cs.drew)); exact HO0.out) hb); have n1_ := Aside0.mk (Kd.R_elder' (by (with_reducible repeat (first | apply Kd.R_alloc | apply Kd.R_drewN | apply Kd.R_drew)); exact HO305.out) (Kd.R_base ho0) hb); have n2_ := Aside0.mk (Kd.R_lower (Kd.R_new' (Kd.R_newM (M := fun k_ => (P0_ k_ ∨ w.heap.size ≤ k_)) ho0 (by first | exact HK.out.1 | exact (show Kept w _ (fun k_ => P0_ k_) from by repeat (first | (with_reducible first | exact HK.out | apply Kept.alloc | apply Kept.drewN | apply Kept.drew) | exact HK.out)).1) (fun k_ h_ => .inr h_)) (Kd.R_lt (by (with_reducible repeat (first | apply Kd.R_alloc | apply Kd.R_drewN | apply Kd.R_drew)); exact HO305.out))) (below_size bq_)); have n3_ := Aside0.mk (Kept.below (S := (fun k_ => P0_ k_)) (by repeat (first | (with_reducible first | exact HK.out | apply Kept.alloc | apply Kept.drewN | apply Kept.drew) | exact HK.out)) hb); have n4_ := Aside0.mk (below_step bq_ hb); clear HO0; clear HO305; clear HK; clear HB; have HO0 := n0_; have HO305 := n1_; have HO308 := n2_; have HK := n3_; have HB := n4_; clear n0_ n1_ n2_ n3_ n4_; (try clear hb); (try clear hb2); (try clear hk); (try clear hi); (try clear ho0); obtain ⟨Ao35, co35, eo35⟩ := Kd.R_slice HO305.out; subst eo35))
  (try simp only [Act.put, List.setIfInBounds_toArray, List.set_cons_zero, List.set_cons_succ])
  go_cut [46] (fun v46 wc => ∃ (kq : Nat) (x46_31 : Bool), v46 = .bool x46_31 ∧ Aside0 (lanternref11_body.j0 kq l0 t306 0 x46_31 = some (r1, r2, r3)) ∧ Aside0 (kq ≤ k) ∧ Aside0 (Cs wc u9000_ l0) ∧ Aside0 (Kd.R Kd.string 9 wc w0.heap.size (fun k_ => (P0_ k_ ∨ w.heap.size ≤ k_)) v307 t306) ∧ Aside0 (Kept w wc (fun k_ => P0_ k_)) ∧ Aside0 (Below w0.heap.size w0 wc))
  case first =>
   have H := HC32.out
   clear HC32
   by_cases c36 : (t306.length : Int) = 0
   ·rw [if_pos c36] at H
    have c36b0 : ((t306.length : Int) == 0) = true := beq_iff_eq.mpr c36
    have c36b1 : ((t306.length : Int) != 0) = false := bne_eq_false_iff_eq.mpr c36
    clear c36
    (first | rw [c36b0] | rw [c36b1] | (simp only [i64_w, i32_w]; rw [c36b0]) | skip)
    have H' := Aside0.mk H
    clear H
    obtain ⟨Ao37, co37, eo37⟩ := Kd.R_slice HO308.out
    subst eo37
    go_wp2
    go_meet
    case rel => exact ⟨_, (a2), sq_, H', ⟨by first | omega | exact Nat.le_refl _⟩, ⟨by (with_reducible repeat (first | apply Cs.drewN | apply Cs.drew)); exact HO0.out⟩, ⟨by (with_reducible repeat (first | apply Kd.R_alloc | apply Kd.R_drewN | apply Kd.R_drew)); exact Kd.R_mono HO308.out (fun _ hk => hk.1.1)⟩, ⟨by repeat (first | (with_reducible first | exact HK.out | apply Kept.alloc | apply Kept.drewN | apply Kept.drew) | exact HK.out)⟩, ⟨bq_⟩⟩
   ·rw [if_neg c36] at H
    have c36b0 : ((t306.length : Int) == 0) = false := beq_eq_false_iff_ne.mpr c36
    have c36b1 : ((t306.length : Int) != 0) = true := bne_iff_ne.mpr c36
    have c36b2 : ¬ (t306 = []) := fun h_ => c36 (by rw [h_]; rfl)
    (first | rw [c36b0] | rw [c36b1] | (simp only [i64_w, i32_w]; rw [c36b0]) | skip)
    have H' := Aside0.mk H
    clear H
    obtain ⟨Ao38, co38, eo38⟩ := Kd.R_slice HO308.out
    subst eo38
    go_wp2
    go_meet
    case rel => exact ⟨_, (false), sq_, H', ⟨by first | omega | exact Nat.le_refl _⟩, ⟨by (with_reducible repeat (first | apply Cs.drewN | apply Cs.drew)); exact HO0.out⟩, ⟨by (with_reducible repeat (first | apply Kd.R_alloc | apply Kd.R_drewN | apply Kd.R_drew)); exact Kd.R_mono HO308.out (fun _ hk => hk.1.1)⟩, ⟨by repeat (first | (with_reducible first | exact HK.out | apply Kept.alloc | apply Kept.drewN | apply Kept.drew) | exact HK.out)⟩, ⟨bq_⟩⟩
  case rest =>
   clear HC32
   try clear c1
   try clear p2
   try clear c3
   try clear p3
   try clear q3
   try clear hx3
   try clear qi3
   try clear c5
   try clear c6
   try clear c6b0
   try clear c6b1
   try clear c7
   try clear c7b0
   try clear c7b1
   try clear c11
   try clear c11b0
   try clear c11b1
   try clear c13
   try clear c13b0
   try clear c13b1
   try clear c14
   try clear c14b0
   try clear c14b1
   try clear p30
   try clear q30
   try clear hx30
   try clear qi30
   try clear c34
   try clear c36
   try clear c36b0
   try clear c36b1
   try clear c36b2
   try clear hx309_0
   try clear p309
   try clear q309
   obtain ⟨kq, x46_31, rfl, HA, HJ31, HO_0, HO_10, HK, HB⟩ := hcut
   cases kq with
   | zero => exact absurd HA.out (by simp [lanternref11_body.j0])
   | succ kj31 =>
    have H := HA.out
    clear HA
    simp only [lanternref11_body.j0] at H
    have HC39 := Aside0.mk H
    clear H
    go_upto_if 46 with (fail)
    go_cut [11] (fun v11 wc => ∃ (kq : Nat) (x11_38 : Int), v11 = .int .i64 x11_38 ∧ Aside0 (lanternref11_body.j1 kq l0 t306 x11_38 = some (r1, r2, r3)) ∧ Aside0 (kq ≤ kj31) ∧ Aside0 (Cs wc u9000_ l0) ∧ Aside0 (Kd.R Kd.string 9 wc w0.heap.size (fun k_ => (P0_ k_ ∨ w.heap.size ≤ k_)) v307 t306) ∧ Aside0 (Kept w wc (fun k_ => P0_ k_)) ∧ Aside0 (Below w0.heap.size w0 wc))
    case first =>
     have H := HC39.out
     clear HC39
     by_cases c40 : x46_31 = true
     ·subst c40
      replace H := ifT_ H
      have H' := Aside0.mk H
      clear H
      obtain ⟨Ao41, co41, eo41⟩ := Cs.slice HO_0.out
      subst eo41
      go_wp2
      go_meet
      case rel => exact ⟨_, ((l0.length : Int)), sq_, H', ⟨by have := HJ31.out; first | omega | exact Nat.le_refl _⟩, ⟨by (with_reducible repeat (first | apply Cs.drewN | apply Cs.drew)); exact HO_0.out⟩, ⟨by (with_reducible repeat (first | apply Kd.R_alloc | apply Kd.R_drewN | apply Kd.R_drew)); exact HO_10.out⟩, ⟨by repeat (first | (with_reducible first | exact HK.out | apply Kept.alloc | apply Kept.drewN | apply Kept.drew) | exact HK.out)⟩, ⟨bq_⟩⟩
     ·replace c40 := Bool.eq_false_iff.mpr c40
      subst c40
      replace H := ifF_ H
      have H' := Aside0.mk H
      clear H
      go_wp2
      go_meet
      case rel => exact ⟨_, (0), sq_, H', ⟨by have := HJ31.out; first | omega | exact Nat.le_refl _⟩, ⟨by (with_reducible repeat (first | apply Cs.drewN | apply Cs.drew)); exact HO_0.out⟩, ⟨by (with_reducible repeat (first | apply Kd.R_alloc | apply Kd.R_drewN | apply Kd.R_drew)); exact HO_10.out⟩, ⟨by repeat (first | (with_reducible first | exact HK.out | apply Kept.alloc | apply Kept.drewN | apply Kept.drew) | exact HK.out)⟩, ⟨bq_⟩⟩
    case rest =>
     clear HC39
     try clear c1
     try clear p2
     try clear c3
     try clear p3
     try clear q3
     try clear hx3
     try clear qi3
     try clear c4
     try clear c5
     try clear c6
     try clear c6b0
     try clear c6b1
     try clear c7
     try clear c7b0
     try clear c7b1
     try clear c11
     try clear c11b0
     try clear c11b1
     try clear c13
     try clear c13b0
     try clear c13b1
     try clear c14
     try clear c14b0
     try clear c14b1
     try clear p30
     try clear q30
     try clear hx30
     try clear qi30
     try clear c34
     try clear c36
     try clear c36b0
     try clear c36b1
     try clear c36b2
     try clear c40
     try clear hx309_0
     try clear p2
     try clear p3
     try clear p30
     try clear p309
     try clear q3
     try clear q30
     try clear q309
     obtain ⟨kq, x11_38, rfl, HA, HJ38, HO_0, HO_10, HK, HB⟩ := hcut
     cases kq with
     | zero => exact absurd HA.out (by simp [lanternref11_body.j1])
     | succ kj38 =>
      have H := HA.out
      clear HA
      simp only [lanternref11_body.j1] at H
      have H' := Aside0.mk H
      clear H
      go_wp2
      go_loopg [12] kj38 (fun kq v12 w' => ∃ (x12_3 : Int), v12 = .int .i64 x12_3 ∧ Aside0 (lanternref11_body.l0 kq l0 t306 x11_38 x12_3 = some (r1, r2, r3)) ∧ Aside0 (kq ≤ kj38) ∧ Aside0 (Cs w' u9000_ l0) ∧ Aside0 (Kd.R Kd.string 9 w' w0.heap.size (fun k_ => (P0_ k_ ∨ w.heap.size ≤ k_)) v307 t306) ∧ Aside0 (Kept w w' (fun k_ => P0_ k_)) ∧ Aside0 (Below w0.heap.size w0 w'))
      case atStart => exact ⟨(0), sq_, H', ⟨Nat.le_refl _⟩, ⟨by (with_reducible repeat (first | apply Cs.drewN | apply Cs.drew)); exact HO_0.out⟩, ⟨by (with_reducible repeat (first | apply Kd.R_alloc | apply Kd.R_drewN | apply Kd.R_drew)); exact HO_10.out⟩, ⟨by repeat (first | (with_reducible first | exact HK.out | apply Kept.alloc | apply Kept.drewN | apply Kept.drew) | exact HK.out)⟩, ⟨bq_⟩⟩
      case round =>
       clear H'
       try clear c1
       try clear p2
       try clear c3
       try clear p3
       try clear q3
       try clear hx3
       try clear qi3
       try clear c4
       try clear c5
       try clear c6
       try clear c6b0
       try clear c6b1
       try clear c7
       try clear c7b0
       try clear c7b1
       try clear c11
       try clear c11b0
       try clear c11b1
       try clear c13
       try clear c13b0
       try clear c13b1
       try clear c14
       try clear c14b0
       try clear c14b1
       try clear p30
       try clear q30
       try clear hx30
       try clear qi30
       try clear c34
       try clear c36
       try clear c36b0
       try clear c36b1
       try clear c36b2
       try clear c40
       try clear hx309_0
       try clear p2
       try clear p3
       try clear p30
       try clear p309
       try clear q3
       try clear q30
       try clear q309
       obtain ⟨x12_3, rfl, HA, HK3, HO_0, HO_10, HK, HB⟩ := hrel
       cases gk with
       | zero => exact absurd HA.out (by simp [lanternref11_body.l0])
       | succ k3 =>
        have H := HA.out
        clear HA
        simp only [lanternref11_body.l0] at H
        by_cases c42 : x12_3 < (t306.length : Int)
        ·rw [if_pos c42] at H
         have c42b0 : decide (x12_3 < (t306.length : Int)) = true := decide_eq_true c42
         clear c42
         by_cases c43 : 0 ≤ x12_3
         ·rw [if_pos c43] at H
          have c43b0 : decide (0 ≤ x12_3) = true := decide_eq_true c43
          clear c43
          by_cases c44 : 0 < (t306.length : Int)
          ·rw [if_pos c44] at H
           have c44b0 : decide (0 < (t306.length : Int)) = true := decide_eq_true c44
           have c44b1 : decide (0 < t306.length) = true := decide_eq_true (by omega)
           clear c44
           by_cases c45 : (rdOf ByteArray.empty t306 x12_3).toList = (rdOf ByteArray.empty t306 0).toList
           ·rw [if_pos c45] at H
            have c45b0 : ((rdOf ByteArray.empty t306 x12_3).toList == (rdOf ByteArray.empty t306 0).toList) = true := beq_iff_eq.mpr c45
            have c45b1 : ((rdOf ByteArray.empty t306 x12_3).toList != (rdOf ByteArray.empty t306 0).toList) = false := bne_eq_false_iff_eq.mpr c45
            clear c45
            by_cases c46 : ((rdOf ByteArray.empty t306 x12_3).size : Int) < 1
            ·rw [if_pos c46] at H
             have c46b0 : decide (((rdOf ByteArray.empty t306 x12_3).size : Int) < 1) = true := decide_eq_true c46
             have c46b1 : decide ((rdOf ByteArray.empty t306 x12_3).size < 1) = true := decide_eq_true (by omega)
             clear c46
             simp only [Option.some.injEq, Prod.mk.injEq] at H
             obtain ⟨rfl, rfl, rfl⟩ := H
             obtain ⟨Ao47, co47, eo47⟩ := Kd.R_slice HO_10.out
             subst eo47
             try go_wp2
             replace HO_0 := Aside0.mk (Cs.drew HO_0.out)
             replace HO_10 := Aside0.mk (Kd.R_drew HO_10.out)
             replace HK := Aside0.mk (Kept.drew HK.out)
             replace HB := Aside0.mk (below_drew1 HB.out)
             have p316 : 0 ≤ (x12_3 : Int) := of_decide_eq_true as_
             have q316 : x12_3 < (t306.length : Int) := of_decide_eq_true as_
             obtain ⟨ad316, e316, hx316_0⟩ := Kd.at_string (Kd.R_reads' HO_10.out).2.2 x12_3 p316 q316
             cases e316
             replace p316 := eq_true p316
             replace q316 := eq_true q316
             have p317 : 0 ≤ (0 : Int) := (by omega)
             have q317 : 0 < (t306.length : Int) := of_decide_eq_true as_
             obtain ⟨ad317, e317, hx317_0⟩ := Kd.at_string (Kd.R_reads' HO_10.out).2.2 0 p317 q317
             obtain rfl : ad316 = ad317 := (by injection e317)
             have qi317 : (0 < t306.length) = True := eq_true (by omega)
             (try rw [show ((0 : Int)).toNat = 0 from rfl] at hx317_0)
             (try rw [Addr.add_zero'] at hx317_0)
             replace p317 := eq_true p317
             replace q317 := eq_true q317
             have p318 : 0 ≤ (x12_3 : Int) := of_decide_eq_true as_
             have q318 : x12_3 < (t306.length : Int) := of_decide_eq_true as_
             obtain ⟨ad318, e318, hx318_0⟩ := Kd.at_string (Kd.R_reads' HO_10.out).2.2 x12_3 p318 q318
             obtain rfl : ad316 = ad318 := (by injection e318)
             replace p318 := eq_true p318
             replace q318 := eq_true q318
             refine start_ (n := 32) (S := fun w' => w'.cell? (ad316.add (x12_3).toNat) = some (.string (rdOf ByteArray.empty t306 x12_3)) ∧ w'.cell? ad316 = some (.string (rdOf ByteArray.empty t306 0)) ∧ w'.cell? (ad316.add (x12_3).toNat) = some (.string (rdOf ByteArray.empty t306 x12_3))) (ds := []) (bv_ 0 32) (by kernel_rfl) rfl rfl ⟨hx316_0, hx317_0, hx318_0⟩ (fun hHeld => ?_); refine with_tabW lanternref11_body.tab13 lanternref11_body.bits13 (fun HT_ HW_ => ?_)
             generalize wr.drew = w48 at HO_0 HO_10 HK HB hx316_0 hx317_0 hx318_0 hHeld ⊢
             refine pl_ 0 55 ?_ 1 31 HT_ ?_ ?_ ?_ ?_
             rotate_left
             ·intro w'
              go_simp
              with_reducible rfl
             rotate_left
             ·simp only [Act.put, sa_, s0_, s1_, i64_w, i32_w]
              rfl
             refine pl_ 1 56 ?_ 2 30 HT_ ?_ ?_ ?_ ?_
             rotate_left
             ·intro w'
              go_simp
              with_reducible rfl
             rotate_left
             ·simp only [Act.put, sa_, s0_, s1_, i64_w, i32_w]
              rfl
             refine pl_ 2 57 ?_ 3 29 HT_ ?_ ?_ ?_ ?_
             rotate_left
             ·intro w'
              go_simp
              with_reducible rfl
             rotate_left
             ·simp only [Act.put, sa_, s0_, s1_, i64_w, i32_w]
              rfl
             refine pure_ (i := 4) (N := some 59) (v := ?_) (a' := ?_) #[true, true, true, false, true, false, false, false, false, false, false, false, false, false, false, false, false, false, false, false, false, false, false, false, false, false, false, false, false, false, false, false] rfl rfl (any_of HT_.out (by kernel_rfl)) (fun _ _ _ h => h) (Or.inl ⟨by rfl, ?_⟩) ?_ ?_
             rotate_left
             ·intro w'
              go_simp
              with_reducible rfl
             rotate_left
             ·simp only [Act.put, sa_, s0_, s1_, i64_w, i32_w]
              rfl
             refine pure_ (i := 5) (N := some 60) (v := ?_) (a' := ?_) #[true, true, true, false, true, true, false, false, false, false, false, false, false, false, false, false, false, false, false, false, false, false, false, false, false, false, false, false, false, false, false, false] rfl rfl (any_of HT_.out (by kernel_rfl)) (fun _ _ _ h => h) (Or.inl ⟨by rfl, ?_⟩) ?_ ?_
             rotate_left
             ·intro w'
              go_simp
              with_reducible rfl
             rotate_left
             ·simp only [Act.put, sa_, s0_, s1_, i64_w, i32_w]
              rfl
             refine tl_ 3 58 ?_ 6 26 HT_ HW_ ?_ hHeld ?_ ?_ ?_
             rotate_left
             ·rintro w' ⟨s0, s1, s2⟩
              go_simp
              with_reducible rfl
             rotate_left
             ·simp only [Act.put, sa_, s0_, s1_, i64_w, i32_w]
              rfl
             refine tl_ 6 61 ?_ 7 25 HT_ HW_ ?_ hHeld ?_ ?_ ?_
             rotate_left
             ·rintro w' ⟨s0, s1, s2⟩
              go_simp
              with_reducible rfl
             rotate_left
             ·simp only [Act.put, sa_, s0_, s1_, i64_w, i32_w]
              rfl
             refine pl_ 7 62 ?_ 8 24 HT_ ?_ ?_ ?_ ?_
             rotate_left
             ·intro w'
              go_simp
              with_reducible rfl
             rotate_left
             ·simp only [Act.put, sa_, s0_, s1_, i64_w, i32_w]
              rfl
             refine pl_ 8 63 ?_ 9 23 HT_ ?_ ?_ ?_ ?_
             rotate_left
             ·intro w'
              go_simp
              with_reducible rfl
             rotate_left
             ·simp only [Act.put, sa_, s0_, s1_, i64_w, i32_w]
              rfl
             refine pl_ 9 64 ?_ 10 22 HT_ ?_ ?_ ?_ ?_
             rotate_left
             ·intro w'
              go_simp
              with_reducible rfl
             rotate_left
             ·simp only [Act.put, sa_, s0_, s1_, i64_w, i32_w]
              rfl
             refine pl_ 10 65 ?_ 11 21 HT_ ?_ ?_ ?_ ?_
             rotate_left
             ·intro w'
              go_simp
              with_reducible rfl
             rotate_left
             ·simp only [Act.put, sa_, s0_, s1_, i64_w, i32_w]
              rfl
             refine pl_ 11 66 ?_ 12 20 HT_ ?_ ?_ ?_ ?_
             rotate_left
             ·intro w'
              go_simp
              with_reducible rfl
             rotate_left
             ·simp only [Act.put, sa_, s0_, s1_, i64_w, i32_w]
              rfl
             refine tl_ 12 67 ?_ 13 19 HT_ HW_ ?_ hHeld ?_ ?_ ?_
             rotate_left
             ·rintro w' ⟨s0, s1, s2⟩
              go_simp
              with_reducible rfl
             rotate_left
             ·simp only [Act.put, sa_, s0_, s1_, i64_w, i32_w]
              rfl
             refine pl_ 13 68 ?_ 14 18 HT_ ?_ ?_ ?_ ?_
             rotate_left
             ·intro w'
              go_simp
              with_reducible rfl
             rotate_left
             ·simp only [Act.put, sa_, s0_, s1_, i64_w, i32_w]
              rfl
             refine pl_ 14 69 ?_ 15 17 HT_ ?_ ?_ ?_ ?_
             rotate_left
             ·intro w'
              go_simp
              with_reducible rfl
             rotate_left
             ·simp only [Act.put, sa_, s0_, s1_, i64_w, i32_w]
              rfl
             refine pl_ 15 70 ?_ 16 16 HT_ ?_ ?_ ?_ ?_
             rotate_left
             ·intro w'
              go_simp
              with_reducible rfl
             rotate_left
             ·simp only [Act.put, sa_, s0_, s1_, i64_w, i32_w]
              rfl
             refine pl_ 16 71 ?_ 17 15 HT_ ?_ ?_ ?_ ?_
             rotate_left
             ·intro w'
              go_simp
              with_reducible rfl
             rotate_left
             ·simp only [Act.put, sa_, s0_, s1_, i64_w, i32_w]
              rfl
             refine pr_ 17 72 18 14 HT_ ?_ ?_ ?_
             rotate_left
             ·simp only [Act.put, sa_, s0_, s1_, i64_w, i32_w]
              rfl
             refine pr_ 18 73 19 13 HT_ ?_ ?_ ?_
             rotate_left
             ·simp only [Act.put, sa_, s0_, s1_, i64_w, i32_w]
              rfl
             refine pr_ 19 74 20 12 HT_ ?_ ?_ ?_
             rotate_left
             ·simp only [Act.put, sa_, s0_, s1_, i64_w, i32_w]
              rfl
             refine pr_ 20 75 21 11 HT_ ?_ ?_ ?_
             rotate_left
             ·simp only [Act.put, sa_, s0_, s1_, i64_w, i32_w]
              rfl
             refine pr_ 21 76 22 10 HT_ ?_ ?_ ?_
             rotate_left
             ·simp only [Act.put, sa_, s0_, s1_, i64_w, i32_w]
              rfl
             refine pr_ 22 77 23 9 HT_ ?_ ?_ ?_
             rotate_left
             ·simp only [Act.put, sa_, s0_, s1_, i64_w, i32_w]
              rfl
             refine pl_ 23 78 ?_ 24 8 HT_ ?_ ?_ ?_ ?_
             rotate_left
             ·intro w'
              go_simp
              with_reducible rfl
             rotate_left
             ·simp only [Act.put, sa_, s0_, s1_, i64_w, i32_w]
              rfl
             refine pl_ 24 79 ?_ 25 7 HT_ ?_ ?_ ?_ ?_
             rotate_left
             ·intro w'
              go_simp
              with_reducible rfl
             rotate_left
             ·simp only [Act.put, sa_, s0_, s1_, i64_w, i32_w]
              rfl
             refine pr_ 25 80 26 6 HT_ ?_ ?_ ?_
             rotate_left
             ·simp only [Act.put, sa_, s0_, s1_, i64_w, i32_w]
              rfl
             refine pr_ 26 81 27 5 HT_ ?_ ?_ ?_
             rotate_left
             ·simp only [Act.put, sa_, s0_, s1_, i64_w, i32_w]
              rfl
             refine pr_ 27 82 28 4 HT_ ?_ ?_ ?_
             rotate_left
             ·simp only [Act.put, sa_, s0_, s1_, i64_w, i32_w]
              rfl
             refine pr_ 28 83 29 3 HT_ ?_ ?_ ?_
             rotate_left
             ·simp only [Act.put, sa_, s0_, s1_, i64_w, i32_w]
              rfl
             refine pr_ 29 84 30 2 HT_ ?_ ?_ ?_
             rotate_left
             ·simp only [Act.put, sa_, s0_, s1_, i64_w, i32_w]
              rfl
             refine pr_ 30 85 31 1 HT_ ?_ ?_ ?_
             rotate_left
             ·simp only [Act.put, sa_, s0_, s1_, i64_w, i32_w]
              rfl
             refine pl_ 31 86 ?_ 32 0 HT_ ?_ ?_ ?_ ?_
             rotate_left
             ·intro w'
              go_simp
              with_reducible rfl
             rotate_left
             ·simp only [Act.put, sa_, s0_, s1_, i64_w, i32_w]
              rfl
             refine done_ (done_of HT_.out (by kernel_rfl)) ?_
             try go_wp2
             go_ret3
             exact ⟨_, rq_, by first | exact Cs.nil _ | exact Kd.R_nil _ _ _ _ _ | exact Kd.N_nil _ _ _ _ _ | exact Kd.V_nil _ _ _ _ _ | exact Kd.Q_nil _ _ _ _ _ | exact Kd.S_nil _ _ _ _ _, bq_, by repeat (first | (with_reducible first | exact HK.out | apply Kept.alloc | apply Kept.drewN | apply Kept.drew) | exact HK.out)⟩
            ·rw [if_neg c46] at H
             have c46b0 : decide (((rdOf ByteArray.empty t306 x12_3).size : Int) < 1) = false := decide_eq_false c46
             have c46b1 : decide ((rdOf ByteArray.empty t306 x12_3).size < 1) = false := decide_eq_false (by omega)
             clear c46
             by_cases c49 : ((rdOf ByteArray.empty t306 x12_3).size : Int) > 8
             ·rw [if_pos c49] at H
              have c49b0 : decide (8 < ((rdOf ByteArray.empty t306 x12_3).size : Int)) = true := decide_eq_true c49
              have c49b1 : decide (8 < (rdOf ByteArray.empty t306 x12_3).size) = true := decide_eq_true (by omega)
              clear c49
              simp only [Option.some.injEq, Prod.mk.injEq] at H
              obtain ⟨rfl, rfl, rfl⟩ := H
              obtain ⟨Ao50, co50, eo50⟩ := Kd.R_slice HO_10.out
              subst eo50
              try go_wp2
              replace HO_0 := Aside0.mk (Cs.drew HO_0.out)
              replace HO_10 := Aside0.mk (Kd.R_drew HO_10.out)
              replace HK := Aside0.mk (Kept.drew HK.out)
              replace HB := Aside0.mk (below_drew1 HB.out)
              have p316 : 0 ≤ (x12_3 : Int) := of_decide_eq_true as_
              have q316 : x12_3 < (t306.length : Int) := of_decide_eq_true as_
              obtain ⟨ad316, e316, hx316_0⟩ := Kd.at_string (Kd.R_reads' HO_10.out).2.2 x12_3 p316 q316
              cases e316
              replace p316 := eq_true p316
              replace q316 := eq_true q316
              have p317 : 0 ≤ (0 : Int) := (by omega)
              have q317 : 0 < (t306.length : Int) := of_decide_eq_true as_
              obtain ⟨ad317, e317, hx317_0⟩ := Kd.at_string (Kd.R_reads' HO_10.out).2.2 0 p317 q317
              obtain rfl : ad316 = ad317 := (by injection e317)
              have qi317 : (0 < t306.length) = True := eq_true (by omega)
              (try rw [show ((0 : Int)).toNat = 0 from rfl] at hx317_0)
              (try rw [Addr.add_zero'] at hx317_0)
              replace p317 := eq_true p317
              replace q317 := eq_true q317
              have p318 : 0 ≤ (x12_3 : Int) := of_decide_eq_true as_
              have q318 : x12_3 < (t306.length : Int) := of_decide_eq_true as_
              obtain ⟨ad318, e318, hx318_0⟩ := Kd.at_string (Kd.R_reads' HO_10.out).2.2 x12_3 p318 q318
              obtain rfl : ad316 = ad318 := (by injection e318)
              replace p318 := eq_true p318
              replace q318 := eq_true q318
              have p319 : 0 ≤ (x12_3 : Int) := of_decide_eq_true as_
              have q319 : x12_3 < (t306.length : Int) := of_decide_eq_true as_
              obtain ⟨ad319, e319, hx319_0⟩ := Kd.at_string (Kd.R_reads' HO_10.out).2.2 x12_3 p319 q319
              obtain rfl : ad316 = ad319 := (by injection e319)
              replace p319 := eq_true p319
              replace q319 := eq_true q319
              refine start_ (n := 32) (S := fun w' => w'.cell? (ad316.add (x12_3).toNat) = some (.string (rdOf ByteArray.empty t306 x12_3)) ∧ w'.cell? ad316 = some (.string (rdOf ByteArray.empty t306 0)) ∧ w'.cell? (ad316.add (x12_3).toNat) = some (.string (rdOf ByteArray.empty t306 x12_3)) ∧ w'.cell? (ad316.add (x12_3).toNat) = some (.string (rdOf ByteArray.empty t306 x12_3))) (ds := []) (bv_ 0 32) (by kernel_rfl) rfl rfl ⟨hx316_0, hx317_0, hx318_0, hx319_0⟩ (fun hHeld => ?_); refine with_tabW lanternref11_body.tab13 lanternref11_body.bits13 (fun HT_ HW_ => ?_)
              generalize wr.drew = w51 at HO_0 HO_10 HK HB hx316_0 hx317_0 hx318_0 hx319_0 hHeld ⊢
              refine pl_ 0 55 ?_ 1 31 HT_ ?_ ?_ ?_ ?_
              rotate_left
              ·intro w'
               go_simp
               with_reducible rfl
              rotate_left
              ·simp only [Act.put, sa_, s0_, s1_, i64_w, i32_w]
               rfl
              refine pl_ 1 56 ?_ 2 30 HT_ ?_ ?_ ?_ ?_
              rotate_left
              ·intro w'
               go_simp
               with_reducible rfl
              rotate_left
              ·simp only [Act.put, sa_, s0_, s1_, i64_w, i32_w]
               rfl
              refine pl_ 2 57 ?_ 3 29 HT_ ?_ ?_ ?_ ?_
              rotate_left
              ·intro w'
               go_simp
               with_reducible rfl
              rotate_left
              ·simp only [Act.put, sa_, s0_, s1_, i64_w, i32_w]
               rfl
              refine pure_ (i := 4) (N := some 59) (v := ?_) (a' := ?_) #[true, true, true, false, true, false, false, false, false, false, false, false, false, false, false, false, false, false, false, false, false, false, false, false, false, false, false, false, false, false, false, false] rfl rfl (any_of HT_.out (by kernel_rfl)) (fun _ _ _ h => h) (Or.inl ⟨by rfl, ?_⟩) ?_ ?_
              rotate_left
              ·intro w'
               go_simp
               with_reducible rfl
              rotate_left
              ·simp only [Act.put, sa_, s0_, s1_, i64_w, i32_w]
               rfl
              refine pure_ (i := 5) (N := some 60) (v := ?_) (a' := ?_) #[true, true, true, false, true, true, false, false, false, false, false, false, false, false, false, false, false, false, false, false, false, false, false, false, false, false, false, false, false, false, false, false] rfl rfl (any_of HT_.out (by kernel_rfl)) (fun _ _ _ h => h) (Or.inl ⟨by rfl, ?_⟩) ?_ ?_
              rotate_left
              ·intro w'
               go_simp
               with_reducible rfl
              rotate_left
              ·simp only [Act.put, sa_, s0_, s1_, i64_w, i32_w]
               rfl
              refine tl_ 3 58 ?_ 6 26 HT_ HW_ ?_ hHeld ?_ ?_ ?_
              rotate_left
              ·rintro w' ⟨s0, s1, s2, s3⟩
               go_simp
               with_reducible rfl
              rotate_left
              ·simp only [Act.put, sa_, s0_, s1_, i64_w, i32_w]
               rfl
              refine tl_ 6 61 ?_ 7 25 HT_ HW_ ?_ hHeld ?_ ?_ ?_
              rotate_left
              ·rintro w' ⟨s0, s1, s2, s3⟩
               go_simp
               with_reducible rfl
              rotate_left
              ·simp only [Act.put, sa_, s0_, s1_, i64_w, i32_w]
               rfl
              refine pl_ 7 62 ?_ 8 24 HT_ ?_ ?_ ?_ ?_
              rotate_left
              ·intro w'
               go_simp
               with_reducible rfl
              rotate_left
              ·simp only [Act.put, sa_, s0_, s1_, i64_w, i32_w]
               rfl
              refine pl_ 8 63 ?_ 9 23 HT_ ?_ ?_ ?_ ?_
              rotate_left
              ·intro w'
               go_simp
               with_reducible rfl
              rotate_left
              ·simp only [Act.put, sa_, s0_, s1_, i64_w, i32_w]
               rfl
              refine pl_ 9 64 ?_ 10 22 HT_ ?_ ?_ ?_ ?_
              rotate_left
              ·intro w'
               go_simp
               with_reducible rfl
              rotate_left
              ·simp only [Act.put, sa_, s0_, s1_, i64_w, i32_w]
               rfl
              refine pl_ 10 65 ?_ 11 21 HT_ ?_ ?_ ?_ ?_
              rotate_left
              ·intro w'
               go_simp
               with_reducible rfl
              rotate_left
              ·simp only [Act.put, sa_, s0_, s1_, i64_w, i32_w]
               rfl
              refine pl_ 11 66 ?_ 12 20 HT_ ?_ ?_ ?_ ?_
              rotate_left
              ·intro w'
               go_simp
               with_reducible rfl
              rotate_left
              ·simp only [Act.put, sa_, s0_, s1_, i64_w, i32_w]
               rfl
              refine tl_ 12 67 ?_ 13 19 HT_ HW_ ?_ hHeld ?_ ?_ ?_
              rotate_left
              ·rintro w' ⟨s0, s1, s2, s3⟩
               go_simp
               with_reducible rfl
              rotate_left
              ·simp only [Act.put, sa_, s0_, s1_, i64_w, i32_w]
               rfl
              refine pl_ 13 68 ?_ 14 18 HT_ ?_ ?_ ?_ ?_
              rotate_left
              ·intro w'
               go_simp
               with_reducible rfl
              rotate_left
              ·simp only [Act.put, sa_, s0_, s1_, i64_w, i32_w]
               rfl
              refine pl_ 14 69 ?_ 15 17 HT_ ?_ ?_ ?_ ?_
              rotate_left
              ·intro w'
               go_simp
               with_reducible rfl
              rotate_left
              ·simp only [Act.put, sa_, s0_, s1_, i64_w, i32_w]
               rfl
              refine pl_ 15 70 ?_ 16 16 HT_ ?_ ?_ ?_ ?_
              rotate_left
              ·intro w'
               go_simp
               with_reducible rfl
              rotate_left
              ·simp only [Act.put, sa_, s0_, s1_, i64_w, i32_w]
               rfl
              refine pl_ 16 71 ?_ 17 15 HT_ ?_ ?_ ?_ ?_
              rotate_left
              ·intro w'
               go_simp
               with_reducible rfl
              rotate_left
              ·simp only [Act.put, sa_, s0_, s1_, i64_w, i32_w]
               rfl
              refine pl_ 17 72 ?_ 18 14 HT_ ?_ ?_ ?_ ?_
              rotate_left
              ·intro w'
               go_simp
               with_reducible rfl
              rotate_left
              ·simp only [Act.put, sa_, s0_, s1_, i64_w, i32_w]
               rfl
              refine pl_ 18 73 ?_ 19 13 HT_ ?_ ?_ ?_ ?_
              rotate_left
              ·intro w'
               go_simp
               with_reducible rfl
              rotate_left
              ·simp only [Act.put, sa_, s0_, s1_, i64_w, i32_w]
               rfl
              refine pl_ 19 74 ?_ 20 12 HT_ ?_ ?_ ?_ ?_
              rotate_left
              ·intro w'
               go_simp
               with_reducible rfl
              rotate_left
              ·simp only [Act.put, sa_, s0_, s1_, i64_w, i32_w]
               rfl
              refine tl_ 20 75 ?_ 21 11 HT_ HW_ ?_ hHeld ?_ ?_ ?_
              rotate_left
              ·rintro w' ⟨s0, s1, s2, s3⟩
               go_simp
               with_reducible rfl
              rotate_left
              ·simp only [Act.put, sa_, s0_, s1_, i64_w, i32_w]
               rfl
              refine pl_ 21 76 ?_ 22 10 HT_ ?_ ?_ ?_ ?_
              rotate_left
              ·intro w'
               go_simp
               with_reducible rfl
              rotate_left
              ·simp only [Act.put, sa_, s0_, s1_, i64_w, i32_w]
               rfl
              refine pl_ 22 77 ?_ 23 9 HT_ ?_ ?_ ?_ ?_
              rotate_left
              ·intro w'
               go_simp
               with_reducible rfl
              rotate_left
              ·simp only [Act.put, sa_, s0_, s1_, i64_w, i32_w]
               rfl
              refine pl_ 23 78 ?_ 24 8 HT_ ?_ ?_ ?_ ?_
              rotate_left
              ·intro w'
               go_simp
               with_reducible rfl
              rotate_left
              ·simp only [Act.put, sa_, s0_, s1_, i64_w, i32_w]
               rfl
              refine pl_ 24 79 ?_ 25 7 HT_ ?_ ?_ ?_ ?_
              rotate_left
              ·intro w'
               go_simp
               with_reducible rfl
              rotate_left
              ·simp only [Act.put, sa_, s0_, s1_, i64_w, i32_w]
               rfl
              refine pr_ 25 80 26 6 HT_ ?_ ?_ ?_
              rotate_left
              ·simp only [Act.put, sa_, s0_, s1_, i64_w, i32_w]
               rfl
              refine pr_ 26 81 27 5 HT_ ?_ ?_ ?_
              rotate_left
              ·simp only [Act.put, sa_, s0_, s1_, i64_w, i32_w]
               rfl
              refine pr_ 27 82 28 4 HT_ ?_ ?_ ?_
              rotate_left
              ·simp only [Act.put, sa_, s0_, s1_, i64_w, i32_w]
               rfl
              refine pr_ 28 83 29 3 HT_ ?_ ?_ ?_
              rotate_left
              ·simp only [Act.put, sa_, s0_, s1_, i64_w, i32_w]
               rfl
              refine pr_ 29 84 30 2 HT_ ?_ ?_ ?_
              rotate_left
              ·simp only [Act.put, sa_, s0_, s1_, i64_w, i32_w]
               rfl
              refine pr_ 30 85 31 1 HT_ ?_ ?_ ?_
              rotate_left
              ·simp only [Act.put, sa_, s0_, s1_, i64_w, i32_w]
               rfl
              refine pl_ 31 86 ?_ 32 0 HT_ ?_ ?_ ?_ ?_
              rotate_left
              ·intro w'
               go_simp
               with_reducible rfl
              rotate_left
              ·simp only [Act.put, sa_, s0_, s1_, i64_w, i32_w]
               rfl
              refine done_ (done_of HT_.out (by kernel_rfl)) ?_
              try go_wp2
              go_ret3
              exact ⟨_, rq_, by first | exact Cs.nil _ | exact Kd.R_nil _ _ _ _ _ | exact Kd.N_nil _ _ _ _ _ | exact Kd.V_nil _ _ _ _ _ | exact Kd.Q_nil _ _ _ _ _ | exact Kd.S_nil _ _ _ _ _, bq_, by repeat (first | (with_reducible first | exact HK.out | apply Kept.alloc | apply Kept.drewN | apply Kept.drew) | exact HK.out)⟩
             ·rw [if_neg c49] at H
              have c49b0 : decide (8 < ((rdOf ByteArray.empty t306 x12_3).size : Int)) = false := decide_eq_false c49
              have c49b1 : decide (8 < (rdOf ByteArray.empty t306 x12_3).size) = false := decide_eq_false (by omega)
              clear c49
              replace H := Option.bind_eq_some_iff.mp H
              obtain ⟨t321, A520, H⟩ := H
              (try dsimp only at H)
              have A52 := Aside0.mk A520
              clear A520
              by_cases c53 : t321 = true
              ·subst c53
               replace H := ifT_ H
               have H' := Aside0.mk H
               clear H
               obtain ⟨Ao54, co54, eo54⟩ := Kd.R_slice HO_10.out
               subst eo54
               try go_wp2
               replace HO_0 := Aside0.mk (Cs.drew HO_0.out)
               replace HO_10 := Aside0.mk (Kd.R_drew HO_10.out)
               replace HK := Aside0.mk (Kept.drew HK.out)
               replace HB := Aside0.mk (below_drew1 HB.out)
               have p316 : 0 ≤ (x12_3 : Int) := of_decide_eq_true as_
               have q316 : x12_3 < (t306.length : Int) := of_decide_eq_true as_
               obtain ⟨ad316, e316, hx316_0⟩ := Kd.at_string (Kd.R_reads' HO_10.out).2.2 x12_3 p316 q316
               cases e316
               replace p316 := eq_true p316
               replace q316 := eq_true q316
               have p317 : 0 ≤ (0 : Int) := (by omega)
               have q317 : 0 < (t306.length : Int) := of_decide_eq_true as_
               obtain ⟨ad317, e317, hx317_0⟩ := Kd.at_string (Kd.R_reads' HO_10.out).2.2 0 p317 q317
               obtain rfl : ad316 = ad317 := (by injection e317)
               have qi317 : (0 < t306.length) = True := eq_true (by omega)
               (try rw [show ((0 : Int)).toNat = 0 from rfl] at hx317_0)
               (try rw [Addr.add_zero'] at hx317_0)
               replace p317 := eq_true p317
               replace q317 := eq_true q317
               have p318 : 0 ≤ (x12_3 : Int) := of_decide_eq_true as_
               have q318 : x12_3 < (t306.length : Int) := of_decide_eq_true as_
               obtain ⟨ad318, e318, hx318_0⟩ := Kd.at_string (Kd.R_reads' HO_10.out).2.2 x12_3 p318 q318
               obtain rfl : ad316 = ad318 := (by injection e318)
               replace p318 := eq_true p318
               replace q318 := eq_true q318
               have p319 : 0 ≤ (x12_3 : Int) := of_decide_eq_true as_
               have q319 : x12_3 < (t306.length : Int) := of_decide_eq_true as_
               obtain ⟨ad319, e319, hx319_0⟩ := Kd.at_string (Kd.R_reads' HO_10.out).2.2 x12_3 p319 q319
               obtain rfl : ad316 = ad319 := (by injection e319)
               replace p319 := eq_true p319
               replace q319 := eq_true q319
               have p320 : 0 ≤ (x12_3 : Int) := of_decide_eq_true as_
               have q320 : x12_3 < (t306.length : Int) := of_decide_eq_true as_
               obtain ⟨ad320, e320, hx320_0⟩ := Kd.at_string (Kd.R_reads' HO_10.out).2.2 x12_3 p320 q320
               obtain rfl : ad316 = ad320 := (by injection e320)
               replace p320 := eq_true p320
               replace q320 := eq_true q320
               refine start_ (n := 32) (S := fun w' => w'.cell? (ad316.add (x12_3).toNat) = some (.string (rdOf ByteArray.empty t306 x12_3)) ∧ w'.cell? ad316 = some (.string (rdOf ByteArray.empty t306 0)) ∧ w'.cell? (ad316.add (x12_3).toNat) = some (.string (rdOf ByteArray.empty t306 x12_3)) ∧ w'.cell? (ad316.add (x12_3).toNat) = some (.string (rdOf ByteArray.empty t306 x12_3)) ∧ w'.cell? (ad316.add (x12_3).toNat) = some (.string (rdOf ByteArray.empty t306 x12_3))) (ds := []) (bv_ 0 32) (by kernel_rfl) rfl rfl ⟨hx316_0, hx317_0, hx318_0, hx319_0, hx320_0⟩ (fun hHeld => ?_); refine with_tabW lanternref11_body.tab13 lanternref11_body.bits13 (fun HT_ HW_ => ?_)
               generalize wr.drew = w55 at HO_0 HO_10 HK HB hx316_0 hx317_0 hx318_0 hx319_0 hx320_0 hHeld ⊢
               refine pl_ 0 55 ?_ 1 31 HT_ ?_ ?_ ?_ ?_
               rotate_left
               ·intro w'
                go_simp
                with_reducible rfl
               rotate_left
               ·simp only [Act.put, sa_, s0_, s1_, i64_w, i32_w]
                rfl
               refine pl_ 1 56 ?_ 2 30 HT_ ?_ ?_ ?_ ?_
               rotate_left
               ·intro w'
                go_simp
                with_reducible rfl
               rotate_left
               ·simp only [Act.put, sa_, s0_, s1_, i64_w, i32_w]
                rfl
               refine pl_ 2 57 ?_ 3 29 HT_ ?_ ?_ ?_ ?_
               rotate_left
               ·intro w'
                go_simp
                with_reducible rfl
               rotate_left
               ·simp only [Act.put, sa_, s0_, s1_, i64_w, i32_w]
                rfl
               refine pure_ (i := 4) (N := some 59) (v := ?_) (a' := ?_) #[true, true, true, false, true, false, false, false, false, false, false, false, false, false, false, false, false, false, false, false, false, false, false, false, false, false, false, false, false, false, false, false] rfl rfl (any_of HT_.out (by kernel_rfl)) (fun _ _ _ h => h) (Or.inl ⟨by rfl, ?_⟩) ?_ ?_
               rotate_left
               ·intro w'
                go_simp
                with_reducible rfl
               rotate_left
               ·simp only [Act.put, sa_, s0_, s1_, i64_w, i32_w]
                rfl
               refine pure_ (i := 5) (N := some 60) (v := ?_) (a' := ?_) #[true, true, true, false, true, true, false, false, false, false, false, false, false, false, false, false, false, false, false, false, false, false, false, false, false, false, false, false, false, false, false, false] rfl rfl (any_of HT_.out (by kernel_rfl)) (fun _ _ _ h => h) (Or.inl ⟨by rfl, ?_⟩) ?_ ?_
               rotate_left
               ·intro w'
                go_simp
                with_reducible rfl
               rotate_left
               ·simp only [Act.put, sa_, s0_, s1_, i64_w, i32_w]
                rfl
               refine tl_ 3 58 ?_ 6 26 HT_ HW_ ?_ hHeld ?_ ?_ ?_
               rotate_left
               ·rintro w' ⟨s0, s1, s2, s3, s4⟩
                go_simp
                with_reducible rfl
               rotate_left
               ·simp only [Act.put, sa_, s0_, s1_, i64_w, i32_w]
                rfl
               refine tl_ 6 61 ?_ 7 25 HT_ HW_ ?_ hHeld ?_ ?_ ?_
               rotate_left
               ·rintro w' ⟨s0, s1, s2, s3, s4⟩
                go_simp
                with_reducible rfl
               rotate_left
               ·simp only [Act.put, sa_, s0_, s1_, i64_w, i32_w]
                rfl
               refine pl_ 7 62 ?_ 8 24 HT_ ?_ ?_ ?_ ?_
               rotate_left
               ·intro w'
                go_simp
                with_reducible rfl
               rotate_left
               ·simp only [Act.put, sa_, s0_, s1_, i64_w, i32_w]
                rfl
               refine pl_ 8 63 ?_ 9 23 HT_ ?_ ?_ ?_ ?_
               rotate_left
               ·intro w'
                go_simp
                with_reducible rfl
               rotate_left
               ·simp only [Act.put, sa_, s0_, s1_, i64_w, i32_w]
                rfl
               refine pl_ 9 64 ?_ 10 22 HT_ ?_ ?_ ?_ ?_
               rotate_left
               ·intro w'
                go_simp
                with_reducible rfl
               rotate_left
               ·simp only [Act.put, sa_, s0_, s1_, i64_w, i32_w]
                rfl
               refine pl_ 10 65 ?_ 11 21 HT_ ?_ ?_ ?_ ?_
               rotate_left
               ·intro w'
                go_simp
                with_reducible rfl
               rotate_left
               ·simp only [Act.put, sa_, s0_, s1_, i64_w, i32_w]
                rfl
               refine pl_ 11 66 ?_ 12 20 HT_ ?_ ?_ ?_ ?_
               rotate_left
               ·intro w'
                go_simp
                with_reducible rfl
               rotate_left
               ·simp only [Act.put, sa_, s0_, s1_, i64_w, i32_w]
                rfl
               refine tl_ 12 67 ?_ 13 19 HT_ HW_ ?_ hHeld ?_ ?_ ?_
               rotate_left
               ·rintro w' ⟨s0, s1, s2, s3, s4⟩
                go_simp
                with_reducible rfl
               rotate_left
               ·simp only [Act.put, sa_, s0_, s1_, i64_w, i32_w]
                rfl
               refine pl_ 13 68 ?_ 14 18 HT_ ?_ ?_ ?_ ?_
               rotate_left
               ·intro w'
                go_simp
                with_reducible rfl
               rotate_left
               ·simp only [Act.put, sa_, s0_, s1_, i64_w, i32_w]
                rfl
               refine pl_ 14 69 ?_ 15 17 HT_ ?_ ?_ ?_ ?_
               rotate_left
               ·intro w'
                go_simp
                with_reducible rfl
               rotate_left
               ·simp only [Act.put, sa_, s0_, s1_, i64_w, i32_w]
                rfl
               refine pl_ 15 70 ?_ 16 16 HT_ ?_ ?_ ?_ ?_
               rotate_left
               ·intro w'
                go_simp
                with_reducible rfl
               rotate_left
               ·simp only [Act.put, sa_, s0_, s1_, i64_w, i32_w]
                rfl
               refine pl_ 16 71 ?_ 17 15 HT_ ?_ ?_ ?_ ?_
               rotate_left
               ·intro w'
                go_simp
                with_reducible rfl
               rotate_left
               ·simp only [Act.put, sa_, s0_, s1_, i64_w, i32_w]
                rfl
               refine pl_ 17 72 ?_ 18 14 HT_ ?_ ?_ ?_ ?_
               rotate_left
               ·intro w'
                go_simp
                with_reducible rfl
               rotate_left
               ·simp only [Act.put, sa_, s0_, s1_, i64_w, i32_w]
                rfl
               refine pl_ 18 73 ?_ 19 13 HT_ ?_ ?_ ?_ ?_
               rotate_left
               ·intro w'
                go_simp
                with_reducible rfl
               rotate_left
               ·simp only [Act.put, sa_, s0_, s1_, i64_w, i32_w]
                rfl
               refine pl_ 19 74 ?_ 20 12 HT_ ?_ ?_ ?_ ?_
               rotate_left
               ·intro w'
                go_simp
                with_reducible rfl
               rotate_left
               ·simp only [Act.put, sa_, s0_, s1_, i64_w, i32_w]
                rfl
               refine tl_ 20 75 ?_ 21 11 HT_ HW_ ?_ hHeld ?_ ?_ ?_
               rotate_left
               ·rintro w' ⟨s0, s1, s2, s3, s4⟩
                go_simp
                with_reducible rfl
               rotate_left
               ·simp only [Act.put, sa_, s0_, s1_, i64_w, i32_w]
                rfl
               refine pl_ 21 76 ?_ 22 10 HT_ ?_ ?_ ?_ ?_
               rotate_left
               ·intro w'
                go_simp
                with_reducible rfl
               rotate_left
               ·simp only [Act.put, sa_, s0_, s1_, i64_w, i32_w]
                rfl
               refine pl_ 22 77 ?_ 23 9 HT_ ?_ ?_ ?_ ?_
               rotate_left
               ·intro w'
                go_simp
                with_reducible rfl
               rotate_left
               ·simp only [Act.put, sa_, s0_, s1_, i64_w, i32_w]
                rfl
               refine pl_ 23 78 ?_ 24 8 HT_ ?_ ?_ ?_ ?_
               rotate_left
               ·intro w'
                go_simp
                with_reducible rfl
               rotate_left
               ·simp only [Act.put, sa_, s0_, s1_, i64_w, i32_w]
                rfl
               refine pl_ 24 79 ?_ 25 7 HT_ ?_ ?_ ?_ ?_
               rotate_left
               ·intro w'
                go_simp
                with_reducible rfl
               rotate_left
               ·simp only [Act.put, sa_, s0_, s1_, i64_w, i32_w]
                rfl
               refine pl_ 25 80 ?_ 26 6 HT_ ?_ ?_ ?_ ?_
               rotate_left
               ·intro w'
                go_simp
                with_reducible rfl
               rotate_left
               ·simp only [Act.put, sa_, s0_, s1_, i64_w, i32_w]
                rfl
               refine pl_ 26 81 ?_ 27 5 HT_ ?_ ?_ ?_ ?_
               rotate_left
               ·intro w'
                go_simp
                with_reducible rfl
               rotate_left
               ·simp only [Act.put, sa_, s0_, s1_, i64_w, i32_w]
                rfl
               refine pl_ 27 82 ?_ 28 4 HT_ ?_ ?_ ?_ ?_
               rotate_left
               ·intro w'
                go_simp
                with_reducible rfl
               rotate_left
               ·simp only [Act.put, sa_, s0_, s1_, i64_w, i32_w]
                rfl
               refine tl_ 28 83 ?_ 29 3 HT_ HW_ ?_ hHeld ?_ ?_ ?_
               rotate_left
               ·rintro w' ⟨s0, s1, s2, s3, s4⟩
                go_simp
                with_reducible rfl
               rotate_left
               ·simp only [Act.put, sa_, s0_, s1_, i64_w, i32_w]
                rfl
               refine one_ (i := 29) (N := some 84) (bv_ 30 2) rfl rfl (one_of HT_.out (by kernel_rfl)) (by decide) (fun K hK => ?_)
               refine goes_ Tryz.func45 (by kernel_rfl) rfl #[.string (rdOf ByteArray.empty t306 x12_3), .int .u8 48, .int .u8 57] (by rfl) rfl rfl lq_ ?_
               with_reducible refine (lanternref11_between.calls k3 (rdOf ByteArray.empty t306 x12_3) 48 57 true _ ?side1 A52.out).mono ?_
               (case side1 => exact lw_)
               rintro e w' ⟨rfl, ⟨nd, rfl⟩⟩
               refine ⟨_, rfl, ?_⟩
               refine hK.out _ _ ⟨hHeld.1, hHeld.2.1, hHeld.2.2.1, hHeld.2.2.2.1, hHeld.2.2.2.2⟩ (fun hHeld => ?_)
               clear hK K
               refine norm_ (a' := ?_) ?_ ?_
               rotate_left
               ·show Act.put _ (some 84) _ = _
                simp only [Act.put, sa_, s0_, s1_, i64_w, i32_w]
                rfl
               refine pl_ 30 85 ?_ 31 1 HT_ ?_ ?_ ?_ ?_
               rotate_left
               ·intro w'
                go_simp
                with_reducible rfl
               rotate_left
               ·simp only [Act.put, sa_, s0_, s1_, i64_w, i32_w]
                rfl
               refine pl_ 31 86 ?_ 32 0 HT_ ?_ ?_ ?_ ?_
               rotate_left
               ·intro w'
                go_simp
                with_reducible rfl
               rotate_left
               ·simp only [Act.put, sa_, s0_, s1_, i64_w, i32_w]
                rfl
               refine done_ (done_of HT_.out (by kernel_rfl)) ?_
               try go_wp2
               go_roundg k3
               case measure => have := HJ31.out; have := HJ38.out; have := HK3.out; omega
               case rel => exact ⟨(wrap64 (x12_3 + 1)), sq_, H', ⟨by have := HJ31.out; have := HJ38.out; have := HK3.out; omega⟩, ⟨by (with_reducible repeat (first | apply Cs.drewN | apply Cs.drew)); exact HO_0.out⟩, ⟨by (with_reducible repeat (first | apply Kd.R_alloc | apply Kd.R_drewN | apply Kd.R_drew)); exact HO_10.out⟩, ⟨by repeat (first | (with_reducible first | exact HK.out | apply Kept.alloc | apply Kept.drewN | apply Kept.drew) | exact HK.out)⟩, ⟨bq_⟩⟩
              ·replace c53 := Bool.eq_false_iff.mpr c53
               subst c53
               replace H := ifF_ H
               simp only [Option.some.injEq, Prod.mk.injEq] at H
               obtain ⟨rfl, rfl, rfl⟩ := H
               obtain ⟨Ao56, co56, eo56⟩ := Kd.R_slice HO_10.out
               subst eo56
               try go_wp2
               replace HO_0 := Aside0.mk (Cs.drew HO_0.out)
               replace HO_10 := Aside0.mk (Kd.R_drew HO_10.out)
               replace HK := Aside0.mk (Kept.drew HK.out)
               replace HB := Aside0.mk (below_drew1 HB.out)
               have p316 : 0 ≤ (x12_3 : Int) := of_decide_eq_true as_
               have q316 : x12_3 < (t306.length : Int) := of_decide_eq_true as_
               obtain ⟨ad316, e316, hx316_0⟩ := Kd.at_string (Kd.R_reads' HO_10.out).2.2 x12_3 p316 q316
               cases e316
               replace p316 := eq_true p316
               replace q316 := eq_true q316
               have p317 : 0 ≤ (0 : Int) := (by omega)
               have q317 : 0 < (t306.length : Int) := of_decide_eq_true as_
               obtain ⟨ad317, e317, hx317_0⟩ := Kd.at_string (Kd.R_reads' HO_10.out).2.2 0 p317 q317
               obtain rfl : ad316 = ad317 := (by injection e317)
               have qi317 : (0 < t306.length) = True := eq_true (by omega)
               (try rw [show ((0 : Int)).toNat = 0 from rfl] at hx317_0)
               (try rw [Addr.add_zero'] at hx317_0)
               replace p317 := eq_true p317
               replace q317 := eq_true q317
               have p318 : 0 ≤ (x12_3 : Int) := of_decide_eq_true as_
               have q318 : x12_3 < (t306.length : Int) := of_decide_eq_true as_
               obtain ⟨ad318, e318, hx318_0⟩ := Kd.at_string (Kd.R_reads' HO_10.out).2.2 x12_3 p318 q318
               obtain rfl : ad316 = ad318 := (by injection e318)
               replace p318 := eq_true p318
               replace q318 := eq_true q318
               have p319 : 0 ≤ (x12_3 : Int) := of_decide_eq_true as_
               have q319 : x12_3 < (t306.length : Int) := of_decide_eq_true as_
               obtain ⟨ad319, e319, hx319_0⟩ := Kd.at_string (Kd.R_reads' HO_10.out).2.2 x12_3 p319 q319
               obtain rfl : ad316 = ad319 := (by injection e319)
               replace p319 := eq_true p319
               replace q319 := eq_true q319
               have p320 : 0 ≤ (x12_3 : Int) := of_decide_eq_true as_
               have q320 : x12_3 < (t306.length : Int) := of_decide_eq_true as_
               obtain ⟨ad320, e320, hx320_0⟩ := Kd.at_string (Kd.R_reads' HO_10.out).2.2 x12_3 p320 q320
               obtain rfl : ad316 = ad320 := (by injection e320)
               replace p320 := eq_true p320
               replace q320 := eq_true q320
               refine start_ (n := 32) (S := fun w' => w'.cell? (ad316.add (x12_3).toNat) = some (.string (rdOf ByteArray.empty t306 x12_3)) ∧ w'.cell? ad316 = some (.string (rdOf ByteArray.empty t306 0)) ∧ w'.cell? (ad316.add (x12_3).toNat) = some (.string (rdOf ByteArray.empty t306 x12_3)) ∧ w'.cell? (ad316.add (x12_3).toNat) = some (.string (rdOf ByteArray.empty t306 x12_3)) ∧ w'.cell? (ad316.add (x12_3).toNat) = some (.string (rdOf ByteArray.empty t306 x12_3))) (ds := []) (bv_ 0 32) (by kernel_rfl) rfl rfl ⟨hx316_0, hx317_0, hx318_0, hx319_0, hx320_0⟩ (fun hHeld => ?_); refine with_tabW lanternref11_body.tab13 lanternref11_body.bits13 (fun HT_ HW_ => ?_)
               generalize wr.drew = w57 at HO_0 HO_10 HK HB hx316_0 hx317_0 hx318_0 hx319_0 hx320_0 hHeld ⊢
               refine pl_ 0 55 ?_ 1 31 HT_ ?_ ?_ ?_ ?_
               rotate_left
               ·intro w'
                go_simp
                with_reducible rfl
               rotate_left
               ·simp only [Act.put, sa_, s0_, s1_, i64_w, i32_w]
                rfl
               refine pl_ 1 56 ?_ 2 30 HT_ ?_ ?_ ?_ ?_
               rotate_left
               ·intro w'
                go_simp
                with_reducible rfl
               rotate_left
               ·simp only [Act.put, sa_, s0_, s1_, i64_w, i32_w]
                rfl
               refine pl_ 2 57 ?_ 3 29 HT_ ?_ ?_ ?_ ?_
               rotate_left
               ·intro w'
                go_simp
                with_reducible rfl
               rotate_left
               ·simp only [Act.put, sa_, s0_, s1_, i64_w, i32_w]
                rfl
               refine pure_ (i := 4) (N := some 59) (v := ?_) (a' := ?_) #[true, true, true, false, true, false, false, false, false, false, false, false, false, false, false, false, false, false, false, false, false, false, false, false, false, false, false, false, false, false, false, false] rfl rfl (any_of HT_.out (by kernel_rfl)) (fun _ _ _ h => h) (Or.inl ⟨by rfl, ?_⟩) ?_ ?_
               rotate_left
               ·intro w'
                go_simp
                with_reducible rfl
               rotate_left
               ·simp only [Act.put, sa_, s0_, s1_, i64_w, i32_w]
                rfl
               refine pure_ (i := 5) (N := some 60) (v := ?_) (a' := ?_) #[true, true, true, false, true, true, false, false, false, false, false, false, false, false, false, false, false, false, false, false, false, false, false, false, false, false, false, false, false, false, false, false] rfl rfl (any_of HT_.out (by kernel_rfl)) (fun _ _ _ h => h) (Or.inl ⟨by rfl, ?_⟩) ?_ ?_
               rotate_left
               ·intro w'
                go_simp
                with_reducible rfl
               rotate_left
               ·simp only [Act.put, sa_, s0_, s1_, i64_w, i32_w]
                rfl
               refine tl_ 3 58 ?_ 6 26 HT_ HW_ ?_ hHeld ?_ ?_ ?_
               rotate_left
               ·rintro w' ⟨s0, s1, s2, s3, s4⟩
                go_simp
                with_reducible rfl
               rotate_left
               ·simp only [Act.put, sa_, s0_, s1_, i64_w, i32_w]
                rfl
               refine tl_ 6 61 ?_ 7 25 HT_ HW_ ?_ hHeld ?_ ?_ ?_
               rotate_left
               ·rintro w' ⟨s0, s1, s2, s3, s4⟩
                go_simp
                with_reducible rfl
               rotate_left
               ·simp only [Act.put, sa_, s0_, s1_, i64_w, i32_w]
                rfl
               refine pl_ 7 62 ?_ 8 24 HT_ ?_ ?_ ?_ ?_
               rotate_left
               ·intro w'
                go_simp
                with_reducible rfl
               rotate_left
               ·simp only [Act.put, sa_, s0_, s1_, i64_w, i32_w]
                rfl
               refine pl_ 8 63 ?_ 9 23 HT_ ?_ ?_ ?_ ?_
               rotate_left
               ·intro w'
                go_simp
                with_reducible rfl
               rotate_left
               ·simp only [Act.put, sa_, s0_, s1_, i64_w, i32_w]
                rfl
               refine pl_ 9 64 ?_ 10 22 HT_ ?_ ?_ ?_ ?_
               rotate_left
               ·intro w'
                go_simp
                with_reducible rfl
               rotate_left
               ·simp only [Act.put, sa_, s0_, s1_, i64_w, i32_w]
                rfl
               refine pl_ 10 65 ?_ 11 21 HT_ ?_ ?_ ?_ ?_
               rotate_left
               ·intro w'
                go_simp
                with_reducible rfl
               rotate_left
               ·simp only [Act.put, sa_, s0_, s1_, i64_w, i32_w]
                rfl
               refine pl_ 11 66 ?_ 12 20 HT_ ?_ ?_ ?_ ?_
               rotate_left
               ·intro w'
                go_simp
                with_reducible rfl
               rotate_left
               ·simp only [Act.put, sa_, s0_, s1_, i64_w, i32_w]
                rfl
               refine tl_ 12 67 ?_ 13 19 HT_ HW_ ?_ hHeld ?_ ?_ ?_
               rotate_left
               ·rintro w' ⟨s0, s1, s2, s3, s4⟩
                go_simp
                with_reducible rfl
               rotate_left
               ·simp only [Act.put, sa_, s0_, s1_, i64_w, i32_w]
                rfl
               refine pl_ 13 68 ?_ 14 18 HT_ ?_ ?_ ?_ ?_
               rotate_left
               ·intro w'
                go_simp
                with_reducible rfl
               rotate_left
               ·simp only [Act.put, sa_, s0_, s1_, i64_w, i32_w]
                rfl
               refine pl_ 14 69 ?_ 15 17 HT_ ?_ ?_ ?_ ?_
               rotate_left
               ·intro w'
                go_simp
                with_reducible rfl
               rotate_left
               ·simp only [Act.put, sa_, s0_, s1_, i64_w, i32_w]
                rfl
               refine pl_ 15 70 ?_ 16 16 HT_ ?_ ?_ ?_ ?_
               rotate_left
               ·intro w'
                go_simp
                with_reducible rfl
               rotate_left
               ·simp only [Act.put, sa_, s0_, s1_, i64_w, i32_w]
                rfl
               refine pl_ 16 71 ?_ 17 15 HT_ ?_ ?_ ?_ ?_
               rotate_left
               ·intro w'
                go_simp
                with_reducible rfl
               rotate_left
               ·simp only [Act.put, sa_, s0_, s1_, i64_w, i32_w]
                rfl
               refine pl_ 17 72 ?_ 18 14 HT_ ?_ ?_ ?_ ?_
               rotate_left
               ·intro w'
                go_simp
                with_reducible rfl
               rotate_left
               ·simp only [Act.put, sa_, s0_, s1_, i64_w, i32_w]
                rfl
               refine pl_ 18 73 ?_ 19 13 HT_ ?_ ?_ ?_ ?_
               rotate_left
               ·intro w'
                go_simp
                with_reducible rfl
               rotate_left
               ·simp only [Act.put, sa_, s0_, s1_, i64_w, i32_w]
                rfl
               refine pl_ 19 74 ?_ 20 12 HT_ ?_ ?_ ?_ ?_
               rotate_left
               ·intro w'
                go_simp
                with_reducible rfl
               rotate_left
               ·simp only [Act.put, sa_, s0_, s1_, i64_w, i32_w]
                rfl
               refine tl_ 20 75 ?_ 21 11 HT_ HW_ ?_ hHeld ?_ ?_ ?_
               rotate_left
               ·rintro w' ⟨s0, s1, s2, s3, s4⟩
                go_simp
                with_reducible rfl
               rotate_left
               ·simp only [Act.put, sa_, s0_, s1_, i64_w, i32_w]
                rfl
               refine pl_ 21 76 ?_ 22 10 HT_ ?_ ?_ ?_ ?_
               rotate_left
               ·intro w'
                go_simp
                with_reducible rfl
               rotate_left
               ·simp only [Act.put, sa_, s0_, s1_, i64_w, i32_w]
                rfl
               refine pl_ 22 77 ?_ 23 9 HT_ ?_ ?_ ?_ ?_
               rotate_left
               ·intro w'
                go_simp
                with_reducible rfl
               rotate_left
               ·simp only [Act.put, sa_, s0_, s1_, i64_w, i32_w]
                rfl
               refine pl_ 23 78 ?_ 24 8 HT_ ?_ ?_ ?_ ?_
               rotate_left
               ·intro w'
                go_simp
                with_reducible rfl
               rotate_left
               ·simp only [Act.put, sa_, s0_, s1_, i64_w, i32_w]
                rfl
               refine pl_ 24 79 ?_ 25 7 HT_ ?_ ?_ ?_ ?_
               rotate_left
               ·intro w'
                go_simp
                with_reducible rfl
               rotate_left
               ·simp only [Act.put, sa_, s0_, s1_, i64_w, i32_w]
                rfl
               refine pl_ 25 80 ?_ 26 6 HT_ ?_ ?_ ?_ ?_
               rotate_left
               ·intro w'
                go_simp
                with_reducible rfl
               rotate_left
               ·simp only [Act.put, sa_, s0_, s1_, i64_w, i32_w]
                rfl
               refine pl_ 26 81 ?_ 27 5 HT_ ?_ ?_ ?_ ?_
               rotate_left
               ·intro w'
                go_simp
                with_reducible rfl
               rotate_left
               ·simp only [Act.put, sa_, s0_, s1_, i64_w, i32_w]
                rfl
               refine pl_ 27 82 ?_ 28 4 HT_ ?_ ?_ ?_ ?_
               rotate_left
               ·intro w'
                go_simp
                with_reducible rfl
               rotate_left
               ·simp only [Act.put, sa_, s0_, s1_, i64_w, i32_w]
                rfl
               refine tl_ 28 83 ?_ 29 3 HT_ HW_ ?_ hHeld ?_ ?_ ?_
               rotate_left
               ·rintro w' ⟨s0, s1, s2, s3, s4⟩
                go_simp
                with_reducible rfl
               rotate_left
               ·simp only [Act.put, sa_, s0_, s1_, i64_w, i32_w]
                rfl
               refine one_ (i := 29) (N := some 84) (bv_ 30 2) rfl rfl (one_of HT_.out (by kernel_rfl)) (by decide) (fun K hK => ?_)
               refine goes_ Tryz.func45 (by kernel_rfl) rfl #[.string (rdOf ByteArray.empty t306 x12_3), .int .u8 48, .int .u8 57] (by rfl) rfl rfl lq_ ?_
               with_reducible refine (lanternref11_between.calls k3 (rdOf ByteArray.empty t306 x12_3) 48 57 false _ ?side1 A52.out).mono ?_
               (case side1 => exact lw_)
               rintro e w' ⟨rfl, ⟨nd, rfl⟩⟩
               refine ⟨_, rfl, ?_⟩
               refine hK.out _ _ ⟨hHeld.1, hHeld.2.1, hHeld.2.2.1, hHeld.2.2.2.1, hHeld.2.2.2.2⟩ (fun hHeld => ?_)
               clear hK K
               refine norm_ (a' := ?_) ?_ ?_
               rotate_left
               ·show Act.put _ (some 84) _ = _
                simp only [Act.put, sa_, s0_, s1_, i64_w, i32_w]
                rfl
               refine pl_ 30 85 ?_ 31 1 HT_ ?_ ?_ ?_ ?_
               rotate_left
               ·intro w'
                go_simp
                with_reducible rfl
               rotate_left
               ·simp only [Act.put, sa_, s0_, s1_, i64_w, i32_w]
                rfl
               refine pl_ 31 86 ?_ 32 0 HT_ ?_ ?_ ?_ ?_
               rotate_left
               ·intro w'
                go_simp
                with_reducible rfl
               rotate_left
               ·simp only [Act.put, sa_, s0_, s1_, i64_w, i32_w]
                rfl
               refine done_ (done_of HT_.out (by kernel_rfl)) ?_
               try go_wp2
               go_ret3
               exact ⟨_, rq_, by first | exact Cs.nil _ | exact Kd.R_nil _ _ _ _ _ | exact Kd.N_nil _ _ _ _ _ | exact Kd.V_nil _ _ _ _ _ | exact Kd.Q_nil _ _ _ _ _ | exact Kd.S_nil _ _ _ _ _, bq_, by repeat (first | (with_reducible first | exact HK.out | apply Kept.alloc | apply Kept.drewN | apply Kept.drew) | exact HK.out)⟩
           ·rw [if_neg c45] at H
            have c45b0 : ((rdOf ByteArray.empty t306 x12_3).toList == (rdOf ByteArray.empty t306 0).toList) = false := beq_eq_false_iff_ne.mpr c45
            have c45b1 : ((rdOf ByteArray.empty t306 x12_3).toList != (rdOf ByteArray.empty t306 0).toList) = true := bne_iff_ne.mpr c45
            simp only [Option.some.injEq, Prod.mk.injEq] at H
            obtain ⟨rfl, rfl, rfl⟩ := H
            obtain ⟨Ao58, co58, eo58⟩ := Kd.R_slice HO_10.out
            subst eo58
            try go_wp2
            replace HO_0 := Aside0.mk (Cs.drew HO_0.out)
            replace HO_10 := Aside0.mk (Kd.R_drew HO_10.out)
            replace HK := Aside0.mk (Kept.drew HK.out)
            replace HB := Aside0.mk (below_drew1 HB.out)
            have p316 : 0 ≤ (x12_3 : Int) := of_decide_eq_true as_
            have q316 : x12_3 < (t306.length : Int) := of_decide_eq_true as_
            obtain ⟨ad316, e316, hx316_0⟩ := Kd.at_string (Kd.R_reads' HO_10.out).2.2 x12_3 p316 q316
            cases e316
            replace p316 := eq_true p316
            replace q316 := eq_true q316
            have p317 : 0 ≤ (0 : Int) := (by omega)
            have q317 : 0 < (t306.length : Int) := of_decide_eq_true as_
            obtain ⟨ad317, e317, hx317_0⟩ := Kd.at_string (Kd.R_reads' HO_10.out).2.2 0 p317 q317
            obtain rfl : ad316 = ad317 := (by injection e317)
            have qi317 : (0 < t306.length) = True := eq_true (by omega)
            (try rw [show ((0 : Int)).toNat = 0 from rfl] at hx317_0)
            (try rw [Addr.add_zero'] at hx317_0)
            replace p317 := eq_true p317
            replace q317 := eq_true q317
            refine start_ (n := 32) (S := fun w' => w'.cell? (ad316.add (x12_3).toNat) = some (.string (rdOf ByteArray.empty t306 x12_3)) ∧ w'.cell? ad316 = some (.string (rdOf ByteArray.empty t306 0))) (ds := []) (bv_ 0 32) (by kernel_rfl) rfl rfl ⟨hx316_0, hx317_0⟩ (fun hHeld => ?_); refine with_tabW lanternref11_body.tab13 lanternref11_body.bits13 (fun HT_ HW_ => ?_)
            generalize wr.drew = w59 at HO_0 HO_10 HK HB hx316_0 hx317_0 hHeld ⊢
            refine pl_ 0 55 ?_ 1 31 HT_ ?_ ?_ ?_ ?_
            rotate_left
            ·intro w'
             go_simp
             with_reducible rfl
            rotate_left
            ·simp only [Act.put, sa_, s0_, s1_, i64_w, i32_w]
             rfl
            refine pl_ 1 56 ?_ 2 30 HT_ ?_ ?_ ?_ ?_
            rotate_left
            ·intro w'
             go_simp
             with_reducible rfl
            rotate_left
            ·simp only [Act.put, sa_, s0_, s1_, i64_w, i32_w]
             rfl
            refine pl_ 2 57 ?_ 3 29 HT_ ?_ ?_ ?_ ?_
            rotate_left
            ·intro w'
             go_simp
             with_reducible rfl
            rotate_left
            ·simp only [Act.put, sa_, s0_, s1_, i64_w, i32_w]
             rfl
            refine pure_ (i := 4) (N := some 59) (v := ?_) (a' := ?_) #[true, true, true, false, true, false, false, false, false, false, false, false, false, false, false, false, false, false, false, false, false, false, false, false, false, false, false, false, false, false, false, false] rfl rfl (any_of HT_.out (by kernel_rfl)) (fun _ _ _ h => h) (Or.inl ⟨by rfl, ?_⟩) ?_ ?_
            rotate_left
            ·intro w'
             go_simp
             with_reducible rfl
            rotate_left
            ·simp only [Act.put, sa_, s0_, s1_, i64_w, i32_w]
             rfl
            refine pure_ (i := 5) (N := some 60) (v := ?_) (a' := ?_) #[true, true, true, false, true, true, false, false, false, false, false, false, false, false, false, false, false, false, false, false, false, false, false, false, false, false, false, false, false, false, false, false] rfl rfl (any_of HT_.out (by kernel_rfl)) (fun _ _ _ h => h) (Or.inl ⟨by rfl, ?_⟩) ?_ ?_
            rotate_left
            ·intro w'
             go_simp
             with_reducible rfl
            rotate_left
            ·simp only [Act.put, sa_, s0_, s1_, i64_w, i32_w]
             rfl
            refine tl_ 3 58 ?_ 6 26 HT_ HW_ ?_ hHeld ?_ ?_ ?_
            rotate_left
            ·rintro w' ⟨s0, s1⟩
             go_simp
             with_reducible rfl
            rotate_left
            ·simp only [Act.put, sa_, s0_, s1_, i64_w, i32_w]
             rfl
            refine tl_ 6 61 ?_ 7 25 HT_ HW_ ?_ hHeld ?_ ?_ ?_
            rotate_left
            ·rintro w' ⟨s0, s1⟩
             go_simp
             with_reducible rfl
            rotate_left
            ·simp only [Act.put, sa_, s0_, s1_, i64_w, i32_w]
             rfl
            refine pl_ 7 62 ?_ 8 24 HT_ ?_ ?_ ?_ ?_
            rotate_left
            ·intro w'
             go_simp
             with_reducible rfl
            rotate_left
            ·simp only [Act.put, sa_, s0_, s1_, i64_w, i32_w]
             rfl
            refine pl_ 8 63 ?_ 9 23 HT_ ?_ ?_ ?_ ?_
            rotate_left
            ·intro w'
             go_simp
             with_reducible rfl
            rotate_left
            ·simp only [Act.put, sa_, s0_, s1_, i64_w, i32_w]
             rfl
            refine pr_ 9 64 10 22 HT_ ?_ ?_ ?_
            rotate_left
            ·simp only [Act.put, sa_, s0_, s1_, i64_w, i32_w]
             rfl
            refine pr_ 10 65 11 21 HT_ ?_ ?_ ?_
            rotate_left
            ·simp only [Act.put, sa_, s0_, s1_, i64_w, i32_w]
             rfl
            refine pr_ 11 66 12 20 HT_ ?_ ?_ ?_
            rotate_left
            ·simp only [Act.put, sa_, s0_, s1_, i64_w, i32_w]
             rfl
            refine pr_ 12 67 13 19 HT_ ?_ ?_ ?_
            rotate_left
            ·simp only [Act.put, sa_, s0_, s1_, i64_w, i32_w]
             rfl
            refine pr_ 13 68 14 18 HT_ ?_ ?_ ?_
            rotate_left
            ·simp only [Act.put, sa_, s0_, s1_, i64_w, i32_w]
             rfl
            refine pr_ 14 69 15 17 HT_ ?_ ?_ ?_
            rotate_left
            ·simp only [Act.put, sa_, s0_, s1_, i64_w, i32_w]
             rfl
            refine pl_ 15 70 ?_ 16 16 HT_ ?_ ?_ ?_ ?_
            rotate_left
            ·intro w'
             go_simp
             with_reducible rfl
            rotate_left
            ·simp only [Act.put, sa_, s0_, s1_, i64_w, i32_w]
             rfl
            refine pl_ 16 71 ?_ 17 15 HT_ ?_ ?_ ?_ ?_
            rotate_left
            ·intro w'
             go_simp
             with_reducible rfl
            rotate_left
            ·simp only [Act.put, sa_, s0_, s1_, i64_w, i32_w]
             rfl
            refine pr_ 17 72 18 14 HT_ ?_ ?_ ?_
            rotate_left
            ·simp only [Act.put, sa_, s0_, s1_, i64_w, i32_w]
             rfl
            refine pr_ 18 73 19 13 HT_ ?_ ?_ ?_
            rotate_left
            ·simp only [Act.put, sa_, s0_, s1_, i64_w, i32_w]
             rfl
            refine pr_ 19 74 20 12 HT_ ?_ ?_ ?_
            rotate_left
            ·simp only [Act.put, sa_, s0_, s1_, i64_w, i32_w]
             rfl
            refine pr_ 20 75 21 11 HT_ ?_ ?_ ?_
            rotate_left
            ·simp only [Act.put, sa_, s0_, s1_, i64_w, i32_w]
             rfl
            refine pr_ 21 76 22 10 HT_ ?_ ?_ ?_
            rotate_left
            ·simp only [Act.put, sa_, s0_, s1_, i64_w, i32_w]
             rfl
            refine pr_ 22 77 23 9 HT_ ?_ ?_ ?_
            rotate_left
            ·simp only [Act.put, sa_, s0_, s1_, i64_w, i32_w]
             rfl
            refine pl_ 23 78 ?_ 24 8 HT_ ?_ ?_ ?_ ?_
            rotate_left
            ·intro w'
             go_simp
             with_reducible rfl
            rotate_left
            ·simp only [Act.put, sa_, s0_, s1_, i64_w, i32_w]
             rfl
            refine pl_ 24 79 ?_ 25 7 HT_ ?_ ?_ ?_ ?_
            rotate_left
            ·intro w'
             go_simp
             with_reducible rfl
            rotate_left
            ·simp only [Act.put, sa_, s0_, s1_, i64_w, i32_w]
             rfl
            refine pr_ 25 80 26 6 HT_ ?_ ?_ ?_
            rotate_left
            ·simp only [Act.put, sa_, s0_, s1_, i64_w, i32_w]
             rfl
            refine pr_ 26 81 27 5 HT_ ?_ ?_ ?_
            rotate_left
            ·simp only [Act.put, sa_, s0_, s1_, i64_w, i32_w]
             rfl
            refine pr_ 27 82 28 4 HT_ ?_ ?_ ?_
            rotate_left
            ·simp only [Act.put, sa_, s0_, s1_, i64_w, i32_w]
             rfl
            refine pr_ 28 83 29 3 HT_ ?_ ?_ ?_
            rotate_left
            ·simp only [Act.put, sa_, s0_, s1_, i64_w, i32_w]
             rfl
            refine pr_ 29 84 30 2 HT_ ?_ ?_ ?_
            rotate_left
            ·simp only [Act.put, sa_, s0_, s1_, i64_w, i32_w]
             rfl
            refine pr_ 30 85 31 1 HT_ ?_ ?_ ?_
            rotate_left
            ·simp only [Act.put, sa_, s0_, s1_, i64_w, i32_w]
             rfl
            refine pl_ 31 86 ?_ 32 0 HT_ ?_ ?_ ?_ ?_
            rotate_left
            ·intro w'
             go_simp
             with_reducible rfl
            rotate_left
            ·simp only [Act.put, sa_, s0_, s1_, i64_w, i32_w]
             rfl
            refine done_ (done_of HT_.out (by kernel_rfl)) ?_
            try go_wp2
            go_ret3
            exact ⟨_, rq_, by first | exact Cs.nil _ | exact Kd.R_nil _ _ _ _ _ | exact Kd.N_nil _ _ _ _ _ | exact Kd.V_nil _ _ _ _ _ | exact Kd.Q_nil _ _ _ _ _ | exact Kd.S_nil _ _ _ _ _, bq_, by repeat (first | (with_reducible first | exact HK.out | apply Kept.alloc | apply Kept.drewN | apply Kept.drew) | exact HK.out)⟩
          ·rw [if_neg c44] at H
           exact absurd H (by simp)
         ·rw [if_neg c43] at H
          exact absurd H (by simp)
        ·rw [if_neg c42] at H
         have c42b0 : decide (x12_3 < (t306.length : Int)) = false := decide_eq_false c42
         clear c42
         have HC60 := Aside0.mk H
         clear H
         obtain ⟨Ao61, co61, eo61⟩ := Kd.R_slice HO_10.out
         subst eo61
         go_upto_if 89 with (fail)
         go_cut [11] (fun v11 wc => ∃ (kq : Nat) (x11_59 : Int), v11 = .int .i64 x11_59 ∧ Aside0 (lanternref11_body.j4 kq l0 x11_59 = some (r1, r2, r3)) ∧ Aside0 (kq ≤ k3) ∧ Aside0 (Cs wc u9000_ l0) ∧ Aside0 (Kept w wc (fun k_ => P0_ k_)) ∧ Aside0 (Below w0.heap.size w0 wc))
         case first =>
          have H := HC60.out
          clear HC60
          by_cases c62 : (t306.length : Int) > 0
          ·rw [if_pos c62] at H
           have c62b0 : decide (0 < (t306.length : Int)) = true := decide_eq_true c62
           have c62b1 : decide (0 < t306.length) = true := decide_eq_true (by omega)
           clear c62
           (first | rw [c62b0] | rw [c62b1] | (simp only [i64_w, i32_w]; rw [c62b0]) | skip)
           have H' := Aside0.mk H
           clear H
           go_wp2
           go_loopg [11, 13] k3 (fun kq v11 v13 w' => ∃ (x11_4 : Int) (x13_4 : Int), v11 = .int .i64 x11_4 ∧ v13 = .int .i64 x13_4 ∧ Aside0 (lanternref11_body.l1 kq l0 t306 x11_4 x13_4 = some (r1, r2, r3)) ∧ Aside0 (kq ≤ k3) ∧ Aside0 (Cs w' u9000_ l0) ∧ Aside0 (Kd.R Kd.string 9 w' w0.heap.size (fun k_ => (P0_ k_ ∨ w.heap.size ≤ k_)) (.slice Ao61 t306.length co61) t306) ∧ Aside0 (Kept w w' (fun k_ => P0_ k_)) ∧ Aside0 (Below w0.heap.size w0 w'))
           case atStart => exact ⟨(x11_38), (0), sq_, sq_, H', ⟨Nat.le_refl _⟩, ⟨by (with_reducible repeat (first | apply Cs.drewN | apply Cs.drew)); exact HO_0.out⟩, ⟨by (with_reducible repeat (first | apply Kd.R_alloc | apply Kd.R_drewN | apply Kd.R_drew)); exact HO_10.out⟩, ⟨by repeat (first | (with_reducible first | exact HK.out | apply Kept.alloc | apply Kept.drewN | apply Kept.drew) | exact HK.out)⟩, ⟨bq_⟩⟩
           case round =>
            clear H'
            try clear p2
            try clear p3
            try clear q3
            try clear hx3
            try clear qi3
            try clear c4
            try clear c5
            try clear c6
            try clear p6
            try clear p31
            try clear q31
            try clear hx31
            try clear qi31
            try clear p32
            try clear q32
            try clear hx32
            try clear c42
            try clear c42b0
            try clear c43
            try clear c44
            try clear c45
            try clear c45b0
            try clear c45b1
            try clear c53
            try clear c62
            try clear c62b0
            try clear c62b1
            try clear hx316_0
            try clear hx317_0
            try clear hx318_0
            try clear hx319_0
            try clear hx320_0
            try clear p316
            try clear p317
            try clear p318
            try clear p319
            try clear p320
            try clear q316
            try clear q317
            try clear q318
            try clear q319
            try clear q320
            obtain ⟨x11_4, x13_4, rfl, rfl, HA, HK4, HO_0, HO_10, HK, HB⟩ := hrel
            cases gk with
            | zero => exact absurd HA.out (by simp [lanternref11_body.l1])
            | succ k4 =>
             have H := HA.out
             clear HA
             simp only [lanternref11_body.l1] at H
             by_cases c63 : 0 < (t306.length : Int)
             ·rw [if_pos c63] at H
              have c63b0 : decide (0 < (t306.length : Int)) = true := decide_eq_true c63
              have c63b1 : decide (0 < t306.length) = true := decide_eq_true (by omega)
              clear c63
              by_cases c64 : x13_4 < ((rdOf ByteArray.empty t306 0).size : Int)
              ·rw [if_pos c64] at H
               have c64b0 : decide (x13_4 < ((rdOf ByteArray.empty t306 0).size : Int)) = true := decide_eq_true c64
               clear c64
               by_cases c65 : 0 ≤ x13_4
               ·rw [if_pos c65] at H
                have c65b0 : decide (0 ≤ x13_4) = true := decide_eq_true c65
                clear c65
                have H' := Aside0.mk H
                clear H
                have p322 : 0 ≤ (0 : Int) := (by omega)
                have q322 : 0 < (t306.length : Int) := of_decide_eq_true as_
                obtain ⟨ad322, e322, hx322_0⟩ := Kd.at_string (Kd.R_reads' HO_10.out).2.2 0 p322 q322
                cases e322
                have qi322 : (0 < t306.length) = True := eq_true (by omega)
                (try rw [show ((0 : Int)).toNat = 0 from rfl] at hx322_0)
                (try rw [Addr.add_zero'] at hx322_0)
                replace p322 := eq_true p322
                replace q322 := eq_true q322
                have p323 : 0 ≤ (0 : Int) := (by omega)
                have q323 : 0 < (t306.length : Int) := of_decide_eq_true as_
                obtain ⟨ad323, e323, hx323_0⟩ := Kd.at_string (Kd.R_reads' HO_10.out).2.2 0 p323 q323
                obtain rfl : ad322 = ad323 := (by injection e323)
                have qi323 : (0 < t306.length) = True := eq_true (by omega)
                (try rw [show ((0 : Int)).toNat = 0 from rfl] at hx323_0)
                (try rw [Addr.add_zero'] at hx323_0)
                replace p323 := eq_true p323
                replace q323 := eq_true q323
                have p66 : 0 ≤ (x13_4 : Int) := of_decide_eq_true as_
                have q66 : x13_4 < ((rdOf ByteArray.empty t306 0).size : Int) := of_decide_eq_true as_
                have hx66 := bt_at (rdOf ByteArray.empty t306 0) x13_4
                replace p66 := eq_true p66
                replace q66 := eq_true q66
                go_wp2
                go_roundg k4
                case measure => have := HJ31.out; have := HJ38.out; have := HK3.out; have := HK4.out; omega
                case rel => exact ⟨(wrap64 ((wrap64 (x11_4 * 10)) + (((bt (rdOf ByteArray.empty t306 0) x13_4) - 48) % 256))), (wrap64 (x13_4 + 1)), sq_, sq_, H', ⟨by have := HJ31.out; have := HJ38.out; have := HK3.out; have := HK4.out; omega⟩, ⟨by (with_reducible repeat (first | apply Cs.drewN | apply Cs.drew)); exact HO_0.out⟩, ⟨by (with_reducible repeat (first | apply Kd.R_alloc | apply Kd.R_drewN | apply Kd.R_drew)); exact HO_10.out⟩, ⟨by repeat (first | (with_reducible first | exact HK.out | apply Kept.alloc | apply Kept.drewN | apply Kept.drew) | exact HK.out)⟩, ⟨bq_⟩⟩
               ·rw [if_neg c65] at H
                exact absurd H (by simp)
              ·rw [if_neg c64] at H
               have c64b0 : decide (x13_4 < ((rdOf ByteArray.empty t306 0).size : Int)) = false := decide_eq_false c64
               clear c64
               have H' := Aside0.mk H
               clear H
               have p322 : 0 ≤ (0 : Int) := (by omega)
               have q322 : 0 < (t306.length : Int) := of_decide_eq_true as_
               obtain ⟨ad322, e322, hx322_0⟩ := Kd.at_string (Kd.R_reads' HO_10.out).2.2 0 p322 q322
               cases e322
               have qi322 : (0 < t306.length) = True := eq_true (by omega)
               (try rw [show ((0 : Int)).toNat = 0 from rfl] at hx322_0)
               (try rw [Addr.add_zero'] at hx322_0)
               replace p322 := eq_true p322
               replace q322 := eq_true q322
               go_wp2
               go_meet
               case rel => exact ⟨_, (x11_4), sq_, H', ⟨by have := HJ31.out; have := HJ38.out; have := HK3.out; have := HK4.out; first | omega | exact Nat.le_refl _⟩, ⟨by (with_reducible repeat (first | apply Cs.drewN | apply Cs.drew)); exact HO_0.out⟩, ⟨by repeat (first | (with_reducible first | exact HK.out | apply Kept.alloc | apply Kept.drewN | apply Kept.drew) | exact HK.out)⟩, ⟨bq_⟩⟩
             ·rw [if_neg c63] at H
              exact absurd H (by simp)
          ·rw [if_neg c62] at H
           have c62b0 : decide (0 < (t306.length : Int)) = false := decide_eq_false c62
           have c62b1 : decide (0 < t306.length) = false := decide_eq_false (by omega)
           clear c62
           (first | rw [c62b0] | rw [c62b1] | (simp only [i64_w, i32_w]; rw [c62b0]) | skip)
           have H' := Aside0.mk H
           clear H
           go_wp2
           go_meet
           case rel => exact ⟨_, (x11_38), sq_, H', ⟨by have := HJ31.out; have := HJ38.out; have := HK3.out; first | omega | exact Nat.le_refl _⟩, ⟨by (with_reducible repeat (first | apply Cs.drewN | apply Cs.drew)); exact HO_0.out⟩, ⟨by repeat (first | (with_reducible first | exact HK.out | apply Kept.alloc | apply Kept.drewN | apply Kept.drew) | exact HK.out)⟩, ⟨bq_⟩⟩
         case rest =>
          clear HC60
          try clear p2
          try clear p3
          try clear q3
          try clear hx3
          try clear qi3
          try clear c4
          try clear c5
          try clear c6
          try clear p6
          try clear q6
          try clear hx6
          try clear p31
          try clear q31
          try clear hx31
          try clear qi31
          try clear p32
          try clear q32
          try clear hx32
          try clear qi32
          try clear c42
          try clear c42b0
          try clear c43
          try clear c44
          try clear c45
          try clear c45b0
          try clear c45b1
          try clear c53
          try clear c62
          try clear c62b0
          try clear c62b1
          try clear c63
          try clear c63b0
          try clear c63b1
          try clear c64
          try clear c64b0
          try clear p64
          try clear c65
          try clear c65b0
          try clear p66
          try clear q66
          try clear hx66
          try clear hx316_0
          try clear hx317_0
          try clear hx318_0
          try clear hx319_0
          try clear hx320_0
          try clear hx322_0
          try clear hx323_0
          try clear p2
          try clear p3
          try clear p31
          try clear p316
          try clear p317
          try clear p318
          try clear p319
          try clear p32
          try clear p320
          try clear p322
          try clear p323
          try clear p6
          try clear p66
          try clear q3
          try clear q31
          try clear q316
          try clear q317
          try clear q318
          try clear q319
          try clear q32
          try clear q320
          try clear q322
          try clear q323
          try clear q66
          obtain ⟨kq, x11_59, rfl, HA, HJ59, HO_0, HK, HB⟩ := hcut
          cases kq with
          | zero => exact absurd HA.out (by simp [lanternref11_body.j4])
          | succ kj59 =>
           have H := HA.out
           clear HA
           simp only [lanternref11_body.j4] at H
           by_cases c67 : x11_59 > 32768
           ·rw [if_pos c67] at H
            have c67b0 : decide (32768 < x11_59) = true := decide_eq_true c67
            clear c67
            simp only [Option.some.injEq, Prod.mk.injEq] at H
            obtain ⟨rfl, rfl, rfl⟩ := H
            go_wp2
            go_ret3
            exact ⟨_, rq_, by first | exact Cs.nil _ | exact Kd.R_nil _ _ _ _ _ | exact Kd.N_nil _ _ _ _ _ | exact Kd.V_nil _ _ _ _ _ | exact Kd.Q_nil _ _ _ _ _ | exact Kd.S_nil _ _ _ _ _, bq_, by repeat (first | (with_reducible first | exact HK.out | apply Kept.alloc | apply Kept.drewN | apply Kept.drew) | exact HK.out)⟩
           ·rw [if_neg c67] at H
            have c67b0 : decide (32768 < x11_59) = false := decide_eq_false c67
            clear c67
            by_cases c68 : x11_59 > (l0.length : Int)
            ·rw [if_pos c68] at H
             have c68b0 : decide ((l0.length : Int) < x11_59) = true := decide_eq_true c68
             clear c68
             simp only [Option.some.injEq, Prod.mk.injEq] at H
             obtain ⟨rfl, rfl, rfl⟩ := H
             obtain ⟨Ao69, co69, eo69⟩ := Cs.slice HO_0.out
             subst eo69
             go_wp2
             go_ret3
             exact ⟨_, rq_, by first | exact Cs.nil _ | exact Kd.R_nil _ _ _ _ _ | exact Kd.N_nil _ _ _ _ _ | exact Kd.V_nil _ _ _ _ _ | exact Kd.Q_nil _ _ _ _ _ | exact Kd.S_nil _ _ _ _ _, bq_, by repeat (first | (with_reducible first | exact HK.out | apply Kept.alloc | apply Kept.drewN | apply Kept.drew) | exact HK.out)⟩
            ·rw [if_neg c68] at H
             have c68b0 : decide ((l0.length : Int) < x11_59) = false := decide_eq_false c68
             clear c68
             by_cases c70 : 0 ≤ x11_59
             ·rw [if_pos c70] at H
              have c70b0 := eq_true c70
              have c70b1 : decide (0 ≤ x11_59) = true := decide_eq_true c70
              clear c70
              by_cases c71 : x11_59 ≤ (l0.length : Int)
              ·rw [if_pos c71] at H
               have c71b0 := eq_true c71
               have c71b1 : decide (x11_59 ≤ (l0.length : Int)) = true := decide_eq_true c71
               clear c71
               obtain ⟨y324, hy324⟩ : ∃ y_ : List Int, y_ = (l0.take (x11_59 : Int).toNat) := ⟨_, rfl⟩
               replace H : (some (y324, x11_59, 0)) = some (r1, r2, r3) := by first | (rw [hy324]; with_reducible exact H) | (have H2_ := (Option.bind_some _ _).symm.trans H; rw [hy324]; with_reducible exact H2_) | (have H2_ := (Option.bind_some _ _).symm.trans H; with_reducible exact H2_) | with_reducible exact H | (rw [hy324]; exact H) | exact H
               have Ny324 := Aside0.mk hy324
               clear hy324
               simp only [Option.some.injEq, Prod.mk.injEq] at H
               obtain ⟨rfl, rfl, rfl⟩ := H
               obtain ⟨Ao72, co72, eo72⟩ := Cs.slice HO_0.out
               subst eo72
               have q73 : (x11_59 : Int) ≤ ((l0.length : Int) : Int) := of_decide_eq_true as_
               obtain ⟨i073, hi073, _, hsz73, _⟩ := info_parts info5
               obtain ⟨hcut73, hA73, hC73⟩ := print_take_of (P := Tryz.prog) (Value.int .u8) 0 22 5 .i64 Tryz.underlying22 hi073 hsz73 Ao72 co72 l0 x11_59 (of_decide_eq_true as_) (of_decide_eq_true as_) (Cs.reads HO_0.out).2
               have hr73 : ∀ W_, Cs W_ (.slice Ao72 l0.length co72) l0 → Cs W_ (.slice Ao72 (l0.take (x11_59 : Int).toNat).length co72) (l0.take (x11_59 : Int).toNat) := fun W_ h_ => ⟨_, _, rfl, Kd.C_of_reads (h1 := fun _ => rfl) (hA73 _ (Kd.reads_of_C (Cs.reads h_).1)), hC73⟩
               replace hr73 := hr73 _ HO_0.out
               have hy73 : y324.length = (x11_59 : Int).toNat := (by rw [Ny324.out, List.length_take]; omega)
               rw [← Ny324.out] at hr73 hcut73
               have hcut73b := hcut73
               rw [hy73] at hcut73b
               clear hA73 hC73 hi073 hsz73 HO_0
               have HO326 := Aside0.mk hr73
               clear hr73
               have q73_ := eq_true q73
               go_wp2
               go_ret3
               exact ⟨_, rq_, by have h_ := HO326.out; first | exact h_ | (rw [hy73] at h_; exact h_), bq_, by repeat (first | (with_reducible first | exact HK.out | apply Kept.alloc | apply Kept.drewN | apply Kept.drew) | exact HK.out)⟩
              ·rw [if_neg c71] at H
               exact absurd H (by simp)
             ·rw [if_neg c70] at H
              exact absurd H (by simp)

end Go.Proofs.YtipleegkonhfcaaGreatDoor.P
