-- Written by a program of this session (wip/gen/lprint.py over the kit's print.py) out of the translation. Lean checks it.
import Derived.Test.YtipleegkonhfcaaGreatDoorP2
import Derived.Test.YtipleegkonhfcaaGreatDoorP9
import Derived.Test.YtipleegkonhfcaaGreatDoorP10
import Derived.Test.YtipleegkonhfcaaGreatDoorZ
namespace Go.Proofs.YtipleegkonhfcaaGreatDoor.P
open Go.Proofs.YtipleegkonhfcaaGreatDoorZ
open Go.Proofs.YtipleegkonhfcaaGreatDoor.E Go.Proofs.YtipleegkonhfcaaGreatDoorV
open Go.Proofs.YtipleegkonhfcaaGreatDoor.U
open Go.Proofs.YtipleegkonhfcaaGreatDoor.KF
open Go.RowKit Go.Proofs.YtipleegkonhfcaaGreatDoorW.PrintWords Go.Proofs.YtipleegkonhfcaaGreatDoorW.PrintLast Go.Proofs.YtipleegkonhfcaaGreatDoorW.PrintMore
attribute [local go_sem] max2_int min2_int max_two min_two max_three min_three max_four min_four   -- for this text's walks alone
set_option linter.unusedVariables false
set_option linter.unusedSimpArgs false

mutual
def lanternref10_Decode.l0 : Nat → List Int → List Int → Int → Int → Option (List Int × Int × Int)
 | 0, _, _, _, _ => none
 | k + 1, x0, x5, x6, x7 => if x7 ≤ (x0.length : Int) then (lanternref10_Decode.l1 k x0 x5 x6 x7 x6) else (some (([] : List Int), 0, 10))
def lanternref10_Decode.j2 : Nat → List Int → List Int → Int → Int → Int → Option (List Int × Int × Int)
 | 0, _, _, _, _, _ => none
 | k + 1, x0, x5, x6, x7, x8 => if x8 = (x0.length : Int) then (lanternref10_Decode.j3 k x0 x5 x6 x7 x8 (decide ((wrap64 (x8 - x6)) < 258))) else (lanternref10_Decode.j3 k x0 x5 x6 x7 x8 false)
def lanternref10_Decode.j3 : Nat → List Int → List Int → Int → Int → Int → Bool → Option (List Int × Int × Int)
 | 0, _, _, _, _, _, _ => none
 | k + 1, x0, x5, x6, x7, x8, x50 => if x50 = true then (some (([] : List Int), 0, 10)) else (if x8 = (x0.length : Int) then (lanternref10_Decode.j4 k x0 x5 x6 x7 x8 true) else (if 0 ≤ x8 then (if x8 < (x0.length : Int) then (if (rd x0 x8) = 10 then (if (wrap64 (x8 - x6)) ≥ 258 then (lanternref10_Decode.j4 k x0 x5 x6 x7 x8 true) else (if x8 = x6 then (lanternref10_Decode.j4 k x0 x5 x6 x7 x8 true) else (if 0 ≤ (wrap64 (x8 - 1)) then (if (wrap64 (x8 - 1)) < (x0.length : Int) then (lanternref10_Decode.j4 k x0 x5 x6 x7 x8 ((rd x0 (wrap64 (x8 - 1))) != 13)) else (none)) else (none)))) else (lanternref10_Decode.j4 k x0 x5 x6 x7 x8 true)) else (none)) else (none)))
def lanternref10_Decode.j4 : Nat → List Int → List Int → Int → Int → Int → Bool → Option (List Int × Int × Int)
 | 0, _, _, _, _, _, _ => none
 | k + 1, x0, x5, x6, x7, x8, x80 => if x80 = true then (some (([] : List Int), 0, 5)) else (if 0 ≤ x6 then (if x6 ≤ (wrap64 (x8 - 1)) then (if (wrap64 (x8 - 1)) ≤ (x0.length : Int) then ((lanternref10_Size.f k (strOfNums ((x0.take ((wrap64 (x8 - 1)) : Int).toNat).drop (x6 : Int).toNat))).bind fun t289 => (if t289 < 0 then (some (([] : List Int), 0, 5)) else (if t289 = 0 then (if 0 ≤ (wrap64 (x8 + 1)) then (if (wrap64 (x8 + 1)) ≤ (x0.length : Int) then ((lanternref09_Parse.f k (x0.drop ((wrap64 (x8 + 1)) : Int).toNat)).bind fun bt291 => (if bt291.2.2 = 0 then (some (x5, wrap64 ((wrap64 (x8 + 1)) + bt291.2.1), 0)) else (some (([] : List Int), 0, bt291.2.2)))) else (none)) else (none)) else (if (wrap64 ((x5.length : Int) + t289)) > 32768 then (some (([] : List Int), 0, 3)) else (lanternref10_Decode.l2 k x0 x5 (wrap64 (x8 + 1)) x7 t289 0))))) else (none)) else (none)) else (none))
def lanternref10_Decode.l2 : Nat → List Int → List Int → Int → Int → Int → Int → Option (List Int × Int × Int)
 | 0, _, _, _, _, _, _ => none
 | k + 1, x0, x5, x6, x7, x9, x13 => if x13 < (wrap64 (x9 + 2)) then (if (wrap64 (x6 + x13)) ≥ (x0.length : Int) then (some (([] : List Int), 0, 10)) else (if x13 < x9 then (if 0 ≤ (wrap64 (x6 + x13)) then (if (wrap64 (x6 + x13)) < (x0.length : Int) then (if x5.length < 140737488355328 then (lanternref10_Decode.l2 k x0 (x5 ++ [rd x0 (wrap64 (x6 + x13))]) x6 x7 x9 (wrap64 (x13 + 1))) else (none)) else (none)) else (none)) else (if x13 = x9 then (if 0 ≤ (wrap64 (x6 + x13)) then (if (wrap64 (x6 + x13)) < (x0.length : Int) then (if (rd x0 (wrap64 (x6 + x13))) = 13 then (if x13 = (wrap64 (x9 + 1)) then (if (rd x0 (wrap64 (x6 + x13))) = 10 then (lanternref10_Decode.l2 k x0 x5 x6 x7 x9 (wrap64 (x13 + 1))) else (some (([] : List Int), 0, 5))) else (lanternref10_Decode.l2 k x0 x5 x6 x7 x9 (wrap64 (x13 + 1)))) else (some (([] : List Int), 0, 5))) else (none)) else (none)) else (if x13 = (wrap64 (x9 + 1)) then (if 0 ≤ (wrap64 (x6 + x13)) then (if (wrap64 (x6 + x13)) < (x0.length : Int) then (if (rd x0 (wrap64 (x6 + x13))) = 10 then (lanternref10_Decode.l2 k x0 x5 x6 x7 x9 (wrap64 (x13 + 1))) else (some (([] : List Int), 0, 5))) else (none)) else (none)) else (lanternref10_Decode.l2 k x0 x5 x6 x7 x9 (wrap64 (x13 + 1))))))) else (lanternref10_Decode.l0 k x0 x5 (wrap64 ((wrap64 (x6 + x9)) + 2)) (wrap64 (x7 + 1)))
def lanternref10_Decode.l1 : Nat → List Int → List Int → Int → Int → Int → Option (List Int × Int × Int)
 | 0, _, _, _, _, _ => none
 | k + 1, x0, x5, x6, x7, x8 => if x8 < (x0.length : Int) then (if 0 ≤ x8 then (if (rd x0 x8) = 10 then (lanternref10_Decode.j2 k x0 x5 x6 x7 x8) else (if (wrap64 (x8 - x6)) < 258 then (lanternref10_Decode.l1 k x0 x5 x6 x7 (wrap64 (x8 + 1))) else (lanternref10_Decode.j2 k x0 x5 x6 x7 x8))) else (none)) else (lanternref10_Decode.j2 k x0 x5 x6 x7 x8)
end
def lanternref10_Decode.f (k : Nat) (l0 : List Int) : Option (List Int × Int × Int) := lanternref10_Decode.l0 k l0 (([] : List Int)) 0 0
theorem lanternref10_Decode.mono_l : ∀ k, (∀ y0 y1 y2 y3, LeO (lanternref10_Decode.l0 k y0 y1 y2 y3) (lanternref10_Decode.l0 (k + 1) y0 y1 y2 y3)) ∧ (∀ y0 y1 y2 y3 y4, LeO (lanternref10_Decode.j2 k y0 y1 y2 y3 y4) (lanternref10_Decode.j2 (k + 1) y0 y1 y2 y3 y4)) ∧ (∀ y0 y1 y2 y3 y4 y5, LeO (lanternref10_Decode.j3 k y0 y1 y2 y3 y4 y5) (lanternref10_Decode.j3 (k + 1) y0 y1 y2 y3 y4 y5)) ∧ (∀ y0 y1 y2 y3 y4 y5, LeO (lanternref10_Decode.j4 k y0 y1 y2 y3 y4 y5) (lanternref10_Decode.j4 (k + 1) y0 y1 y2 y3 y4 y5)) ∧ (∀ y0 y1 y2 y3 y4 y5, LeO (lanternref10_Decode.l2 k y0 y1 y2 y3 y4 y5) (lanternref10_Decode.l2 (k + 1) y0 y1 y2 y3 y4 y5)) ∧ (∀ y0 y1 y2 y3 y4, LeO (lanternref10_Decode.l1 k y0 y1 y2 y3 y4) (lanternref10_Decode.l1 (k + 1) y0 y1 y2 y3 y4))
 | 0 => ⟨fun _ _ _ _ r h => by simp [lanternref10_Decode.l0] at h, fun _ _ _ _ _ r h => by simp [lanternref10_Decode.j2] at h, fun _ _ _ _ _ _ r h => by simp [lanternref10_Decode.j3] at h, fun _ _ _ _ _ _ r h => by simp [lanternref10_Decode.j4] at h, fun _ _ _ _ _ _ r h => by simp [lanternref10_Decode.l2] at h, fun _ _ _ _ _ r h => by simp [lanternref10_Decode.l1] at h⟩
 | k + 1 => by
  obtain ⟨ih0, ih1, ih2, ih3, ih4, ih5⟩ := lanternref10_Decode.mono_l k
  refine ⟨?_, ?_, ?_, ?_, ?_, ?_⟩
  ·intro y0 y1 y2 y3
   unfold lanternref10_Decode.l0
   repeat' first
   | (with_reducible exact ih0 _ _ _ _)
   | (with_reducible exact ih1 _ _ _ _ _)
   | (with_reducible exact ih2 _ _ _ _ _ _)
   | (with_reducible exact ih3 _ _ _ _ _ _)
   | (with_reducible exact ih4 _ _ _ _ _ _)
   | (with_reducible exact ih5 _ _ _ _ _)
   | (with_reducible exact lanternref09_Parse.mono _ _)
   | (with_reducible exact lanternref10_Size.mono _ _)
   | (with_reducible exact LeO.refl _)
   | (with_reducible exact LeO.none _)
   | (with_reducible refine LeO.ite ?_ ?_)
   | (with_reducible refine LeO.bind ?_ (fun _ => ?_))
   | exact ih0 _ _ _ _
   | exact ih1 _ _ _ _ _
   | exact ih2 _ _ _ _ _ _
   | exact ih3 _ _ _ _ _ _
   | exact ih4 _ _ _ _ _ _
   | exact ih5 _ _ _ _ _
   | exact lanternref09_Parse.mono _ _
   | exact lanternref10_Size.mono _ _
   | exact LeO.none _
   | refine LeO.ite ?_ ?_
   | refine LeO.bind ?_ (fun _ => ?_)
  ·intro y0 y1 y2 y3 y4
   unfold lanternref10_Decode.j2
   repeat' first
   | (with_reducible exact ih0 _ _ _ _)
   | (with_reducible exact ih1 _ _ _ _ _)
   | (with_reducible exact ih2 _ _ _ _ _ _)
   | (with_reducible exact ih3 _ _ _ _ _ _)
   | (with_reducible exact ih4 _ _ _ _ _ _)
   | (with_reducible exact ih5 _ _ _ _ _)
   | (with_reducible exact lanternref09_Parse.mono _ _)
   | (with_reducible exact lanternref10_Size.mono _ _)
   | (with_reducible exact LeO.refl _)
   | (with_reducible exact LeO.none _)
   | (with_reducible refine LeO.ite ?_ ?_)
   | (with_reducible refine LeO.bind ?_ (fun _ => ?_))
   | exact ih0 _ _ _ _
   | exact ih1 _ _ _ _ _
   | exact ih2 _ _ _ _ _ _
   | exact ih3 _ _ _ _ _ _
   | exact ih4 _ _ _ _ _ _
   | exact ih5 _ _ _ _ _
   | exact lanternref09_Parse.mono _ _
   | exact lanternref10_Size.mono _ _
   | exact LeO.none _
   | refine LeO.ite ?_ ?_
   | refine LeO.bind ?_ (fun _ => ?_)
  ·intro y0 y1 y2 y3 y4 y5
   unfold lanternref10_Decode.j3
   repeat' first
   | (with_reducible exact ih0 _ _ _ _)
   | (with_reducible exact ih1 _ _ _ _ _)
   | (with_reducible exact ih2 _ _ _ _ _ _)
   | (with_reducible exact ih3 _ _ _ _ _ _)
   | (with_reducible exact ih4 _ _ _ _ _ _)
   | (with_reducible exact ih5 _ _ _ _ _)
   | (with_reducible exact lanternref09_Parse.mono _ _)
   | (with_reducible exact lanternref10_Size.mono _ _)
   | (with_reducible exact LeO.refl _)
   | (with_reducible exact LeO.none _)
   | (with_reducible refine LeO.ite ?_ ?_)
   | (with_reducible refine LeO.bind ?_ (fun _ => ?_))
   | exact ih0 _ _ _ _
   | exact ih1 _ _ _ _ _
   | exact ih2 _ _ _ _ _ _
   | exact ih3 _ _ _ _ _ _
   | exact ih4 _ _ _ _ _ _
   | exact ih5 _ _ _ _ _
   | exact lanternref09_Parse.mono _ _
   | exact lanternref10_Size.mono _ _
   | exact LeO.none _
   | refine LeO.ite ?_ ?_
   | refine LeO.bind ?_ (fun _ => ?_)
  ·intro y0 y1 y2 y3 y4 y5
   unfold lanternref10_Decode.j4
   repeat' first
   | (with_reducible exact ih0 _ _ _ _)
   | (with_reducible exact ih1 _ _ _ _ _)
   | (with_reducible exact ih2 _ _ _ _ _ _)
   | (with_reducible exact ih3 _ _ _ _ _ _)
   | (with_reducible exact ih4 _ _ _ _ _ _)
   | (with_reducible exact ih5 _ _ _ _ _)
   | (with_reducible exact lanternref09_Parse.mono _ _)
   | (with_reducible exact lanternref10_Size.mono _ _)
   | (with_reducible exact LeO.refl _)
   | (with_reducible exact LeO.none _)
   | (with_reducible refine LeO.ite ?_ ?_)
   | (with_reducible refine LeO.bind ?_ (fun _ => ?_))
   | exact ih0 _ _ _ _
   | exact ih1 _ _ _ _ _
   | exact ih2 _ _ _ _ _ _
   | exact ih3 _ _ _ _ _ _
   | exact ih4 _ _ _ _ _ _
   | exact ih5 _ _ _ _ _
   | exact lanternref09_Parse.mono _ _
   | exact lanternref10_Size.mono _ _
   | exact LeO.none _
   | refine LeO.ite ?_ ?_
   | refine LeO.bind ?_ (fun _ => ?_)
  ·intro y0 y1 y2 y3 y4 y5
   unfold lanternref10_Decode.l2
   repeat' first
   | (with_reducible exact ih0 _ _ _ _)
   | (with_reducible exact ih1 _ _ _ _ _)
   | (with_reducible exact ih2 _ _ _ _ _ _)
   | (with_reducible exact ih3 _ _ _ _ _ _)
   | (with_reducible exact ih4 _ _ _ _ _ _)
   | (with_reducible exact ih5 _ _ _ _ _)
   | (with_reducible exact lanternref09_Parse.mono _ _)
   | (with_reducible exact lanternref10_Size.mono _ _)
   | (with_reducible exact LeO.refl _)
   | (with_reducible exact LeO.none _)
   | (with_reducible refine LeO.ite ?_ ?_)
   | (with_reducible refine LeO.bind ?_ (fun _ => ?_))
   | exact ih0 _ _ _ _
   | exact ih1 _ _ _ _ _
   | exact ih2 _ _ _ _ _ _
   | exact ih3 _ _ _ _ _ _
   | exact ih4 _ _ _ _ _ _
   | exact ih5 _ _ _ _ _
   | exact lanternref09_Parse.mono _ _
   | exact lanternref10_Size.mono _ _
   | exact LeO.none _
   | refine LeO.ite ?_ ?_
   | refine LeO.bind ?_ (fun _ => ?_)
  ·intro y0 y1 y2 y3 y4
   unfold lanternref10_Decode.l1
   repeat' first
   | (with_reducible exact ih0 _ _ _ _)
   | (with_reducible exact ih1 _ _ _ _ _)
   | (with_reducible exact ih2 _ _ _ _ _ _)
   | (with_reducible exact ih3 _ _ _ _ _ _)
   | (with_reducible exact ih4 _ _ _ _ _ _)
   | (with_reducible exact ih5 _ _ _ _ _)
   | (with_reducible exact lanternref09_Parse.mono _ _)
   | (with_reducible exact lanternref10_Size.mono _ _)
   | (with_reducible exact LeO.refl _)
   | (with_reducible exact LeO.none _)
   | (with_reducible refine LeO.ite ?_ ?_)
   | (with_reducible refine LeO.bind ?_ (fun _ => ?_))
   | exact ih0 _ _ _ _
   | exact ih1 _ _ _ _ _
   | exact ih2 _ _ _ _ _ _
   | exact ih3 _ _ _ _ _ _
   | exact ih4 _ _ _ _ _ _
   | exact ih5 _ _ _ _ _
   | exact lanternref09_Parse.mono _ _
   | exact lanternref10_Size.mono _ _
   | exact LeO.none _
   | refine LeO.ite ?_ ?_
   | refine LeO.bind ?_ (fun _ => ?_)
theorem lanternref10_Decode.mono : ∀ a0 k, LeO (lanternref10_Decode.f k a0) (lanternref10_Decode.f (k + 1) a0) := by
 intro a0 k
 obtain ⟨ih0, ih1, ih2, ih3, ih4, ih5⟩ := lanternref10_Decode.mono_l k
 unfold lanternref10_Decode.f
 repeat' first
   | (with_reducible exact ih0 _ _ _ _)
   | (with_reducible exact ih1 _ _ _ _ _)
   | (with_reducible exact ih2 _ _ _ _ _ _)
   | (with_reducible exact ih3 _ _ _ _ _ _)
   | (with_reducible exact ih4 _ _ _ _ _ _)
   | (with_reducible exact ih5 _ _ _ _ _)
   | (with_reducible exact lanternref09_Parse.mono _ _)
   | (with_reducible exact lanternref10_Size.mono _ _)
   | (with_reducible exact LeO.refl _)
   | (with_reducible exact LeO.none _)
   | (with_reducible refine LeO.ite ?_ ?_)
   | (with_reducible refine LeO.bind ?_ (fun _ => ?_))
   | exact ih0 _ _ _ _
   | exact ih1 _ _ _ _ _
   | exact ih2 _ _ _ _ _ _
   | exact ih3 _ _ _ _ _ _
   | exact ih4 _ _ _ _ _ _
   | exact ih5 _ _ _ _ _
   | exact lanternref09_Parse.mono _ _
   | exact lanternref10_Size.mono _ _
   | exact LeO.none _
   | refine LeO.ite ?_ ?_
   | refine LeO.bind ?_ (fun _ => ?_)
set_option maxHeartbeats 8000000 in
set_option maxRecDepth 100000 in
theorem lanternref10_Decode.calls (k : Nat) (A0 : Option Addr) (c0 : Nat) (l0 : List Int) (r1 : List Int) (r2 : Int) (r3 : Int) (w : World) (hLW : LW w) (hr0 : Kd.C (Kd.int .u8) w A0 l0.length l0) (hc0 : l0.length ≤ c0) (h : lanternref10_Decode.f k l0 = some (r1, r2, r3)) :
  Calls Tryz.prog 61 #[.slice A0 l0.length c0] w fun e w' => ∃ v0_ : Value, e = .returned (.tuple #[v0_, .int .i64 r2, .int .i64 r3]) ∧ Kd.R (Kd.int .u8) 5 w' w.heap.size (fun _ => True) v0_ r1 ∧ Below w.heap.size w w' := by
 have HLW := Aside0.mk hLW
 clear hLW
 have HR0 := Aside0.mk hr0
 have HC0 := Aside0.mk hc0
 clear hr0 hc0
 have HB := Aside0.mk (Below.refl w.heap.size w)
 have H : (lanternref10_Decode.l0 k l0 (([] : List Int)) 0 0) = some (r1, r2, r3) := h
 clear h
 obtain ⟨y282, hy282⟩ : ∃ y_ : List Int, y_ = (([] : List Int)) := ⟨_, rfl⟩
 replace H : (lanternref10_Decode.l0 k l0 y282 0 0) = some (r1, r2, r3) := by first | (rw [hy282]; with_reducible exact H) | (have H2_ := (Option.bind_some _ _).symm.trans H; rw [hy282]; with_reducible exact H2_) | (have H2_ := (Option.bind_some _ _).symm.trans H; with_reducible exact H2_) | with_reducible exact H | (rw [hy282]; exact H) | exact H
 have Ny282 := Aside0.mk hy282
 clear hy282
 have H' := Aside0.mk H
 clear H
 go_enter Tryz.func61, Tryz.ntmps61
 go_wp2_with (first | ((with_reducible refine gate_dst (N := 14) rfl ?_); refine Kd.R_lit (Kd.int .u8) _ 5 ?hg (N := 14) ?hd (xs := ([] : List Int)) (inner := []) (ok := fun _ => True) (okp := fun _ => True) ?hr ?hp (fun _ hk => hk) trivial (Below.refl _ _) (Nat.le_refl _) (by simp) ?_; (case hd => rfl); (case hg => rfl); (case hr => first | (go_simp; done) | (go_simp; rfl)); (case hp => exact (Reps.none _ _)); intro v283 w2 ho3 hb hg_ hnew_; clear hg_ hnew_; (first | rw [← Ny282.out] at ho3 | (simp only [Int.reduceToNat] at ho3; rw [← Ny282.out] at ho3)); have HO284 := Aside0.mk (Kd.R_lower ho3 (below_size bq_)); replace HB := Aside0.mk (below_step bq_ hb); clear hb ho3))
 go_loopg [5, 6, 7] k (fun kq v5 v6 v7 w' => ∃ (x5_1 : List Int) (x6_1 : Int) (x7_1 : Int), v6 = .int .i64 x6_1 ∧ v7 = .int .i64 x7_1 ∧ Aside0 (lanternref10_Decode.l0 kq l0 x5_1 x6_1 x7_1 = some (r1, r2, r3)) ∧ Aside0 (kq ≤ k) ∧ Aside0 (Kd.R (Kd.int .u8) 5 w' w.heap.size (fun _ => True) v5 x5_1) ∧ Aside0 (Below w.heap.size w w'))
 case atStart => exact ⟨(y282), (0), (0), sq_, sq_, H', ⟨Nat.le_refl _⟩, ⟨by (with_reducible repeat (first | apply Kd.R_alloc | apply Kd.R_drewN | apply Kd.R_drew)); exact HO284.out⟩, ⟨bq_⟩⟩
 case round =>
  clear H'
  try clear p2
  obtain ⟨x5_1, x6_1, x7_1, rfl, rfl, HA, HK1, HO_5, HB⟩ := hrel
  cases gk with
  | zero => exact absurd HA.out (by simp [lanternref10_Decode.l0])
  | succ k1 =>
   have H := HA.out
   clear HA
   simp only [lanternref10_Decode.l0] at H
   by_cases c4 : x7_1 ≤ (l0.length : Int)
   ·rw [if_pos c4] at H
    have c4b0 : decide (x7_1 ≤ (l0.length : Int)) = true := decide_eq_true c4
    clear c4
    have HC5 := Aside0.mk H
    clear H
    go_upto_block 2 with (fail)
    go_cut [8] (fun v8 wc => ∃ (kq : Nat) (x8_4 : Int), v8 = .int .i64 x8_4 ∧ Aside0 (lanternref10_Decode.j2 kq l0 x5_1 x6_1 x7_1 x8_4 = some (r1, r2, r3)) ∧ Aside0 (kq ≤ k1) ∧ Aside0 (Kd.R (Kd.int .u8) 5 wc w.heap.size (fun _ => True) u5 x5_1) ∧ Aside0 (Below w.heap.size w wc))
    case first =>
     have H := HC5.out
     clear HC5
     have H' := Aside0.mk H
     clear H
     go_wp2
     go_loopg [8] k1 (fun kq v8 w' => ∃ (x8_2 : Int), v8 = .int .i64 x8_2 ∧ Aside0 (lanternref10_Decode.l1 kq l0 x5_1 x6_1 x7_1 x8_2 = some (r1, r2, r3)) ∧ Aside0 (kq ≤ k1) ∧ Aside0 (Kd.R (Kd.int .u8) 5 w' w.heap.size (fun _ => True) u5 x5_1) ∧ Aside0 (Below w.heap.size w w'))
     case atStart => exact ⟨(x6_1), sq_, H', ⟨Nat.le_refl _⟩, ⟨by (with_reducible repeat (first | apply Kd.R_alloc | apply Kd.R_drewN | apply Kd.R_drew)); exact HO_5.out⟩, ⟨bq_⟩⟩
     case round =>
      clear H'
      try clear p2
      try clear c4
      try clear c4b0
      try clear p2
      obtain ⟨x8_2, rfl, HA, HK2, HO_5, HB⟩ := hrel
      cases gk with
      | zero => exact absurd HA.out (by simp [lanternref10_Decode.l1])
      | succ k2 =>
       have H := HA.out
       clear HA
       simp only [lanternref10_Decode.l1] at H
       by_cases c6 : x8_2 < (l0.length : Int)
       ·rw [if_pos c6] at H
        have c6b0 : decide (x8_2 < (l0.length : Int)) = true := decide_eq_true c6
        clear c6
        (first | rw [c6b0] | (simp only [i64_w, i32_w]; rw [c6b0]) | skip)
        by_cases c7 : 0 ≤ x8_2
        ·rw [if_pos c7] at H
         have c7b0 : decide (0 ≤ x8_2) = true := decide_eq_true c7
         clear c7
         by_cases c8 : (rd l0 x8_2) = 10
         ·rw [if_pos c8] at H
          have c8b0 : ((rd l0 x8_2) == 10) = true := beq_iff_eq.mpr c8
          have c8b1 : ((rd l0 x8_2) != 10) = false := bne_eq_false_iff_eq.mpr c8
          clear c8
          have H' := Aside0.mk H
          clear H
          have p285 : 0 ≤ (x8_2 : Int) := of_decide_eq_true as_
          have q285 : x8_2 < (l0.length : Int) := of_decide_eq_true as_
          obtain ⟨ad285, e285, hx285_0⟩ := Kd.at_int HR0.out x8_2 p285 q285
          cases e285
          replace hx285_0 := (HB.out.cell (World.block_lt_of_cell? w _ hx285_0)).trans hx285_0
          replace p285 := eq_true p285
          replace q285 := eq_true q285
          go_wp2
          go_meet
          case rel => exact ⟨_, (x8_2), sq_, H', ⟨by have := HK1.out; have := HK2.out; first | omega | exact Nat.le_refl _⟩, ⟨by (with_reducible repeat (first | apply Kd.R_alloc | apply Kd.R_drewN | apply Kd.R_drew)); exact HO_5.out⟩, ⟨bq_⟩⟩
         ·rw [if_neg c8] at H
          have c8b0 : ((rd l0 x8_2) == 10) = false := beq_eq_false_iff_ne.mpr c8
          have c8b1 : ((rd l0 x8_2) != 10) = true := bne_iff_ne.mpr c8
          by_cases c9 : (wrap64 (x8_2 - x6_1)) < 258
          ·rw [if_pos c9] at H
           have c9b0 : decide ((wrap64 (x8_2 - x6_1)) < 258) = true := decide_eq_true c9
           clear c9
           have H' := Aside0.mk H
           clear H
           have p285 : 0 ≤ (x8_2 : Int) := of_decide_eq_true as_
           have q285 : x8_2 < (l0.length : Int) := of_decide_eq_true as_
           obtain ⟨ad285, e285, hx285_0⟩ := Kd.at_int HR0.out x8_2 p285 q285
           cases e285
           replace hx285_0 := (HB.out.cell (World.block_lt_of_cell? w _ hx285_0)).trans hx285_0
           replace p285 := eq_true p285
           replace q285 := eq_true q285
           go_wp2
           go_roundg k2
           case measure => have := HK1.out; have := HK2.out; omega
           case rel => exact ⟨(wrap64 (x8_2 + 1)), sq_, H', ⟨by have := HK1.out; have := HK2.out; omega⟩, ⟨by (with_reducible repeat (first | apply Kd.R_alloc | apply Kd.R_drewN | apply Kd.R_drew)); exact HO_5.out⟩, ⟨bq_⟩⟩
          ·rw [if_neg c9] at H
           have c9b0 : decide ((wrap64 (x8_2 - x6_1)) < 258) = false := decide_eq_false c9
           clear c9
           have H' := Aside0.mk H
           clear H
           have p285 : 0 ≤ (x8_2 : Int) := of_decide_eq_true as_
           have q285 : x8_2 < (l0.length : Int) := of_decide_eq_true as_
           obtain ⟨ad285, e285, hx285_0⟩ := Kd.at_int HR0.out x8_2 p285 q285
           cases e285
           replace hx285_0 := (HB.out.cell (World.block_lt_of_cell? w _ hx285_0)).trans hx285_0
           replace p285 := eq_true p285
           replace q285 := eq_true q285
           go_wp2
           go_meet
           case rel => exact ⟨_, (x8_2), sq_, H', ⟨by have := HK1.out; have := HK2.out; first | omega | exact Nat.le_refl _⟩, ⟨by (with_reducible repeat (first | apply Kd.R_alloc | apply Kd.R_drewN | apply Kd.R_drew)); exact HO_5.out⟩, ⟨bq_⟩⟩
        ·rw [if_neg c7] at H
         exact absurd H (by simp)
       ·rw [if_neg c6] at H
        have c6b0 : decide (x8_2 < (l0.length : Int)) = false := decide_eq_false c6
        clear c6
        (first | rw [c6b0] | (simp only [i64_w, i32_w]; rw [c6b0]) | skip)
        have H' := Aside0.mk H
        clear H
        go_wp2
        go_meet
        case rel => exact ⟨_, (x8_2), sq_, H', ⟨by have := HK1.out; have := HK2.out; first | omega | exact Nat.le_refl _⟩, ⟨by (with_reducible repeat (first | apply Kd.R_alloc | apply Kd.R_drewN | apply Kd.R_drew)); exact HO_5.out⟩, ⟨bq_⟩⟩
    case rest =>
     clear HC5
     try clear p2
     try clear q2
     try clear hx2
     try clear c4
     try clear c4b0
     try clear c6
     try clear c6b0
     try clear p6
     try clear c7
     try clear c7b0
     try clear c8
     try clear c8b0
     try clear c8b1
     try clear c9
     try clear c9b0
     try clear hx285_0
     try clear p2
     try clear p285
     try clear q285
     obtain ⟨kq, x8_4, rfl, HA, HJ4, HO_5, HB⟩ := hcut
     cases kq with
     | zero => exact absurd HA.out (by simp [lanternref10_Decode.j2])
     | succ kj4 =>
      have H := HA.out
      clear HA
      simp only [lanternref10_Decode.j2] at H
      have HC10 := Aside0.mk H
      clear H
      go_upto_region 9 with (fail)
      go_cut [50] (fun v50 wc => ∃ (kq : Nat) (x50_9 : Bool), v50 = .bool x50_9 ∧ Aside0 (lanternref10_Decode.j3 kq l0 x5_1 x6_1 x7_1 x8_4 x50_9 = some (r1, r2, r3)) ∧ Aside0 (kq ≤ kj4) ∧ Aside0 (Kd.R (Kd.int .u8) 5 wc w.heap.size (fun _ => True) u5 x5_1) ∧ Aside0 (Below w.heap.size w wc))
      case first =>
       have H := HC10.out
       clear HC10
       by_cases c11 : x8_4 = (l0.length : Int)
       ·rw [if_pos c11] at H
        have c11b0 : (x8_4 == (l0.length : Int)) = true := beq_iff_eq.mpr c11
        have c11b1 : (x8_4 != (l0.length : Int)) = false := bne_eq_false_iff_eq.mpr c11
        clear c11
        (first | rw [c11b0] | (simp only [i64_w, i32_w]; rw [c11b0]) | skip)
        have H' := Aside0.mk H
        clear H
        go_wp2
        go_meet
        case rel => exact ⟨_, (decide ((wrap64 (x8_4 - x6_1)) < 258)), sq_, H', ⟨by have := HK1.out; have := HJ4.out; first | omega | exact Nat.le_refl _⟩, ⟨by (with_reducible repeat (first | apply Kd.R_alloc | apply Kd.R_drewN | apply Kd.R_drew)); exact HO_5.out⟩, ⟨bq_⟩⟩
       ·rw [if_neg c11] at H
        have c11b0 : (x8_4 == (l0.length : Int)) = false := beq_eq_false_iff_ne.mpr c11
        have c11b1 : (x8_4 != (l0.length : Int)) = true := bne_iff_ne.mpr c11
        (first | rw [c11b0] | (simp only [i64_w, i32_w]; rw [c11b0]) | skip)
        have H' := Aside0.mk H
        clear H
        go_wp2
        go_meet
        case rel => exact ⟨_, (false), sq_, H', ⟨by have := HK1.out; have := HJ4.out; first | omega | exact Nat.le_refl _⟩, ⟨by (with_reducible repeat (first | apply Kd.R_alloc | apply Kd.R_drewN | apply Kd.R_drew)); exact HO_5.out⟩, ⟨bq_⟩⟩
      case rest =>
       clear HC10
       try clear c1
       try clear p2
       try clear q2
       try clear hx2
       try clear c4
       try clear c4b0
       try clear c6
       try clear c6b0
       try clear p6
       try clear c7
       try clear c7b0
       try clear c8
       try clear c8b0
       try clear c8b1
       try clear c9
       try clear c9b0
       try clear c11
       try clear c11b0
       try clear c11b1
       try clear hx285_0
       try clear p2
       try clear p285
       try clear p6
       try clear q2
       try clear q285
       obtain ⟨kq, x50_9, rfl, HA, HJ9, HO_5, HB⟩ := hcut
       cases kq with
       | zero => exact absurd HA.out (by simp [lanternref10_Decode.j3])
       | succ kj9 =>
        have H := HA.out
        clear HA
        simp only [lanternref10_Decode.j3] at H
        by_cases c12 : x50_9 = true
        ·subst c12
         replace H := ifT_ H
         simp only [Option.some.injEq, Prod.mk.injEq] at H
         obtain ⟨rfl, rfl, rfl⟩ := H
         go_wp2
         go_ret3
         exact ⟨_, rq_, by first | exact Kd.R_nil _ _ _ _ _ | exact Kd.N_nil _ _ _ _ _ | exact Kd.V_nil _ _ _ _ _ | exact Kd.Q_nil _ _ _ _ _ | exact Kd.S_nil _ _ _ _ _, bq_⟩
        ·replace c12 := Bool.eq_false_iff.mpr c12
         subst c12
         replace H := ifF_ H
         have HC13 := Aside0.mk H
         clear H
         go_upto_region 11 with (fail)
         go_cut [80] (fun v80 wc => ∃ (kq : Nat) (x80_12 : Bool), v80 = .bool x80_12 ∧ Aside0 (lanternref10_Decode.j4 kq l0 x5_1 x6_1 x7_1 x8_4 x80_12 = some (r1, r2, r3)) ∧ Aside0 (kq ≤ kj9) ∧ Aside0 (Kd.R (Kd.int .u8) 5 wc w.heap.size (fun _ => True) u5 x5_1) ∧ Aside0 (Below w.heap.size w wc))
         case first =>
          have H := HC13.out
          clear HC13
          by_cases c14 : x8_4 = (l0.length : Int)
          ·rw [if_pos c14] at H
           have c14b0 : (x8_4 == (l0.length : Int)) = true := beq_iff_eq.mpr c14
           have c14b1 : (x8_4 != (l0.length : Int)) = false := bne_eq_false_iff_eq.mpr c14
           clear c14
           (first | rw [c14b0] | (simp only [i64_w, i32_w]; rw [c14b0]) | skip)
           have H' := Aside0.mk H
           clear H
           go_wp2
           go_meet
           case rel => exact ⟨_, (true), sq_, H', ⟨by have := HK1.out; have := HJ4.out; have := HJ9.out; first | omega | exact Nat.le_refl _⟩, ⟨by (with_reducible repeat (first | apply Kd.R_alloc | apply Kd.R_drewN | apply Kd.R_drew)); exact HO_5.out⟩, ⟨bq_⟩⟩
          ·rw [if_neg c14] at H
           have c14b0 : (x8_4 == (l0.length : Int)) = false := beq_eq_false_iff_ne.mpr c14
           have c14b1 : (x8_4 != (l0.length : Int)) = true := bne_iff_ne.mpr c14
           (first | rw [c14b0] | (simp only [i64_w, i32_w]; rw [c14b0]) | skip)
           by_cases c15 : 0 ≤ x8_4
           ·rw [if_pos c15] at H
            have c15b0 : decide (0 ≤ x8_4) = true := decide_eq_true c15
            clear c15
            by_cases c16 : x8_4 < (l0.length : Int)
            ·rw [if_pos c16] at H
             have c16b0 : decide (x8_4 < (l0.length : Int)) = true := decide_eq_true c16
             clear c16
             by_cases c17 : (rd l0 x8_4) = 10
             ·rw [if_pos c17] at H
              have c17b0 : ((rd l0 x8_4) == 10) = true := beq_iff_eq.mpr c17
              have c17b1 : ((rd l0 x8_4) != 10) = false := bne_eq_false_iff_eq.mpr c17
              clear c17
              by_cases c18 : (wrap64 (x8_4 - x6_1)) ≥ 258
              ·rw [if_pos c18] at H
               have c18b0 : decide (258 ≤ (wrap64 (x8_4 - x6_1))) = true := decide_eq_true c18
               clear c18
               have H' := Aside0.mk H
               clear H
               have p286 : 0 ≤ (x8_4 : Int) := of_decide_eq_true as_
               have q286 : x8_4 < (l0.length : Int) := of_decide_eq_true as_
               obtain ⟨ad286, e286, hx286_0⟩ := Kd.at_int HR0.out x8_4 p286 q286
               cases e286
               replace hx286_0 := (HB.out.cell (World.block_lt_of_cell? w _ hx286_0)).trans hx286_0
               replace p286 := eq_true p286
               replace q286 := eq_true q286
               go_wp2
               go_meet
               case rel => exact ⟨_, (true), sq_, H', ⟨by have := HK1.out; have := HJ4.out; have := HJ9.out; first | omega | exact Nat.le_refl _⟩, ⟨by (with_reducible repeat (first | apply Kd.R_alloc | apply Kd.R_drewN | apply Kd.R_drew)); exact HO_5.out⟩, ⟨bq_⟩⟩
              ·rw [if_neg c18] at H
               have c18b0 : decide (258 ≤ (wrap64 (x8_4 - x6_1))) = false := decide_eq_false c18
               clear c18
               by_cases c19 : x8_4 = x6_1
               ·rw [if_pos c19] at H
                have c19b0 : (x8_4 == x6_1) = true := beq_iff_eq.mpr c19
                have c19b1 : (x8_4 != x6_1) = false := bne_eq_false_iff_eq.mpr c19
                clear c19
                have H' := Aside0.mk H
                clear H
                have p286 : 0 ≤ (x8_4 : Int) := of_decide_eq_true as_
                have q286 : x8_4 < (l0.length : Int) := of_decide_eq_true as_
                obtain ⟨ad286, e286, hx286_0⟩ := Kd.at_int HR0.out x8_4 p286 q286
                cases e286
                replace hx286_0 := (HB.out.cell (World.block_lt_of_cell? w _ hx286_0)).trans hx286_0
                replace p286 := eq_true p286
                replace q286 := eq_true q286
                go_wp2
                go_meet
                case rel => exact ⟨_, (true), sq_, H', ⟨by have := HK1.out; have := HJ4.out; have := HJ9.out; first | omega | exact Nat.le_refl _⟩, ⟨by (with_reducible repeat (first | apply Kd.R_alloc | apply Kd.R_drewN | apply Kd.R_drew)); exact HO_5.out⟩, ⟨bq_⟩⟩
               ·rw [if_neg c19] at H
                have c19b0 : (x8_4 == x6_1) = false := beq_eq_false_iff_ne.mpr c19
                have c19b1 : (x8_4 != x6_1) = true := bne_iff_ne.mpr c19
                obtain ⟨ji20, hji20⟩ : ∃ j_ : Int, (wrap64 (x8_4 - 1)) = j_ := ⟨_, rfl⟩
                replace H : (if 0 ≤ (ji20) then (if (ji20) < (l0.length : Int) then (lanternref10_Decode.j4 kj9 l0 x5_1 x6_1 x7_1 x8_4 ((rd l0 (ji20)) != 13)) else (none)) else (none)) = some (r1, r2, r3) := by first | (rw [hji20] at H; exact H) | (simp only [hji20] at H ⊢; exact H)
                have hji20w : (IntKind.i64.wrap (x8_4 - 1)) = ji20 := (i64_w _).trans hji20
                by_cases c21 : 0 ≤ (ji20)
                ·rw [if_pos c21] at H
                 have c21b0 : decide (0 ≤ (ji20)) = true := decide_eq_true c21
                 clear c21
                 by_cases c22 : (ji20) < (l0.length : Int)
                 ·rw [if_pos c22] at H
                  have c22b0 : decide ((ji20) < (l0.length : Int)) = true := decide_eq_true c22
                  clear c22
                  have H' := Aside0.mk H
                  clear H
                  have p286 : 0 ≤ (x8_4 : Int) := of_decide_eq_true as_
                  have q286 : x8_4 < (l0.length : Int) := of_decide_eq_true as_
                  obtain ⟨ad286, e286, hx286_0⟩ := Kd.at_int HR0.out x8_4 p286 q286
                  cases e286
                  replace hx286_0 := (HB.out.cell (World.block_lt_of_cell? w _ hx286_0)).trans hx286_0
                  replace p286 := eq_true p286
                  replace q286 := eq_true q286
                  have p287 : 0 ≤ ((ji20) : Int) := of_decide_eq_true as_
                  have q287 : (ji20) < (l0.length : Int) := of_decide_eq_true as_
                  obtain ⟨ad287, e287, hx287_0⟩ := Kd.at_int HR0.out (ji20) p287 q287
                  obtain rfl : ad286 = ad287 := (by injection e287)
                  replace hx287_0 := (HB.out.cell (World.block_lt_of_cell? w _ hx287_0)).trans hx287_0
                  replace p287 := eq_true p287
                  replace q287 := eq_true q287
                  go_wp2
                  go_meet
                  case rel => exact ⟨_, (((rd l0 (ji20)) != 13)), (by first | rfl | (simp; done) | (simp only [← hji20] <;> (first | rfl | simp)) | (simp [*]; done)), H', ⟨by have := HK1.out; have := HJ4.out; have := HJ9.out; first | omega | exact Nat.le_refl _⟩, ⟨by (with_reducible repeat (first | apply Kd.R_alloc | apply Kd.R_drewN | apply Kd.R_drew)); exact HO_5.out⟩, ⟨bq_⟩⟩
                 ·rw [if_neg c22] at H
                  exact absurd H (by simp)
                ·rw [if_neg c21] at H
                 exact absurd H (by simp)
             ·rw [if_neg c17] at H
              have c17b0 : ((rd l0 x8_4) == 10) = false := beq_eq_false_iff_ne.mpr c17
              have c17b1 : ((rd l0 x8_4) != 10) = true := bne_iff_ne.mpr c17
              have H' := Aside0.mk H
              clear H
              have p286 : 0 ≤ (x8_4 : Int) := of_decide_eq_true as_
              have q286 : x8_4 < (l0.length : Int) := of_decide_eq_true as_
              obtain ⟨ad286, e286, hx286_0⟩ := Kd.at_int HR0.out x8_4 p286 q286
              cases e286
              replace hx286_0 := (HB.out.cell (World.block_lt_of_cell? w _ hx286_0)).trans hx286_0
              replace p286 := eq_true p286
              replace q286 := eq_true q286
              go_wp2
              go_meet
              case rel => exact ⟨_, (true), sq_, H', ⟨by have := HK1.out; have := HJ4.out; have := HJ9.out; first | omega | exact Nat.le_refl _⟩, ⟨by (with_reducible repeat (first | apply Kd.R_alloc | apply Kd.R_drewN | apply Kd.R_drew)); exact HO_5.out⟩, ⟨bq_⟩⟩
            ·rw [if_neg c16] at H
             exact absurd H (by simp)
           ·rw [if_neg c15] at H
            exact absurd H (by simp)
         case rest =>
          clear HC13
          try clear c1
          try clear c2
          try clear p2
          try clear q2
          try clear hx2
          try clear c4
          try clear c4b0
          try clear c6
          try clear c6b0
          try clear p6
          try clear c7
          try clear c7b0
          try clear c8
          try clear c8b0
          try clear c8b1
          try clear c9
          try clear c9b0
          try clear c11
          try clear c11b0
          try clear c11b1
          try clear c12
          try clear c14
          try clear c14b0
          try clear c14b1
          try clear c15
          try clear c15b0
          try clear c16
          try clear c16b0
          try clear c17
          try clear c17b0
          try clear c17b1
          try clear c18
          try clear c18b0
          try clear c19
          try clear c19b0
          try clear c19b1
          try clear c21
          try clear c21b0
          try clear c22
          try clear c22b0
          try clear hx285_0
          try clear hx286_0
          try clear hx287_0
          try clear p2
          try clear p285
          try clear p286
          try clear p287
          try clear p6
          try clear q2
          try clear q285
          try clear q286
          try clear q287
          obtain ⟨kq, x80_12, rfl, HA, HJ12, HO_5, HB⟩ := hcut
          cases kq with
          | zero => exact absurd HA.out (by simp [lanternref10_Decode.j4])
          | succ kj12 =>
           have H := HA.out
           clear HA
           simp only [lanternref10_Decode.j4] at H
           by_cases c23 : x80_12 = true
           ·subst c23
            replace H := ifT_ H
            simp only [Option.some.injEq, Prod.mk.injEq] at H
            obtain ⟨rfl, rfl, rfl⟩ := H
            go_wp2
            go_ret3
            exact ⟨_, rq_, by first | exact Kd.R_nil _ _ _ _ _ | exact Kd.N_nil _ _ _ _ _ | exact Kd.V_nil _ _ _ _ _ | exact Kd.Q_nil _ _ _ _ _ | exact Kd.S_nil _ _ _ _ _, bq_⟩
           ·replace c23 := Bool.eq_false_iff.mpr c23
            subst c23
            replace H := ifF_ H
            by_cases c24 : 0 ≤ x6_1
            ·rw [if_pos c24] at H
             have c24b0 := eq_true c24
             have c24b1 : decide (0 ≤ x6_1) = true := decide_eq_true c24
             clear c24
             by_cases c25 : x6_1 ≤ (wrap64 (x8_4 - 1))
             ·rw [if_pos c25] at H
              have c25b0 := eq_true c25
              have c25b1 : decide (x6_1 ≤ (wrap64 (x8_4 - 1))) = true := decide_eq_true c25
              clear c25
              by_cases c26 : (wrap64 (x8_4 - 1)) ≤ (l0.length : Int)
              ·rw [if_pos c26] at H
               have c26b0 := eq_true c26
               have c26b1 : decide ((wrap64 (x8_4 - 1)) ≤ (l0.length : Int)) = true := decide_eq_true c26
               clear c26
               replace H := Option.bind_eq_some_iff.mp H
               obtain ⟨t289, A270, H⟩ := H
               (try dsimp only at H)
               have A27 := Aside0.mk A270
               clear A270
               by_cases c28 : t289 < 0
               ·rw [if_pos c28] at H
                have c28b0 : decide (t289 < 0) = true := decide_eq_true c28
                clear c28
                simp only [Option.some.injEq, Prod.mk.injEq] at H
                obtain ⟨rfl, rfl, rfl⟩ := H
                obtain ⟨i029, hi029, _, hsz29, _⟩ := info_parts info5
                obtain ⟨A29, hcut29, hA29, hC29⟩ := print_mid_of (P := Tryz.prog) (Value.int .u8) 0 22 5 .i64 .i64 Tryz.underlying22 hi029 hsz29 A0 c0 l0 x6_1 (wrap64 (x8_4 - 1)) (of_decide_eq_true as_) (by first | omega | exact of_decide_eq_true as_) (of_decide_eq_true as_) HC0.out
                have HR288 := Aside0.mk (Kd.C_of_reads (h1 := fun _ => rfl) (hA29 _ (Kd.reads_of_C HR0.out)))
                have HC288 := Aside0.mk hC29
                clear hA29 hC29 hi029 hsz29
                have hcv30 := Kd.C_string (P := Tryz.prog) (A := A29) (c := (c0 - x6_1.toNat)) Tryz.underlying22 Tryz.underlying5 Tryz.underlying9 (Kd.C_below HR288.out HB.out)
                have hcv30b := hcv30
                rw [show ((l0.take ((wrap64 (x8_4 - 1)) : Int).toNat).drop (x6_1 : Int).toNat).length = ((wrap64 (x8_4 - 1)).toNat - x6_1.toNat) from (by rw [List.length_drop, List.length_take]; have h_ : ((wrap64 (x8_4 - 1)) : Int) ≤ (l0.length : Int) := of_decide_eq_true as_; omega)] at hcv30b
                go_wp2_with (first | ((with_reducible refine gate_callee (f := 94) rfl ?_); refine goesL_ (some 87) rfl rfl Tryz.func94 (by kernel_rfl) rfl #[.string (strOfNums ((l0.take ((wrap64 (x8_4 - 1)) : Int).toNat).drop (x6_1 : Int).toNat))] rfl lq_ ?_; (with_reducible refine (lanternref10_Size.calls kj12 (strOfNums ((l0.take ((wrap64 (x8_4 - 1)) : Int).toNat).drop (x6_1 : Int).toNat)) t289 _ ?side1 A27.out).mono ?_); (case side1 => exact lw_); rintro e w' ⟨rfl, ⟨nd, rfl⟩⟩; refine ⟨_, rfl, ?_⟩))
                go_ret3
                exact ⟨_, rq_, by first | exact Kd.R_nil _ _ _ _ _ | exact Kd.N_nil _ _ _ _ _ | exact Kd.V_nil _ _ _ _ _ | exact Kd.Q_nil _ _ _ _ _ | exact Kd.S_nil _ _ _ _ _, bq_⟩
               ·rw [if_neg c28] at H
                have c28b0 : decide (t289 < 0) = false := decide_eq_false c28
                clear c28
                by_cases c31 : t289 = 0
                ·rw [if_pos c31] at H
                 have c31b0 : (t289 == 0) = true := beq_iff_eq.mpr c31
                 have c31b1 : (t289 != 0) = false := bne_eq_false_iff_eq.mpr c31
                 clear c31
                 obtain ⟨ji32, hji32⟩ : ∃ j_ : Int, (wrap64 (x8_4 + 1)) = j_ := ⟨_, rfl⟩
                 replace H : (if 0 ≤ (ji32) then (if (ji32) ≤ (l0.length : Int) then ((lanternref09_Parse.f kj12 (l0.drop ((ji32) : Int).toNat)).bind fun bt291 => (if bt291.2.2 = 0 then (some (x5_1, wrap64 ((ji32) + bt291.2.1), 0)) else (some (([] : List Int), 0, bt291.2.2)))) else (none)) else (none)) = some (r1, r2, r3) := by first | (rw [hji32] at H; exact H) | (simp only [hji32] at H ⊢; exact H)
                 (try rw [hji32] at A27)
                 have hji32w : (IntKind.i64.wrap (x8_4 + 1)) = ji32 := (i64_w _).trans hji32
                 by_cases c33 : 0 ≤ (ji32)
                 ·rw [if_pos c33] at H
                  have c33b0 := eq_true c33
                  have c33b1 : decide (0 ≤ (ji32)) = true := decide_eq_true c33
                  clear c33
                  by_cases c34 : (ji32) ≤ (l0.length : Int)
                  ·rw [if_pos c34] at H
                   have c34b0 := eq_true c34
                   have c34b1 : decide ((ji32) ≤ (l0.length : Int)) = true := decide_eq_true c34
                   clear c34
                   replace H := Option.bind_eq_some_iff.mp H
                   obtain ⟨⟨t291, t292, t293⟩, A350, H⟩ := H
                   (try dsimp only at H)
                   have A35 := Aside0.mk A350
                   clear A350
                   by_cases c36 : t293 = 0
                   ·rw [if_pos c36] at H
                    have c36b0 : (t293 == 0) = true := beq_iff_eq.mpr c36
                    have c36b1 : (t293 != 0) = false := bne_eq_false_iff_eq.mpr c36
                    clear c36
                    simp only [Option.some.injEq, Prod.mk.injEq] at H
                    obtain ⟨rfl, rfl, rfl⟩ := H
                    obtain ⟨i037, hi037, _, hsz37, _⟩ := info_parts info5
                    obtain ⟨A37, hcut37, hA37, hC37⟩ := print_mid_of (P := Tryz.prog) (Value.int .u8) 0 22 5 .i64 .i64 Tryz.underlying22 hi037 hsz37 A0 c0 l0 x6_1 (wrap64 (x8_4 - 1)) (of_decide_eq_true as_) (by first | omega | exact of_decide_eq_true as_) (of_decide_eq_true as_) HC0.out
                    have HR288 := Aside0.mk (Kd.C_of_reads (h1 := fun _ => rfl) (hA37 _ (Kd.reads_of_C HR0.out)))
                    have HC288 := Aside0.mk hC37
                    clear hA37 hC37 hi037 hsz37
                    have hcv38 := Kd.C_string (P := Tryz.prog) (A := A37) (c := (c0 - x6_1.toNat)) Tryz.underlying22 Tryz.underlying5 Tryz.underlying9 (Kd.C_below HR288.out HB.out)
                    have hcv38b := hcv38
                    rw [show ((l0.take ((wrap64 (x8_4 - 1)) : Int).toNat).drop (x6_1 : Int).toNat).length = ((wrap64 (x8_4 - 1)).toNat - x6_1.toNat) from (by rw [List.length_drop, List.length_take]; have h_ : ((wrap64 (x8_4 - 1)) : Int) ≤ (l0.length : Int) := of_decide_eq_true as_; omega)] at hcv38b
                    go_wp2_with (first | ((with_reducible refine gate_callee (f := 94) rfl ?_); refine goesL_ (some 87) rfl rfl Tryz.func94 (by kernel_rfl) rfl #[.string (strOfNums ((l0.take ((wrap64 (x8_4 - 1)) : Int).toNat).drop (x6_1 : Int).toNat))] rfl lq_ ?_; (with_reducible refine (lanternref10_Size.calls kj12 (strOfNums ((l0.take ((wrap64 (x8_4 - 1)) : Int).toNat).drop (x6_1 : Int).toNat)) t289 _ ?side1 A27.out).mono ?_); (case side1 => exact lw_); rintro e w' ⟨rfl, ⟨nd, rfl⟩⟩; refine ⟨_, rfl, ?_⟩; obtain ⟨i039, hi039, _, hsz39, _⟩ := info_parts info5; obtain ⟨A39, hcut39, hA39, hC39⟩ := print_drop_of (P := Tryz.prog) (Value.int .u8) 0 22 5 .i64 Tryz.underlying22 hi039 hsz39 A0 c0 l0 (ji32) (of_decide_eq_true as_) (of_decide_eq_true as_) HC0.out; have HR290 := Aside0.mk (Kd.C_of_reads (h1 := fun _ => rfl) (hA39 _ (Kd.reads_of_C HR0.out))); have HC290 := Aside0.mk hC39; clear hA39 hC39 hi039 hsz39) | ((with_reducible refine gate_callee (f := 33) rfl ?_); refine goesL_ (some 98) rfl rfl Tryz.func33 (by kernel_rfl) rfl #[.slice A39 (l0.drop ((ji32) : Int).toNat).length (c0 - (ji32).toNat)] rfl (by (try simp only [List.map_toArray, List.map_cons, List.map_nil]); first | done | (rw [show (l0.drop ((ji32) : Int).toNat).length = (l0.length - (ji32).toNat) from List.length_drop] <;> rfl) | (simp only [hji32]; rfl) | rfl | (simp only [List.length_drop, List.length_take]; rfl)) ?_; (with_reducible refine (lanternref09_Parse.calls kj12 _ _ (l0.drop ((ji32) : Int).toNat) t291 t292 t293 _ ?side3 ?side1 ?side2 A35.out).mono ?_); (case side1 => repeat (first | exact (Kd.C_below HR290.out bq_) | (with_reducible refine Kd.C_alloc ?_ _) | (with_reducible refine Kd.C_drewN ?_ _) | (with_reducible refine Kd.C_drew ?_))); (case side2 => exact HC290.out); (case side3 => exact lw_); rintro e w40 ⟨v294, rfl, ho0, hb⟩; refine ⟨_, rfl, ?_⟩; replace HO_5 := Aside0.mk (Kd.R_below (by (with_reducible repeat (first | apply Kd.R_alloc | apply Kd.R_drewN | apply Kd.R_drew)); exact HO_5.out) hb); have HO295 := Aside0.mk (Kd.R_lower ho0 (below_size bq_)); replace HB := Aside0.mk (below_step bq_ hb); (try clear hb); (try clear hb2); (try clear hk); (try clear hi); (try clear ho0)))
                    go_ret3
                    exact ⟨_, by first | rfl | (simp [errW_none, errW_some] <;> rfl) | (simp only [← hji32]; first | rfl | (simp [errW_none, errW_some] <;> rfl)) | (simp [*, errW_none, errW_some] <;> rfl) | (simp [errW_none, errW_some]; first | exact isEmpty_bne _ | exact isEmpty_beq _ | exact (isEmpty_bne _).symm), by (with_reducible repeat (first | apply Kd.R_alloc | apply Kd.R_drewN | apply Kd.R_drew)); exact HO_5.out, bq_⟩
                   ·rw [if_neg c36] at H
                    have c36b0 : (t293 == 0) = false := beq_eq_false_iff_ne.mpr c36
                    have c36b1 : (t293 != 0) = true := bne_iff_ne.mpr c36
                    simp only [Option.some.injEq, Prod.mk.injEq] at H
                    obtain ⟨rfl, rfl, rfl⟩ := H
                    obtain ⟨i041, hi041, _, hsz41, _⟩ := info_parts info5
                    obtain ⟨A41, hcut41, hA41, hC41⟩ := print_mid_of (P := Tryz.prog) (Value.int .u8) 0 22 5 .i64 .i64 Tryz.underlying22 hi041 hsz41 A0 c0 l0 x6_1 (wrap64 (x8_4 - 1)) (of_decide_eq_true as_) (by first | omega | exact of_decide_eq_true as_) (of_decide_eq_true as_) HC0.out
                    have HR288 := Aside0.mk (Kd.C_of_reads (h1 := fun _ => rfl) (hA41 _ (Kd.reads_of_C HR0.out)))
                    have HC288 := Aside0.mk hC41
                    clear hA41 hC41 hi041 hsz41
                    have hcv42 := Kd.C_string (P := Tryz.prog) (A := A41) (c := (c0 - x6_1.toNat)) Tryz.underlying22 Tryz.underlying5 Tryz.underlying9 (Kd.C_below HR288.out HB.out)
                    have hcv42b := hcv42
                    rw [show ((l0.take ((wrap64 (x8_4 - 1)) : Int).toNat).drop (x6_1 : Int).toNat).length = ((wrap64 (x8_4 - 1)).toNat - x6_1.toNat) from (by rw [List.length_drop, List.length_take]; have h_ : ((wrap64 (x8_4 - 1)) : Int) ≤ (l0.length : Int) := of_decide_eq_true as_; omega)] at hcv42b
                    go_wp2_with (first | ((with_reducible refine gate_callee (f := 94) rfl ?_); refine goesL_ (some 87) rfl rfl Tryz.func94 (by kernel_rfl) rfl #[.string (strOfNums ((l0.take ((wrap64 (x8_4 - 1)) : Int).toNat).drop (x6_1 : Int).toNat))] rfl lq_ ?_; (with_reducible refine (lanternref10_Size.calls kj12 (strOfNums ((l0.take ((wrap64 (x8_4 - 1)) : Int).toNat).drop (x6_1 : Int).toNat)) t289 _ ?side1 A27.out).mono ?_); (case side1 => exact lw_); rintro e w' ⟨rfl, ⟨nd, rfl⟩⟩; refine ⟨_, rfl, ?_⟩; obtain ⟨i043, hi043, _, hsz43, _⟩ := info_parts info5; obtain ⟨A43, hcut43, hA43, hC43⟩ := print_drop_of (P := Tryz.prog) (Value.int .u8) 0 22 5 .i64 Tryz.underlying22 hi043 hsz43 A0 c0 l0 (ji32) (of_decide_eq_true as_) (of_decide_eq_true as_) HC0.out; have HR290 := Aside0.mk (Kd.C_of_reads (h1 := fun _ => rfl) (hA43 _ (Kd.reads_of_C HR0.out))); have HC290 := Aside0.mk hC43; clear hA43 hC43 hi043 hsz43) | ((with_reducible refine gate_callee (f := 33) rfl ?_); refine goesL_ (some 98) rfl rfl Tryz.func33 (by kernel_rfl) rfl #[.slice A43 (l0.drop ((ji32) : Int).toNat).length (c0 - (ji32).toNat)] rfl (by (try simp only [List.map_toArray, List.map_cons, List.map_nil]); first | done | (rw [show (l0.drop ((ji32) : Int).toNat).length = (l0.length - (ji32).toNat) from List.length_drop] <;> rfl) | (simp only [hji32]; rfl) | rfl | (simp only [List.length_drop, List.length_take]; rfl)) ?_; (with_reducible refine (lanternref09_Parse.calls kj12 _ _ (l0.drop ((ji32) : Int).toNat) t291 t292 t293 _ ?side3 ?side1 ?side2 A35.out).mono ?_); (case side1 => repeat (first | exact (Kd.C_below HR290.out bq_) | (with_reducible refine Kd.C_alloc ?_ _) | (with_reducible refine Kd.C_drewN ?_ _) | (with_reducible refine Kd.C_drew ?_))); (case side2 => exact HC290.out); (case side3 => exact lw_); rintro e w44 ⟨v294, rfl, ho0, hb⟩; refine ⟨_, rfl, ?_⟩; replace HO_5 := Aside0.mk (Kd.R_below (by (with_reducible repeat (first | apply Kd.R_alloc | apply Kd.R_drewN | apply Kd.R_drew)); exact HO_5.out) hb); have HO295 := Aside0.mk (Kd.R_lower ho0 (below_size bq_)); replace HB := Aside0.mk (below_step bq_ hb); (try clear hb); (try clear hb2); (try clear hk); (try clear hi); (try clear ho0)))
                    go_ret3
                    exact ⟨_, by first | rfl | (simp [errW_none, errW_some] <;> rfl) | (simp only [← hji32]; first | rfl | (simp [errW_none, errW_some] <;> rfl)) | (simp [*, errW_none, errW_some] <;> rfl) | (simp [errW_none, errW_some]; first | exact isEmpty_bne _ | exact isEmpty_beq _ | exact (isEmpty_bne _).symm), by first | exact Kd.R_nil _ _ _ _ _ | exact Kd.N_nil _ _ _ _ _ | exact Kd.V_nil _ _ _ _ _ | exact Kd.Q_nil _ _ _ _ _ | exact Kd.S_nil _ _ _ _ _, bq_⟩
                  ·rw [if_neg c34] at H
                   exact absurd H (by simp)
                 ·rw [if_neg c33] at H
                  exact absurd H (by simp)
                ·rw [if_neg c31] at H
                 have c31b0 : (t289 == 0) = false := beq_eq_false_iff_ne.mpr c31
                 have c31b1 : (t289 != 0) = true := bne_iff_ne.mpr c31
                 by_cases c45 : (wrap64 ((x5_1.length : Int) + t289)) > 32768
                 ·rw [if_pos c45] at H
                  have c45b0 : decide (32768 < (wrap64 ((x5_1.length : Int) + t289))) = true := decide_eq_true c45
                  clear c45
                  simp only [Option.some.injEq, Prod.mk.injEq] at H
                  obtain ⟨rfl, rfl, rfl⟩ := H
                  obtain ⟨i046, hi046, _, hsz46, _⟩ := info_parts info5
                  obtain ⟨A46, hcut46, hA46, hC46⟩ := print_mid_of (P := Tryz.prog) (Value.int .u8) 0 22 5 .i64 .i64 Tryz.underlying22 hi046 hsz46 A0 c0 l0 x6_1 (wrap64 (x8_4 - 1)) (of_decide_eq_true as_) (by first | omega | exact of_decide_eq_true as_) (of_decide_eq_true as_) HC0.out
                  have HR288 := Aside0.mk (Kd.C_of_reads (h1 := fun _ => rfl) (hA46 _ (Kd.reads_of_C HR0.out)))
                  have HC288 := Aside0.mk hC46
                  clear hA46 hC46 hi046 hsz46
                  have hcv47 := Kd.C_string (P := Tryz.prog) (A := A46) (c := (c0 - x6_1.toNat)) Tryz.underlying22 Tryz.underlying5 Tryz.underlying9 (Kd.C_below HR288.out HB.out)
                  have hcv47b := hcv47
                  rw [show ((l0.take ((wrap64 (x8_4 - 1)) : Int).toNat).drop (x6_1 : Int).toNat).length = ((wrap64 (x8_4 - 1)).toNat - x6_1.toNat) from (by rw [List.length_drop, List.length_take]; have h_ : ((wrap64 (x8_4 - 1)) : Int) ≤ (l0.length : Int) := of_decide_eq_true as_; omega)] at hcv47b
                  go_wp2_with (first | ((with_reducible refine gate_callee (f := 94) rfl ?_); refine goesL_ (some 87) rfl rfl Tryz.func94 (by kernel_rfl) rfl #[.string (strOfNums ((l0.take ((wrap64 (x8_4 - 1)) : Int).toNat).drop (x6_1 : Int).toNat))] rfl lq_ ?_; (with_reducible refine (lanternref10_Size.calls kj12 (strOfNums ((l0.take ((wrap64 (x8_4 - 1)) : Int).toNat).drop (x6_1 : Int).toNat)) t289 _ ?side1 A27.out).mono ?_); (case side1 => exact lw_); rintro e w' ⟨rfl, ⟨nd, rfl⟩⟩; refine ⟨_, rfl, ?_⟩; obtain ⟨Ao48, co48, eo48⟩ := Kd.R_slice HO_5.out; subst eo48))
                  go_ret3
                  exact ⟨_, rq_, by first | exact Kd.R_nil _ _ _ _ _ | exact Kd.N_nil _ _ _ _ _ | exact Kd.V_nil _ _ _ _ _ | exact Kd.Q_nil _ _ _ _ _ | exact Kd.S_nil _ _ _ _ _, bq_⟩
                 ·rw [if_neg c45] at H
                  have c45b0 : decide (32768 < (wrap64 ((x5_1.length : Int) + t289))) = false := decide_eq_false c45
                  clear c45
                  have H' := Aside0.mk H
                  clear H
                  obtain ⟨i049, hi049, _, hsz49, _⟩ := info_parts info5
                  obtain ⟨A49, hcut49, hA49, hC49⟩ := print_mid_of (P := Tryz.prog) (Value.int .u8) 0 22 5 .i64 .i64 Tryz.underlying22 hi049 hsz49 A0 c0 l0 x6_1 (wrap64 (x8_4 - 1)) (of_decide_eq_true as_) (by first | omega | exact of_decide_eq_true as_) (of_decide_eq_true as_) HC0.out
                  have HR288 := Aside0.mk (Kd.C_of_reads (h1 := fun _ => rfl) (hA49 _ (Kd.reads_of_C HR0.out)))
                  have HC288 := Aside0.mk hC49
                  clear hA49 hC49 hi049 hsz49
                  have hcv50 := Kd.C_string (P := Tryz.prog) (A := A49) (c := (c0 - x6_1.toNat)) Tryz.underlying22 Tryz.underlying5 Tryz.underlying9 (Kd.C_below HR288.out HB.out)
                  have hcv50b := hcv50
                  rw [show ((l0.take ((wrap64 (x8_4 - 1)) : Int).toNat).drop (x6_1 : Int).toNat).length = ((wrap64 (x8_4 - 1)).toNat - x6_1.toNat) from (by rw [List.length_drop, List.length_take]; have h_ : ((wrap64 (x8_4 - 1)) : Int) ≤ (l0.length : Int) := of_decide_eq_true as_; omega)] at hcv50b
                  go_wp2_with (first | ((with_reducible refine gate_callee (f := 94) rfl ?_); refine goesL_ (some 87) rfl rfl Tryz.func94 (by kernel_rfl) rfl #[.string (strOfNums ((l0.take ((wrap64 (x8_4 - 1)) : Int).toNat).drop (x6_1 : Int).toNat))] rfl lq_ ?_; (with_reducible refine (lanternref10_Size.calls kj12 (strOfNums ((l0.take ((wrap64 (x8_4 - 1)) : Int).toNat).drop (x6_1 : Int).toNat)) t289 _ ?side1 A27.out).mono ?_); (case side1 => exact lw_); rintro e w' ⟨rfl, ⟨nd, rfl⟩⟩; refine ⟨_, rfl, ?_⟩; obtain ⟨Ao51, co51, eo51⟩ := Kd.R_slice HO_5.out; subst eo51))
                  go_loopg [5, 13] kj12 (fun kq v5 v13 w' => ∃ (x5_5 : List Int) (x13_5 : Int), v13 = .int .i64 x13_5 ∧ Aside0 (lanternref10_Decode.l2 kq l0 x5_5 (wrap64 (x8_4 + 1)) x7_1 t289 x13_5 = some (r1, r2, r3)) ∧ Aside0 (kq ≤ kj12) ∧ Aside0 (Kd.R (Kd.int .u8) 5 w' w.heap.size (fun _ => True) v5 x5_5) ∧ Aside0 (Below w.heap.size w w'))
                  case atStart => exact ⟨(x5_1), (0), sq_, H', ⟨Nat.le_refl _⟩, ⟨by (with_reducible repeat (first | apply Kd.R_alloc | apply Kd.R_drewN | apply Kd.R_drew)); exact HO_5.out⟩, ⟨bq_⟩⟩
                  case round =>
                   clear H'
                   try clear c1
                   try clear c2
                   try clear p2
                   try clear q2
                   try clear hx2
                   try clear c3
                   try clear hcv3
                   try clear c4
                   try clear c4b0
                   try clear hcv4
                   try clear hcv5
                   try clear c6
                   try clear c6b0
                   try clear p6
                   try clear c7
                   try clear c7b0
                   try clear c8
                   try clear c8b0
                   try clear c8b1
                   try clear c9
                   try clear c9b0
                   try clear c11
                   try clear c11b0
                   try clear c11b1
                   try clear c12
                   try clear c14
                   try clear c14b0
                   try clear c14b1
                   try clear c15
                   try clear c15b0
                   try clear c16
                   try clear c16b0
                   try clear c17
                   try clear c17b0
                   try clear c17b1
                   try clear c18
                   try clear c18b0
                   try clear c19
                   try clear c19b0
                   try clear c19b1
                   try clear c21
                   try clear c21b0
                   try clear c22
                   try clear c22b0
                   try clear c23
                   try clear c24
                   try clear c24b0
                   try clear c24b1
                   try clear c25
                   try clear c25b0
                   try clear c25b1
                   try clear c26
                   try clear c26b0
                   try clear c26b1
                   try clear c28
                   try clear c28b0
                   try clear p28
                   try clear q28
                   try clear hx28
                   try clear hcv30
                   try clear c31
                   try clear c31b0
                   try clear c31b1
                   try clear c33
                   try clear c33b0
                   try clear c33b1
                   try clear c34
                   try clear c34b0
                   try clear c34b1
                   try clear c36
                   try clear c36b0
                   try clear c36b1
                   try clear hcv38
                   try clear hcv42
                   try clear c45
                   try clear c45b0
                   try clear hcv47
                   try clear hcv50
                   try clear hx285_0
                   try clear hx286_0
                   try clear hx287_0
                   try clear p2
                   try clear p285
                   try clear p286
                   try clear p287
                   try clear p6
                   try clear q2
                   try clear q285
                   try clear q286
                   try clear q287
                   obtain ⟨x5_5, x13_5, rfl, HA, HK5, HO_5, HB⟩ := hrel
                   cases gk with
                   | zero => exact absurd HA.out (by simp [lanternref10_Decode.l2])
                   | succ k5 =>
                    have H := HA.out
                    clear HA
                    simp only [lanternref10_Decode.l2] at H
                    by_cases c52 : x13_5 < (wrap64 (t289 + 2))
                    ·rw [if_pos c52] at H
                     have c52b0 : decide (x13_5 < (wrap64 (t289 + 2))) = true := decide_eq_true c52
                     clear c52
                     by_cases c53 : (wrap64 ((wrap64 (x8_4 + 1)) + x13_5)) ≥ (l0.length : Int)
                     ·rw [if_pos c53] at H
                      have c53b0 : decide ((l0.length : Int) ≤ (wrap64 ((wrap64 (x8_4 + 1)) + x13_5))) = true := decide_eq_true c53
                      clear c53
                      simp only [Option.some.injEq, Prod.mk.injEq] at H
                      obtain ⟨rfl, rfl, rfl⟩ := H
                      go_wp2
                      go_ret3
                      exact ⟨_, rq_, by first | exact Kd.R_nil _ _ _ _ _ | exact Kd.N_nil _ _ _ _ _ | exact Kd.V_nil _ _ _ _ _ | exact Kd.Q_nil _ _ _ _ _ | exact Kd.S_nil _ _ _ _ _, bq_⟩
                     ·rw [if_neg c53] at H
                      have c53b0 : decide ((l0.length : Int) ≤ (wrap64 ((wrap64 (x8_4 + 1)) + x13_5))) = false := decide_eq_false c53
                      clear c53
                      by_cases c54 : x13_5 < t289
                      ·rw [if_pos c54] at H
                       have c54b0 : decide (x13_5 < t289) = true := decide_eq_true c54
                       clear c54
                       obtain ⟨ji55, hji55⟩ : ∃ j_ : Int, (wrap64 ((wrap64 (x8_4 + 1)) + x13_5)) = j_ := ⟨_, rfl⟩
                       replace H : (if 0 ≤ (ji55) then (if (ji55) < (l0.length : Int) then (if x5_5.length < 140737488355328 then (lanternref10_Decode.l2 k5 l0 (x5_5 ++ [rd l0 (ji55)]) (wrap64 (x8_4 + 1)) x7_1 t289 (wrap64 (x13_5 + 1))) else (none)) else (none)) else (none)) = some (r1, r2, r3) := by first | (rw [hji55] at H; exact H) | (simp only [hji55] at H ⊢; exact H)
                       (try rw [hji55] at c53b0)
                       have hji55w : (IntKind.i64.wrap ((wrap64 (x8_4 + 1)) + x13_5)) = ji55 := (i64_w _).trans hji55
                       by_cases c56 : 0 ≤ (ji55)
                       ·rw [if_pos c56] at H
                        have c56b0 : decide (0 ≤ (ji55)) = true := decide_eq_true c56
                        clear c56
                        by_cases c57 : (ji55) < (l0.length : Int)
                        ·rw [if_pos c57] at H
                         have c57b0 : decide ((ji55) < (l0.length : Int)) = true := decide_eq_true c57
                         clear c57
                         by_cases c58 : x5_5.length < 140737488355328
                         ·rw [if_pos c58] at H
                          have LMc58 := Aside0.mk c58
                          clear c58
                          obtain ⟨y297, hy297⟩ : ∃ y_ : List Int, y_ = (x5_5 ++ [rd l0 (ji55)]) := ⟨_, rfl⟩
                          replace H : (lanternref10_Decode.l2 k5 l0 y297 (wrap64 (x8_4 + 1)) x7_1 t289 (wrap64 (x13_5 + 1))) = some (r1, r2, r3) := by first | (rw [hy297]; with_reducible exact H) | (have H2_ := (Option.bind_some _ _).symm.trans H; rw [hy297]; with_reducible exact H2_) | (have H2_ := (Option.bind_some _ _).symm.trans H; with_reducible exact H2_) | with_reducible exact H | (rw [hy297]; exact H) | exact H
                          have Ny297 := Aside0.mk hy297
                          clear hy297
                          have H' := Aside0.mk H
                          clear H
                          have p296 : 0 ≤ ((ji55) : Int) := of_decide_eq_true as_
                          have q296 : (ji55) < (l0.length : Int) := of_decide_eq_true as_
                          obtain ⟨ad296, e296, hx296_0⟩ := Kd.at_int HR0.out (ji55) p296 q296
                          cases e296
                          replace hx296_0 := (HB.out.cell (World.block_lt_of_cell? w _ hx296_0)).trans hx296_0
                          replace p296 := eq_true p296
                          replace q296 := eq_true q296
                          go_wp2_with (first | ((with_reducible refine gate_builtin (b := .append) (xs := #[.tmp 129, .tmp 136]) rfl ?_); at_builtin; refine Kd.R_append (Kd.int .u8) (w0 := w) w.heap.size rfl (.tmp 129) (.tmp 136) 22 5 (.int .u8 0) 1 rfl Tryz.underlying22 info5 rfl (by decide) (by omega) u5 x5_5 (rd l0 (ji55)) [.int .u8 (rd l0 (ji55))] (fun _ => True) (fun _ => False) rfl rfl ?aP (fun _ hk => hk.elim) ?aF ?aO ?aB ?aS ?aL ?_; (case aP => exact rfl); (case aB => exact bq_); (case aF => exact (fun _ _ => trivial)); (case aO => exact (by (with_reducible repeat (first | apply Kd.R_alloc | apply Kd.R_drewN | apply Kd.R_drew)); exact HO_5.out)); (case aS => exact (below_size bq_)); (case aL => have := LMc58.out; omega); intro v298 w59 ho hb hg hat; rw [← Ny297.out] at ho; have HO299 := Aside0.mk (ho); replace HB := Aside0.mk (hb); clear HO_5; clear ho hb hg hat))
                          go_roundg k5
                          case measure => have := HK1.out; have := HJ4.out; have := HJ9.out; have := HJ12.out; have := HK5.out; omega
                          case rel => exact ⟨(y297), (wrap64 (x13_5 + 1)), sq_, H', ⟨by have := HK1.out; have := HJ4.out; have := HJ9.out; have := HJ12.out; have := HK5.out; omega⟩, ⟨by (with_reducible repeat (first | apply Kd.R_alloc | apply Kd.R_drewN | apply Kd.R_drew)); exact HO299.out⟩, ⟨bq_⟩⟩
                         ·rw [if_neg c58] at H
                          exact absurd H (by simp)
                        ·rw [if_neg c57] at H
                         exact absurd H (by simp)
                       ·rw [if_neg c56] at H
                        exact absurd H (by simp)
                      ·rw [if_neg c54] at H
                       have c54b0 : decide (x13_5 < t289) = false := decide_eq_false c54
                       clear c54
                       by_cases c60 : x13_5 = t289
                       ·rw [if_pos c60] at H
                        have c60b0 : (x13_5 == t289) = true := beq_iff_eq.mpr c60
                        have c60b1 : (x13_5 != t289) = false := bne_eq_false_iff_eq.mpr c60
                        clear c60
                        obtain ⟨ji61, hji61⟩ : ∃ j_ : Int, (wrap64 ((wrap64 (x8_4 + 1)) + x13_5)) = j_ := ⟨_, rfl⟩
                        replace H : (if 0 ≤ (ji61) then (if (ji61) < (l0.length : Int) then (if (rd l0 (ji61)) = 13 then (if x13_5 = (wrap64 (t289 + 1)) then (if (rd l0 (ji61)) = 10 then (lanternref10_Decode.l2 k5 l0 x5_5 (wrap64 (x8_4 + 1)) x7_1 t289 (wrap64 (x13_5 + 1))) else (some (([] : List Int), 0, 5))) else (lanternref10_Decode.l2 k5 l0 x5_5 (wrap64 (x8_4 + 1)) x7_1 t289 (wrap64 (x13_5 + 1)))) else (some (([] : List Int), 0, 5))) else (none)) else (none)) = some (r1, r2, r3) := by first | (rw [hji61] at H; exact H) | (simp only [hji61] at H ⊢; exact H)
                        (try rw [hji61] at c53b0)
                        have hji61w : (IntKind.i64.wrap ((wrap64 (x8_4 + 1)) + x13_5)) = ji61 := (i64_w _).trans hji61
                        by_cases c62 : 0 ≤ (ji61)
                        ·rw [if_pos c62] at H
                         have c62b0 : decide (0 ≤ (ji61)) = true := decide_eq_true c62
                         clear c62
                         by_cases c63 : (ji61) < (l0.length : Int)
                         ·rw [if_pos c63] at H
                          have c63b0 : decide ((ji61) < (l0.length : Int)) = true := decide_eq_true c63
                          clear c63
                          by_cases c64 : (rd l0 (ji61)) = 13
                          ·rw [if_pos c64] at H
                           have c64b0 : ((rd l0 (ji61)) == 13) = true := beq_iff_eq.mpr c64
                           have c64b1 : ((rd l0 (ji61)) != 13) = false := bne_eq_false_iff_eq.mpr c64
                           clear c64
                           by_cases c65 : x13_5 = (wrap64 (t289 + 1))
                           ·rw [if_pos c65] at H
                            have c65b0 : (x13_5 == (wrap64 (t289 + 1))) = true := beq_iff_eq.mpr c65
                            have c65b1 : (x13_5 != (wrap64 (t289 + 1))) = false := bne_eq_false_iff_eq.mpr c65
                            clear c65
                            by_cases c66 : (rd l0 (ji61)) = 10
                            ·rw [if_pos c66] at H
                             have c66b0 : ((rd l0 (ji61)) == 10) = true := beq_iff_eq.mpr c66
                             have c66b1 : ((rd l0 (ji61)) != 10) = false := bne_eq_false_iff_eq.mpr c66
                             clear c66
                             have H' := Aside0.mk H
                             clear H
                             have p300 : 0 ≤ ((ji61) : Int) := of_decide_eq_true as_
                             have q300 : (ji61) < (l0.length : Int) := of_decide_eq_true as_
                             obtain ⟨ad300, e300, hx300_0⟩ := Kd.at_int HR0.out (ji61) p300 q300
                             cases e300
                             replace hx300_0 := (HB.out.cell (World.block_lt_of_cell? w _ hx300_0)).trans hx300_0
                             replace p300 := eq_true p300
                             replace q300 := eq_true q300
                             have p301 : 0 ≤ ((ji61) : Int) := of_decide_eq_true as_
                             have q301 : (ji61) < (l0.length : Int) := of_decide_eq_true as_
                             obtain ⟨ad301, e301, hx301_0⟩ := Kd.at_int HR0.out (ji61) p301 q301
                             obtain rfl : ad300 = ad301 := (by injection e301)
                             replace hx301_0 := (HB.out.cell (World.block_lt_of_cell? w _ hx301_0)).trans hx301_0
                             replace p301 := eq_true p301
                             replace q301 := eq_true q301
                             go_wp2
                             go_roundg k5
                             case measure => have := HK1.out; have := HJ4.out; have := HJ9.out; have := HJ12.out; have := HK5.out; omega
                             case rel => exact ⟨(x5_5), (wrap64 (x13_5 + 1)), sq_, H', ⟨by have := HK1.out; have := HJ4.out; have := HJ9.out; have := HJ12.out; have := HK5.out; omega⟩, ⟨by (with_reducible repeat (first | apply Kd.R_alloc | apply Kd.R_drewN | apply Kd.R_drew)); exact HO_5.out⟩, ⟨bq_⟩⟩
                            ·rw [if_neg c66] at H
                             have c66b0 : ((rd l0 (ji61)) == 10) = false := beq_eq_false_iff_ne.mpr c66
                             have c66b1 : ((rd l0 (ji61)) != 10) = true := bne_iff_ne.mpr c66
                             simp only [Option.some.injEq, Prod.mk.injEq] at H
                             obtain ⟨rfl, rfl, rfl⟩ := H
                             have p300 : 0 ≤ ((ji61) : Int) := of_decide_eq_true as_
                             have q300 : (ji61) < (l0.length : Int) := of_decide_eq_true as_
                             obtain ⟨ad300, e300, hx300_0⟩ := Kd.at_int HR0.out (ji61) p300 q300
                             cases e300
                             replace hx300_0 := (HB.out.cell (World.block_lt_of_cell? w _ hx300_0)).trans hx300_0
                             replace p300 := eq_true p300
                             replace q300 := eq_true q300
                             have p301 : 0 ≤ ((ji61) : Int) := of_decide_eq_true as_
                             have q301 : (ji61) < (l0.length : Int) := of_decide_eq_true as_
                             obtain ⟨ad301, e301, hx301_0⟩ := Kd.at_int HR0.out (ji61) p301 q301
                             obtain rfl : ad300 = ad301 := (by injection e301)
                             replace hx301_0 := (HB.out.cell (World.block_lt_of_cell? w _ hx301_0)).trans hx301_0
                             replace p301 := eq_true p301
                             replace q301 := eq_true q301
                             go_wp2
                             go_ret3
                             exact ⟨_, by first | rfl | (simp [errW_none, errW_some] <;> rfl) | (simp only [← hji61]; first | rfl | (simp [errW_none, errW_some] <;> rfl)) | (simp [*, errW_none, errW_some] <;> rfl) | (simp [errW_none, errW_some]; first | exact isEmpty_bne _ | exact isEmpty_beq _ | exact (isEmpty_bne _).symm), by first | exact Kd.R_nil _ _ _ _ _ | exact Kd.N_nil _ _ _ _ _ | exact Kd.V_nil _ _ _ _ _ | exact Kd.Q_nil _ _ _ _ _ | exact Kd.S_nil _ _ _ _ _, bq_⟩
                           ·rw [if_neg c65] at H
                            have c65b0 : (x13_5 == (wrap64 (t289 + 1))) = false := beq_eq_false_iff_ne.mpr c65
                            have c65b1 : (x13_5 != (wrap64 (t289 + 1))) = true := bne_iff_ne.mpr c65
                            have H' := Aside0.mk H
                            clear H
                            have p300 : 0 ≤ ((ji61) : Int) := of_decide_eq_true as_
                            have q300 : (ji61) < (l0.length : Int) := of_decide_eq_true as_
                            obtain ⟨ad300, e300, hx300_0⟩ := Kd.at_int HR0.out (ji61) p300 q300
                            cases e300
                            replace hx300_0 := (HB.out.cell (World.block_lt_of_cell? w _ hx300_0)).trans hx300_0
                            replace p300 := eq_true p300
                            replace q300 := eq_true q300
                            go_wp2
                            go_roundg k5
                            case measure => have := HK1.out; have := HJ4.out; have := HJ9.out; have := HJ12.out; have := HK5.out; omega
                            case rel => exact ⟨(x5_5), (wrap64 (x13_5 + 1)), sq_, H', ⟨by have := HK1.out; have := HJ4.out; have := HJ9.out; have := HJ12.out; have := HK5.out; omega⟩, ⟨by (with_reducible repeat (first | apply Kd.R_alloc | apply Kd.R_drewN | apply Kd.R_drew)); exact HO_5.out⟩, ⟨bq_⟩⟩
                          ·rw [if_neg c64] at H
                           have c64b0 : ((rd l0 (ji61)) == 13) = false := beq_eq_false_iff_ne.mpr c64
                           have c64b1 : ((rd l0 (ji61)) != 13) = true := bne_iff_ne.mpr c64
                           simp only [Option.some.injEq, Prod.mk.injEq] at H
                           obtain ⟨rfl, rfl, rfl⟩ := H
                           have p300 : 0 ≤ ((ji61) : Int) := of_decide_eq_true as_
                           have q300 : (ji61) < (l0.length : Int) := of_decide_eq_true as_
                           obtain ⟨ad300, e300, hx300_0⟩ := Kd.at_int HR0.out (ji61) p300 q300
                           cases e300
                           replace hx300_0 := (HB.out.cell (World.block_lt_of_cell? w _ hx300_0)).trans hx300_0
                           replace p300 := eq_true p300
                           replace q300 := eq_true q300
                           go_wp2
                           go_ret3
                           exact ⟨_, by first | rfl | (simp [errW_none, errW_some] <;> rfl) | (simp only [← hji61]; first | rfl | (simp [errW_none, errW_some] <;> rfl)) | (simp [*, errW_none, errW_some] <;> rfl) | (simp [errW_none, errW_some]; first | exact isEmpty_bne _ | exact isEmpty_beq _ | exact (isEmpty_bne _).symm), by first | exact Kd.R_nil _ _ _ _ _ | exact Kd.N_nil _ _ _ _ _ | exact Kd.V_nil _ _ _ _ _ | exact Kd.Q_nil _ _ _ _ _ | exact Kd.S_nil _ _ _ _ _, bq_⟩
                         ·rw [if_neg c63] at H
                          exact absurd H (by simp)
                        ·rw [if_neg c62] at H
                         exact absurd H (by simp)
                       ·rw [if_neg c60] at H
                        have c60b0 : (x13_5 == t289) = false := beq_eq_false_iff_ne.mpr c60
                        have c60b1 : (x13_5 != t289) = true := bne_iff_ne.mpr c60
                        by_cases c67 : x13_5 = (wrap64 (t289 + 1))
                        ·rw [if_pos c67] at H
                         have c67b0 : (x13_5 == (wrap64 (t289 + 1))) = true := beq_iff_eq.mpr c67
                         have c67b1 : (x13_5 != (wrap64 (t289 + 1))) = false := bne_eq_false_iff_eq.mpr c67
                         clear c67
                         obtain ⟨ji68, hji68⟩ : ∃ j_ : Int, (wrap64 ((wrap64 (x8_4 + 1)) + x13_5)) = j_ := ⟨_, rfl⟩
                         replace H : (if 0 ≤ (ji68) then (if (ji68) < (l0.length : Int) then (if (rd l0 (ji68)) = 10 then (lanternref10_Decode.l2 k5 l0 x5_5 (wrap64 (x8_4 + 1)) x7_1 t289 (wrap64 (x13_5 + 1))) else (some (([] : List Int), 0, 5))) else (none)) else (none)) = some (r1, r2, r3) := by first | (rw [hji68] at H; exact H) | (simp only [hji68] at H ⊢; exact H)
                         (try rw [hji68] at c53b0)
                         have hji68w : (IntKind.i64.wrap ((wrap64 (x8_4 + 1)) + x13_5)) = ji68 := (i64_w _).trans hji68
                         by_cases c69 : 0 ≤ (ji68)
                         ·rw [if_pos c69] at H
                          have c69b0 : decide (0 ≤ (ji68)) = true := decide_eq_true c69
                          clear c69
                          by_cases c70 : (ji68) < (l0.length : Int)
                          ·rw [if_pos c70] at H
                           have c70b0 : decide ((ji68) < (l0.length : Int)) = true := decide_eq_true c70
                           clear c70
                           by_cases c71 : (rd l0 (ji68)) = 10
                           ·rw [if_pos c71] at H
                            have c71b0 : ((rd l0 (ji68)) == 10) = true := beq_iff_eq.mpr c71
                            have c71b1 : ((rd l0 (ji68)) != 10) = false := bne_eq_false_iff_eq.mpr c71
                            clear c71
                            have H' := Aside0.mk H
                            clear H
                            have p302 : 0 ≤ ((ji68) : Int) := of_decide_eq_true as_
                            have q302 : (ji68) < (l0.length : Int) := of_decide_eq_true as_
                            obtain ⟨ad302, e302, hx302_0⟩ := Kd.at_int HR0.out (ji68) p302 q302
                            cases e302
                            replace hx302_0 := (HB.out.cell (World.block_lt_of_cell? w _ hx302_0)).trans hx302_0
                            replace p302 := eq_true p302
                            replace q302 := eq_true q302
                            go_wp2
                            go_roundg k5
                            case measure => have := HK1.out; have := HJ4.out; have := HJ9.out; have := HJ12.out; have := HK5.out; omega
                            case rel => exact ⟨(x5_5), (wrap64 (x13_5 + 1)), sq_, H', ⟨by have := HK1.out; have := HJ4.out; have := HJ9.out; have := HJ12.out; have := HK5.out; omega⟩, ⟨by (with_reducible repeat (first | apply Kd.R_alloc | apply Kd.R_drewN | apply Kd.R_drew)); exact HO_5.out⟩, ⟨bq_⟩⟩
                           ·rw [if_neg c71] at H
                            have c71b0 : ((rd l0 (ji68)) == 10) = false := beq_eq_false_iff_ne.mpr c71
                            have c71b1 : ((rd l0 (ji68)) != 10) = true := bne_iff_ne.mpr c71
                            simp only [Option.some.injEq, Prod.mk.injEq] at H
                            obtain ⟨rfl, rfl, rfl⟩ := H
                            have p302 : 0 ≤ ((ji68) : Int) := of_decide_eq_true as_
                            have q302 : (ji68) < (l0.length : Int) := of_decide_eq_true as_
                            obtain ⟨ad302, e302, hx302_0⟩ := Kd.at_int HR0.out (ji68) p302 q302
                            cases e302
                            replace hx302_0 := (HB.out.cell (World.block_lt_of_cell? w _ hx302_0)).trans hx302_0
                            replace p302 := eq_true p302
                            replace q302 := eq_true q302
                            go_wp2
                            go_ret3
                            exact ⟨_, by first | rfl | (simp [errW_none, errW_some] <;> rfl) | (simp only [← hji68]; first | rfl | (simp [errW_none, errW_some] <;> rfl)) | (simp [*, errW_none, errW_some] <;> rfl) | (simp [errW_none, errW_some]; first | exact isEmpty_bne _ | exact isEmpty_beq _ | exact (isEmpty_bne _).symm), by first | exact Kd.R_nil _ _ _ _ _ | exact Kd.N_nil _ _ _ _ _ | exact Kd.V_nil _ _ _ _ _ | exact Kd.Q_nil _ _ _ _ _ | exact Kd.S_nil _ _ _ _ _, bq_⟩
                          ·rw [if_neg c70] at H
                           exact absurd H (by simp)
                         ·rw [if_neg c69] at H
                          exact absurd H (by simp)
                        ·rw [if_neg c67] at H
                         have c67b0 : (x13_5 == (wrap64 (t289 + 1))) = false := beq_eq_false_iff_ne.mpr c67
                         have c67b1 : (x13_5 != (wrap64 (t289 + 1))) = true := bne_iff_ne.mpr c67
                         have H' := Aside0.mk H
                         clear H
                         go_wp2
                         go_roundg k5
                         case measure => have := HK1.out; have := HJ4.out; have := HJ9.out; have := HJ12.out; have := HK5.out; omega
                         case rel => exact ⟨(x5_5), (wrap64 (x13_5 + 1)), sq_, H', ⟨by have := HK1.out; have := HJ4.out; have := HJ9.out; have := HJ12.out; have := HK5.out; omega⟩, ⟨by (with_reducible repeat (first | apply Kd.R_alloc | apply Kd.R_drewN | apply Kd.R_drew)); exact HO_5.out⟩, ⟨bq_⟩⟩
                    ·rw [if_neg c52] at H
                     have c52b0 : decide (x13_5 < (wrap64 (t289 + 2))) = false := decide_eq_false c52
                     clear c52
                     have H' := Aside0.mk H
                     clear H
                     go_wp2
                     go_roundg k5
                     case measure => have := HK1.out; have := HJ4.out; have := HJ9.out; have := HJ12.out; have := HK5.out; omega
                     case rel => exact ⟨(x5_5), (wrap64 ((wrap64 ((wrap64 (x8_4 + 1)) + t289)) + 2)), (wrap64 (x7_1 + 1)), sq_, sq_, H', ⟨by have := HK1.out; have := HJ4.out; have := HJ9.out; have := HJ12.out; have := HK5.out; omega⟩, ⟨by (with_reducible repeat (first | apply Kd.R_alloc | apply Kd.R_drewN | apply Kd.R_drew)); exact HO_5.out⟩, ⟨bq_⟩⟩
              ·rw [if_neg c26] at H
               exact absurd H (by simp)
             ·rw [if_neg c25] at H
              exact absurd H (by simp)
            ·rw [if_neg c24] at H
             exact absurd H (by simp)
   ·rw [if_neg c4] at H
    have c4b0 : decide (x7_1 ≤ (l0.length : Int)) = false := decide_eq_false c4
    clear c4
    simp only [Option.some.injEq, Prod.mk.injEq] at H
    obtain ⟨rfl, rfl, rfl⟩ := H
    go_wp2
    go_ret3
    exact ⟨_, rq_, by first | exact Kd.R_nil _ _ _ _ _ | exact Kd.N_nil _ _ _ _ _ | exact Kd.V_nil _ _ _ _ _ | exact Kd.Q_nil _ _ _ _ _ | exact Kd.S_nil _ _ _ _ _, bq_⟩

end Go.Proofs.YtipleegkonhfcaaGreatDoor.P
