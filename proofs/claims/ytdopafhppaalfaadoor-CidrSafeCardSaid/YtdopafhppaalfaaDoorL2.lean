-- Written by a program of this session (wip/gen/lprint.py over the kit's print.py) out of the translation. Lean checks it.
import Derived.Test.YtdopafhppaalfaaDoorL0
import Derived.Test.YtdopafhppaalfaaDoorRL
import Derived.Test.YtdopafhppaalfaaDoorL1
import Derived.Test.YtdopafhppaalfaaDoorP10
import Derived.Test.YtdopafhppaalfaaDoorZ
namespace Go.Proofs.YtdopafhppaalfaaDoor.L
open Go.Proofs.YtdopafhppaalfaaDoorZ
open Go.Proofs.YtdopafhppaalfaaDoor.E Go.Proofs.YtdopafhppaalfaaDoorV
open Go.Proofs.YtdopafhppaalfaaDoor.P
open Go.Proofs.YtdopafhppaalfaaDoor.G
open Go.RowKit Go.Proofs.YtdopafhppaalfaaDoorW.PrintWords Go.Proofs.YtdopafhppaalfaaDoorW.PrintLast Go.Proofs.YtdopafhppaalfaaDoorW.PrintMore
attribute [local go_sem] max2_int min2_int max_two min_two max_three min_three max_four min_four   -- for this text's walks alone
set_option linter.unusedVariables false
set_option linter.unusedSimpArgs false

def lanternlaw06_CidrSafe.l0 : Nat → List (S34) → Int → Bool → Int → Int → Int → Int → Int → Int → Int → Int → Int → Int → Int → Int → Int → Int → Int → Int → Option (Bool)
 | 0, _, _, _, _, _, _, _, _, _, _, _, _, _, _, _, _, _, _, _ => none
 | k + 1, x3, x4, x145000, x145001, x145002, x145003, x145004, x145005, x145006, x145007, x145008, x145009, x145010, x145011, x145012, x145013, x145014, x145015, x145016 => if x4 < (x3.length : Int) then (if 0 ≤ x4 then ((cidr_Has.f ((rd_T34 x3 x4).f0.f0) ((rd_T34 x3 x4).f0.f1.f0) ((rd_T34 x3 x4).f0.f1.f1) ((rd_T34 x3 x4).f0.f1.f2) ((rd_T34 x3 x4).f0.f1.f3) ((rd_T34 x3 x4).f0.f1.f4) ((rd_T34 x3 x4).f0.f1.f5) ((rd_T34 x3 x4).f0.f1.f6) ((rd_T34 x3 x4).f0.f1.f7) ((rd_T34 x3 x4).f0.f1.f8) ((rd_T34 x3 x4).f0.f1.f9) ((rd_T34 x3 x4).f0.f1.f10) ((rd_T34 x3 x4).f0.f1.f11) ((rd_T34 x3 x4).f0.f1.f12) ((rd_T34 x3 x4).f0.f1.f13) ((rd_T34 x3 x4).f0.f1.f14) ((rd_T34 x3 x4).f0.f1.f15) ((rd_T34 x3 x4).f1) x145000 x145001 x145002 x145003 x145004 x145005 x145006 x145007 x145008 x145009 x145010 x145011 x145012 x145013 x145014 x145015 x145016).bind fun t152 => (if t152 = true then (none) else ((lanternref05_Embeds.f k x145000 x145001 x145002 x145003 x145004 x145005 x145006 x145007 x145008 x145009 x145010 x145011 x145012 x145013 x145014 x145015 x145016).bind fun bt153 => (if bt153.2.2.2.2.2.2.2.2.2.2.2.2.2.2.2.2.2 = true then ((cidr_Has.f ((rd_T34 x3 x4).f0.f0) ((rd_T34 x3 x4).f0.f1.f0) ((rd_T34 x3 x4).f0.f1.f1) ((rd_T34 x3 x4).f0.f1.f2) ((rd_T34 x3 x4).f0.f1.f3) ((rd_T34 x3 x4).f0.f1.f4) ((rd_T34 x3 x4).f0.f1.f5) ((rd_T34 x3 x4).f0.f1.f6) ((rd_T34 x3 x4).f0.f1.f7) ((rd_T34 x3 x4).f0.f1.f8) ((rd_T34 x3 x4).f0.f1.f9) ((rd_T34 x3 x4).f0.f1.f10) ((rd_T34 x3 x4).f0.f1.f11) ((rd_T34 x3 x4).f0.f1.f12) ((rd_T34 x3 x4).f0.f1.f13) ((rd_T34 x3 x4).f0.f1.f14) ((rd_T34 x3 x4).f0.f1.f15) ((rd_T34 x3 x4).f1) bt153.1 bt153.2.1 bt153.2.2.1 bt153.2.2.2.1 bt153.2.2.2.2.1 bt153.2.2.2.2.2.1 bt153.2.2.2.2.2.2.1 bt153.2.2.2.2.2.2.2.1 bt153.2.2.2.2.2.2.2.2.1 bt153.2.2.2.2.2.2.2.2.2.1 bt153.2.2.2.2.2.2.2.2.2.2.1 bt153.2.2.2.2.2.2.2.2.2.2.2.1 bt153.2.2.2.2.2.2.2.2.2.2.2.2.1 bt153.2.2.2.2.2.2.2.2.2.2.2.2.2.1 bt153.2.2.2.2.2.2.2.2.2.2.2.2.2.2.1 bt153.2.2.2.2.2.2.2.2.2.2.2.2.2.2.2.1 bt153.2.2.2.2.2.2.2.2.2.2.2.2.2.2.2.2.1).bind fun t173 => (if t173 = true then (none) else (lanternlaw06_CidrSafe.l0 k x3 (wrap64 (x4 + 1)) x145000 x145001 x145002 x145003 x145004 x145005 x145006 x145007 x145008 x145009 x145010 x145011 x145012 x145013 x145014 x145015 x145016))) else (lanternlaw06_CidrSafe.l0 k x3 (wrap64 (x4 + 1)) x145000 x145001 x145002 x145003 x145004 x145005 x145006 x145007 x145008 x145009 x145010 x145011 x145012 x145013 x145014 x145015 x145016))))) else (none)) else ((lanternlaw06_awake.f k).bind fun t150 => (some t150))
def lanternlaw06_CidrSafe.f (k : Nat) (a0_0 : Bool) (a0_1 : Int) (a0_2 : Int) (a0_3 : Int) (a0_4 : Int) (a0_5 : Int) (a0_6 : Int) (a0_7 : Int) (a0_8 : Int) (a0_9 : Int) (a0_10 : Int) (a0_11 : Int) (a0_12 : Int) (a0_13 : Int) (a0_14 : Int) (a0_15 : Int) (a0_16 : Int) : Option (Bool) := (cidr_Allow.f k a0_0 a0_1 a0_2 a0_3 a0_4 a0_5 a0_6 a0_7 a0_8 a0_9 a0_10 a0_11 a0_12 a0_13 a0_14 a0_15 a0_16 ([] : List (S34))).bind fun t145 => (if t145 = 0 then ((cidr_Forbidden.f k).bind fun t147 => (lanternlaw06_CidrSafe.l0 k t147 0 a0_0 a0_1 a0_2 a0_3 a0_4 a0_5 a0_6 a0_7 a0_8 a0_9 a0_10 a0_11 a0_12 a0_13 a0_14 a0_15 a0_16)) else ((lanternlaw06_awake.f k).bind fun t146 => (some t146)))
theorem lanternlaw06_CidrSafe.mono_l : ∀ k, (∀ y0 y1 y2 y3 y4 y5 y6 y7 y8 y9 y10 y11 y12 y13 y14 y15 y16 y17 y18, LeO (lanternlaw06_CidrSafe.l0 k y0 y1 y2 y3 y4 y5 y6 y7 y8 y9 y10 y11 y12 y13 y14 y15 y16 y17 y18) (lanternlaw06_CidrSafe.l0 (k + 1) y0 y1 y2 y3 y4 y5 y6 y7 y8 y9 y10 y11 y12 y13 y14 y15 y16 y17 y18))
 | 0 => fun _ _ _ _ _ _ _ _ _ _ _ _ _ _ _ _ _ _ _ r h => by simp [lanternlaw06_CidrSafe.l0] at h
 | k + 1 => by
  have ih0 := lanternlaw06_CidrSafe.mono_l k
  ·intro y0 y1 y2 y3 y4 y5 y6 y7 y8 y9 y10 y11 y12 y13 y14 y15 y16 y17 y18
   unfold lanternlaw06_CidrSafe.l0
   repeat' first
   | (with_reducible exact ih0 _ _ _ _ _ _ _ _ _ _ _ _ _ _ _ _ _ _ _)
   | (with_reducible exact cidr_Allow.mono _ _ _ _ _ _ _ _ _ _ _ _ _ _ _ _ _ _ _)
   | (with_reducible exact cidr_Forbidden.mono _)
   | (with_reducible exact lanternlaw06_awake.mono _)
   | (with_reducible exact lanternref05_Embeds.mono _ _ _ _ _ _ _ _ _ _ _ _ _ _ _ _ _ _)
   | (with_reducible exact LeO.refl _)
   | (with_reducible exact LeO.none _)
   | (with_reducible refine LeO.ite ?_ ?_)
   | (with_reducible refine LeO.bind ?_ (fun _ => ?_))
   | exact ih0 _ _ _ _ _ _ _ _ _ _ _ _ _ _ _ _ _ _ _
   | exact cidr_Allow.mono _ _ _ _ _ _ _ _ _ _ _ _ _ _ _ _ _ _ _
   | exact cidr_Forbidden.mono _
   | exact lanternlaw06_awake.mono _
   | exact lanternref05_Embeds.mono _ _ _ _ _ _ _ _ _ _ _ _ _ _ _ _ _ _
   | exact LeO.none _
   | refine LeO.ite ?_ ?_
   | refine LeO.bind ?_ (fun _ => ?_)
theorem lanternlaw06_CidrSafe.mono : ∀ a0 a1 a2 a3 a4 a5 a6 a7 a8 a9 a10 a11 a12 a13 a14 a15 a16 k, LeO (lanternlaw06_CidrSafe.f k a0 a1 a2 a3 a4 a5 a6 a7 a8 a9 a10 a11 a12 a13 a14 a15 a16) (lanternlaw06_CidrSafe.f (k + 1) a0 a1 a2 a3 a4 a5 a6 a7 a8 a9 a10 a11 a12 a13 a14 a15 a16) := by
 intro a0 a1 a2 a3 a4 a5 a6 a7 a8 a9 a10 a11 a12 a13 a14 a15 a16 k
 have ih0 := lanternlaw06_CidrSafe.mono_l k
 unfold lanternlaw06_CidrSafe.f
 repeat' first
   | (with_reducible exact ih0 _ _ _ _ _ _ _ _ _ _ _ _ _ _ _ _ _ _ _)
   | (with_reducible exact cidr_Allow.mono _ _ _ _ _ _ _ _ _ _ _ _ _ _ _ _ _ _ _)
   | (with_reducible exact cidr_Forbidden.mono _)
   | (with_reducible exact lanternlaw06_awake.mono _)
   | (with_reducible exact lanternref05_Embeds.mono _ _ _ _ _ _ _ _ _ _ _ _ _ _ _ _ _ _)
   | (with_reducible exact LeO.refl _)
   | (with_reducible exact LeO.none _)
   | (with_reducible refine LeO.ite ?_ ?_)
   | (with_reducible refine LeO.bind ?_ (fun _ => ?_))
   | exact ih0 _ _ _ _ _ _ _ _ _ _ _ _ _ _ _ _ _ _ _
   | exact cidr_Allow.mono _ _ _ _ _ _ _ _ _ _ _ _ _ _ _ _ _ _ _
   | exact cidr_Forbidden.mono _
   | exact lanternlaw06_awake.mono _
   | exact lanternref05_Embeds.mono _ _ _ _ _ _ _ _ _ _ _ _ _ _ _ _ _ _
   | exact LeO.none _
   | refine LeO.ite ?_ ?_
   | refine LeO.bind ?_ (fun _ => ?_)
def lanternlaw06_CidrSafe.T10 : Bool × List (List Nat × List Nat) := (true, [([], []), ([0], [0]), ([1], [1]), ([1], [1]), ([2, 3, 1], [1, 2, 3]), ([4, 1], [1, 4]), ([1], [1]), ([5, 6, 1, 1], [1, 5, 6]), ([1, 7], [1, 7])])
def lanternlaw06_CidrSafe.B10 : List Nat := [0, 1, 3, 3, 15, 31, 3, 127, 255]
theorem lanternlaw06_CidrSafe.tab10 : rtab .any (opsOf Tryd.f4 10) = lanternlaw06_CidrSafe.T10 := by kernel_rfl
theorem lanternlaw06_CidrSafe.bits10 : waitsOk lanternlaw06_CidrSafe.T10.2 lanternlaw06_CidrSafe.B10 = true := by kernel_rfl
set_option maxHeartbeats 8000000 in
set_option maxRecDepth 100000 in
theorem lanternlaw06_CidrSafe.calls (k : Nat) (a0_0 : Bool) (a0_1 : Int) (a0_2 : Int) (a0_3 : Int) (a0_4 : Int) (a0_5 : Int) (a0_6 : Int) (a0_7 : Int) (a0_8 : Int) (a0_9 : Int) (a0_10 : Int) (a0_11 : Int) (a0_12 : Int) (a0_13 : Int) (a0_14 : Int) (a0_15 : Int) (a0_16 : Int) (r : Bool) (w : World) (hLW : LW w) (h : lanternlaw06_CidrSafe.f k a0_0 a0_1 a0_2 a0_3 a0_4 a0_5 a0_6 a0_7 a0_8 a0_9 a0_10 a0_11 a0_12 a0_13 a0_14 a0_15 a0_16 = some r) :
  Calls Tryd.prog 4 #[.agg (ag_ a0_0 a0_1 a0_2 a0_3 a0_4 a0_5 a0_6 a0_7 a0_8 a0_9 a0_10 a0_11 a0_12 a0_13 a0_14 a0_15 a0_16)] w fun e w' => e = .returned (.bool r) ∧ Below w.heap.size w w' := by
 have hu24 := Tryd.underlying24
 have hu34 := Tryd.underlying34
 have HLW := Aside0.mk hLW
 clear hLW
 have HB := Aside0.mk (Below.refl w.heap.size w)
 have H : ((cidr_Allow.f k a0_0 a0_1 a0_2 a0_3 a0_4 a0_5 a0_6 a0_7 a0_8 a0_9 a0_10 a0_11 a0_12 a0_13 a0_14 a0_15 a0_16 ([] : List (S34))).bind fun t145 => (if t145 = 0 then ((cidr_Forbidden.f k).bind fun t147 => (lanternlaw06_CidrSafe.l0 k t147 0 a0_0 a0_1 a0_2 a0_3 a0_4 a0_5 a0_6 a0_7 a0_8 a0_9 a0_10 a0_11 a0_12 a0_13 a0_14 a0_15 a0_16)) else ((lanternlaw06_awake.f k).bind fun t146 => (some t146)))) = some r := h
 clear h
 replace H := Option.bind_eq_some_iff.mp H
 obtain ⟨t145, A20, H⟩ := H
 (try dsimp only at H)
 have A2 := Aside0.mk A20
 clear A20
 by_cases c3 : t145 = 0
 ·rw [if_pos c3] at H
  have c3b0 : (t145 == 0) = true := beq_iff_eq.mpr c3
  have c3b1 : (t145 != 0) = false := bne_eq_false_iff_eq.mpr c3
  clear c3
  replace H := Option.bind_eq_some_iff.mp H
  obtain ⟨t147, A40, H⟩ := H
  (try dsimp only at H)
  have A4 := Aside0.mk A40
  clear A40
  have H' := Aside0.mk H
  clear H
  go_enter Tryd.func4, Tryd.ntmps4
  go_wp2_with (first | ((with_reducible refine gate_dst (N := 1) rfl ?_); refine box_event ?hg (N := 1) ?hd (cs := (ag_ a0_0 a0_1 a0_2 a0_3 a0_4 a0_5 a0_6 a0_7 a0_8 a0_9 a0_10 a0_11 a0_12 a0_13 a0_14 a0_15 a0_16)) (t := 24) ?hr ?_; (case hd => rfl); (case hg => rfl); (case hr => first | (go_simp; done) | (go_simp; rfl)); intro gb144 hg w5 hbox hb; have BK144 := Aside0.mk (hbox); have GW144 := Aside0.mk (show w.heap.size ≤ gb144 from ge_ hg); have GE144 := Aside0.mk (show w.heap.size ≤ gb144 from ge_ hg); replace HB := Aside0.mk (below_step bq_ hb); clear hb hbox hg) | ((with_reducible refine gate_dst (N := 7) rfl ?_); (try (refine gate_guard (by rfl) ?_; dsimp only)); refine load_box ?hg 24 (.tmp 1) rfl BK144.out [] (al_ a0_0 a0_1 a0_2 a0_3 a0_4 a0_5 a0_6 a0_7 a0_8 a0_9 a0_10 a0_11 a0_12 a0_13 a0_14 a0_15 a0_16) [] rfl 0 rfl rfl Tryd.underlying24 rfl (by kernel_rfl) ?_; (case hg => rfl)) | ((with_reducible refine gate_callee (f := 7) rfl ?_); refine goesL_ (some 8) rfl rfl Tryd.func7 (by kernel_rfl) rfl #[.agg (ag_ a0_0 a0_1 a0_2 a0_3 a0_4 a0_5 a0_6 a0_7 a0_8 a0_9 a0_10 a0_11 a0_12 a0_13 a0_14 a0_15 a0_16), .slice none 0 0] rfl lq_ ?_; (refine (cidr_Allow.calls k a0_0 a0_1 a0_2 a0_3 a0_4 a0_5 a0_6 a0_7 a0_8 a0_9 a0_10 a0_11 a0_12 a0_13 a0_14 a0_15 a0_16 _ _ ([] : List (S34)) t145 _ ?side3 ?side1 ?side2 A2.out).mono ?_); (case side1 => exact Kd.C_nil _ _); (case side2 => exact Nat.le_refl _); (case side3 => exact lg_); rintro e w6 ⟨rfl, hb⟩; refine ⟨_, rfl, ?_⟩; replace BK144 := Aside0.mk (bb_ BK144 hb); replace HB := Aside0.mk (below_step bg_ hb); (try clear hb); (try clear hb2); (try clear hk); (try clear hi)) | ((with_reducible refine gate_callee (f := 10) rfl ?_); refine goesL_ (some 11) rfl rfl Tryd.func10 (by kernel_rfl) rfl #[] rfl lq_ ?_; (with_reducible refine (cidr_Forbidden.calls k  t147 _ ?side1 A4.out).mono ?_); (case side1 => exact lg_); rintro e w7 ⟨v148, rfl, ho0, hb⟩; refine ⟨_, rfl, ?_⟩; have HO149 := Aside0.mk (Kd.R_lower ho0 (below_size bg_)); replace BK144 := Aside0.mk (bb_ BK144 hb); replace HB := Aside0.mk (below_step bg_ hb); (try clear hb); (try clear hb2); (try clear hk); (try clear hi); (try clear ho0)))
  go_loopg [4] k (fun kq v4 w' => ∃ (x4_1 : Int), v4 = .int .i64 x4_1 ∧ Aside0 (lanternlaw06_CidrSafe.l0 kq t147 x4_1 a0_0 a0_1 a0_2 a0_3 a0_4 a0_5 a0_6 a0_7 a0_8 a0_9 a0_10 a0_11 a0_12 a0_13 a0_14 a0_15 a0_16 = some r) ∧ Aside0 (kq ≤ k) ∧ Aside0 (Kd.R k34 34 w' w.heap.size (fun _ => True) v148 t147) ∧ Aside0 (w'.heap[gb144]? = some (.cells (ag_ a0_0 a0_1 a0_2 a0_3 a0_4 a0_5 a0_6 a0_7 a0_8 a0_9 a0_10 a0_11 a0_12 a0_13 a0_14 a0_15 a0_16) 24 (0, 0))) ∧ Aside0 (Below w.heap.size w w'))
  case atStart => exact ⟨(0), sq_, H', ⟨Nat.le_refl _⟩, ⟨by (with_reducible repeat (first | apply Kd.R_alloc | apply Kd.R_drewN | apply Kd.R_drew)); exact HO149.out⟩, ⟨by (with_reducible repeat (first | refine blk_drewN ?_ _ | refine blk_drew ?_ | refine blk_alloc ?_ _)); exact BK144.out⟩, ⟨bg_⟩⟩
  case round =>
   clear H'
   try clear c1
   try clear p2
   try clear c3
   try clear c3b0
   try clear c3b1
   try clear c4
   try clear c7
   obtain ⟨x4_1, rfl, HA, HK1, HO_3, BK144, HB⟩ := hrel
   cases gk with
   | zero => exact absurd HA.out (by simp [lanternlaw06_CidrSafe.l0])
   | succ k1 =>
    have H := HA.out
    clear HA
    simp only [lanternlaw06_CidrSafe.l0] at H
    by_cases c8 : x4_1 < (t147.length : Int)
    ·rw [if_pos c8] at H
     have c8b0 : decide (x4_1 < (t147.length : Int)) = true := decide_eq_true c8
     clear c8
     by_cases c9 : 0 ≤ x4_1
     ·rw [if_pos c9] at H
      have c9b0 : decide (0 ≤ x4_1) = true := decide_eq_true c9
      clear c9
      replace H := Option.bind_eq_some_iff.mp H
      obtain ⟨t152, A100, H⟩ := H
      (try dsimp only at H)
      have A10 := Aside0.mk A100
      clear A100
      by_cases c11 : t152 = true
      ·subst c11
       replace H := ifT_ H
       exact absurd H (by simp)
      ·replace c11 := Bool.eq_false_iff.mpr c11
       subst c11
       replace H := ifF_ H
       replace H := Option.bind_eq_some_iff.mp H
       obtain ⟨⟨t153, t154, t155, t156, t157, t158, t159, t160, t161, t162, t163, t164, t165, t166, t167, t168, t169, t170⟩, A120, H⟩ := H
       (try dsimp only at H)
       have A12 := Aside0.mk A120
       clear A120
       by_cases c13 : t170 = true
       ·subst c13
        replace H := ifT_ H
        replace H := Option.bind_eq_some_iff.mp H
        obtain ⟨t173, A140, H⟩ := H
        (try dsimp only at H)
        have A14 := Aside0.mk A140
        clear A140
        by_cases c15 : t173 = true
        ·subst c15
         replace H := ifT_ H
         exact absurd H (by simp)
        ·replace c15 := Bool.eq_false_iff.mpr c15
         subst c15
         replace H := ifF_ H
         have H' := Aside0.mk H
         clear H
         obtain ⟨Ao16, co16, eo16⟩ := Kd.R_slice HO_3.out
         subst eo16
         try go_wp2
         replace HO_3 := Aside0.mk (Kd.R_drew HO_3.out)
         replace BK144 := Aside0.mk (blk_drew BK144.out)
         replace HB := Aside0.mk (below_drew1 HB.out)
         have p151 : 0 ≤ (x4_1 : Int) := of_decide_eq_true as_
         have q151 : x4_1 < (t147.length : Int) := of_decide_eq_true as_
         obtain ⟨ad151, e151, hx151_0, hx151_1, hx151_2, hx151_3, hx151_4, hx151_5, hx151_6, hx151_7, hx151_8, hx151_9, hx151_10, hx151_11, hx151_12, hx151_13, hx151_14, hx151_15, hx151_16, hx151_17⟩ := at_T34 (Kd.R_reads' HO_3.out).2.2 x4_1 p151 q151
         clear hx151_0 hx151_1 hx151_2 hx151_3 hx151_4 hx151_5 hx151_6 hx151_7 hx151_8 hx151_9 hx151_10 hx151_11 hx151_12 hx151_13 hx151_14 hx151_15 hx151_16 hx151_17
         cases e151
         replace p151 := eq_true p151
         replace q151 := eq_true q151
         refine start_ (n := 6) (S := fun w' => (Instr.loadAt 24 (.pointer (some ⟨gb144, 0, none⟩))).run Tryd.prog w' = .ok (.agg (ag_ a0_0 a0_1 a0_2 a0_3 a0_4 a0_5 a0_6 a0_7 a0_8 a0_9 a0_10 a0_11 a0_12 a0_13 a0_14 a0_15 a0_16)) w' ∧ (Instr.loadAt 34 (.pointer (some (ad151.add ((x4_1).toNat * 18))))).run Tryd.prog w' = .ok (.agg (nr_ ((rd_T34 t147 x4_1).f0.f0) ((rd_T34 t147 x4_1).f0.f1.f0) ((rd_T34 t147 x4_1).f0.f1.f1) ((rd_T34 t147 x4_1).f0.f1.f2) ((rd_T34 t147 x4_1).f0.f1.f3) ((rd_T34 t147 x4_1).f0.f1.f4) ((rd_T34 t147 x4_1).f0.f1.f5) ((rd_T34 t147 x4_1).f0.f1.f6) ((rd_T34 t147 x4_1).f0.f1.f7) ((rd_T34 t147 x4_1).f0.f1.f8) ((rd_T34 t147 x4_1).f0.f1.f9) ((rd_T34 t147 x4_1).f0.f1.f10) ((rd_T34 t147 x4_1).f0.f1.f11) ((rd_T34 t147 x4_1).f0.f1.f12) ((rd_T34 t147 x4_1).f0.f1.f13) ((rd_T34 t147 x4_1).f0.f1.f14) ((rd_T34 t147 x4_1).f0.f1.f15) ((rd_T34 t147 x4_1).f1))) w') (ds := []) (bv_ 0 6) (by kernel_rfl) rfl rfl ⟨(run_load_box BK144.out 24 [] (al_ a0_0 a0_1 a0_2 a0_3 a0_4 a0_5 a0_6 a0_7 a0_8 a0_9 a0_10 a0_11 a0_12 a0_13 a0_14 a0_15 a0_16) [] rfl 0 rfl Tryd.underlying24 rfl (by kernel_rfl)), (row_T34 (Kd.R_reads' HO_3.out).2.2 x4_1 p151 q151)⟩ (fun hHeld => ?_)
         generalize wr.drew = w17 at HO_3 BK144 HB hHeld ⊢
         refine pure_ (i := 0) (N := some 18) (v := ?_) (a' := ?_) (bv_ 1 5) rfl rfl (by kernel_rfl) (fun _ _ _ h => h) (Or.inl ⟨by rfl, ?_⟩) ?_ ?_
         rotate_left
         ·intro w'
          go_simp
          with_reducible rfl
         rotate_left
         ·simp only [Act.put, sa_, s0_, s1_, i64_w, i32_w]
          rfl
         refine pure_ (i := 1) (N := some 19) (v := ?_) (a' := ?_) (bv_ 2 4) rfl rfl (by kernel_rfl) (fun _ _ _ h => h) (Or.inl ⟨by rfl, ?_⟩) ?_ ?_
         rotate_left
         ·intro w'
          go_simp
          with_reducible rfl
         rotate_left
         ·simp only [Act.put, sa_, s0_, s1_, i64_w, i32_w]
          rfl
         refine pure_ (i := 2) (N := some 20) (v := ?_) (a' := ?_) (bv_ 3 3) rfl rfl (by kernel_rfl) (fun _ _ _ h => h) (Or.inl ⟨by rfl, ?_⟩) ?_ ?_
         rotate_left
         ·intro w'
          go_simp
          with_reducible rfl
         rotate_left
         ·simp only [Act.put, sa_, s0_, s1_, i64_w, i32_w]
          rfl
         refine take_ (i := 3) (N := some 21) (v := ?_) (a' := ?_) (bv_ 4 2) rfl rfl (by kernel_rfl) (fun _ _ _ h => h) (Or.inl ⟨by rfl, ?_⟩) hHeld ?_ ?_
         rotate_left
         ·rintro w' ⟨s0, s1⟩
          refine (load_exec rfl rfl s1).trans ?_; with_reducible rfl
         rotate_left
         ·simp only [Act.put, sa_, s0_, s1_, i64_w, i32_w]
          rfl
         refine take_ (i := 4) (N := some 22) (v := ?_) (a' := ?_) (bv_ 5 1) rfl rfl (by kernel_rfl) (fun _ _ _ h => h) (Or.inl ⟨by rfl, ?_⟩) hHeld ?_ ?_
         rotate_left
         ·rintro w' ⟨s0, s1⟩
          refine (load_exec rfl rfl s0).trans ?_; with_reducible rfl
         rotate_left
         ·simp only [Act.put, sa_, s0_, s1_, i64_w, i32_w]
          rfl
         refine one_ (i := 5) (N := some 23) (bv_ 6 0) rfl rfl (by kernel_rfl) (by decide) (fun K hK => ?_)
         refine goes_ Tryd.func12 (by kernel_rfl) rfl #[.agg (nr_ ((rd_T34 t147 x4_1).f0.f0) ((rd_T34 t147 x4_1).f0.f1.f0) ((rd_T34 t147 x4_1).f0.f1.f1) ((rd_T34 t147 x4_1).f0.f1.f2) ((rd_T34 t147 x4_1).f0.f1.f3) ((rd_T34 t147 x4_1).f0.f1.f4) ((rd_T34 t147 x4_1).f0.f1.f5) ((rd_T34 t147 x4_1).f0.f1.f6) ((rd_T34 t147 x4_1).f0.f1.f7) ((rd_T34 t147 x4_1).f0.f1.f8) ((rd_T34 t147 x4_1).f0.f1.f9) ((rd_T34 t147 x4_1).f0.f1.f10) ((rd_T34 t147 x4_1).f0.f1.f11) ((rd_T34 t147 x4_1).f0.f1.f12) ((rd_T34 t147 x4_1).f0.f1.f13) ((rd_T34 t147 x4_1).f0.f1.f14) ((rd_T34 t147 x4_1).f0.f1.f15) ((rd_T34 t147 x4_1).f1)), .agg (ag_ a0_0 a0_1 a0_2 a0_3 a0_4 a0_5 a0_6 a0_7 a0_8 a0_9 a0_10 a0_11 a0_12 a0_13 a0_14 a0_15 a0_16)] (by rfl) rfl rfl lq_ ?_
         with_reducible refine (cidr_Has.calls ((rd_T34 t147 x4_1).f0.f0) ((rd_T34 t147 x4_1).f0.f1.f0) ((rd_T34 t147 x4_1).f0.f1.f1) ((rd_T34 t147 x4_1).f0.f1.f2) ((rd_T34 t147 x4_1).f0.f1.f3) ((rd_T34 t147 x4_1).f0.f1.f4) ((rd_T34 t147 x4_1).f0.f1.f5) ((rd_T34 t147 x4_1).f0.f1.f6) ((rd_T34 t147 x4_1).f0.f1.f7) ((rd_T34 t147 x4_1).f0.f1.f8) ((rd_T34 t147 x4_1).f0.f1.f9) ((rd_T34 t147 x4_1).f0.f1.f10) ((rd_T34 t147 x4_1).f0.f1.f11) ((rd_T34 t147 x4_1).f0.f1.f12) ((rd_T34 t147 x4_1).f0.f1.f13) ((rd_T34 t147 x4_1).f0.f1.f14) ((rd_T34 t147 x4_1).f0.f1.f15) ((rd_T34 t147 x4_1).f1) a0_0 a0_1 a0_2 a0_3 a0_4 a0_5 a0_6 a0_7 a0_8 a0_9 a0_10 a0_11 a0_12 a0_13 a0_14 a0_15 a0_16 false _ ?side1 A10.out).mono ?_
         (case side1 => exact lg_)
         rintro e w18 ⟨rfl, hb⟩
         refine ⟨_, rfl, ?_⟩
         replace HO_3 := Aside0.mk (Kd.R_below (by (with_reducible repeat (first | apply Kd.R_alloc | apply Kd.R_drewN | apply Kd.R_drew)); exact HO_3.out) hb)
         replace BK144 := Aside0.mk (bb_ BK144 hb)
         replace HB := Aside0.mk (below_step bg_ hb)
         (try clear hb)
         (try clear hb2)
         (try clear hk)
         (try clear hi)
         refine hK.out _ _ ⟨(run_load_box BK144.out 24 [] (al_ a0_0 a0_1 a0_2 a0_3 a0_4 a0_5 a0_6 a0_7 a0_8 a0_9 a0_10 a0_11 a0_12 a0_13 a0_14 a0_15 a0_16) [] rfl 0 rfl Tryd.underlying24 rfl (by kernel_rfl)), (row_T34 (Kd.R_reads' HO_3.out).2.2 x4_1 p151 q151)⟩ (fun hHeld => ?_)
         clear hK K
         refine norm_ (a' := ?_) ?_ ?_
         rotate_left
         ·show Act.put _ (some 23) _ = _
          simp only [Act.put, sa_, s0_, s1_, i64_w, i32_w]
          rfl
         refine done_ (by kernel_rfl) ?_
         try go_wp2_with (first | ((with_reducible refine gate_dst (N := 25) rfl ?_); (try (refine gate_guard (by rfl) ?_; dsimp only)); refine load_box ?hg 24 (.tmp 1) rfl BK144.out [] (al_ a0_0 a0_1 a0_2 a0_3 a0_4 a0_5 a0_6 a0_7 a0_8 a0_9 a0_10 a0_11 a0_12 a0_13 a0_14 a0_15 a0_16) [] rfl 0 rfl rfl Tryd.underlying24 rfl (by kernel_rfl) ?_; (case hg => rfl)) | ((with_reducible refine gate_callee (f := 13) rfl ?_); refine goesL_ (some 26) rfl rfl Tryd.func13 (by kernel_rfl) rfl #[.agg (ag_ a0_0 a0_1 a0_2 a0_3 a0_4 a0_5 a0_6 a0_7 a0_8 a0_9 a0_10 a0_11 a0_12 a0_13 a0_14 a0_15 a0_16)] rfl lq_ ?_; (with_reducible refine (lanternref05_Embeds.calls k1 a0_0 a0_1 a0_2 a0_3 a0_4 a0_5 a0_6 a0_7 a0_8 a0_9 a0_10 a0_11 a0_12 a0_13 a0_14 a0_15 a0_16 t153 t154 t155 t156 t157 t158 t159 t160 t161 t162 t163 t164 t165 t166 t167 t168 t169 true _ ?side1 A12.out).mono ?_); (case side1 => exact lg_); rintro e w19 ⟨rfl, hb⟩; refine ⟨_, rfl, ?_⟩; replace HO_3 := Aside0.mk (Kd.R_below (by (with_reducible repeat (first | apply Kd.R_alloc | apply Kd.R_drewN | apply Kd.R_drew)); exact HO_3.out) hb); replace BK144 := Aside0.mk (bb_ BK144 hb); replace HB := Aside0.mk (below_step bg_ hb); (try clear hb); (try clear hb2); (try clear hk); (try clear hi)) | ((with_reducible refine gate_dst (N := 5) rfl ?_); refine box_event ?hg (N := 5) ?hd (cs := az_) (t := 24) ?hr ?_; (case hd => rfl); (case hg => rfl); (case hr => first | (go_simp; done) | (go_simp; rfl)); intro gb171 hg w20 hbox hb; have n0_ := Aside0.mk (Kd.R_below (by (with_reducible repeat (first | apply Kd.R_alloc | apply Kd.R_drewN | apply Kd.R_drew)); exact HO_3.out) hb); have n1_ := Aside0.mk (bb_ BK144 hb); have n2_ := Aside0.mk (below_step bg_ hb); have n3_ := Aside0.mk (hbox); have n4_ := Aside0.mk (show w.heap.size ≤ gb171 from gg_ hg); have n5_ := Aside0.mk (show w.heap.size ≤ gb171 from gg_ hg); have n6_ := Aside0.mk (show gb144 ≠ gb171 from nl_ BK144 hg); have n7_ := Aside0.mk (show gb171 ≠ gb144 from ng_ BK144 hg); clear HO_3; clear BK144; clear HB; have HO_3 := n0_; have BK144 := n1_; have HB := n2_; have BK171 := n3_; have GW171 := n4_; have GE171 := n5_; have NB144_171 := n6_; have NB171_144 := n7_; clear n0_ n1_ n2_ n3_ n4_ n5_ n6_ n7_; clear hb hbox hg; have hnb21 := NB171_144.out; have hnc21 := NB144_171.out; have hcz22_0 := cz_ BK171 0 (.bool false); have hfz22_0 := bf_ BK171 0; have hfz22_1 := bf_ BK171 1; have hfz22_2 := bf_ BK171 2; have hfz22_3 := bf_ BK171 3; have hfz22_4 := bf_ BK171 4; have hfz22_5 := bf_ BK171 5; have hfz22_6 := bf_ BK171 6; have hfz22_7 := bf_ BK171 7; have hfz22_8 := bf_ BK171 8; have hfz22_9 := bf_ BK171 9; have hfz22_10 := bf_ BK171 10; have hfz22_11 := bf_ BK171 11; have hfz22_12 := bf_ BK171 12; have hfz22_13 := bf_ BK171 13; have hfz22_14 := bf_ BK171 14; have hfz22_15 := bf_ BK171 15; have hfz22_16 := bf_ BK171 16) | ((with_reducible refine gate_store (t := 24) (p := 5) rfl ?_); refine store_all ?hg 24 5 _ rfl rfl gb171 ay_ (al_ t153 t154 t155 t156 t157 t158 t159 t160 t161 t162 t163 t164 t165 t166 t167 t168 t169) BK171.out rfl rfl rfl (by kernel_rfl) rfl ?_; (case hg => rfl); intro w23 hw; have n0_ : Aside0 (Kd.R k34 34 w23 w.heap.size (fun _ => True) (.slice (some ad151) t147.length co16) t147) := ⟨(by rw [hw]; exact (by (with_reducible repeat (first | apply Kd.R_alloc | apply Kd.R_drewN | apply Kd.R_drew)); exact Kd.R_mono (R_farC (g := gb171) (fun _ hk => hk.2) (Kd.R_types HO_3.out BK171.out (by decide)) (al_ t153 t154 t155 t156 t157 t158 t159 t160 t161 t162 t163 t164 t165 t166 t167 t168 t169) 0) (fun _ hk => trivial)))⟩; have n1_ : Aside0 (w23.heap[gb144]? = some (.cells (ag_ a0_0 a0_1 a0_2 a0_3 a0_4 a0_5 a0_6 a0_7 a0_8 a0_9 a0_10 a0_11 a0_12 a0_13 a0_14 a0_15 a0_16) 24 (0, 0))) := ⟨(by rw [hw]; exact (by (with_reducible repeat (first | refine blk_drewN ?_ _ | refine blk_drew ?_ | refine blk_alloc ?_ _)); refine blk_farC NB144_171.out _ _ ?_; (with_reducible repeat (first | refine blk_drewN ?_ _ | refine blk_drew ?_ | refine blk_alloc ?_ _)); exact BK144.out))⟩; have n2_ : Aside0 (w23.heap[gb171]? = some (.cells (ag_ t153 t154 t155 t156 t157 t158 t159 t160 t161 t162 t163 t164 t165 t166 t167 t168 t169) 24 (0, 0))) := ⟨(by rw [hw]; exact (by (with_reducible repeat (first | refine blk_drewN ?_ _ | refine blk_drew ?_ | refine blk_alloc ?_ _)); refine blk_part (al_ t153 t154 t155 t156 t157 t158 t159 t160 t161 t162 t163 t164 t165 t166 t167 t168 t169) ay_ [] [] (cs := az_) ?_ rfl rfl rfl; (with_reducible repeat (first | refine blk_drewN ?_ _ | refine blk_drew ?_ | refine blk_alloc ?_ _)); exact BK171.out))⟩; have n3_ : Aside0 (Below w.heap.size w w23) := ⟨(by rw [hw]; exact (by repeat (first | (with_reducible first | exact HB.out | apply below_alloc | apply pw_below_drewN | apply below_drew1 | refine below_set ?_ GE144.out | refine below_set ?_ GE171.out | refine below_setC GE144.out _ _ ?_ | refine below_setC GE171.out _ _ ?_) | exact HB.out)))⟩; clear hw; clear HO_3; clear BK144; clear BK171; clear HB; have HO_3 := n0_; have BK144 := n1_; have BK171 := n2_; have HB := n3_; clear n0_ n1_ n2_ n3_))
         replace HO_3 := Aside0.mk (Kd.R_drew HO_3.out)
         replace BK144 := Aside0.mk (blk_drew BK144.out)
         replace BK171 := Aside0.mk (blk_drew BK171.out)
         replace HB := Aside0.mk (below_drew1 HB.out)
         have p172 : 0 ≤ (x4_1 : Int) := of_decide_eq_true as_
         have q172 : x4_1 < (t147.length : Int) := of_decide_eq_true as_
         obtain ⟨ad172, e172, hx172_0, hx172_1, hx172_2, hx172_3, hx172_4, hx172_5, hx172_6, hx172_7, hx172_8, hx172_9, hx172_10, hx172_11, hx172_12, hx172_13, hx172_14, hx172_15, hx172_16, hx172_17⟩ := at_T34 (Kd.R_reads' HO_3.out).2.2 x4_1 p172 q172
         clear hx172_0 hx172_1 hx172_2 hx172_3 hx172_4 hx172_5 hx172_6 hx172_7 hx172_8 hx172_9 hx172_10 hx172_11 hx172_12 hx172_13 hx172_14 hx172_15 hx172_16 hx172_17
         obtain rfl : ad151 = ad172 := (by injection e172)
         replace p172 := eq_true p172
         replace q172 := eq_true q172
         refine start_ (n := 9) (S := fun w' => (Instr.loadAt 24 (.pointer (some ⟨gb171, 0, none⟩))).run Tryd.prog w' = .ok (.agg (ag_ t153 t154 t155 t156 t157 t158 t159 t160 t161 t162 t163 t164 t165 t166 t167 t168 t169)) w' ∧ (Instr.loadAt 34 (.pointer (some (ad151.add ((x4_1).toNat * 18))))).run Tryd.prog w' = .ok (.agg (nr_ ((rd_T34 t147 x4_1).f0.f0) ((rd_T34 t147 x4_1).f0.f1.f0) ((rd_T34 t147 x4_1).f0.f1.f1) ((rd_T34 t147 x4_1).f0.f1.f2) ((rd_T34 t147 x4_1).f0.f1.f3) ((rd_T34 t147 x4_1).f0.f1.f4) ((rd_T34 t147 x4_1).f0.f1.f5) ((rd_T34 t147 x4_1).f0.f1.f6) ((rd_T34 t147 x4_1).f0.f1.f7) ((rd_T34 t147 x4_1).f0.f1.f8) ((rd_T34 t147 x4_1).f0.f1.f9) ((rd_T34 t147 x4_1).f0.f1.f10) ((rd_T34 t147 x4_1).f0.f1.f11) ((rd_T34 t147 x4_1).f0.f1.f12) ((rd_T34 t147 x4_1).f0.f1.f13) ((rd_T34 t147 x4_1).f0.f1.f14) ((rd_T34 t147 x4_1).f0.f1.f15) ((rd_T34 t147 x4_1).f1))) w') (ds := []) (bv_ 0 9) (by kernel_rfl) rfl rfl ⟨(run_load_box BK171.out 24 [] (al_ t153 t154 t155 t156 t157 t158 t159 t160 t161 t162 t163 t164 t165 t166 t167 t168 t169) [] rfl 0 rfl Tryd.underlying24 rfl (by kernel_rfl)), (row_T34 (Kd.R_reads' HO_3.out).2.2 x4_1 p172 q172)⟩ (fun hHeld => ?_); refine with_tabW lanternlaw06_CidrSafe.tab10 lanternlaw06_CidrSafe.bits10 (fun HT_ HW_ => ?_)
         generalize w23.drew = w24 at HO_3 BK144 BK171 HB hHeld ⊢
         refine pl_ 0 29 ?_ 1 8 HT_ ?_ ?_ ?_ ?_
         rotate_left
         ·intro w'
          go_simp
          with_reducible rfl
         rotate_left
         ·simp only [Act.put, sa_, s0_, s1_, i64_w, i32_w]
          rfl
         refine pl_ 1 30 ?_ 2 7 HT_ ?_ ?_ ?_ ?_
         rotate_left
         ·intro w'
          go_simp
          with_reducible rfl
         rotate_left
         ·simp only [Act.put, sa_, s0_, s1_, i64_w, i32_w]
          rfl
         refine pl_ 2 31 ?_ 3 6 HT_ ?_ ?_ ?_ ?_
         rotate_left
         ·intro w'
          go_simp
          with_reducible rfl
         rotate_left
         ·simp only [Act.put, sa_, s0_, s1_, i64_w, i32_w]
          rfl
         refine pl_ 3 32 ?_ 4 5 HT_ ?_ ?_ ?_ ?_
         rotate_left
         ·intro w'
          go_simp
          with_reducible rfl
         rotate_left
         ·simp only [Act.put, sa_, s0_, s1_, i64_w, i32_w]
          rfl
         refine pl_ 4 33 ?_ 5 4 HT_ ?_ ?_ ?_ ?_
         rotate_left
         ·intro w'
          go_simp
          with_reducible rfl
         rotate_left
         ·simp only [Act.put, sa_, s0_, s1_, i64_w, i32_w]
          rfl
         refine tl_ 5 34 ?_ 6 3 HT_ HW_ ?_ hHeld ?_ ?_ ?_
         rotate_left
         ·rintro w' ⟨s0, s1⟩
          refine (load_exec rfl rfl s1).trans ?_; with_reducible rfl
         rotate_left
         ·simp only [Act.put, sa_, s0_, s1_, i64_w, i32_w]
          rfl
         refine tl_ 6 35 ?_ 7 2 HT_ HW_ ?_ hHeld ?_ ?_ ?_
         rotate_left
         ·rintro w' ⟨s0, s1⟩
          refine (load_exec rfl rfl s0).trans ?_; with_reducible rfl
         rotate_left
         ·simp only [Act.put, sa_, s0_, s1_, i64_w, i32_w]
          rfl
         refine one_ (i := 7) (N := some 36) (bv_ 8 1) rfl rfl (one_of HT_.out (by kernel_rfl)) (by decide) (fun K hK => ?_)
         refine goes_ Tryd.func12 (by kernel_rfl) rfl #[.agg (nr_ ((rd_T34 t147 x4_1).f0.f0) ((rd_T34 t147 x4_1).f0.f1.f0) ((rd_T34 t147 x4_1).f0.f1.f1) ((rd_T34 t147 x4_1).f0.f1.f2) ((rd_T34 t147 x4_1).f0.f1.f3) ((rd_T34 t147 x4_1).f0.f1.f4) ((rd_T34 t147 x4_1).f0.f1.f5) ((rd_T34 t147 x4_1).f0.f1.f6) ((rd_T34 t147 x4_1).f0.f1.f7) ((rd_T34 t147 x4_1).f0.f1.f8) ((rd_T34 t147 x4_1).f0.f1.f9) ((rd_T34 t147 x4_1).f0.f1.f10) ((rd_T34 t147 x4_1).f0.f1.f11) ((rd_T34 t147 x4_1).f0.f1.f12) ((rd_T34 t147 x4_1).f0.f1.f13) ((rd_T34 t147 x4_1).f0.f1.f14) ((rd_T34 t147 x4_1).f0.f1.f15) ((rd_T34 t147 x4_1).f1)), .agg (ag_ t153 t154 t155 t156 t157 t158 t159 t160 t161 t162 t163 t164 t165 t166 t167 t168 t169)] (by rfl) rfl rfl lq_ ?_
         with_reducible refine (cidr_Has.calls ((rd_T34 t147 x4_1).f0.f0) ((rd_T34 t147 x4_1).f0.f1.f0) ((rd_T34 t147 x4_1).f0.f1.f1) ((rd_T34 t147 x4_1).f0.f1.f2) ((rd_T34 t147 x4_1).f0.f1.f3) ((rd_T34 t147 x4_1).f0.f1.f4) ((rd_T34 t147 x4_1).f0.f1.f5) ((rd_T34 t147 x4_1).f0.f1.f6) ((rd_T34 t147 x4_1).f0.f1.f7) ((rd_T34 t147 x4_1).f0.f1.f8) ((rd_T34 t147 x4_1).f0.f1.f9) ((rd_T34 t147 x4_1).f0.f1.f10) ((rd_T34 t147 x4_1).f0.f1.f11) ((rd_T34 t147 x4_1).f0.f1.f12) ((rd_T34 t147 x4_1).f0.f1.f13) ((rd_T34 t147 x4_1).f0.f1.f14) ((rd_T34 t147 x4_1).f0.f1.f15) ((rd_T34 t147 x4_1).f1) t153 t154 t155 t156 t157 t158 t159 t160 t161 t162 t163 t164 t165 t166 t167 t168 t169 false _ ?side1 A14.out).mono ?_
         (case side1 => exact lg_)
         rintro e w25 ⟨rfl, hb⟩
         refine ⟨_, rfl, ?_⟩
         replace HO_3 := Aside0.mk (Kd.R_below (by (with_reducible repeat (first | apply Kd.R_alloc | apply Kd.R_drewN | apply Kd.R_drew)); exact HO_3.out) hb)
         replace BK144 := Aside0.mk (bb_ BK144 hb)
         replace BK171 := Aside0.mk (bb_ BK171 hb)
         replace HB := Aside0.mk (below_step bg_ hb)
         (try clear hb)
         (try clear hb2)
         (try clear hk)
         (try clear hi)
         refine hK.out _ _ ⟨(run_load_box BK171.out 24 [] (al_ t153 t154 t155 t156 t157 t158 t159 t160 t161 t162 t163 t164 t165 t166 t167 t168 t169) [] rfl 0 rfl Tryd.underlying24 rfl (by kernel_rfl)), (row_T34 (Kd.R_reads' HO_3.out).2.2 x4_1 p172 q172)⟩ (fun hHeld => ?_)
         clear hK K
         refine norm_ (a' := ?_) ?_ ?_
         rotate_left
         ·show Act.put _ (some 36) _ = _
          simp only [Act.put, sa_, s0_, s1_, i64_w, i32_w]
          rfl
         refine pl_ 8 37 ?_ 9 0 HT_ ?_ ?_ ?_ ?_
         rotate_left
         ·intro w'
          go_simp
          with_reducible rfl
         rotate_left
         ·simp only [Act.put, sa_, s0_, s1_, i64_w, i32_w]
          rfl
         refine done_ (done_of HT_.out (by kernel_rfl)) ?_
         try go_wp2
         go_roundg k1
         case measure => have := HK1.out; omega
         case rel => exact ⟨(wrap64 (x4_1 + 1)), sq_, H', ⟨by have := HK1.out; omega⟩, ⟨by (with_reducible repeat (first | apply Kd.R_alloc | apply Kd.R_drewN | apply Kd.R_drew)); exact HO_3.out⟩, ⟨by (with_reducible repeat (first | refine blk_drewN ?_ _ | refine blk_drew ?_ | refine blk_alloc ?_ _)); exact BK144.out⟩, ⟨bg_⟩⟩
       ·replace c13 := Bool.eq_false_iff.mpr c13
        subst c13
        replace H := ifF_ H
        have H' := Aside0.mk H
        clear H
        obtain ⟨Ao26, co26, eo26⟩ := Kd.R_slice HO_3.out
        subst eo26
        try go_wp2
        replace HO_3 := Aside0.mk (Kd.R_drew HO_3.out)
        replace BK144 := Aside0.mk (blk_drew BK144.out)
        replace HB := Aside0.mk (below_drew1 HB.out)
        have p151 : 0 ≤ (x4_1 : Int) := of_decide_eq_true as_
        have q151 : x4_1 < (t147.length : Int) := of_decide_eq_true as_
        obtain ⟨ad151, e151, hx151_0, hx151_1, hx151_2, hx151_3, hx151_4, hx151_5, hx151_6, hx151_7, hx151_8, hx151_9, hx151_10, hx151_11, hx151_12, hx151_13, hx151_14, hx151_15, hx151_16, hx151_17⟩ := at_T34 (Kd.R_reads' HO_3.out).2.2 x4_1 p151 q151
        clear hx151_0 hx151_1 hx151_2 hx151_3 hx151_4 hx151_5 hx151_6 hx151_7 hx151_8 hx151_9 hx151_10 hx151_11 hx151_12 hx151_13 hx151_14 hx151_15 hx151_16 hx151_17
        cases e151
        replace p151 := eq_true p151
        replace q151 := eq_true q151
        refine start_ (n := 6) (S := fun w' => (Instr.loadAt 24 (.pointer (some ⟨gb144, 0, none⟩))).run Tryd.prog w' = .ok (.agg (ag_ a0_0 a0_1 a0_2 a0_3 a0_4 a0_5 a0_6 a0_7 a0_8 a0_9 a0_10 a0_11 a0_12 a0_13 a0_14 a0_15 a0_16)) w' ∧ (Instr.loadAt 34 (.pointer (some (ad151.add ((x4_1).toNat * 18))))).run Tryd.prog w' = .ok (.agg (nr_ ((rd_T34 t147 x4_1).f0.f0) ((rd_T34 t147 x4_1).f0.f1.f0) ((rd_T34 t147 x4_1).f0.f1.f1) ((rd_T34 t147 x4_1).f0.f1.f2) ((rd_T34 t147 x4_1).f0.f1.f3) ((rd_T34 t147 x4_1).f0.f1.f4) ((rd_T34 t147 x4_1).f0.f1.f5) ((rd_T34 t147 x4_1).f0.f1.f6) ((rd_T34 t147 x4_1).f0.f1.f7) ((rd_T34 t147 x4_1).f0.f1.f8) ((rd_T34 t147 x4_1).f0.f1.f9) ((rd_T34 t147 x4_1).f0.f1.f10) ((rd_T34 t147 x4_1).f0.f1.f11) ((rd_T34 t147 x4_1).f0.f1.f12) ((rd_T34 t147 x4_1).f0.f1.f13) ((rd_T34 t147 x4_1).f0.f1.f14) ((rd_T34 t147 x4_1).f0.f1.f15) ((rd_T34 t147 x4_1).f1))) w') (ds := []) (bv_ 0 6) (by kernel_rfl) rfl rfl ⟨(run_load_box BK144.out 24 [] (al_ a0_0 a0_1 a0_2 a0_3 a0_4 a0_5 a0_6 a0_7 a0_8 a0_9 a0_10 a0_11 a0_12 a0_13 a0_14 a0_15 a0_16) [] rfl 0 rfl Tryd.underlying24 rfl (by kernel_rfl)), (row_T34 (Kd.R_reads' HO_3.out).2.2 x4_1 p151 q151)⟩ (fun hHeld => ?_)
        generalize wr.drew = w27 at HO_3 BK144 HB hHeld ⊢
        refine pure_ (i := 0) (N := some 18) (v := ?_) (a' := ?_) (bv_ 1 5) rfl rfl (by kernel_rfl) (fun _ _ _ h => h) (Or.inl ⟨by rfl, ?_⟩) ?_ ?_
        rotate_left
        ·intro w'
         go_simp
         with_reducible rfl
        rotate_left
        ·simp only [Act.put, sa_, s0_, s1_, i64_w, i32_w]
         rfl
        refine pure_ (i := 1) (N := some 19) (v := ?_) (a' := ?_) (bv_ 2 4) rfl rfl (by kernel_rfl) (fun _ _ _ h => h) (Or.inl ⟨by rfl, ?_⟩) ?_ ?_
        rotate_left
        ·intro w'
         go_simp
         with_reducible rfl
        rotate_left
        ·simp only [Act.put, sa_, s0_, s1_, i64_w, i32_w]
         rfl
        refine pure_ (i := 2) (N := some 20) (v := ?_) (a' := ?_) (bv_ 3 3) rfl rfl (by kernel_rfl) (fun _ _ _ h => h) (Or.inl ⟨by rfl, ?_⟩) ?_ ?_
        rotate_left
        ·intro w'
         go_simp
         with_reducible rfl
        rotate_left
        ·simp only [Act.put, sa_, s0_, s1_, i64_w, i32_w]
         rfl
        refine take_ (i := 3) (N := some 21) (v := ?_) (a' := ?_) (bv_ 4 2) rfl rfl (by kernel_rfl) (fun _ _ _ h => h) (Or.inl ⟨by rfl, ?_⟩) hHeld ?_ ?_
        rotate_left
        ·rintro w' ⟨s0, s1⟩
         refine (load_exec rfl rfl s1).trans ?_; with_reducible rfl
        rotate_left
        ·simp only [Act.put, sa_, s0_, s1_, i64_w, i32_w]
         rfl
        refine take_ (i := 4) (N := some 22) (v := ?_) (a' := ?_) (bv_ 5 1) rfl rfl (by kernel_rfl) (fun _ _ _ h => h) (Or.inl ⟨by rfl, ?_⟩) hHeld ?_ ?_
        rotate_left
        ·rintro w' ⟨s0, s1⟩
         refine (load_exec rfl rfl s0).trans ?_; with_reducible rfl
        rotate_left
        ·simp only [Act.put, sa_, s0_, s1_, i64_w, i32_w]
         rfl
        refine one_ (i := 5) (N := some 23) (bv_ 6 0) rfl rfl (by kernel_rfl) (by decide) (fun K hK => ?_)
        refine goes_ Tryd.func12 (by kernel_rfl) rfl #[.agg (nr_ ((rd_T34 t147 x4_1).f0.f0) ((rd_T34 t147 x4_1).f0.f1.f0) ((rd_T34 t147 x4_1).f0.f1.f1) ((rd_T34 t147 x4_1).f0.f1.f2) ((rd_T34 t147 x4_1).f0.f1.f3) ((rd_T34 t147 x4_1).f0.f1.f4) ((rd_T34 t147 x4_1).f0.f1.f5) ((rd_T34 t147 x4_1).f0.f1.f6) ((rd_T34 t147 x4_1).f0.f1.f7) ((rd_T34 t147 x4_1).f0.f1.f8) ((rd_T34 t147 x4_1).f0.f1.f9) ((rd_T34 t147 x4_1).f0.f1.f10) ((rd_T34 t147 x4_1).f0.f1.f11) ((rd_T34 t147 x4_1).f0.f1.f12) ((rd_T34 t147 x4_1).f0.f1.f13) ((rd_T34 t147 x4_1).f0.f1.f14) ((rd_T34 t147 x4_1).f0.f1.f15) ((rd_T34 t147 x4_1).f1)), .agg (ag_ a0_0 a0_1 a0_2 a0_3 a0_4 a0_5 a0_6 a0_7 a0_8 a0_9 a0_10 a0_11 a0_12 a0_13 a0_14 a0_15 a0_16)] (by rfl) rfl rfl lq_ ?_
        with_reducible refine (cidr_Has.calls ((rd_T34 t147 x4_1).f0.f0) ((rd_T34 t147 x4_1).f0.f1.f0) ((rd_T34 t147 x4_1).f0.f1.f1) ((rd_T34 t147 x4_1).f0.f1.f2) ((rd_T34 t147 x4_1).f0.f1.f3) ((rd_T34 t147 x4_1).f0.f1.f4) ((rd_T34 t147 x4_1).f0.f1.f5) ((rd_T34 t147 x4_1).f0.f1.f6) ((rd_T34 t147 x4_1).f0.f1.f7) ((rd_T34 t147 x4_1).f0.f1.f8) ((rd_T34 t147 x4_1).f0.f1.f9) ((rd_T34 t147 x4_1).f0.f1.f10) ((rd_T34 t147 x4_1).f0.f1.f11) ((rd_T34 t147 x4_1).f0.f1.f12) ((rd_T34 t147 x4_1).f0.f1.f13) ((rd_T34 t147 x4_1).f0.f1.f14) ((rd_T34 t147 x4_1).f0.f1.f15) ((rd_T34 t147 x4_1).f1) a0_0 a0_1 a0_2 a0_3 a0_4 a0_5 a0_6 a0_7 a0_8 a0_9 a0_10 a0_11 a0_12 a0_13 a0_14 a0_15 a0_16 false _ ?side1 A10.out).mono ?_
        (case side1 => exact lg_)
        rintro e w28 ⟨rfl, hb⟩
        refine ⟨_, rfl, ?_⟩
        replace HO_3 := Aside0.mk (Kd.R_below (by (with_reducible repeat (first | apply Kd.R_alloc | apply Kd.R_drewN | apply Kd.R_drew)); exact HO_3.out) hb)
        replace BK144 := Aside0.mk (bb_ BK144 hb)
        replace HB := Aside0.mk (below_step bg_ hb)
        (try clear hb)
        (try clear hb2)
        (try clear hk)
        (try clear hi)
        refine hK.out _ _ ⟨(run_load_box BK144.out 24 [] (al_ a0_0 a0_1 a0_2 a0_3 a0_4 a0_5 a0_6 a0_7 a0_8 a0_9 a0_10 a0_11 a0_12 a0_13 a0_14 a0_15 a0_16) [] rfl 0 rfl Tryd.underlying24 rfl (by kernel_rfl)), (row_T34 (Kd.R_reads' HO_3.out).2.2 x4_1 p151 q151)⟩ (fun hHeld => ?_)
        clear hK K
        refine norm_ (a' := ?_) ?_ ?_
        rotate_left
        ·show Act.put _ (some 23) _ = _
         simp only [Act.put, sa_, s0_, s1_, i64_w, i32_w]
         rfl
        refine done_ (by kernel_rfl) ?_
        try go_wp2_with (first | ((with_reducible refine gate_dst (N := 25) rfl ?_); (try (refine gate_guard (by rfl) ?_; dsimp only)); refine load_box ?hg 24 (.tmp 1) rfl BK144.out [] (al_ a0_0 a0_1 a0_2 a0_3 a0_4 a0_5 a0_6 a0_7 a0_8 a0_9 a0_10 a0_11 a0_12 a0_13 a0_14 a0_15 a0_16) [] rfl 0 rfl rfl Tryd.underlying24 rfl (by kernel_rfl) ?_; (case hg => rfl)) | ((with_reducible refine gate_callee (f := 13) rfl ?_); refine goesL_ (some 26) rfl rfl Tryd.func13 (by kernel_rfl) rfl #[.agg (ag_ a0_0 a0_1 a0_2 a0_3 a0_4 a0_5 a0_6 a0_7 a0_8 a0_9 a0_10 a0_11 a0_12 a0_13 a0_14 a0_15 a0_16)] rfl lq_ ?_; (with_reducible refine (lanternref05_Embeds.calls k1 a0_0 a0_1 a0_2 a0_3 a0_4 a0_5 a0_6 a0_7 a0_8 a0_9 a0_10 a0_11 a0_12 a0_13 a0_14 a0_15 a0_16 t153 t154 t155 t156 t157 t158 t159 t160 t161 t162 t163 t164 t165 t166 t167 t168 t169 false _ ?side1 A12.out).mono ?_); (case side1 => exact lg_); rintro e w29 ⟨rfl, hb⟩; refine ⟨_, rfl, ?_⟩; replace HO_3 := Aside0.mk (Kd.R_below (by (with_reducible repeat (first | apply Kd.R_alloc | apply Kd.R_drewN | apply Kd.R_drew)); exact HO_3.out) hb); replace BK144 := Aside0.mk (bb_ BK144 hb); replace HB := Aside0.mk (below_step bg_ hb); (try clear hb); (try clear hb2); (try clear hk); (try clear hi)) | ((with_reducible refine gate_dst (N := 5) rfl ?_); refine box_event ?hg (N := 5) ?hd (cs := az_) (t := 24) ?hr ?_; (case hd => rfl); (case hg => rfl); (case hr => first | (go_simp; done) | (go_simp; rfl)); intro gb171 hg w30 hbox hb; have n0_ := Aside0.mk (Kd.R_below (by (with_reducible repeat (first | apply Kd.R_alloc | apply Kd.R_drewN | apply Kd.R_drew)); exact HO_3.out) hb); have n1_ := Aside0.mk (bb_ BK144 hb); have n2_ := Aside0.mk (below_step bg_ hb); have n3_ := Aside0.mk (hbox); have n4_ := Aside0.mk (show w.heap.size ≤ gb171 from gg_ hg); have n5_ := Aside0.mk (show w.heap.size ≤ gb171 from gg_ hg); have n6_ := Aside0.mk (show gb144 ≠ gb171 from nl_ BK144 hg); have n7_ := Aside0.mk (show gb171 ≠ gb144 from ng_ BK144 hg); clear HO_3; clear BK144; clear HB; have HO_3 := n0_; have BK144 := n1_; have HB := n2_; have BK171 := n3_; have GW171 := n4_; have GE171 := n5_; have NB144_171 := n6_; have NB171_144 := n7_; clear n0_ n1_ n2_ n3_ n4_ n5_ n6_ n7_; clear hb hbox hg; have hnb31 := NB171_144.out; have hnc31 := NB144_171.out; have hcz32_0 := cz_ BK171 0 (.bool false); have hfz32_0 := bf_ BK171 0; have hfz32_1 := bf_ BK171 1; have hfz32_2 := bf_ BK171 2; have hfz32_3 := bf_ BK171 3; have hfz32_4 := bf_ BK171 4; have hfz32_5 := bf_ BK171 5; have hfz32_6 := bf_ BK171 6; have hfz32_7 := bf_ BK171 7; have hfz32_8 := bf_ BK171 8; have hfz32_9 := bf_ BK171 9; have hfz32_10 := bf_ BK171 10; have hfz32_11 := bf_ BK171 11; have hfz32_12 := bf_ BK171 12; have hfz32_13 := bf_ BK171 13; have hfz32_14 := bf_ BK171 14; have hfz32_15 := bf_ BK171 15; have hfz32_16 := bf_ BK171 16) | ((with_reducible refine gate_store (t := 24) (p := 5) rfl ?_); refine store_all ?hg 24 5 _ rfl rfl gb171 ay_ (al_ t153 t154 t155 t156 t157 t158 t159 t160 t161 t162 t163 t164 t165 t166 t167 t168 t169) BK171.out rfl rfl rfl (by kernel_rfl) rfl ?_; (case hg => rfl); intro w33 hw; have n0_ : Aside0 (Kd.R k34 34 w33 w.heap.size (fun _ => True) (.slice (some ad151) t147.length co26) t147) := ⟨(by rw [hw]; exact (by (with_reducible repeat (first | apply Kd.R_alloc | apply Kd.R_drewN | apply Kd.R_drew)); exact Kd.R_mono (R_farC (g := gb171) (fun _ hk => hk.2) (Kd.R_types HO_3.out BK171.out (by decide)) (al_ t153 t154 t155 t156 t157 t158 t159 t160 t161 t162 t163 t164 t165 t166 t167 t168 t169) 0) (fun _ hk => trivial)))⟩; have n1_ : Aside0 (w33.heap[gb144]? = some (.cells (ag_ a0_0 a0_1 a0_2 a0_3 a0_4 a0_5 a0_6 a0_7 a0_8 a0_9 a0_10 a0_11 a0_12 a0_13 a0_14 a0_15 a0_16) 24 (0, 0))) := ⟨(by rw [hw]; exact (by (with_reducible repeat (first | refine blk_drewN ?_ _ | refine blk_drew ?_ | refine blk_alloc ?_ _)); refine blk_farC NB144_171.out _ _ ?_; (with_reducible repeat (first | refine blk_drewN ?_ _ | refine blk_drew ?_ | refine blk_alloc ?_ _)); exact BK144.out))⟩; have n2_ : Aside0 (w33.heap[gb171]? = some (.cells (ag_ t153 t154 t155 t156 t157 t158 t159 t160 t161 t162 t163 t164 t165 t166 t167 t168 t169) 24 (0, 0))) := ⟨(by rw [hw]; exact (by (with_reducible repeat (first | refine blk_drewN ?_ _ | refine blk_drew ?_ | refine blk_alloc ?_ _)); refine blk_part (al_ t153 t154 t155 t156 t157 t158 t159 t160 t161 t162 t163 t164 t165 t166 t167 t168 t169) ay_ [] [] (cs := az_) ?_ rfl rfl rfl; (with_reducible repeat (first | refine blk_drewN ?_ _ | refine blk_drew ?_ | refine blk_alloc ?_ _)); exact BK171.out))⟩; have n3_ : Aside0 (Below w.heap.size w w33) := ⟨(by rw [hw]; exact (by repeat (first | (with_reducible first | exact HB.out | apply below_alloc | apply pw_below_drewN | apply below_drew1 | refine below_set ?_ GE144.out | refine below_set ?_ GE171.out | refine below_setC GE144.out _ _ ?_ | refine below_setC GE171.out _ _ ?_) | exact HB.out)))⟩; clear hw; clear HO_3; clear BK144; clear BK171; clear HB; have HO_3 := n0_; have BK144 := n1_; have BK171 := n2_; have HB := n3_; clear n0_ n1_ n2_ n3_))
        replace HO_3 := Aside0.mk (Kd.R_drew HO_3.out)
        replace BK144 := Aside0.mk (blk_drew BK144.out)
        replace BK171 := Aside0.mk (blk_drew BK171.out)
        replace HB := Aside0.mk (below_drew1 HB.out)
        refine start_ (n := 9) (S := fun w' => True) (ds := []) (bv_ 0 9) (by kernel_rfl) rfl rfl trivial (fun hHeld => ?_); refine with_tabW lanternlaw06_CidrSafe.tab10 lanternlaw06_CidrSafe.bits10 (fun HT_ HW_ => ?_)
        generalize w33.drew = w34 at HO_3 BK144 BK171 HB hHeld ⊢
        refine pl_ 0 29 ?_ 1 8 HT_ ?_ ?_ ?_ ?_
        rotate_left
        ·intro w'
         go_simp
         with_reducible rfl
        rotate_left
        ·simp only [Act.put, sa_, s0_, s1_, i64_w, i32_w]
         rfl
        refine pl_ 1 30 ?_ 2 7 HT_ ?_ ?_ ?_ ?_
        rotate_left
        ·intro w'
         go_simp
         with_reducible rfl
        rotate_left
        ·simp only [Act.put, sa_, s0_, s1_, i64_w, i32_w]
         rfl
        refine pr_ 2 31 3 6 HT_ ?_ ?_ ?_
        rotate_left
        ·simp only [Act.put, sa_, s0_, s1_, i64_w, i32_w]
         rfl
        refine pr_ 3 32 4 5 HT_ ?_ ?_ ?_
        rotate_left
        ·simp only [Act.put, sa_, s0_, s1_, i64_w, i32_w]
         rfl
        refine pr_ 4 33 5 4 HT_ ?_ ?_ ?_
        rotate_left
        ·simp only [Act.put, sa_, s0_, s1_, i64_w, i32_w]
         rfl
        refine pr_ 5 34 6 3 HT_ ?_ ?_ ?_
        rotate_left
        ·simp only [Act.put, sa_, s0_, s1_, i64_w, i32_w]
         rfl
        refine pr_ 6 35 7 2 HT_ ?_ ?_ ?_
        rotate_left
        ·simp only [Act.put, sa_, s0_, s1_, i64_w, i32_w]
         rfl
        refine pr_ 7 36 8 1 HT_ ?_ ?_ ?_
        rotate_left
        ·simp only [Act.put, sa_, s0_, s1_, i64_w, i32_w]
         rfl
        refine pl_ 8 37 ?_ 9 0 HT_ ?_ ?_ ?_ ?_
        rotate_left
        ·intro w'
         go_simp
         with_reducible rfl
        rotate_left
        ·simp only [Act.put, sa_, s0_, s1_, i64_w, i32_w]
         rfl
        refine done_ (done_of HT_.out (by kernel_rfl)) ?_
        try go_wp2
        go_roundg k1
        case measure => have := HK1.out; omega
        case rel => exact ⟨(wrap64 (x4_1 + 1)), sq_, H', ⟨by have := HK1.out; omega⟩, ⟨by (with_reducible repeat (first | apply Kd.R_alloc | apply Kd.R_drewN | apply Kd.R_drew)); exact HO_3.out⟩, ⟨by (with_reducible repeat (first | refine blk_drewN ?_ _ | refine blk_drew ?_ | refine blk_alloc ?_ _)); exact BK144.out⟩, ⟨bg_⟩⟩
     ·rw [if_neg c9] at H
      exact absurd H (by simp)
    ·rw [if_neg c8] at H
     have c8b0 : decide (x4_1 < (t147.length : Int)) = false := decide_eq_false c8
     clear c8
     replace H := Option.bind_eq_some_iff.mp H
     obtain ⟨t150, A350, H⟩ := H
     (try dsimp only at H)
     have A35 := Aside0.mk A350
     clear A350
     obtain rfl := Option.some.inj H
     obtain ⟨Ao36, co36, eo36⟩ := Kd.R_slice HO_3.out
     subst eo36
     go_wp2_with (first | ((with_reducible refine gate_callee (f := 6) rfl ?_); refine goesL_ (some 38) rfl rfl Tryd.func6 (by kernel_rfl) rfl #[] rfl lq_ ?_; (with_reducible refine (lanternlaw06_awake.calls k1  t150 _ ?side1 A35.out).mono ?_); (case side1 => exact lg_); rintro e w37 ⟨rfl, hb⟩; refine ⟨_, rfl, ?_⟩; replace HO_3 := Aside0.mk (Kd.R_below (by (with_reducible repeat (first | apply Kd.R_alloc | apply Kd.R_drewN | apply Kd.R_drew)); exact HO_3.out) hb); replace BK144 := Aside0.mk (bb_ BK144 hb); replace HB := Aside0.mk (below_step bg_ hb); (try clear hb); (try clear hb2); (try clear hk); (try clear hi)))
     go_ret
     exact ⟨rq_, bg_⟩
 ·rw [if_neg c3] at H
  have c3b0 : (t145 == 0) = false := beq_eq_false_iff_ne.mpr c3
  have c3b1 : (t145 != 0) = true := bne_iff_ne.mpr c3
  replace H := Option.bind_eq_some_iff.mp H
  obtain ⟨t146, A380, H⟩ := H
  (try dsimp only at H)
  have A38 := Aside0.mk A380
  clear A380
  obtain rfl := Option.some.inj H
  go_enter Tryd.func4, Tryd.ntmps4
  go_wp2_with (first | ((with_reducible refine gate_dst (N := 1) rfl ?_); refine box_event ?hg (N := 1) ?hd (cs := (ag_ a0_0 a0_1 a0_2 a0_3 a0_4 a0_5 a0_6 a0_7 a0_8 a0_9 a0_10 a0_11 a0_12 a0_13 a0_14 a0_15 a0_16)) (t := 24) ?hr ?_; (case hd => rfl); (case hg => rfl); (case hr => first | (go_simp; done) | (go_simp; rfl)); intro gb144 hg w39 hbox hb; have BK144 := Aside0.mk (hbox); have GW144 := Aside0.mk (show w.heap.size ≤ gb144 from ge_ hg); have GE144 := Aside0.mk (show w.heap.size ≤ gb144 from ge_ hg); replace HB := Aside0.mk (below_step bq_ hb); clear hb hbox hg) | ((with_reducible refine gate_dst (N := 7) rfl ?_); (try (refine gate_guard (by rfl) ?_; dsimp only)); refine load_box ?hg 24 (.tmp 1) rfl BK144.out [] (al_ a0_0 a0_1 a0_2 a0_3 a0_4 a0_5 a0_6 a0_7 a0_8 a0_9 a0_10 a0_11 a0_12 a0_13 a0_14 a0_15 a0_16) [] rfl 0 rfl rfl Tryd.underlying24 rfl (by kernel_rfl) ?_; (case hg => rfl)) | ((with_reducible refine gate_callee (f := 7) rfl ?_); refine goesL_ (some 8) rfl rfl Tryd.func7 (by kernel_rfl) rfl #[.agg (ag_ a0_0 a0_1 a0_2 a0_3 a0_4 a0_5 a0_6 a0_7 a0_8 a0_9 a0_10 a0_11 a0_12 a0_13 a0_14 a0_15 a0_16), .slice none 0 0] rfl lq_ ?_; (refine (cidr_Allow.calls k a0_0 a0_1 a0_2 a0_3 a0_4 a0_5 a0_6 a0_7 a0_8 a0_9 a0_10 a0_11 a0_12 a0_13 a0_14 a0_15 a0_16 _ _ ([] : List (S34)) t145 _ ?side3 ?side1 ?side2 A2.out).mono ?_); (case side1 => exact Kd.C_nil _ _); (case side2 => exact Nat.le_refl _); (case side3 => exact lg_); rintro e w40 ⟨rfl, hb⟩; refine ⟨_, rfl, ?_⟩; replace BK144 := Aside0.mk (bb_ BK144 hb); replace HB := Aside0.mk (below_step bg_ hb); (try clear hb); (try clear hb2); (try clear hk); (try clear hi)) | ((with_reducible refine gate_callee (f := 6) rfl ?_); refine goesL_ (some 10) rfl rfl Tryd.func6 (by kernel_rfl) rfl #[] rfl lq_ ?_; (with_reducible refine (lanternlaw06_awake.calls k  t146 _ ?side1 A38.out).mono ?_); (case side1 => exact lg_); rintro e w41 ⟨rfl, hb⟩; refine ⟨_, rfl, ?_⟩; replace BK144 := Aside0.mk (bb_ BK144 hb); replace HB := Aside0.mk (below_step bg_ hb); (try clear hb); (try clear hb2); (try clear hk); (try clear hi)))
  go_ret
  exact ⟨rq_, bg_⟩

end Go.Proofs.YtdopafhppaalfaaDoor.L
