import Derived.Test.YtipleegkonhfcaaGreatDoorKT3
namespace Go.Proofs.YtipleegkonhfcaaGreatDoor.KT
open Go.Proofs.YtipleegkonhfcaaGreatDoorZ
open Go.Proofs.YtipleegkonhfcaaGreatDoor.E Go.Proofs.YtipleegkonhfcaaGreatDoorV
open Go.Proofs.YtipleegkonhfcaaGreatDoor.U
open Go.Proofs.YtipleegkonhfcaaGreatDoor.KF
open Go.Proofs.YtipleegkonhfcaaGreatDoor.P
open Go.Proofs.YtipleegkonhfcaaGreatDoor.KH
open Go.Proofs.YtipleegkonhfcaaGreatDoor.KA
open Go.Proofs.YtipleegkonhfcaaGreatDoor.KQ
open Go.RowKit Go.Proofs.YtipleegkonhfcaaGreatDoorW.PrintWords Go.Proofs.YtipleegkonhfcaaGreatDoorW.PrintLast Go.Proofs.YtipleegkonhfcaaGreatDoorW.PrintMore
attribute [local go_sem] max2_int min2_int max_two min_two max_three min_three max_four min_four   -- for this text's walks alone
set_option linter.unusedVariables false
set_option linter.unusedSimpArgs false

def lanternref11_MayResponse.j0 : Nat → Bool → Int → ByteArray → List (S67) → List Int → Option (Bool)
 | 0, _, _, _, _, _ => none
 | k + 1, x33, V0, V1, V2, V3 => if x33 = true then (some false) else ((lanternref11_Bare.f V0).bind fun t125 => ((lanternref11_fits.f k V2 V3 (!t125)).bind fun t126 => (some t126)))
def lanternref11_MayResponse.f (k : Nat) (z0 : Int) (z1 : ByteArray) (l0_2 : List (S67)) (l0_3 : List Int) : Option (Bool) := if z0 < 200 then (lanternref11_MayResponse.j0 k true z0 z1 l0_2 l0_3) else (if z0 > 599 then (lanternref11_MayResponse.j0 k true z0 z1 l0_2 l0_3) else (if (z1.size : Int) > 128 then (lanternref11_MayResponse.j0 k true z0 z1 l0_2 l0_3) else ((lanternref11_between.f k z1 32 126).bind fun t123 => (if t123 = true then ((lanternref11_Bare.f z0).bind fun t124 => (if t124 = true then (lanternref11_MayResponse.j0 k (decide ((l0_3.length : Int) > 0)) z0 z1 l0_2 l0_3) else (lanternref11_MayResponse.j0 k false z0 z1 l0_2 l0_3))) else (lanternref11_MayResponse.j0 k true z0 z1 l0_2 l0_3)))))
theorem lanternref11_MayResponse.mono_l : ∀ k, (∀ y0 y1 y2 y3 y4, LeO (lanternref11_MayResponse.j0 k y0 y1 y2 y3 y4) (lanternref11_MayResponse.j0 (k + 1) y0 y1 y2 y3 y4))
 | 0 => fun _ _ _ _ _ r h => by simp [lanternref11_MayResponse.j0] at h
 | k + 1 => by
  have ih0 := lanternref11_MayResponse.mono_l k
  ·intro y0 y1 y2 y3 y4
   unfold lanternref11_MayResponse.j0
   repeat' first
   | (with_reducible exact ih0 _ _ _ _ _)
   | (with_reducible exact lanternref11_between.mono _ _ _ _)
   | (with_reducible exact lanternref11_fits.mono _ _ _ _)
   | (with_reducible exact LeO.refl _)
   | (with_reducible exact LeO.none _)
   | (with_reducible refine LeO.ite ?_ ?_)
   | (with_reducible refine LeO.bind ?_ (fun _ => ?_))
   | exact ih0 _ _ _ _ _
   | exact lanternref11_between.mono _ _ _ _
   | exact lanternref11_fits.mono _ _ _ _
   | exact LeO.none _
   | refine LeO.ite ?_ ?_
   | refine LeO.bind ?_ (fun _ => ?_)
theorem lanternref11_MayResponse.mono : ∀ a0 a1 a2 a3 k, LeO (lanternref11_MayResponse.f k a0 a1 a2 a3) (lanternref11_MayResponse.f (k + 1) a0 a1 a2 a3) := by
 intro a0 a1 a2 a3 k
 have ih0 := lanternref11_MayResponse.mono_l k
 unfold lanternref11_MayResponse.f
 repeat' first
   | (with_reducible exact ih0 _ _ _ _ _)
   | (with_reducible exact lanternref11_between.mono _ _ _ _)
   | (with_reducible exact lanternref11_fits.mono _ _ _ _)
   | (with_reducible exact LeO.refl _)
   | (with_reducible exact LeO.none _)
   | (with_reducible refine LeO.ite ?_ ?_)
   | (with_reducible refine LeO.bind ?_ (fun _ => ?_))
   | exact ih0 _ _ _ _ _
   | exact lanternref11_between.mono _ _ _ _
   | exact lanternref11_fits.mono _ _ _ _
   | exact LeO.none _
   | refine LeO.ite ?_ ?_
   | refine LeO.bind ?_ (fun _ => ?_)
def lanternref11_MayResponse.T3 : Bool × List (List Nat × List Nat) := (true, [([], []), ([0], [0]), ([], []), ([2], [2]), ([], []), ([4], [4]), ([5], [5]), ([6], [6]), ([1, 3, 7, 6], [1, 3, 7]), ([8, 8, 0, 1, 2, 3, 4, 5, 6, 7, 8], [8])])
def lanternref11_MayResponse.B3 : List Nat := [0, 1, 0, 4, 0, 16, 48, 112, 255, 511]
theorem lanternref11_MayResponse.tab3 : rtab .any (opsOf Tryz.f17 3) = lanternref11_MayResponse.T3 := by kernel_rfl
theorem lanternref11_MayResponse.bits3 : waitsOk lanternref11_MayResponse.T3.2 lanternref11_MayResponse.B3 = true := by kernel_rfl
set_option maxHeartbeats 8000000 in
set_option maxRecDepth 100000 in
theorem lanternref11_MayResponse.calls (k : Nat) (z0 : Int) (z1 : ByteArray) (A0_2 : Option Addr) (c0_2 : Nat) (l0_2 : List (S67)) (A0_3 : Option Addr) (c0_3 : Nat) (l0_3 : List Int) (r : Bool) (w : World) (hLW : LW w) (hr0_2 : Kd.C k67 w A0_2 l0_2.length l0_2) (hc0_2 : l0_2.length ≤ c0_2) (hr0_3 : Kd.C (Kd.int .u8) w A0_3 l0_3.length l0_3) (hc0_3 : l0_3.length ≤ c0_3) (h : lanternref11_MayResponse.f k z0 z1 l0_2 l0_3 = some r) :
  Calls Tryz.prog 17 #[.agg #[.int .i64 z0, .string z1, .slice A0_2 l0_2.length c0_2, .slice A0_3 l0_3.length c0_3]] w fun e w' => e = .returned (.bool r) ∧ Below w.heap.size w w' := by
 have hu41 := Tryz.underlying41
 have HLW := Aside0.mk hLW
 clear hLW
 have HR0_2 := Aside0.mk hr0_2
 have HC0_2 := Aside0.mk hc0_2
 clear hr0_2 hc0_2
 have HR0_3 := Aside0.mk hr0_3
 have HC0_3 := Aside0.mk hc0_3
 clear hr0_3 hc0_3
 have HB := Aside0.mk (Below.refl w.heap.size w)
 have H := h
 unfold lanternref11_MayResponse.f at H
 clear h
 have HC2 := Aside0.mk H
 clear H
 go_enter Tryz.func17, Tryz.ntmps17
 go_upto_region 1 with (first | ((with_reducible refine gate_dst (N := 1) rfl ?_); (try (refine gate_guard (by rfl) ?_; dsimp only)); refine bx_ 1 #[.int .i64 z0, .string z1, .slice A0_2 l0_2.length c0_2, .slice A0_3 l0_3.length c0_3] 41 ?_; intro gb122 hg w3 hbox hb; have BK122 := Aside0.mk (hbox); have GW122 := Aside0.mk (ge_ (w := w) hg); have GE122 := Aside0.mk (ge_ (w := w) hg); replace HB := Aside0.mk (below_step bq_ hb); clear hb hbox hg))
 (try simp only [Act.put, List.setIfInBounds_toArray, List.set_cons_zero, List.set_cons_succ])
 go_cut [33] (fun v33 wc => ∃ (kq : Nat) (x33_1 : Bool), v33 = .bool x33_1 ∧ Aside0 (lanternref11_MayResponse.j0 kq x33_1 z0 z1 l0_2 l0_3 = some r) ∧ Aside0 (kq ≤ k) ∧ Aside0 (wc.heap[gb122]? = some (.cells #[.int .i64 z0, .string z1, (.slice A0_2 l0_2.length c0_2), (.slice A0_3 l0_3.length c0_3)] 41 (0, 0))) ∧ Aside0 (Below w.heap.size w wc))
 case first =>
  have H := HC2.out
  clear HC2
  by_cases c4 : z0 < 200
  ·rw [if_pos c4] at H
   have c4b0 := decide_eq_true c4
   clear c4
   (first | rw [c4b0] | (simp only [i64_w, i32_w]; rw [c4b0]) | skip)
   have H' := Aside0.mk H
   clear H
   have hcz5_0 := cz_ BK122 0 (.int .i64 z0)
   have hcz5_1 := cz_ BK122 1 (.string z1)
   have hcz5_2 := cz_ BK122 2 (.slice A0_2 l0_2.length c0_2)
   have hcz5_3 := cz_ BK122 3 (.slice A0_3 l0_3.length c0_3)
   have hfz5_0 := bf_ BK122 0
   have hfz5_1 := bf_ BK122 1
   have hfz5_2 := bf_ BK122 2
   have hfz5_3 := bf_ BK122 3
   go_wp2
   go_meet
   case rel => exact ⟨_, (true), sq_, H', ⟨by first | omega | exact Nat.le_refl _⟩, ⟨bk_⟩, ⟨bg_⟩⟩
  ·rw [if_neg c4] at H
   have c4b0 := decide_eq_false c4
   clear c4
   (first | rw [c4b0] | (simp only [i64_w, i32_w]; rw [c4b0]) | skip)
   by_cases c6 : z0 > 599
   ·rw [if_pos c6] at H
    have c6b0 := decide_eq_true c6
    clear c6
    have H' := Aside0.mk H
    clear H
    have hcz7_0 := cz_ BK122 0 (.int .i64 z0)
    have hcz7_1 := cz_ BK122 1 (.string z1)
    have hcz7_2 := cz_ BK122 2 (.slice A0_2 l0_2.length c0_2)
    have hcz7_3 := cz_ BK122 3 (.slice A0_3 l0_3.length c0_3)
    have hfz7_0 := bf_ BK122 0
    have hfz7_1 := bf_ BK122 1
    have hfz7_2 := bf_ BK122 2
    have hfz7_3 := bf_ BK122 3
    go_wp2
    go_meet
    case rel => exact ⟨_, (true), sq_, H', ⟨by first | omega | exact Nat.le_refl _⟩, ⟨bk_⟩, ⟨bg_⟩⟩
   ·rw [if_neg c6] at H
    have c6b0 := decide_eq_false c6
    clear c6
    by_cases c8 : (z1.size : Int) > 128
    ·rw [if_pos c8] at H
     have c8b0 := decide_eq_true c8
     have c8b1 : decide (128 < z1.size) = true := decide_eq_true (by omega)
     clear c8
     have H' := Aside0.mk H
     clear H
     have hcz9_0 := cz_ BK122 0 (.int .i64 z0)
     have hcz9_1 := cz_ BK122 1 (.string z1)
     have hcz9_2 := cz_ BK122 2 (.slice A0_2 l0_2.length c0_2)
     have hcz9_3 := cz_ BK122 3 (.slice A0_3 l0_3.length c0_3)
     have hfz9_0 := bf_ BK122 0
     have hfz9_1 := bf_ BK122 1
     have hfz9_2 := bf_ BK122 2
     have hfz9_3 := bf_ BK122 3
     go_wp2
     go_meet
     case rel => exact ⟨_, (true), sq_, H', ⟨by first | omega | exact Nat.le_refl _⟩, ⟨bk_⟩, ⟨bg_⟩⟩
    ·rw [if_neg c8] at H
     have c8b0 := decide_eq_false c8
     have c8b1 : decide (128 < z1.size) = false := decide_eq_false (by omega)
     clear c8
     replace H := Option.bind_eq_some_iff.mp H
     obtain ⟨t123, A100, H⟩ := H
     (try dsimp only at H)
     have A10 := Aside0.mk A100
     clear A100
     by_cases c11 : t123 = true
     ·subst c11
      replace H := ifT_ H
      replace H := Option.bind_eq_some_iff.mp H
      obtain ⟨t124, A120, H⟩ := H
      (try dsimp only at H)
      have A12 := Aside0.mk A120
      clear A120
      by_cases c13 : t124 = true
      ·subst c13
       replace H := ifT_ H
       have H' := Aside0.mk H
       clear H
       have hcz14_0 := cz_ BK122 0 (.int .i64 z0)
       have hcz14_1 := cz_ BK122 1 (.string z1)
       have hcz14_2 := cz_ BK122 2 (.slice A0_2 l0_2.length c0_2)
       have hcz14_3 := cz_ BK122 3 (.slice A0_3 l0_3.length c0_3)
       have hfz14_0 := bf_ BK122 0
       have hfz14_1 := bf_ BK122 1
       have hfz14_2 := bf_ BK122 2
       have hfz14_3 := bf_ BK122 3
       go_wp2_with (first | (go_at_call 45; (with_reducible refine (lanternref11_between.calls k z1 32 126 true _ ?side1 A10.out).mono ?_); (case side1 => exact lg_); rintro e w' ⟨rfl, ⟨nd, rfl⟩⟩) | (go_at_call 21; (with_reducible refine (lanternref11_Bare.calls z0 true _ ?side1 A12.out).mono ?_); (case side1 => exact lg_); rintro e w' ⟨rfl, ⟨nd, rfl⟩⟩))
       go_meet
       case rel => exact ⟨_, (decide ((l0_3.length : Int) > 0)), sq_, H', ⟨by first | omega | exact Nat.le_refl _⟩, ⟨bk_⟩, ⟨bg_⟩⟩
      ·replace c13 := Bool.eq_false_iff.mpr c13
       subst c13
       replace H := ifF_ H
       have H' := Aside0.mk H
       clear H
       have hcz15_0 := cz_ BK122 0 (.int .i64 z0)
       have hcz15_1 := cz_ BK122 1 (.string z1)
       have hcz15_2 := cz_ BK122 2 (.slice A0_2 l0_2.length c0_2)
       have hcz15_3 := cz_ BK122 3 (.slice A0_3 l0_3.length c0_3)
       have hfz15_0 := bf_ BK122 0
       have hfz15_1 := bf_ BK122 1
       have hfz15_2 := bf_ BK122 2
       have hfz15_3 := bf_ BK122 3
       go_wp2_with (first | (go_at_call 45; (with_reducible refine (lanternref11_between.calls k z1 32 126 true _ ?side1 A10.out).mono ?_); (case side1 => exact lg_); rintro e w' ⟨rfl, ⟨nd, rfl⟩⟩) | (go_at_call 21; (with_reducible refine (lanternref11_Bare.calls z0 false _ ?side1 A12.out).mono ?_); (case side1 => exact lg_); rintro e w' ⟨rfl, ⟨nd, rfl⟩⟩))
       go_meet
       case rel => exact ⟨_, (false), sq_, H', ⟨by first | omega | exact Nat.le_refl _⟩, ⟨bk_⟩, ⟨bg_⟩⟩
     ·replace c11 := Bool.eq_false_iff.mpr c11
      subst c11
      replace H := ifF_ H
      have H' := Aside0.mk H
      clear H
      have hcz16_0 := cz_ BK122 0 (.int .i64 z0)
      have hcz16_1 := cz_ BK122 1 (.string z1)
      have hcz16_2 := cz_ BK122 2 (.slice A0_2 l0_2.length c0_2)
      have hcz16_3 := cz_ BK122 3 (.slice A0_3 l0_3.length c0_3)
      have hfz16_0 := bf_ BK122 0
      have hfz16_1 := bf_ BK122 1
      have hfz16_2 := bf_ BK122 2
      have hfz16_3 := bf_ BK122 3
      go_wp2_with (first | (go_at_call 45; (with_reducible refine (lanternref11_between.calls k z1 32 126 false _ ?side1 A10.out).mono ?_); (case side1 => exact lg_); rintro e w' ⟨rfl, ⟨nd, rfl⟩⟩))
      go_meet
      case rel => exact ⟨_, (true), sq_, H', ⟨by first | omega | exact Nat.le_refl _⟩, ⟨bk_⟩, ⟨bg_⟩⟩
 case rest =>
  clear HC2
  obtain ⟨kq, x33_1, rfl, HA, HJ1, BK122, HB⟩ := hcut
  cases kq with
  | zero => exact absurd HA.out (by simp [lanternref11_MayResponse.j0])
  | succ kj1 =>
   have H := HA.out
   clear HA
   simp only [lanternref11_MayResponse.j0] at H
   by_cases c17 : x33_1 = true
   ·subst c17
    replace H := ifT_ H
    obtain rfl := Option.some.inj H
    go_wp2
    go_ret
    exact ⟨rq_, bg_⟩
   ·replace c17 := Bool.eq_false_iff.mpr c17
    subst c17
    replace H := ifF_ H
    replace H := Option.bind_eq_some_iff.mp H
    obtain ⟨t125, A180, H⟩ := H
    (try dsimp only at H)
    have A18 := Aside0.mk A180
    clear A180
    replace H := Option.bind_eq_some_iff.mp H
    obtain ⟨t126, A190, H⟩ := H
    (try dsimp only at H)
    have A19 := Aside0.mk A190
    clear A190
    obtain rfl := Option.some.inj H
    try go_wp2
    replace BK122 := Aside0.mk (blk_drew BK122.out)
    replace HB := Aside0.mk (below_drew1 HB.out)
    refine start_ (n := 10) (S := fun w' => w'.cell? ⟨gb122, 0, none⟩ = some (.int .i64 z0) ∧ w'.cell? ⟨gb122, 1, none⟩ = some (.string z1) ∧ w'.cell? ⟨gb122, 2, none⟩ = some (.slice A0_2 l0_2.length c0_2) ∧ w'.cell? ⟨gb122, 3, none⟩ = some (.slice A0_3 l0_3.length c0_3)) (ds := []) (bv_ 0 10) (by kernel_rfl) rfl rfl ⟨(blk_cell BK122.out 0).trans rfl, (blk_cell BK122.out 1).trans rfl, (blk_cell BK122.out 2).trans rfl, (blk_cell BK122.out 3).trans rfl⟩ (fun hHeld => ?_); refine with_tabW lanternref11_MayResponse.tab3 lanternref11_MayResponse.bits3 (fun HT_ HW_ => ?_)
    generalize wc.drew = w20 at BK122 HB hHeld ⊢
    refine p1_ HT_ ?_
    refine pure_ (i := 2) (N := some 36) (v := ?_) (a' := ?_) #[true, false, true, false, false, false, false, false, false, false] rfl rfl (any_of HT_.out (by kernel_rfl)) (fun _ _ _ h => h) (Or.inl ⟨by rfl, ?_⟩) ?_ ?_
    rotate_left
    ·intro w'
     go_simp
     with_reducible rfl
    rotate_left
    ·simp only [Act.put, sa_, s0_, s1_, i64_w, i32_w]
     rfl
    refine pure_ (i := 4) (N := some 38) (v := ?_) (a' := ?_) #[true, false, true, false, true, false, false, false, false, false] rfl rfl (any_of HT_.out (by kernel_rfl)) (fun _ _ _ h => h) (Or.inl ⟨by rfl, ?_⟩) ?_ ?_
    rotate_left
    ·intro w'
     go_simp
     with_reducible rfl
    rotate_left
    ·simp only [Act.put, sa_, s0_, s1_, i64_w, i32_w]
     rfl
    refine take_ (i := 1) (N := some 35) (v := ?_) (a' := ?_) #[true, true, true, false, true, false, false, false, false, false] rfl rfl (take_ofW HT_.out HW_.out (by kernel_rfl)) (fun _ _ _ h => h) (Or.inl ⟨by rfl, ?_⟩) hHeld ?_ ?_
    rotate_left
    ·rintro w' ⟨s0, s1, s2, s3⟩
     go_simp
     with_reducible rfl
    rotate_left
    ·simp only [Act.put, sa_, s0_, s1_, i64_w, i32_w]
     rfl
    refine tl_ 3 37 ?_ 5 5 HT_ HW_ ?_ hHeld ?_ ?_ ?_
    rotate_left
    ·rintro w' ⟨s0, s1, s2, s3⟩
     go_simp
     with_reducible rfl
    rotate_left
    ·simp only [Act.put, sa_, s0_, s1_, i64_w, i32_w]
     rfl
    refine t4_ HT_ HW_ hHeld ?_
    refine one_ (i := 6) (N := some 40) (bv_ 7 3) rfl rfl (one_of HT_.out (by kernel_rfl)) (by decide) (fun K hK => ?_)
    refine goes_ Tryz.func21 (by kernel_rfl) rfl #[.int .i64 z0] (by rfl) rfl rfl lq_ ?_
    with_reducible refine (lanternref11_Bare.calls z0 t125 _ ?side1 A18.out).mono ?_
    (case side1 => exact lg_)
    rintro e w' ⟨rfl, ⟨nd, rfl⟩⟩
    refine ⟨_, rfl, ?_⟩
    refine hK.out _ _ ⟨(blk_cell BK122.out 0).trans rfl, (blk_cell BK122.out 1).trans rfl, (blk_cell BK122.out 2).trans rfl, (blk_cell BK122.out 3).trans rfl⟩ (fun hHeld => ?_)
    clear hK K
    refine norm_ (a' := ?_) ?_ ?_
    rotate_left
    ·show Act.put _ (some 40) _ = _
     simp only [Act.put, sa_, s0_, s1_, i64_w, i32_w]
     rfl
    refine p1_ HT_ ?_
    refine one_ (i := 8) (N := some 42) (bv_ 9 1) rfl rfl (one_of HT_.out (by kernel_rfl)) (by decide) (fun K hK => ?_)
    refine goes_ Tryz.func39 (by kernel_rfl) rfl #[.slice A0_2 l0_2.length c0_2, .slice A0_3 l0_3.length c0_3, .bool (!t125)] (by rfl) rfl rfl lq_ ?_
    with_reducible refine (lanternref11_fits.calls kj1 _ _ l0_2 _ _ l0_3 (!t125) t126 _ ?side5 ?side1 ?side2 ?side3 ?side4 A19.out).mono ?_
    (case side1 => repeat (first | exact (Kd.C_below HR0_2.out bg_) | (with_reducible refine Kd.C_alloc ?_ _) | (with_reducible refine Kd.C_drewN ?_ _) | (with_reducible refine Kd.C_drew ?_)))
    (case side2 => exact HC0_2.out)
    (case side3 => repeat (first | exact (Kd.C_below HR0_3.out bg_) | (with_reducible refine Kd.C_alloc ?_ _) | (with_reducible refine Kd.C_drewN ?_ _) | (with_reducible refine Kd.C_drew ?_)))
    (case side4 => exact HC0_3.out)
    (case side5 => exact lg_)
    rintro e w21 ⟨rfl, hb⟩
    refine ⟨_, rfl, ?_⟩
    replace BK122 := Aside0.mk (bb_ BK122 hb)
    replace HB := Aside0.mk (below_step bg_ hb)
    refine hK.out _ _ ⟨(blk_cell BK122.out 0).trans rfl, (blk_cell BK122.out 1).trans rfl, (blk_cell BK122.out 2).trans rfl, (blk_cell BK122.out 3).trans rfl⟩ (fun hHeld => ?_)
    clear hK K
    refine norm_ (a' := ?_) ?_ ?_
    rotate_left
    ·show Act.put _ (some 42) _ = _
     simp only [Act.put, sa_, s0_, s1_, i64_w, i32_w]
     rfl
    refine p1_ HT_ ?_
    refine done_ (done_of HT_.out (by kernel_rfl)) ?_
    try go_wp2
    go_ret
    exact ⟨rq_, bg_⟩

def lanternref11_Response.f (k : Nat) (z0 : Int) (z1 : ByteArray) (l0_2 : List (S67)) (l0_3 : List Int) : Option (List Int) := (lanternref11_Bare.f z0).bind fun t128 => (if t128 = true then ((lanternref06_Digits.f k z0).bind fun t129 => (if 9 + t129.size ≤ 9223372036854775807 then (if ((⟨#[72, 84, 84, 80, 47, 49, 46, 49, 32]⟩ : ByteArray) ++ t129).size + 1 ≤ 9223372036854775807 then (if (((⟨#[72, 84, 84, 80, 47, 49, 46, 49, 32]⟩ : ByteArray) ++ t129) ++ (⟨#[32]⟩ : ByteArray)).size + z1.size ≤ 9223372036854775807 then ((lanternref11_join.f k ((((⟨#[72, 84, 84, 80, 47, 49, 46, 49, 32]⟩ : ByteArray) ++ t129) ++ (⟨#[32]⟩ : ByteArray)) ++ z1) l0_2 l0_3).bind fun t130 => (some t130)) else (none)) else (none)) else (none))) else ((lanternref11_With.f k l0_2 (l0_3.length : Int)).bind fun t133 => ((lanternref06_Digits.f k z0).bind fun t136 => (if 9 + t136.size ≤ 9223372036854775807 then (if ((⟨#[72, 84, 84, 80, 47, 49, 46, 49, 32]⟩ : ByteArray) ++ t136).size + 1 ≤ 9223372036854775807 then (if (((⟨#[72, 84, 84, 80, 47, 49, 46, 49, 32]⟩ : ByteArray) ++ t136) ++ (⟨#[32]⟩ : ByteArray)).size + z1.size ≤ 9223372036854775807 then ((lanternref11_join.f k ((((⟨#[72, 84, 84, 80, 47, 49, 46, 49, 32]⟩ : ByteArray) ++ t136) ++ (⟨#[32]⟩ : ByteArray)) ++ z1) t133 l0_3).bind fun t137 => (some t137)) else (none)) else (none)) else (none)))))
theorem lanternref11_Response.mono : ∀ a0 a1 a2 a3 k, LeO (lanternref11_Response.f k a0 a1 a2 a3) (lanternref11_Response.f (k + 1) a0 a1 a2 a3) := by
 intro a0 a1 a2 a3 k
 unfold lanternref11_Response.f
 repeat' first
   | (with_reducible exact lanternref06_Digits.mono _ _)
   | (with_reducible exact lanternref11_With.mono _ _ _)
   | (with_reducible exact lanternref11_join.mono _ _ _ _)
   | (with_reducible exact LeO.refl _)
   | (with_reducible exact LeO.none _)
   | (with_reducible refine LeO.ite ?_ ?_)
   | (with_reducible refine LeO.bind ?_ (fun _ => ?_))
   | exact lanternref06_Digits.mono _ _
   | exact lanternref11_With.mono _ _ _
   | exact lanternref11_join.mono _ _ _ _
   | exact LeO.none _
   | refine LeO.ite ?_ ?_
   | refine LeO.bind ?_ (fun _ => ?_)
def lanternref11_Response.T4 : Bool × List (List Nat × List Nat) := (true, [([], []), ([0], [0]), ([1], [1]), ([2], [2]), ([3], [3]), ([], []), ([5], [5]), ([4, 6], [4, 6]), ([], []), ([], []), ([9], [9]), ([7, 8, 10, 2], [7, 8, 10]), ([11, 11, 0, 1, 2, 3, 4, 5, 6, 7, 8, 9, 10, 11], [11])])
def lanternref11_Response.B4 : List Nat := [0, 1, 3, 7, 15, 0, 32, 127, 0, 0, 512, 2047, 4095]
theorem lanternref11_Response.tab4 : rtab .any (opsOf Tryz.f19 4) = lanternref11_Response.T4 := by kernel_rfl
theorem lanternref11_Response.bits4 : waitsOk lanternref11_Response.T4.2 lanternref11_Response.B4 = true := by kernel_rfl
set_option maxHeartbeats 8000000 in
set_option maxRecDepth 100000 in
theorem lanternref11_Response.calls (k : Nat) (z0 : Int) (z1 : ByteArray) (A0_2 : Option Addr) (c0_2 : Nat) (l0_2 : List (S67)) (A0_3 : Option Addr) (c0_3 : Nat) (l0_3 : List Int) (r : List Int) (w : World) (hLW : LW w) (hr0_2 : Kd.C k67 w A0_2 l0_2.length l0_2) (hc0_2 : l0_2.length ≤ c0_2) (hr0_3 : Kd.C (Kd.int .u8) w A0_3 l0_3.length l0_3) (hc0_3 : l0_3.length ≤ c0_3) (h : lanternref11_Response.f k z0 z1 l0_2 l0_3 = some r) :
  Calls Tryz.prog 19 #[.agg #[.int .i64 z0, .string z1, .slice A0_2 l0_2.length c0_2, .slice A0_3 l0_3.length c0_3]] w fun e w' => ∃ v0_ : Value, e = .returned (v0_) ∧ Ko.R w' w.heap.size (fun _ => True) v0_ r ∧ Below w.heap.size w w' := by
 have hu41 := Tryz.underlying41
 have HLW := Aside0.mk hLW
 clear hLW
 have HR0_2 := Aside0.mk hr0_2
 have HC0_2 := Aside0.mk hc0_2
 clear hr0_2 hc0_2
 have HR0_3 := Aside0.mk hr0_3
 have HC0_3 := Aside0.mk hc0_3
 clear hr0_3 hc0_3
 have HB := Aside0.mk (Below.refl w.heap.size w)
 have H := h
 unfold lanternref11_Response.f at H
 clear h
 replace H := Option.bind_eq_some_iff.mp H
 obtain ⟨t128, A20, H⟩ := H
 (try dsimp only at H)
 have A2 := Aside0.mk A20
 clear A20
 by_cases c3 : t128 = true
 ·subst c3
  replace H := ifT_ H
  replace H := Option.bind_eq_some_iff.mp H
  obtain ⟨t129, A40, H⟩ := H
  (try dsimp only at H)
  have A4 := Aside0.mk A40
  clear A40
  by_cases c5 : 9 + t129.size ≤ 9223372036854775807
  ·rw [if_pos c5] at H
   have c5b0 := eq_true c5
   have c5b1 := decide_eq_true c5
   try have c5b2 : (9223372036854775807 < 9 + t129.size) = False := eq_false (Nat.not_lt.2 c5)
   by_cases c6 : ((⟨#[72, 84, 84, 80, 47, 49, 46, 49, 32]⟩ : ByteArray) ++ t129).size + 1 ≤ 9223372036854775807
   ·rw [if_pos c6] at H
    have c6b0 := eq_true c6
    have c6b1 := decide_eq_true c6
    try have c6b2 : (9223372036854775807 < ((⟨#[72, 84, 84, 80, 47, 49, 46, 49, 32]⟩ : ByteArray) ++ t129).size + 1) = False := eq_false (Nat.not_lt.2 c6)
    try have c6b8 : (9223372036854775807 < 9 + t129.size + 1) = False := eq_false (by have hq := of_eq_true c6b0; simp only [ByteArray.size_append, ByteArray.size_extract] at hq; have hz0 : (⟨#[72, 84, 84, 80, 47, 49, 46, 49, 32]⟩ : ByteArray).size = 9 := rfl; omega)
    by_cases c7 : (((⟨#[72, 84, 84, 80, 47, 49, 46, 49, 32]⟩ : ByteArray) ++ t129) ++ (⟨#[32]⟩ : ByteArray)).size + z1.size ≤ 9223372036854775807
    ·rw [if_pos c7] at H
     have c7b0 := eq_true c7
     have c7b1 := decide_eq_true c7
     try have c7b2 : (9223372036854775807 < (((⟨#[72, 84, 84, 80, 47, 49, 46, 49, 32]⟩ : ByteArray) ++ t129) ++ (⟨#[32]⟩ : ByteArray)).size + z1.size) = False := eq_false (Nat.not_lt.2 c7)
     try have c7b8 : (9223372036854775807 < 9 + t129.size + 1 + z1.size) = False := eq_false (by have hq := of_eq_true c7b0; simp only [ByteArray.size_append, ByteArray.size_extract] at hq; have hz0 : (⟨#[32]⟩ : ByteArray).size = 1 := rfl; have hz1 : (⟨#[72, 84, 84, 80, 47, 49, 46, 49, 32]⟩ : ByteArray).size = 9 := rfl; omega)
     replace H := Option.bind_eq_some_iff.mp H
     obtain ⟨t130, A80, H⟩ := H
     (try dsimp only at H)
     have A8 := Aside0.mk A80
     clear A80
     obtain rfl := Option.some.inj H
     go_enter Tryz.func19, Tryz.ntmps19
     try go_wp2_with (first | ((with_reducible refine gate_dst (N := 1) rfl ?_); refine bx_ 1 #[.int .i64 z0, .string z1, .slice A0_2 l0_2.length c0_2, .slice A0_3 l0_3.length c0_3] 41 ?_; intro gb127 hg w9 hbox hb; have BK127 := Aside0.mk (hbox); have GW127 := Aside0.mk (ge_ (w := w) hg); have GE127 := Aside0.mk (ge_ (w := w) hg); replace HB := Aside0.mk (below_step bq_ hb); clear hb hbox hg; have hcz10_0 := cz_ BK127 0 (.int .i64 z0); have hcz10_1 := cz_ BK127 1 (.string z1); have hcz10_2 := cz_ BK127 2 (.slice A0_2 l0_2.length c0_2); have hcz10_3 := cz_ BK127 3 (.slice A0_3 l0_3.length c0_3); have hfz10_0 := bf_ BK127 0; have hfz10_1 := bf_ BK127 1; have hfz10_2 := bf_ BK127 2; have hfz10_3 := bf_ BK127 3) | ((with_reducible refine gate_callee (f := 21) rfl ?_); refine goesL_ (some 8) rfl rfl Tryz.func21 (by kernel_rfl) rfl #[.int .i64 z0] rfl lq_ ?_; (with_reducible refine (lanternref11_Bare.calls z0 true _ ?side1 A2.out).mono ?_); (case side1 => exact lg_); rintro e w' ⟨rfl, ⟨nd, rfl⟩⟩; refine ⟨_, rfl, ?_⟩))
     (try (rw [drewN_self w9]; generalize hq_ : World.drewN w9 _ = w9; have n0_ : Aside0 (w9.heap[gb127]? = some (.cells #[.int .i64 z0, .string z1, .slice A0_2 l0_2.length c0_2, .slice A0_3 l0_3.length c0_3] 41 (0, 0))) := ⟨by rw [← hq_]; exact bk_⟩; have n1_ : Aside0 (Below w.heap.size w w9) := ⟨by rw [← hq_]; exact bg_⟩; clear BK127 HB hq_; have BK127 := n0_; have HB := n1_; clear n0_ n1_))
     replace BK127 := Aside0.mk (blk_drew BK127.out)
     replace HB := Aside0.mk (below_drew1 HB.out)
     refine start_ (n := 13) (S := fun w' => w'.cell? ⟨gb127, 0, none⟩ = some (.int .i64 z0) ∧ w'.cell? ⟨gb127, 1, none⟩ = some (.string z1) ∧ w'.cell? ⟨gb127, 2, none⟩ = some (.slice A0_2 l0_2.length c0_2) ∧ w'.cell? ⟨gb127, 3, none⟩ = some (.slice A0_3 l0_3.length c0_3)) (ds := []) (bv_ 0 13) (by kernel_rfl) rfl rfl ⟨(blk_cell BK127.out 0).trans rfl, (blk_cell BK127.out 1).trans rfl, (blk_cell BK127.out 2).trans rfl, (blk_cell BK127.out 3).trans rfl⟩ (fun hHeld => ?_); refine with_tabW lanternref11_Response.tab4 lanternref11_Response.bits4 (fun HT_ HW_ => ?_)
     generalize w9.drew = w11 at BK127 HB hHeld ⊢
     refine p1_ HT_ ?_
     refine pure_ (i := 5) (N := some 20) (v := ?_) (a' := ?_) #[true, false, false, false, false, true, false, false, false, false, false, false, false] rfl rfl (any_of HT_.out (by kernel_rfl)) (fun _ _ _ h => h) (Or.inl ⟨by rfl, ?_⟩) ?_ ?_
     rotate_left
     ·intro w'
      go_simp
      with_reducible rfl
     rotate_left
     ·simp only [Act.put, sa_, s0_, s1_, i64_w, i32_w]
      rfl
     refine pure_ (i := 8) (N := some 23) (v := ?_) (a' := ?_) #[true, false, false, false, false, true, false, false, true, false, false, false, false] rfl rfl (any_of HT_.out (by kernel_rfl)) (fun _ _ _ h => h) (Or.inl ⟨by rfl, ?_⟩) ?_ ?_
     rotate_left
     ·intro w'
      go_simp
      with_reducible rfl
     rotate_left
     ·simp only [Act.put, sa_, s0_, s1_, i64_w, i32_w]
      rfl
     refine pure_ (i := 9) (N := some 24) (v := ?_) (a' := ?_) #[true, false, false, false, false, true, false, false, true, true, false, false, false] rfl rfl (any_of HT_.out (by kernel_rfl)) (fun _ _ _ h => h) (Or.inl ⟨by rfl, ?_⟩) ?_ ?_
     rotate_left
     ·intro w'
      go_simp
      with_reducible rfl
     rotate_left
     ·simp only [Act.put, sa_, s0_, s1_, i64_w, i32_w]
      rfl
     refine take_ (i := 1) (N := some 16) (v := ?_) (a' := ?_) #[true, true, false, false, false, true, false, false, true, true, false, false, false] rfl rfl (take_ofW HT_.out HW_.out (by kernel_rfl)) (fun _ _ _ h => h) (Or.inl ⟨by rfl, ?_⟩) hHeld ?_ ?_
     rotate_left
     ·rintro w' ⟨s0, s1, s2, s3⟩
      go_simp
      with_reducible rfl
     rotate_left
     ·simp only [Act.put, sa_, s0_, s1_, i64_w, i32_w]
      rfl
     refine take_ (i := 6) (N := some 21) (v := ?_) (a' := ?_) #[true, true, false, false, false, true, true, false, true, true, false, false, false] rfl rfl (take_ofW HT_.out HW_.out (by kernel_rfl)) (fun _ _ _ h => h) (Or.inl ⟨by rfl, ?_⟩) hHeld ?_ ?_
     rotate_left
     ·rintro w' ⟨s0, s1, s2, s3⟩
      go_simp
      with_reducible rfl
     rotate_left
     ·simp only [Act.put, sa_, s0_, s1_, i64_w, i32_w]
      rfl
     refine take_ (i := 10) (N := some 25) (v := ?_) (a' := ?_) #[true, true, false, false, false, true, true, false, true, true, true, false, false] rfl rfl (take_ofW HT_.out HW_.out (by kernel_rfl)) (fun _ _ _ h => h) (Or.inl ⟨by rfl, ?_⟩) hHeld ?_ ?_
     rotate_left
     ·rintro w' ⟨s0, s1, s2, s3⟩
      go_simp
      with_reducible rfl
     rotate_left
     ·simp only [Act.put, sa_, s0_, s1_, i64_w, i32_w]
      rfl
     refine one_ (i := 2) (N := some 17) #[true, true, true, false, false, true, true, false, true, true, true, false, false] rfl rfl (one_of HT_.out (by kernel_rfl)) (by decide) (fun K hK => ?_)
     refine goes_ Tryz.func42 (by kernel_rfl) rfl #[.int .i64 z0] (by rfl) rfl rfl lq_ ?_
     with_reducible refine (lanternref06_Digits.calls k z0 t129 _ ?side1 A4.out).mono ?_
     (case side1 => exact lg_)
     rintro e w' ⟨rfl, ⟨nd, rfl⟩⟩
     refine ⟨_, rfl, ?_⟩
     refine hK.out _ _ ⟨(blk_cell BK127.out 0).trans rfl, (blk_cell BK127.out 1).trans rfl, (blk_cell BK127.out 2).trans rfl, (blk_cell BK127.out 3).trans rfl⟩ (fun hHeld => ?_)
     clear hK K
     refine norm_ (a' := ?_) ?_ ?_
     rotate_left
     ·show Act.put _ (some 17) _ = _
      simp only [Act.put, sa_, s0_, s1_, i64_w, i32_w]
      rfl
     refine pure_ (i := 3) (N := some 18) (v := ?_) (a' := ?_) #[true, true, true, true, false, true, true, false, true, true, true, false, false] rfl rfl (any_of HT_.out (by kernel_rfl)) (fun _ _ _ h => h) (Or.inl ⟨by rfl, ?_⟩) ?_ ?_
     rotate_left
     ·intro w'
      go_simp
      with_reducible rfl
     rotate_left
     ·simp only [Act.put, sa_, s0_, s1_, i64_w, i32_w]
      rfl
     refine pure_ (i := 4) (N := some 19) (v := ?_) (a' := ?_) #[true, true, true, true, true, true, true, false, true, true, true, false, false] rfl rfl (any_of HT_.out (by kernel_rfl)) (fun _ _ _ h => h) (Or.inl ⟨by rfl, ?_⟩) ?_ ?_
     rotate_left
     ·intro w'
      go_simp
      with_reducible rfl
     rotate_left
     ·simp only [Act.put, sa_, s0_, s1_, i64_w, i32_w]
      rfl
     refine pl_ 7 22 ?_ 11 2 HT_ ?_ ?_ ?_ ?_
     rotate_left
     ·intro w'
      go_simp
      with_reducible rfl
     rotate_left
     ·simp only [Act.put, sa_, s0_, s1_, i64_w, i32_w]
      rfl
     refine one_ (i := 11) (N := some 26) (bv_ 12 1) rfl rfl (one_of HT_.out (by kernel_rfl)) (by decide) (fun K hK => ?_)
     refine goes_ Tryz.func41 (by kernel_rfl) rfl #[.string ((((⟨#[72, 84, 84, 80, 47, 49, 46, 49, 32]⟩ : ByteArray) ++ t129) ++ (⟨#[32]⟩ : ByteArray)) ++ z1), .slice A0_2 l0_2.length c0_2, .slice A0_3 l0_3.length c0_3] (by rfl) rfl rfl lq_ ?_
     with_reducible refine (lanternref11_join.calls k ((((⟨#[72, 84, 84, 80, 47, 49, 46, 49, 32]⟩ : ByteArray) ++ t129) ++ (⟨#[32]⟩ : ByteArray)) ++ z1) _ _ l0_2 _ _ l0_3 t130 _ ?side5 ?side1 ?side2 ?side3 ?side4 A8.out).mono ?_
     (case side1 => repeat (first | exact (Kd.C_below HR0_2.out bg_) | (with_reducible refine Kd.C_alloc ?_ _) | (with_reducible refine Kd.C_drewN ?_ _) | (with_reducible refine Kd.C_drew ?_)))
     (case side2 => exact HC0_2.out)
     (case side3 => repeat (first | exact (Kd.C_below HR0_3.out bg_) | (with_reducible refine Kd.C_alloc ?_ _) | (with_reducible refine Kd.C_drewN ?_ _) | (with_reducible refine Kd.C_drew ?_)))
     (case side4 => exact HC0_3.out)
     (case side5 => exact lg_)
     rintro e w12 ⟨v131, rfl, ho0, hb⟩
     refine ⟨_, rfl, ?_⟩
     have HO132 := Aside0.mk (Ko.R_lower ho0 (below_size bg_))
     replace BK127 := Aside0.mk (bb_ BK127 hb)
     replace HB := Aside0.mk (below_step bg_ hb)
     refine hK.out _ _ ⟨(blk_cell BK127.out 0).trans rfl, (blk_cell BK127.out 1).trans rfl, (blk_cell BK127.out 2).trans rfl, (blk_cell BK127.out 3).trans rfl⟩ (fun hHeld => ?_)
     clear hK K
     refine norm_ (a' := ?_) ?_ ?_
     rotate_left
     ·show Act.put _ (some 26) _ = _
      simp only [Act.put, sa_, s0_, s1_, i64_w, i32_w]
      rfl
     refine p1_ HT_ ?_
     refine done_ (done_of HT_.out (by kernel_rfl)) ?_
     try go_wp2
     go_ret
     exact ⟨_, rq_, by (with_reducible repeat (first | apply Ko.R_alloc | apply Ko.R_drewN | apply Ko.R_drew)); exact HO132.out, bg_⟩
    ·rw [if_neg c7] at H
     exact absurd H (by simp)
   ·rw [if_neg c6] at H
    exact absurd H (by simp)
  ·rw [if_neg c5] at H
   exact absurd H (by simp)
 ·replace c3 := Bool.eq_false_iff.mpr c3
  subst c3
  replace H := ifF_ H
  replace H := Option.bind_eq_some_iff.mp H
  obtain ⟨t133, A130, H⟩ := H
  (try dsimp only at H)
  have A13 := Aside0.mk A130
  clear A130
  replace H := Option.bind_eq_some_iff.mp H
  obtain ⟨t136, A140, H⟩ := H
  (try dsimp only at H)
  have A14 := Aside0.mk A140
  clear A140
  by_cases c15 : 9 + t136.size ≤ 9223372036854775807
  ·rw [if_pos c15] at H
   have c15b0 := eq_true c15
   have c15b1 := decide_eq_true c15
   try have c15b2 : (9223372036854775807 < 9 + t136.size) = False := eq_false (Nat.not_lt.2 c15)
   by_cases c16 : ((⟨#[72, 84, 84, 80, 47, 49, 46, 49, 32]⟩ : ByteArray) ++ t136).size + 1 ≤ 9223372036854775807
   ·rw [if_pos c16] at H
    have c16b0 := eq_true c16
    have c16b1 := decide_eq_true c16
    try have c16b2 : (9223372036854775807 < ((⟨#[72, 84, 84, 80, 47, 49, 46, 49, 32]⟩ : ByteArray) ++ t136).size + 1) = False := eq_false (Nat.not_lt.2 c16)
    try have c16b8 : (9223372036854775807 < 9 + t136.size + 1) = False := eq_false (by have hq := of_eq_true c16b0; simp only [ByteArray.size_append, ByteArray.size_extract] at hq; have hz0 : (⟨#[72, 84, 84, 80, 47, 49, 46, 49, 32]⟩ : ByteArray).size = 9 := rfl; omega)
    by_cases c17 : (((⟨#[72, 84, 84, 80, 47, 49, 46, 49, 32]⟩ : ByteArray) ++ t136) ++ (⟨#[32]⟩ : ByteArray)).size + z1.size ≤ 9223372036854775807
    ·rw [if_pos c17] at H
     have c17b0 := eq_true c17
     have c17b1 := decide_eq_true c17
     try have c17b2 : (9223372036854775807 < (((⟨#[72, 84, 84, 80, 47, 49, 46, 49, 32]⟩ : ByteArray) ++ t136) ++ (⟨#[32]⟩ : ByteArray)).size + z1.size) = False := eq_false (Nat.not_lt.2 c17)
     try have c17b8 : (9223372036854775807 < 9 + t136.size + 1 + z1.size) = False := eq_false (by have hq := of_eq_true c17b0; simp only [ByteArray.size_append, ByteArray.size_extract] at hq; have hz0 : (⟨#[32]⟩ : ByteArray).size = 1 := rfl; have hz1 : (⟨#[72, 84, 84, 80, 47, 49, 46, 49, 32]⟩ : ByteArray).size = 9 := rfl; omega)
     replace H := Option.bind_eq_some_iff.mp H
     obtain ⟨t137, A180, H⟩ := H
     (try dsimp only at H)
     have A18 := Aside0.mk A180
     clear A180
     obtain rfl := Option.some.inj H
     go_enter Tryz.func19, Tryz.ntmps19
     try go_wp2_with (first | ((with_reducible refine gate_dst (N := 1) rfl ?_); refine bx_ 1 #[.int .i64 z0, .string z1, .slice A0_2 l0_2.length c0_2, .slice A0_3 l0_3.length c0_3] 41 ?_; intro gb127 hg w19 hbox hb; have BK127 := Aside0.mk (hbox); have GW127 := Aside0.mk (ge_ (w := w) hg); have GE127 := Aside0.mk (ge_ (w := w) hg); replace HB := Aside0.mk (below_step bq_ hb); clear hb hbox hg; have hcz20_0 := cz_ BK127 0 (.int .i64 z0); have hcz20_1 := cz_ BK127 1 (.string z1); have hcz20_2 := cz_ BK127 2 (.slice A0_2 l0_2.length c0_2); have hcz20_3 := cz_ BK127 3 (.slice A0_3 l0_3.length c0_3); have hfz20_0 := bf_ BK127 0; have hfz20_1 := bf_ BK127 1; have hfz20_2 := bf_ BK127 2; have hfz20_3 := bf_ BK127 3) | ((with_reducible refine gate_callee (f := 21) rfl ?_); refine goesL_ (some 8) rfl rfl Tryz.func21 (by kernel_rfl) rfl #[.int .i64 z0] rfl lq_ ?_; (with_reducible refine (lanternref11_Bare.calls z0 false _ ?side1 A2.out).mono ?_); (case side1 => exact lg_); rintro e w' ⟨rfl, ⟨nd, rfl⟩⟩; refine ⟨_, rfl, ?_⟩) | ((with_reducible refine gate_callee (f := 15) rfl ?_); refine goesL_ (some 14) rfl rfl Tryz.func15 (by kernel_rfl) rfl #[.slice A0_2 l0_2.length c0_2, .int .i64 (l0_3.length : Int)] rfl lq_ ?_; (with_reducible refine (lanternref11_With.calls k _ _ l0_2 (l0_3.length : Int) t133 _ ?side3 ?side1 ?side2 A13.out).mono ?_); (case side1 => repeat (first | exact (Kd.C_below HR0_2.out bg_) | (with_reducible refine Kd.C_alloc ?_ _) | (with_reducible refine Kd.C_drewN ?_ _) | (with_reducible refine Kd.C_drew ?_))); (case side2 => exact HC0_2.out); (case side3 => exact lg_); rintro e w21 ⟨v134, rfl, ho0, hb⟩; refine ⟨_, rfl, ?_⟩; have HO135 := Aside0.mk (Kd.R_lower ho0 (below_size bg_)); replace BK127 := Aside0.mk (bb_ BK127 hb); replace HB := Aside0.mk (below_step bg_ hb)))
     replace HO135 := Aside0.mk (Kd.R_drew HO135.out)
     replace BK127 := Aside0.mk (blk_drew BK127.out)
     replace HB := Aside0.mk (below_drew1 HB.out)
     refine start_ (n := 13) (S := fun w' => w'.cell? ⟨gb127, 0, none⟩ = some (.int .i64 z0) ∧ w'.cell? ⟨gb127, 1, none⟩ = some (.string z1) ∧ w'.cell? ⟨gb127, 2, none⟩ = some (.slice A0_2 l0_2.length c0_2) ∧ w'.cell? ⟨gb127, 3, none⟩ = some (.slice A0_3 l0_3.length c0_3)) (ds := []) (bv_ 0 13) (by kernel_rfl) rfl rfl ⟨(blk_cell BK127.out 0).trans rfl, (blk_cell BK127.out 1).trans rfl, (blk_cell BK127.out 2).trans rfl, (blk_cell BK127.out 3).trans rfl⟩ (fun hHeld => ?_); refine with_tabW lanternref11_Response.tab4 lanternref11_Response.bits4 (fun HT_ HW_ => ?_)
     generalize w21.drew = w22 at HO135 BK127 HB hHeld ⊢
     refine p1_ HT_ ?_
     refine pure_ (i := 5) (N := some 20) (v := ?_) (a' := ?_) #[true, false, false, false, false, true, false, false, false, false, false, false, false] rfl rfl (any_of HT_.out (by kernel_rfl)) (fun _ _ _ h => h) (Or.inl ⟨by rfl, ?_⟩) ?_ ?_
     rotate_left
     ·intro w'
      go_simp
      with_reducible rfl
     rotate_left
     ·simp only [Act.put, sa_, s0_, s1_, i64_w, i32_w]
      rfl
     refine pure_ (i := 8) (N := some 23) (v := ?_) (a' := ?_) #[true, false, false, false, false, true, false, false, true, false, false, false, false] rfl rfl (any_of HT_.out (by kernel_rfl)) (fun _ _ _ h => h) (Or.inl ⟨by rfl, ?_⟩) ?_ ?_
     rotate_left
     ·intro w'
      go_simp
      with_reducible rfl
     rotate_left
     ·simp only [Act.put, sa_, s0_, s1_, i64_w, i32_w]
      rfl
     refine pure_ (i := 9) (N := some 24) (v := ?_) (a' := ?_) #[true, false, false, false, false, true, false, false, true, true, false, false, false] rfl rfl (any_of HT_.out (by kernel_rfl)) (fun _ _ _ h => h) (Or.inl ⟨by rfl, ?_⟩) ?_ ?_
     rotate_left
     ·intro w'
      go_simp
      with_reducible rfl
     rotate_left
     ·simp only [Act.put, sa_, s0_, s1_, i64_w, i32_w]
      rfl
     refine take_ (i := 1) (N := some 16) (v := ?_) (a' := ?_) #[true, true, false, false, false, true, false, false, true, true, false, false, false] rfl rfl (take_ofW HT_.out HW_.out (by kernel_rfl)) (fun _ _ _ h => h) (Or.inl ⟨by rfl, ?_⟩) hHeld ?_ ?_
     rotate_left
     ·rintro w' ⟨s0, s1, s2, s3⟩
      go_simp
      with_reducible rfl
     rotate_left
     ·simp only [Act.put, sa_, s0_, s1_, i64_w, i32_w]
      rfl
     refine take_ (i := 6) (N := some 21) (v := ?_) (a' := ?_) #[true, true, false, false, false, true, true, false, true, true, false, false, false] rfl rfl (take_ofW HT_.out HW_.out (by kernel_rfl)) (fun _ _ _ h => h) (Or.inl ⟨by rfl, ?_⟩) hHeld ?_ ?_
     rotate_left
     ·rintro w' ⟨s0, s1, s2, s3⟩
      go_simp
      with_reducible rfl
     rotate_left
     ·simp only [Act.put, sa_, s0_, s1_, i64_w, i32_w]
      rfl
     refine take_ (i := 10) (N := some 25) (v := ?_) (a' := ?_) #[true, true, false, false, false, true, true, false, true, true, true, false, false] rfl rfl (take_ofW HT_.out HW_.out (by kernel_rfl)) (fun _ _ _ h => h) (Or.inl ⟨by rfl, ?_⟩) hHeld ?_ ?_
     rotate_left
     ·rintro w' ⟨s0, s1, s2, s3⟩
      go_simp
      with_reducible rfl
     rotate_left
     ·simp only [Act.put, sa_, s0_, s1_, i64_w, i32_w]
      rfl
     refine one_ (i := 2) (N := some 17) #[true, true, true, false, false, true, true, false, true, true, true, false, false] rfl rfl (one_of HT_.out (by kernel_rfl)) (by decide) (fun K hK => ?_)
     refine goes_ Tryz.func42 (by kernel_rfl) rfl #[.int .i64 z0] (by rfl) rfl rfl lq_ ?_
     with_reducible refine (lanternref06_Digits.calls k z0 t136 _ ?side1 A14.out).mono ?_
     (case side1 => exact lg_)
     rintro e w' ⟨rfl, ⟨nd, rfl⟩⟩
     refine ⟨_, rfl, ?_⟩
     obtain ⟨Ao23, co23, eo23⟩ := Kd.R_slice HO135.out
     (first | subst eo23 | (injection eo23 with f1_ f2_ f3_; have f4_ := f1_.symm; have f5_ := f3_.symm; clear f1_ f2_ f3_; subst f4_; subst f5_))
     refine hK.out _ _ ⟨(blk_cell BK127.out 0).trans rfl, (blk_cell BK127.out 1).trans rfl, (blk_cell BK127.out 2).trans rfl, (blk_cell BK127.out 3).trans rfl⟩ (fun hHeld => ?_)
     clear hK K
     refine norm_ (a' := ?_) ?_ ?_
     rotate_left
     ·show Act.put _ (some 17) _ = _
      simp only [Act.put, sa_, s0_, s1_, i64_w, i32_w]
      rfl
     refine pure_ (i := 3) (N := some 18) (v := ?_) (a' := ?_) #[true, true, true, true, false, true, true, false, true, true, true, false, false] rfl rfl (any_of HT_.out (by kernel_rfl)) (fun _ _ _ h => h) (Or.inl ⟨by rfl, ?_⟩) ?_ ?_
     rotate_left
     ·intro w'
      go_simp
      with_reducible rfl
     rotate_left
     ·simp only [Act.put, sa_, s0_, s1_, i64_w, i32_w]
      rfl
     refine pure_ (i := 4) (N := some 19) (v := ?_) (a' := ?_) #[true, true, true, true, true, true, true, false, true, true, true, false, false] rfl rfl (any_of HT_.out (by kernel_rfl)) (fun _ _ _ h => h) (Or.inl ⟨by rfl, ?_⟩) ?_ ?_
     rotate_left
     ·intro w'
      go_simp
      with_reducible rfl
     rotate_left
     ·simp only [Act.put, sa_, s0_, s1_, i64_w, i32_w]
      rfl
     refine pl_ 7 22 ?_ 11 2 HT_ ?_ ?_ ?_ ?_
     rotate_left
     ·intro w'
      go_simp
      with_reducible rfl
     rotate_left
     ·simp only [Act.put, sa_, s0_, s1_, i64_w, i32_w]
      rfl
     refine one_ (i := 11) (N := some 26) (bv_ 12 1) rfl rfl (one_of HT_.out (by kernel_rfl)) (by decide) (fun K hK => ?_)
     refine goes_ Tryz.func41 (by kernel_rfl) rfl #[.string ((((⟨#[72, 84, 84, 80, 47, 49, 46, 49, 32]⟩ : ByteArray) ++ t136) ++ (⟨#[32]⟩ : ByteArray)) ++ z1), .slice Ao23 t133.length co23, .slice A0_3 l0_3.length c0_3] (by rfl) rfl rfl lq_ ?_
     with_reducible refine (lanternref11_join.calls k ((((⟨#[72, 84, 84, 80, 47, 49, 46, 49, 32]⟩ : ByteArray) ++ t136) ++ (⟨#[32]⟩ : ByteArray)) ++ z1) _ _ t133 _ _ l0_3 t137 _ ?side5 ?side1 ?side2 ?side3 ?side4 A18.out).mono ?_
     (case side1 => repeat (first | exact (Kd.R_reads' HO135.out).2.2 | (with_reducible refine Kd.C_alloc ?_ _) | (with_reducible refine Kd.C_drewN ?_ _) | (with_reducible refine Kd.C_drew ?_)))
     (case side2 => exact (Kd.R_reads' HO135.out).2.1)
     (case side3 => repeat (first | exact (Kd.C_below HR0_3.out bg_) | (with_reducible refine Kd.C_alloc ?_ _) | (with_reducible refine Kd.C_drewN ?_ _) | (with_reducible refine Kd.C_drew ?_)))
     (case side4 => exact HC0_3.out)
     (case side5 => exact lg_)
     rintro e w24 ⟨v138, rfl, ho0, hb⟩
     refine ⟨_, rfl, ?_⟩
     replace HO135 := Aside0.mk (Kd.R_below (by (with_reducible repeat (first | apply Kd.R_alloc | apply Kd.R_drewN | apply Kd.R_drew)); exact HO135.out) hb)
     have HO139 := Aside0.mk (Ko.R_lower ho0 (below_size bg_))
     replace BK127 := Aside0.mk (bb_ BK127 hb)
     replace HB := Aside0.mk (below_step bg_ hb)
     refine hK.out _ _ ⟨(blk_cell BK127.out 0).trans rfl, (blk_cell BK127.out 1).trans rfl, (blk_cell BK127.out 2).trans rfl, (blk_cell BK127.out 3).trans rfl⟩ (fun hHeld => ?_)
     clear hK K
     refine norm_ (a' := ?_) ?_ ?_
     rotate_left
     ·show Act.put _ (some 26) _ = _
      simp only [Act.put, sa_, s0_, s1_, i64_w, i32_w]
      rfl
     refine p1_ HT_ ?_
     refine done_ (done_of HT_.out (by kernel_rfl)) ?_
     try go_wp2
     go_ret
     exact ⟨_, rq_, by (with_reducible repeat (first | apply Ko.R_alloc | apply Ko.R_drewN | apply Ko.R_drew)); exact HO139.out, bg_⟩
    ·rw [if_neg c17] at H
     exact absurd H (by simp)
   ·rw [if_neg c16] at H
    exact absurd H (by simp)
  ·rw [if_neg c15] at H
   exact absurd H (by simp)

end Go.Proofs.YtipleegkonhfcaaGreatDoor.KT
