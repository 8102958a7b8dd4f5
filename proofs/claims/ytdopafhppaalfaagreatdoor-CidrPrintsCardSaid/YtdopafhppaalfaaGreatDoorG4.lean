-- Written by a program of this session (wip/gen/lprint.py over the kit's print.py) out of the translation. Lean checks it.
import Derived.Test.YtdopafhppaalfaaGreatDoorG0
import Derived.Test.YtdopafhppaalfaaGreatDoorZ
import Derived.Test.YtdopafhppaalfaaGreatDoorG2
namespace Go.Proofs.YtdopafhppaalfaaGreatDoor.G
open Go.Proofs.YtdopafhppaalfaaGreatDoorZ
open Go.Proofs.YtdopafhppaalfaaGreatDoor.E Go.Proofs.YtdopafhppaalfaaGreatDoorV
open Go.Proofs.YtdopafhppaalfaaGreatDoor.P
open Go.RowKit Go.Proofs.YtdopafhppaalfaaGreatDoorW.PrintWords Go.Proofs.YtdopafhppaalfaaGreatDoorW.PrintLast Go.Proofs.YtdopafhppaalfaaGreatDoorW.PrintMore
attribute [local go_sem] max2_int min2_int max_two min_two max_three min_three max_four min_four   -- for this text's walks alone
set_option linter.unusedVariables false
set_option linter.unusedSimpArgs false

attribute [local go_sem high] eqA24
def cidr_Has.f (z0 : Bool) (z1 : Int) (z2 : Int) (z3 : Int) (z4 : Int) (z5 : Int) (z6 : Int) (z7 : Int) (z8 : Int) (z9 : Int) (za : Int) (zb : Int) (zc : Int) (zd : Int) (ze : Int) (zf : Int) (zg : Int) (zh : Int) (Z0 : Bool) (Z1 : Int) (Z2 : Int) (Z3 : Int) (Z4 : Int) (Z5 : Int) (Z6 : Int) (Z7 : Int) (Z8 : Int) (Z9 : Int) (Za : Int) (Zb : Int) (Zc : Int) (Zd : Int) (Ze : Int) (Zf : Int) (Zg : Int) : Option (Bool) := (cidr_Check.f z0 z1 z2 z3 z4 z5 z6 z7 z8 z9 za zb zc zd ze zf zg zh).bind fun t230 => (if t230 = 0 then ((ip_Check.f Z0 Z1 Z2 Z3 Z4 Z5 Z6 Z7 Z8 Z9 Za Zb Zc Zd Ze Zf Zg).bind fun t231 => (if t231 = 0 then (if (z0 == Z0) = true then ((cidr_first.f Z0 Z1 Z2 Z3 Z4 Z5 Z6 Z7 Z8 Z9 Za Zb Zc Zd Ze Zf Zg zh).bind fun bt232 => (some (bt232.1 == z0 && ((bt232.2.1 == z1 && (bt232.2.2.1 == z2 && (bt232.2.2.2.1 == z3 && (bt232.2.2.2.2.1 == z4 && (bt232.2.2.2.2.2.1 == z5 && (bt232.2.2.2.2.2.2.1 == z6 && (bt232.2.2.2.2.2.2.2.1 == z7 && (bt232.2.2.2.2.2.2.2.2.1 == z8 && (bt232.2.2.2.2.2.2.2.2.2.1 == z9 && (bt232.2.2.2.2.2.2.2.2.2.2.1 == za && (bt232.2.2.2.2.2.2.2.2.2.2.2.1 == zb && (bt232.2.2.2.2.2.2.2.2.2.2.2.2.1 == zc && (bt232.2.2.2.2.2.2.2.2.2.2.2.2.2.1 == zd && (bt232.2.2.2.2.2.2.2.2.2.2.2.2.2.2.1 == ze && (bt232.2.2.2.2.2.2.2.2.2.2.2.2.2.2.2.1 == zf && (bt232.2.2.2.2.2.2.2.2.2.2.2.2.2.2.2.2 == zg)))))))))))))))))))) else (some false)) else (some false))) else (some false))
def cidr_Has.T1 : Bool × List (List Nat × List Nat) := (true, [([], []), ([0], [0]), ([1], [1]), ([2, 1], [2]), ([3], [3]), ([4, 3, 3], [3, 4]), ([5, 3], [3, 5]), ([3, 6], [3, 6]), ([7, 5], [7]), ([8], [8]), ([9, 8], [8, 9]), ([10, 8], [8, 10]), ([8], [8]), ([12, 8], [8, 12]), ([11, 13, 8], [8, 11, 13]), ([8, 14], [8, 14]), ([15, 8], [15]), ([16], [16]), ([16], [16]), ([18, 16], [16, 18]), ([17, 19, 16, 16], [16, 17, 19]), ([16], [16]), ([21, 16], [16, 21]), ([20, 22, 16], [16, 20, 22]), ([16, 23], [16, 23]), ([24, 20, 0, 1, 2, 3, 4, 5, 6, 7, 8, 9, 10, 11, 12, 13, 14, 15, 16, 17, 18, 19, 20, 21, 22, 23, 24], [24])])
def cidr_Has.B1 : List Nat := [0, 1, 3, 7, 15, 31, 63, 127, 255, 511, 1023, 2047, 511, 4607, 16383, 32767, 65535, 131071, 131071, 393215, 1048575, 131071, 2228223, 8388607, 16777215, 33554431]
theorem cidr_Has.tab1 : rtab .any (opsOf Tryz.f40 1) = cidr_Has.T1 := by kernel_rfl
theorem cidr_Has.bits1 : waitsOk cidr_Has.T1.2 cidr_Has.B1 = true := by kernel_rfl
set_option maxHeartbeats 8000000 in
set_option maxRecDepth 100000 in
theorem cidr_Has.calls (z0 : Bool) (z1 : Int) (z2 : Int) (z3 : Int) (z4 : Int) (z5 : Int) (z6 : Int) (z7 : Int) (z8 : Int) (z9 : Int) (za : Int) (zb : Int) (zc : Int) (zd : Int) (ze : Int) (zf : Int) (zg : Int) (zh : Int) (Z0 : Bool) (Z1 : Int) (Z2 : Int) (Z3 : Int) (Z4 : Int) (Z5 : Int) (Z6 : Int) (Z7 : Int) (Z8 : Int) (Z9 : Int) (Za : Int) (Zb : Int) (Zc : Int) (Zd : Int) (Ze : Int) (Zf : Int) (Zg : Int) (r : Bool) (w : World) (hLW : LW w) (h : cidr_Has.f z0 z1 z2 z3 z4 z5 z6 z7 z8 z9 za zb zc zd ze zf zg zh Z0 Z1 Z2 Z3 Z4 Z5 Z6 Z7 Z8 Z9 Za Zb Zc Zd Ze Zf Zg = some r) :
  Calls Tryz.prog 40 #[.agg (nr_ z0 z1 z2 z3 z4 z5 z6 z7 z8 z9 za zb zc zd ze zf zg zh), .agg (ag_ Z0 Z1 Z2 Z3 Z4 Z5 Z6 Z7 Z8 Z9 Za Zb Zc Zd Ze Zf Zg)] w fun e w' => e = .returned (.bool r) ∧ Below w.heap.size w w' := by
 have hu26 := Tryz.underlying26
 have hu24 := Tryz.underlying24
 have HLW := Aside0.mk hLW
 clear hLW
 have HB := Aside0.mk (Below.refl w.heap.size w)
 have H := h
 unfold cidr_Has.f at H
 clear h
 replace H := Option.bind_eq_some_iff.mp H
 obtain ⟨t230, A30, H⟩ := H
 (try dsimp only at H)
 have A3 := Aside0.mk A30
 clear A30
 by_cases c4 : t230 = 0
 ·rw [if_pos c4] at H
  have c4b0 := beq_iff_eq.mpr c4
  have c4b1 := bne_eq_false_iff_eq.mpr c4
  clear c4
  replace H := Option.bind_eq_some_iff.mp H
  obtain ⟨t231, A50, H⟩ := H
  (try dsimp only at H)
  have A5 := Aside0.mk A50
  clear A50
  by_cases c6 : t231 = 0
  ·rw [if_pos c6] at H
   have c6b0 := beq_iff_eq.mpr c6
   have c6b1 := bne_eq_false_iff_eq.mpr c6
   clear c6
   by_cases c7 : (z0 == Z0) = true
   ·rw [if_pos c7] at H
    have c7b0 : (z0 == Z0) = true := c7
    (try (have c7b1 : decide (z0 = Z0) = true := by simpa using c7))
    (try (have c7b2 : (z0 == Z0) = true := by simpa using c7))
    clear c7
    replace H := Option.bind_eq_some_iff.mp H
    obtain ⟨⟨t232, t233, t234, t235, t236, t237, t238, t239, t240, t241, t242, t243, t244, t245, t246, t247, t248⟩, A80, H⟩ := H
    (try dsimp only at H)
    have A8 := Aside0.mk A80
    clear A80
    obtain rfl := Option.some.inj H
    go_enter Tryz.func40, Tryz.ntmps40
    try go_wp2_with (first | ((with_reducible refine gate_dst (N := 2) rfl ?_); refine bx_ 2 (nr_ z0 z1 z2 z3 z4 z5 z6 z7 z8 z9 za zb zc zd ze zf zg zh) 26 ?_; intro gb228 hg w9 hbox hb; have BK228 := Aside0.mk (hbox); have GW228 := Aside0.mk (ge_ (w := w) hg); have GE228 := Aside0.mk (ge_ (w := w) hg); replace HB := Aside0.mk (below_step bq_ hb); clear hb hbox hg) | ((with_reducible refine gate_dst (N := 3) rfl ?_); refine bx_ 3 (ag_ Z0 Z1 Z2 Z3 Z4 Z5 Z6 Z7 Z8 Z9 Za Zb Zc Zd Ze Zf Zg) 24 ?_; intro gb229 hg w10 hbox hb; have n0_ := Aside0.mk (bb_ BK228 hb); have n1_ := Aside0.mk (below_step bg_ hb); have n2_ := Aside0.mk (hbox); have n3_ := Aside0.mk (gg_ (w := w) hg); have n4_ := Aside0.mk (gg_ (w := w) hg); have n5_ := Aside0.mk (nl_ BK228 hg); have n6_ := Aside0.mk (ng_ BK228 hg); clear BK228; clear HB; have BK228 := n0_; have HB := n1_; have BK229 := n2_; have GW229 := n3_; have GE229 := n4_; have NB228_229 := n5_; have NB229_228 := n6_; clear n0_ n1_ n2_ n3_ n4_ n5_ n6_; clear hb hbox hg))
    replace BK228 := Aside0.mk (blk_drew BK228.out)
    replace BK229 := Aside0.mk (blk_drew BK229.out)
    replace HB := Aside0.mk (below_drew1 HB.out)
    refine start_ (n := 26) (S := fun w' => w'.cell? ⟨gb228, 0, none⟩ = some (.bool z0) ∧ w'.cell? ⟨gb228, 17, none⟩ = some (.int .i64 zh) ∧ w'.cell? ⟨gb229, 0, none⟩ = some (.bool Z0) ∧ (Instr.loadAt 26 (.pointer (some ⟨gb228, 0, none⟩))).run Tryz.prog w' = .ok (.agg (nr_ z0 z1 z2 z3 z4 z5 z6 z7 z8 z9 za zb zc zd ze zf zg zh)) w' ∧ (Instr.loadAt 24 (.pointer (some ⟨gb229, 0, none⟩))).run Tryz.prog w' = .ok (.agg (ag_ Z0 Z1 Z2 Z3 Z4 Z5 Z6 Z7 Z8 Z9 Za Zb Zc Zd Ze Zf Zg)) w' ∧ (Instr.loadAt 24 (.pointer (some ⟨gb229, 0, none⟩))).run Tryz.prog w' = .ok (.agg (ag_ Z0 Z1 Z2 Z3 Z4 Z5 Z6 Z7 Z8 Z9 Za Zb Zc Zd Ze Zf Zg)) w' ∧ (Instr.loadAt 24 (.pointer (some ⟨gb228, 0, none⟩))).run Tryz.prog w' = .ok (.agg (ag_ z0 z1 z2 z3 z4 z5 z6 z7 z8 z9 za zb zc zd ze zf zg)) w') (ds := []) (bv_ 0 26) (by kernel_rfl) rfl rfl ⟨(blk_cell BK228.out 0).trans rfl, (blk_cell BK228.out 17).trans rfl, (blk_cell BK229.out 0).trans rfl, (run_load_box BK228.out 26 [] (nt_ z0 z1 z2 z3 z4 z5 z6 z7 z8 z9 za zb zc zd ze zf zg zh) [] rfl 0 rfl Tryz.underlying26 rfl (by kernel_rfl)), (run_load_box BK229.out 24 [] (al_ Z0 Z1 Z2 Z3 Z4 Z5 Z6 Z7 Z8 Z9 Za Zb Zc Zd Ze Zf Zg) [] rfl 0 rfl Tryz.underlying24 rfl (by kernel_rfl)), (run_load_box BK229.out 24 [] (al_ Z0 Z1 Z2 Z3 Z4 Z5 Z6 Z7 Z8 Z9 Za Zb Zc Zd Ze Zf Zg) [] rfl 0 rfl Tryz.underlying24 rfl (by kernel_rfl)), (run_load_box BK228.out 24 [] (al_ z0 z1 z2 z3 z4 z5 z6 z7 z8 z9 za zb zc zd ze zf zg) [.int .i64 zh] rfl 0 rfl Tryz.underlying24 rfl (by kernel_rfl))⟩ (fun hHeld => ?_); refine with_tabW cidr_Has.tab1 cidr_Has.bits1 (fun HT_ HW_ => ?_)
    generalize w10.drew = w11 at BK228 BK229 HB hHeld ⊢
    refine tl_ 0 5 ?_ 1 25 HT_ HW_ ?_ hHeld ?_ ?_ ?_
    rotate_left
    ·rintro w' ⟨s0, s17, s18, s35, s36, s37, s38⟩
     refine (load_exec rfl rfl s35).trans ?_; with_reducible rfl
    rotate_left
    ·simp only [Act.put, sa_, s0_, s1_, i64_w, i32_w]
     rfl
    refine one_ (i := 1) (N := some 6) (bv_ 2 24) rfl rfl (one_of HT_.out (by kernel_rfl)) (by decide) (fun K hK => ?_)
    refine goes_ Tryz.func6 (by kernel_rfl) rfl #[.agg (nr_ z0 z1 z2 z3 z4 z5 z6 z7 z8 z9 za zb zc zd ze zf zg zh)] (by rfl) rfl rfl lq_ ?_
    with_reducible refine (cidr_Check.calls z0 z1 z2 z3 z4 z5 z6 z7 z8 z9 za zb zc zd ze zf zg zh t230 _ ?side1 A3.out).mono ?_
    (case side1 => exact lg_)
    rintro e w12 ⟨rfl, hb⟩
    refine ⟨_, rfl, ?_⟩
    replace BK228 := Aside0.mk (bb_ BK228 hb)
    replace BK229 := Aside0.mk (bb_ BK229 hb)
    replace HB := Aside0.mk (below_step bg_ hb)
    (try clear hb)
    (try clear hb2)
    (try clear hk)
    (try clear hi)
    refine hK.out _ _ ⟨(blk_cell BK228.out 0).trans rfl, (blk_cell BK228.out 17).trans rfl, (blk_cell BK229.out 0).trans rfl, (run_load_box BK228.out 26 [] (nt_ z0 z1 z2 z3 z4 z5 z6 z7 z8 z9 za zb zc zd ze zf zg zh) [] rfl 0 rfl Tryz.underlying26 rfl (by kernel_rfl)), (run_load_box BK229.out 24 [] (al_ Z0 Z1 Z2 Z3 Z4 Z5 Z6 Z7 Z8 Z9 Za Zb Zc Zd Ze Zf Zg) [] rfl 0 rfl Tryz.underlying24 rfl (by kernel_rfl)), (run_load_box BK229.out 24 [] (al_ Z0 Z1 Z2 Z3 Z4 Z5 Z6 Z7 Z8 Z9 Za Zb Zc Zd Ze Zf Zg) [] rfl 0 rfl Tryz.underlying24 rfl (by kernel_rfl)), (run_load_box BK228.out 24 [] (al_ z0 z1 z2 z3 z4 z5 z6 z7 z8 z9 za zb zc zd ze zf zg) [.int .i64 zh] rfl 0 rfl Tryz.underlying24 rfl (by kernel_rfl))⟩ (fun hHeld => ?_)
    clear hK K
    refine norm_ (a' := ?_) ?_ ?_
    rotate_left
    ·show Act.put _ (some 6) _ = _
     simp only [Act.put, sa_, s0_, s1_, i64_w, i32_w]
     rfl
    refine pl_ 2 7 ?_ 3 23 HT_ ?_ ?_ ?_ ?_
    rotate_left
    ·intro w'
     go_simp
     with_reducible rfl
    rotate_left
    ·simp only [Act.put, sa_, s0_, s1_, i64_w, i32_w]
     rfl
    refine pl_ 3 8 ?_ 4 22 HT_ ?_ ?_ ?_ ?_
    rotate_left
    ·intro w'
     go_simp
     with_reducible rfl
    rotate_left
    ·simp only [Act.put, sa_, s0_, s1_, i64_w, i32_w]
     rfl
    refine tl_ 4 9 ?_ 5 21 HT_ HW_ ?_ hHeld ?_ ?_ ?_
    rotate_left
    ·rintro w' ⟨s0, s17, s18, s35, s36, s37, s38⟩
     refine (load_exec rfl rfl s36).trans ?_; with_reducible rfl
    rotate_left
    ·simp only [Act.put, sa_, s0_, s1_, i64_w, i32_w]
     rfl
    refine one_ (i := 5) (N := some 10) (bv_ 6 20) rfl rfl (one_of HT_.out (by kernel_rfl)) (by decide) (fun K hK => ?_)
    refine goes_ Tryz.func16 (by kernel_rfl) rfl #[.agg (ag_ Z0 Z1 Z2 Z3 Z4 Z5 Z6 Z7 Z8 Z9 Za Zb Zc Zd Ze Zf Zg)] (by rfl) rfl rfl lq_ ?_
    with_reducible refine (ip_Check.calls Z0 Z1 Z2 Z3 Z4 Z5 Z6 Z7 Z8 Z9 Za Zb Zc Zd Ze Zf Zg t231 _ ?side1 A5.out).mono ?_
    (case side1 => exact lg_)
    rintro e w13 ⟨rfl, hb⟩
    refine ⟨_, rfl, ?_⟩
    replace BK228 := Aside0.mk (bb_ BK228 hb)
    replace BK229 := Aside0.mk (bb_ BK229 hb)
    replace HB := Aside0.mk (below_step bg_ hb)
    (try clear hb)
    (try clear hb2)
    (try clear hk)
    (try clear hi)
    refine hK.out _ _ ⟨(blk_cell BK228.out 0).trans rfl, (blk_cell BK228.out 17).trans rfl, (blk_cell BK229.out 0).trans rfl, (run_load_box BK228.out 26 [] (nt_ z0 z1 z2 z3 z4 z5 z6 z7 z8 z9 za zb zc zd ze zf zg zh) [] rfl 0 rfl Tryz.underlying26 rfl (by kernel_rfl)), (run_load_box BK229.out 24 [] (al_ Z0 Z1 Z2 Z3 Z4 Z5 Z6 Z7 Z8 Z9 Za Zb Zc Zd Ze Zf Zg) [] rfl 0 rfl Tryz.underlying24 rfl (by kernel_rfl)), (run_load_box BK229.out 24 [] (al_ Z0 Z1 Z2 Z3 Z4 Z5 Z6 Z7 Z8 Z9 Za Zb Zc Zd Ze Zf Zg) [] rfl 0 rfl Tryz.underlying24 rfl (by kernel_rfl)), (run_load_box BK228.out 24 [] (al_ z0 z1 z2 z3 z4 z5 z6 z7 z8 z9 za zb zc zd ze zf zg) [.int .i64 zh] rfl 0 rfl Tryz.underlying24 rfl (by kernel_rfl))⟩ (fun hHeld => ?_)
    clear hK K
    refine norm_ (a' := ?_) ?_ ?_
    rotate_left
    ·show Act.put _ (some 10) _ = _
     simp only [Act.put, sa_, s0_, s1_, i64_w, i32_w]
     rfl
    refine pl_ 6 11 ?_ 7 19 HT_ ?_ ?_ ?_ ?_
    rotate_left
    ·intro w'
     go_simp
     with_reducible rfl
    rotate_left
    ·simp only [Act.put, sa_, s0_, s1_, i64_w, i32_w]
     rfl
    refine pl_ 7 12 ?_ 8 18 HT_ ?_ ?_ ?_ ?_
    rotate_left
    ·intro w'
     go_simp
     with_reducible rfl
    rotate_left
    ·simp only [Act.put, sa_, s0_, s1_, i64_w, i32_w]
     rfl
    refine pl_ 8 13 ?_ 9 17 HT_ ?_ ?_ ?_ ?_
    rotate_left
    ·intro w'
     go_simp
     with_reducible rfl
    rotate_left
    ·simp only [Act.put, sa_, s0_, s1_, i64_w, i32_w]
     rfl
    refine pl_ 9 14 ?_ 10 16 HT_ ?_ ?_ ?_ ?_
    rotate_left
    ·intro w'
     go_simp
     with_reducible rfl
    rotate_left
    ·simp only [Act.put, sa_, s0_, s1_, i64_w, i32_w]
     rfl
    refine pl_ 10 15 ?_ 11 15 HT_ ?_ ?_ ?_ ?_
    rotate_left
    ·intro w'
     go_simp
     with_reducible rfl
    rotate_left
    ·simp only [Act.put, sa_, s0_, s1_, i64_w, i32_w]
     rfl
    refine pure_ (i := 12) (N := some 17) (v := ?_) (a' := ?_) #[true, true, true, true, true, true, true, true, true, true, true, false, true, false, false, false, false, false, false, false, false, false, false, false, false, false] rfl rfl (any_of HT_.out (by kernel_rfl)) (fun _ _ _ h => h) (Or.inl ⟨by rfl, ?_⟩) ?_ ?_
    rotate_left
    ·intro w'
     go_simp
     with_reducible rfl
    rotate_left
    ·simp only [Act.put, sa_, s0_, s1_, i64_w, i32_w]
     rfl
    refine tl_ 11 16 ?_ 13 13 HT_ HW_ ?_ hHeld ?_ ?_ ?_
    rotate_left
    ·rintro w' ⟨s0, s17, s18, s35, s36, s37, s38⟩
     go_simp; with_reducible rfl
    rotate_left
    ·simp only [Act.put, sa_, s0_, s1_, i64_w, i32_w]
     rfl
    refine tl_ 13 18 ?_ 14 12 HT_ HW_ ?_ hHeld ?_ ?_ ?_
    rotate_left
    ·rintro w' ⟨s0, s17, s18, s35, s36, s37, s38⟩
     go_simp; with_reducible rfl
    rotate_left
    ·simp only [Act.put, sa_, s0_, s1_, i64_w, i32_w]
     rfl
    refine pl_ 14 19 ?_ 15 11 HT_ ?_ ?_ ?_ ?_
    rotate_left
    ·intro w'
     go_simp
     with_reducible rfl
    rotate_left
    ·simp only [Act.put, sa_, s0_, s1_, i64_w, i32_w]
     rfl
    refine pl_ 15 20 ?_ 16 10 HT_ ?_ ?_ ?_ ?_
    rotate_left
    ·intro w'
     go_simp
     with_reducible rfl
    rotate_left
    ·simp only [Act.put, sa_, s0_, s1_, i64_w, i32_w]
     rfl
    refine pl_ 16 21 ?_ 17 9 HT_ ?_ ?_ ?_ ?_
    rotate_left
    ·intro w'
     go_simp
     with_reducible rfl
    rotate_left
    ·simp only [Act.put, sa_, s0_, s1_, i64_w, i32_w]
     rfl
    refine pure_ (i := 18) (N := some 23) (v := ?_) (a' := ?_) #[true, true, true, true, true, true, true, true, true, true, true, true, true, true, true, true, true, false, true, false, false, false, false, false, false, false] rfl rfl (any_of HT_.out (by kernel_rfl)) (fun _ _ _ h => h) (Or.inl ⟨by rfl, ?_⟩) ?_ ?_
    rotate_left
    ·intro w'
     go_simp
     with_reducible rfl
    rotate_left
    ·simp only [Act.put, sa_, s0_, s1_, i64_w, i32_w]
     rfl
    refine pure_ (i := 21) (N := some 26) (v := ?_) (a' := ?_) #[true, true, true, true, true, true, true, true, true, true, true, true, true, true, true, true, true, false, true, false, false, true, false, false, false, false] rfl rfl (any_of HT_.out (by kernel_rfl)) (fun _ _ _ h => h) (Or.inl ⟨by rfl, ?_⟩) ?_ ?_
    rotate_left
    ·intro w'
     go_simp
     with_reducible rfl
    rotate_left
    ·simp only [Act.put, sa_, s0_, s1_, i64_w, i32_w]
     rfl
    refine take_ (i := 17) (N := some 22) (v := ?_) (a' := ?_) #[true, true, true, true, true, true, true, true, true, true, true, true, true, true, true, true, true, true, true, false, false, true, false, false, false, false] rfl rfl (take_ofW HT_.out HW_.out (by kernel_rfl)) (fun _ _ _ h => h) (Or.inl ⟨by rfl, ?_⟩) hHeld ?_ ?_
    rotate_left
    ·rintro w' ⟨s0, s17, s18, s35, s36, s37, s38⟩
     refine (load_exec rfl rfl s37).trans ?_; with_reducible rfl
    rotate_left
    ·simp only [Act.put, sa_, s0_, s1_, i64_w, i32_w]
     rfl
    refine take_ (i := 19) (N := some 24) (v := ?_) (a' := ?_) #[true, true, true, true, true, true, true, true, true, true, true, true, true, true, true, true, true, true, true, true, false, true, false, false, false, false] rfl rfl (take_ofW HT_.out HW_.out (by kernel_rfl)) (fun _ _ _ h => h) (Or.inl ⟨by rfl, ?_⟩) hHeld ?_ ?_
    rotate_left
    ·rintro w' ⟨s0, s17, s18, s35, s36, s37, s38⟩
     go_simp; with_reducible rfl
    rotate_left
    ·simp only [Act.put, sa_, s0_, s1_, i64_w, i32_w]
     rfl
    refine take_ (i := 22) (N := some 27) (v := ?_) (a' := ?_) #[true, true, true, true, true, true, true, true, true, true, true, true, true, true, true, true, true, true, true, true, false, true, true, false, false, false] rfl rfl (take_ofW HT_.out HW_.out (by kernel_rfl)) (fun _ _ _ h => h) (Or.inl ⟨by rfl, ?_⟩) hHeld ?_ ?_
    rotate_left
    ·rintro w' ⟨s0, s17, s18, s35, s36, s37, s38⟩
     refine (load_exec rfl rfl s38).trans ?_; with_reducible rfl
    rotate_left
    ·simp only [Act.put, sa_, s0_, s1_, i64_w, i32_w]
     rfl
    refine one_ (i := 20) (N := some 25) (bv_ 23 3) rfl rfl (one_of HT_.out (by kernel_rfl)) (by decide) (fun K hK => ?_)
    refine goes_ Tryz.func17 (by kernel_rfl) rfl #[.agg (ag_ Z0 Z1 Z2 Z3 Z4 Z5 Z6 Z7 Z8 Z9 Za Zb Zc Zd Ze Zf Zg), .int .i64 zh] (by rfl) rfl rfl lq_ ?_
    with_reducible refine (cidr_first.calls Z0 Z1 Z2 Z3 Z4 Z5 Z6 Z7 Z8 Z9 Za Zb Zc Zd Ze Zf Zg zh t232 t233 t234 t235 t236 t237 t238 t239 t240 t241 t242 t243 t244 t245 t246 t247 t248 _ ?side1 A8.out).mono ?_
    (case side1 => exact lg_)
    rintro e w14 ⟨rfl, hb⟩
    refine ⟨_, rfl, ?_⟩
    replace BK228 := Aside0.mk (bb_ BK228 hb)
    replace BK229 := Aside0.mk (bb_ BK229 hb)
    replace HB := Aside0.mk (below_step bg_ hb)
    (try clear hb)
    (try clear hb2)
    (try clear hk)
    (try clear hi)
    refine hK.out _ _ ⟨(blk_cell BK228.out 0).trans rfl, (blk_cell BK228.out 17).trans rfl, (blk_cell BK229.out 0).trans rfl, (run_load_box BK228.out 26 [] (nt_ z0 z1 z2 z3 z4 z5 z6 z7 z8 z9 za zb zc zd ze zf zg zh) [] rfl 0 rfl Tryz.underlying26 rfl (by kernel_rfl)), (run_load_box BK229.out 24 [] (al_ Z0 Z1 Z2 Z3 Z4 Z5 Z6 Z7 Z8 Z9 Za Zb Zc Zd Ze Zf Zg) [] rfl 0 rfl Tryz.underlying24 rfl (by kernel_rfl)), (run_load_box BK229.out 24 [] (al_ Z0 Z1 Z2 Z3 Z4 Z5 Z6 Z7 Z8 Z9 Za Zb Zc Zd Ze Zf Zg) [] rfl 0 rfl Tryz.underlying24 rfl (by kernel_rfl)), (run_load_box BK228.out 24 [] (al_ z0 z1 z2 z3 z4 z5 z6 z7 z8 z9 za zb zc zd ze zf zg) [.int .i64 zh] rfl 0 rfl Tryz.underlying24 rfl (by kernel_rfl))⟩ (fun hHeld => ?_)
    clear hK K
    refine norm_ (a' := ?_) ?_ ?_
    rotate_left
    ·show Act.put _ (some 25) _ = _
     simp only [Act.put, sa_, s0_, s1_, i64_w, i32_w]
     rfl
    refine pl_ 23 28 ?_ 24 2 HT_ ?_ ?_ ?_ ?_
    rotate_left
    ·intro w'
     go_simp
     with_reducible rfl
    rotate_left
    ·simp only [Act.put, sa_, s0_, s1_, i64_w, i32_w]
     rfl
    refine pl_ 24 29 ?_ 25 1 HT_ ?_ ?_ ?_ ?_
    rotate_left
    ·intro w'
     go_simp
     with_reducible rfl
    rotate_left
    ·simp only [Act.put, sa_, s0_, s1_, i64_w, i32_w]
     rfl
    refine pl_ 25 4 ?_ 26 0 HT_ ?_ ?_ ?_ ?_
    rotate_left
    ·intro w'
     go_simp
     with_reducible rfl
    rotate_left
    ·simp only [Act.put, sa_, s0_, s1_, i64_w, i32_w]
     rfl
    refine done_ (done_of HT_.out (by kernel_rfl)) ?_
    try go_wp2
    go_ret
    exact ⟨rq_, bg_⟩
   ·rw [if_neg c7] at H
    have c7b0 : (z0 == Z0) = false := by simpa using c7
    (try (have c7b1 : decide (z0 = Z0) = false := by simpa using c7))
    (try (have c7b2 : (z0 == Z0) = false := by simpa using c7))
    (try (have c7b3 : ¬ (z0 = Z0) := by simpa using c7))
    clear c7
    obtain rfl := Option.some.inj H
    go_enter Tryz.func40, Tryz.ntmps40
    try go_wp2_with (first | ((with_reducible refine gate_dst (N := 2) rfl ?_); refine bx_ 2 (nr_ z0 z1 z2 z3 z4 z5 z6 z7 z8 z9 za zb zc zd ze zf zg zh) 26 ?_; intro gb228 hg w15 hbox hb; have BK228 := Aside0.mk (hbox); have GW228 := Aside0.mk (ge_ (w := w) hg); have GE228 := Aside0.mk (ge_ (w := w) hg); replace HB := Aside0.mk (below_step bq_ hb); clear hb hbox hg) | ((with_reducible refine gate_dst (N := 3) rfl ?_); refine bx_ 3 (ag_ Z0 Z1 Z2 Z3 Z4 Z5 Z6 Z7 Z8 Z9 Za Zb Zc Zd Ze Zf Zg) 24 ?_; intro gb229 hg w16 hbox hb; have n0_ := Aside0.mk (bb_ BK228 hb); have n1_ := Aside0.mk (below_step bg_ hb); have n2_ := Aside0.mk (hbox); have n3_ := Aside0.mk (gg_ (w := w) hg); have n4_ := Aside0.mk (gg_ (w := w) hg); have n5_ := Aside0.mk (nl_ BK228 hg); have n6_ := Aside0.mk (ng_ BK228 hg); clear BK228; clear HB; have BK228 := n0_; have HB := n1_; have BK229 := n2_; have GW229 := n3_; have GE229 := n4_; have NB228_229 := n5_; have NB229_228 := n6_; clear n0_ n1_ n2_ n3_ n4_ n5_ n6_; clear hb hbox hg))
    replace BK228 := Aside0.mk (blk_drew BK228.out)
    replace BK229 := Aside0.mk (blk_drew BK229.out)
    replace HB := Aside0.mk (below_drew1 HB.out)
    refine start_ (n := 26) (S := fun w' => w'.cell? ⟨gb228, 0, none⟩ = some (.bool z0) ∧ w'.cell? ⟨gb228, 17, none⟩ = some (.int .i64 zh) ∧ w'.cell? ⟨gb229, 0, none⟩ = some (.bool Z0) ∧ (Instr.loadAt 26 (.pointer (some ⟨gb228, 0, none⟩))).run Tryz.prog w' = .ok (.agg (nr_ z0 z1 z2 z3 z4 z5 z6 z7 z8 z9 za zb zc zd ze zf zg zh)) w' ∧ (Instr.loadAt 24 (.pointer (some ⟨gb229, 0, none⟩))).run Tryz.prog w' = .ok (.agg (ag_ Z0 Z1 Z2 Z3 Z4 Z5 Z6 Z7 Z8 Z9 Za Zb Zc Zd Ze Zf Zg)) w') (ds := []) (bv_ 0 26) (by kernel_rfl) rfl rfl ⟨(blk_cell BK228.out 0).trans rfl, (blk_cell BK228.out 17).trans rfl, (blk_cell BK229.out 0).trans rfl, (run_load_box BK228.out 26 [] (nt_ z0 z1 z2 z3 z4 z5 z6 z7 z8 z9 za zb zc zd ze zf zg zh) [] rfl 0 rfl Tryz.underlying26 rfl (by kernel_rfl)), (run_load_box BK229.out 24 [] (al_ Z0 Z1 Z2 Z3 Z4 Z5 Z6 Z7 Z8 Z9 Za Zb Zc Zd Ze Zf Zg) [] rfl 0 rfl Tryz.underlying24 rfl (by kernel_rfl))⟩ (fun hHeld => ?_); refine with_tabW cidr_Has.tab1 cidr_Has.bits1 (fun HT_ HW_ => ?_)
    generalize w16.drew = w17 at BK228 BK229 HB hHeld ⊢
    refine tl_ 0 5 ?_ 1 25 HT_ HW_ ?_ hHeld ?_ ?_ ?_
    rotate_left
    ·rintro w' ⟨s0, s17, s18, s35, s36⟩
     refine (load_exec rfl rfl s35).trans ?_; with_reducible rfl
    rotate_left
    ·simp only [Act.put, sa_, s0_, s1_, i64_w, i32_w]
     rfl
    refine one_ (i := 1) (N := some 6) (bv_ 2 24) rfl rfl (one_of HT_.out (by kernel_rfl)) (by decide) (fun K hK => ?_)
    refine goes_ Tryz.func6 (by kernel_rfl) rfl #[.agg (nr_ z0 z1 z2 z3 z4 z5 z6 z7 z8 z9 za zb zc zd ze zf zg zh)] (by rfl) rfl rfl lq_ ?_
    with_reducible refine (cidr_Check.calls z0 z1 z2 z3 z4 z5 z6 z7 z8 z9 za zb zc zd ze zf zg zh t230 _ ?side1 A3.out).mono ?_
    (case side1 => exact lg_)
    rintro e w18 ⟨rfl, hb⟩
    refine ⟨_, rfl, ?_⟩
    replace BK228 := Aside0.mk (bb_ BK228 hb)
    replace BK229 := Aside0.mk (bb_ BK229 hb)
    replace HB := Aside0.mk (below_step bg_ hb)
    (try clear hb)
    (try clear hb2)
    (try clear hk)
    (try clear hi)
    refine hK.out _ _ ⟨(blk_cell BK228.out 0).trans rfl, (blk_cell BK228.out 17).trans rfl, (blk_cell BK229.out 0).trans rfl, (run_load_box BK228.out 26 [] (nt_ z0 z1 z2 z3 z4 z5 z6 z7 z8 z9 za zb zc zd ze zf zg zh) [] rfl 0 rfl Tryz.underlying26 rfl (by kernel_rfl)), (run_load_box BK229.out 24 [] (al_ Z0 Z1 Z2 Z3 Z4 Z5 Z6 Z7 Z8 Z9 Za Zb Zc Zd Ze Zf Zg) [] rfl 0 rfl Tryz.underlying24 rfl (by kernel_rfl))⟩ (fun hHeld => ?_)
    clear hK K
    refine norm_ (a' := ?_) ?_ ?_
    rotate_left
    ·show Act.put _ (some 6) _ = _
     simp only [Act.put, sa_, s0_, s1_, i64_w, i32_w]
     rfl
    refine pl_ 2 7 ?_ 3 23 HT_ ?_ ?_ ?_ ?_
    rotate_left
    ·intro w'
     go_simp
     with_reducible rfl
    rotate_left
    ·simp only [Act.put, sa_, s0_, s1_, i64_w, i32_w]
     rfl
    refine pl_ 3 8 ?_ 4 22 HT_ ?_ ?_ ?_ ?_
    rotate_left
    ·intro w'
     go_simp
     with_reducible rfl
    rotate_left
    ·simp only [Act.put, sa_, s0_, s1_, i64_w, i32_w]
     rfl
    refine tl_ 4 9 ?_ 5 21 HT_ HW_ ?_ hHeld ?_ ?_ ?_
    rotate_left
    ·rintro w' ⟨s0, s17, s18, s35, s36⟩
     refine (load_exec rfl rfl s36).trans ?_; with_reducible rfl
    rotate_left
    ·simp only [Act.put, sa_, s0_, s1_, i64_w, i32_w]
     rfl
    refine one_ (i := 5) (N := some 10) (bv_ 6 20) rfl rfl (one_of HT_.out (by kernel_rfl)) (by decide) (fun K hK => ?_)
    refine goes_ Tryz.func16 (by kernel_rfl) rfl #[.agg (ag_ Z0 Z1 Z2 Z3 Z4 Z5 Z6 Z7 Z8 Z9 Za Zb Zc Zd Ze Zf Zg)] (by rfl) rfl rfl lq_ ?_
    with_reducible refine (ip_Check.calls Z0 Z1 Z2 Z3 Z4 Z5 Z6 Z7 Z8 Z9 Za Zb Zc Zd Ze Zf Zg t231 _ ?side1 A5.out).mono ?_
    (case side1 => exact lg_)
    rintro e w19 ⟨rfl, hb⟩
    refine ⟨_, rfl, ?_⟩
    replace BK228 := Aside0.mk (bb_ BK228 hb)
    replace BK229 := Aside0.mk (bb_ BK229 hb)
    replace HB := Aside0.mk (below_step bg_ hb)
    (try clear hb)
    (try clear hb2)
    (try clear hk)
    (try clear hi)
    refine hK.out _ _ ⟨(blk_cell BK228.out 0).trans rfl, (blk_cell BK228.out 17).trans rfl, (blk_cell BK229.out 0).trans rfl, (run_load_box BK228.out 26 [] (nt_ z0 z1 z2 z3 z4 z5 z6 z7 z8 z9 za zb zc zd ze zf zg zh) [] rfl 0 rfl Tryz.underlying26 rfl (by kernel_rfl)), (run_load_box BK229.out 24 [] (al_ Z0 Z1 Z2 Z3 Z4 Z5 Z6 Z7 Z8 Z9 Za Zb Zc Zd Ze Zf Zg) [] rfl 0 rfl Tryz.underlying24 rfl (by kernel_rfl))⟩ (fun hHeld => ?_)
    clear hK K
    refine norm_ (a' := ?_) ?_ ?_
    rotate_left
    ·show Act.put _ (some 10) _ = _
     simp only [Act.put, sa_, s0_, s1_, i64_w, i32_w]
     rfl
    refine pl_ 6 11 ?_ 7 19 HT_ ?_ ?_ ?_ ?_
    rotate_left
    ·intro w'
     go_simp
     with_reducible rfl
    rotate_left
    ·simp only [Act.put, sa_, s0_, s1_, i64_w, i32_w]
     rfl
    refine pl_ 7 12 ?_ 8 18 HT_ ?_ ?_ ?_ ?_
    rotate_left
    ·intro w'
     go_simp
     with_reducible rfl
    rotate_left
    ·simp only [Act.put, sa_, s0_, s1_, i64_w, i32_w]
     rfl
    refine pl_ 8 13 ?_ 9 17 HT_ ?_ ?_ ?_ ?_
    rotate_left
    ·intro w'
     go_simp
     with_reducible rfl
    rotate_left
    ·simp only [Act.put, sa_, s0_, s1_, i64_w, i32_w]
     rfl
    refine pl_ 9 14 ?_ 10 16 HT_ ?_ ?_ ?_ ?_
    rotate_left
    ·intro w'
     go_simp
     with_reducible rfl
    rotate_left
    ·simp only [Act.put, sa_, s0_, s1_, i64_w, i32_w]
     rfl
    refine pl_ 10 15 ?_ 11 15 HT_ ?_ ?_ ?_ ?_
    rotate_left
    ·intro w'
     go_simp
     with_reducible rfl
    rotate_left
    ·simp only [Act.put, sa_, s0_, s1_, i64_w, i32_w]
     rfl
    refine pure_ (i := 12) (N := some 17) (v := ?_) (a' := ?_) #[true, true, true, true, true, true, true, true, true, true, true, false, true, false, false, false, false, false, false, false, false, false, false, false, false, false] rfl rfl (any_of HT_.out (by kernel_rfl)) (fun _ _ _ h => h) (Or.inl ⟨by rfl, ?_⟩) ?_ ?_
    rotate_left
    ·intro w'
     go_simp
     with_reducible rfl
    rotate_left
    ·simp only [Act.put, sa_, s0_, s1_, i64_w, i32_w]
     rfl
    refine tl_ 11 16 ?_ 13 13 HT_ HW_ ?_ hHeld ?_ ?_ ?_
    rotate_left
    ·rintro w' ⟨s0, s17, s18, s35, s36⟩
     go_simp; with_reducible rfl
    rotate_left
    ·simp only [Act.put, sa_, s0_, s1_, i64_w, i32_w]
     rfl
    refine tl_ 13 18 ?_ 14 12 HT_ HW_ ?_ hHeld ?_ ?_ ?_
    rotate_left
    ·rintro w' ⟨s0, s17, s18, s35, s36⟩
     go_simp; with_reducible rfl
    rotate_left
    ·simp only [Act.put, sa_, s0_, s1_, i64_w, i32_w]
     rfl
    refine pl_ 14 19 ?_ 15 11 HT_ ?_ ?_ ?_ ?_
    rotate_left
    ·intro w'
     go_simp
     with_reducible rfl
    rotate_left
    ·simp only [Act.put, sa_, s0_, s1_, i64_w, i32_w]
     rfl
    refine pl_ 15 20 ?_ 16 10 HT_ ?_ ?_ ?_ ?_
    rotate_left
    ·intro w'
     go_simp
     with_reducible rfl
    rotate_left
    ·simp only [Act.put, sa_, s0_, s1_, i64_w, i32_w]
     rfl
    refine pl_ 16 21 ?_ 17 9 HT_ ?_ ?_ ?_ ?_
    rotate_left
    ·intro w'
     go_simp
     with_reducible rfl
    rotate_left
    ·simp only [Act.put, sa_, s0_, s1_, i64_w, i32_w]
     rfl
    refine pr_ 17 22 18 8 HT_ ?_ ?_ ?_
    rotate_left
    ·simp only [Act.put, sa_, s0_, s1_, i64_w, i32_w]
     rfl
    refine pr_ 18 23 19 7 HT_ ?_ ?_ ?_
    rotate_left
    ·simp only [Act.put, sa_, s0_, s1_, i64_w, i32_w]
     rfl
    refine pr_ 19 24 20 6 HT_ ?_ ?_ ?_
    rotate_left
    ·simp only [Act.put, sa_, s0_, s1_, i64_w, i32_w]
     rfl
    refine pr_ 20 25 21 5 HT_ ?_ ?_ ?_
    rotate_left
    ·simp only [Act.put, sa_, s0_, s1_, i64_w, i32_w]
     rfl
    refine pr_ 21 26 22 4 HT_ ?_ ?_ ?_
    rotate_left
    ·simp only [Act.put, sa_, s0_, s1_, i64_w, i32_w]
     rfl
    refine pr_ 22 27 23 3 HT_ ?_ ?_ ?_
    rotate_left
    ·simp only [Act.put, sa_, s0_, s1_, i64_w, i32_w]
     rfl
    refine pr_ 23 28 24 2 HT_ ?_ ?_ ?_
    rotate_left
    ·simp only [Act.put, sa_, s0_, s1_, i64_w, i32_w]
     rfl
    refine pl_ 24 29 ?_ 25 1 HT_ ?_ ?_ ?_ ?_
    rotate_left
    ·intro w'
     go_simp
     with_reducible rfl
    rotate_left
    ·simp only [Act.put, sa_, s0_, s1_, i64_w, i32_w]
     rfl
    refine pl_ 25 4 ?_ 26 0 HT_ ?_ ?_ ?_ ?_
    rotate_left
    ·intro w'
     go_simp
     with_reducible rfl
    rotate_left
    ·simp only [Act.put, sa_, s0_, s1_, i64_w, i32_w]
     rfl
    refine done_ (done_of HT_.out (by kernel_rfl)) ?_
    try go_wp2
    go_ret
    exact ⟨rq_, bg_⟩
  ·rw [if_neg c6] at H
   have c6b0 := beq_eq_false_iff_ne.mpr c6
   have c6b1 := bne_iff_ne.mpr c6
   obtain rfl := Option.some.inj H
   go_enter Tryz.func40, Tryz.ntmps40
   try go_wp2_with (first | ((with_reducible refine gate_dst (N := 2) rfl ?_); refine bx_ 2 (nr_ z0 z1 z2 z3 z4 z5 z6 z7 z8 z9 za zb zc zd ze zf zg zh) 26 ?_; intro gb228 hg w20 hbox hb; have BK228 := Aside0.mk (hbox); have GW228 := Aside0.mk (ge_ (w := w) hg); have GE228 := Aside0.mk (ge_ (w := w) hg); replace HB := Aside0.mk (below_step bq_ hb); clear hb hbox hg) | ((with_reducible refine gate_dst (N := 3) rfl ?_); refine bx_ 3 (ag_ Z0 Z1 Z2 Z3 Z4 Z5 Z6 Z7 Z8 Z9 Za Zb Zc Zd Ze Zf Zg) 24 ?_; intro gb229 hg w21 hbox hb; have n0_ := Aside0.mk (bb_ BK228 hb); have n1_ := Aside0.mk (below_step bg_ hb); have n2_ := Aside0.mk (hbox); have n3_ := Aside0.mk (gg_ (w := w) hg); have n4_ := Aside0.mk (gg_ (w := w) hg); have n5_ := Aside0.mk (nl_ BK228 hg); have n6_ := Aside0.mk (ng_ BK228 hg); clear BK228; clear HB; have BK228 := n0_; have HB := n1_; have BK229 := n2_; have GW229 := n3_; have GE229 := n4_; have NB228_229 := n5_; have NB229_228 := n6_; clear n0_ n1_ n2_ n3_ n4_ n5_ n6_; clear hb hbox hg))
   replace BK228 := Aside0.mk (blk_drew BK228.out)
   replace BK229 := Aside0.mk (blk_drew BK229.out)
   replace HB := Aside0.mk (below_drew1 HB.out)
   refine start_ (n := 26) (S := fun w' => (Instr.loadAt 26 (.pointer (some ⟨gb228, 0, none⟩))).run Tryz.prog w' = .ok (.agg (nr_ z0 z1 z2 z3 z4 z5 z6 z7 z8 z9 za zb zc zd ze zf zg zh)) w' ∧ (Instr.loadAt 24 (.pointer (some ⟨gb229, 0, none⟩))).run Tryz.prog w' = .ok (.agg (ag_ Z0 Z1 Z2 Z3 Z4 Z5 Z6 Z7 Z8 Z9 Za Zb Zc Zd Ze Zf Zg)) w') (ds := []) (bv_ 0 26) (by kernel_rfl) rfl rfl ⟨(run_load_box BK228.out 26 [] (nt_ z0 z1 z2 z3 z4 z5 z6 z7 z8 z9 za zb zc zd ze zf zg zh) [] rfl 0 rfl Tryz.underlying26 rfl (by kernel_rfl)), (run_load_box BK229.out 24 [] (al_ Z0 Z1 Z2 Z3 Z4 Z5 Z6 Z7 Z8 Z9 Za Zb Zc Zd Ze Zf Zg) [] rfl 0 rfl Tryz.underlying24 rfl (by kernel_rfl))⟩ (fun hHeld => ?_); refine with_tabW cidr_Has.tab1 cidr_Has.bits1 (fun HT_ HW_ => ?_)
   generalize w21.drew = w22 at BK228 BK229 HB hHeld ⊢
   refine tl_ 0 5 ?_ 1 25 HT_ HW_ ?_ hHeld ?_ ?_ ?_
   rotate_left
   ·rintro w' ⟨s0, s1⟩
    refine (load_exec rfl rfl s0).trans ?_; with_reducible rfl
   rotate_left
   ·simp only [Act.put, sa_, s0_, s1_, i64_w, i32_w]
    rfl
   refine one_ (i := 1) (N := some 6) (bv_ 2 24) rfl rfl (one_of HT_.out (by kernel_rfl)) (by decide) (fun K hK => ?_)
   refine goes_ Tryz.func6 (by kernel_rfl) rfl #[.agg (nr_ z0 z1 z2 z3 z4 z5 z6 z7 z8 z9 za zb zc zd ze zf zg zh)] (by rfl) rfl rfl lq_ ?_
   with_reducible refine (cidr_Check.calls z0 z1 z2 z3 z4 z5 z6 z7 z8 z9 za zb zc zd ze zf zg zh t230 _ ?side1 A3.out).mono ?_
   (case side1 => exact lg_)
   rintro e w23 ⟨rfl, hb⟩
   refine ⟨_, rfl, ?_⟩
   replace BK228 := Aside0.mk (bb_ BK228 hb)
   replace BK229 := Aside0.mk (bb_ BK229 hb)
   replace HB := Aside0.mk (below_step bg_ hb)
   (try clear hb)
   (try clear hb2)
   (try clear hk)
   (try clear hi)
   refine hK.out _ _ ⟨(run_load_box BK228.out 26 [] (nt_ z0 z1 z2 z3 z4 z5 z6 z7 z8 z9 za zb zc zd ze zf zg zh) [] rfl 0 rfl Tryz.underlying26 rfl (by kernel_rfl)), (run_load_box BK229.out 24 [] (al_ Z0 Z1 Z2 Z3 Z4 Z5 Z6 Z7 Z8 Z9 Za Zb Zc Zd Ze Zf Zg) [] rfl 0 rfl Tryz.underlying24 rfl (by kernel_rfl))⟩ (fun hHeld => ?_)
   clear hK K
   refine norm_ (a' := ?_) ?_ ?_
   rotate_left
   ·show Act.put _ (some 6) _ = _
    simp only [Act.put, sa_, s0_, s1_, i64_w, i32_w]
    rfl
   refine pl_ 2 7 ?_ 3 23 HT_ ?_ ?_ ?_ ?_
   rotate_left
   ·intro w'
    go_simp
    with_reducible rfl
   rotate_left
   ·simp only [Act.put, sa_, s0_, s1_, i64_w, i32_w]
    rfl
   refine pl_ 3 8 ?_ 4 22 HT_ ?_ ?_ ?_ ?_
   rotate_left
   ·intro w'
    go_simp
    with_reducible rfl
   rotate_left
   ·simp only [Act.put, sa_, s0_, s1_, i64_w, i32_w]
    rfl
   refine tl_ 4 9 ?_ 5 21 HT_ HW_ ?_ hHeld ?_ ?_ ?_
   rotate_left
   ·rintro w' ⟨s0, s1⟩
    refine (load_exec rfl rfl s1).trans ?_; with_reducible rfl
   rotate_left
   ·simp only [Act.put, sa_, s0_, s1_, i64_w, i32_w]
    rfl
   refine one_ (i := 5) (N := some 10) (bv_ 6 20) rfl rfl (one_of HT_.out (by kernel_rfl)) (by decide) (fun K hK => ?_)
   refine goes_ Tryz.func16 (by kernel_rfl) rfl #[.agg (ag_ Z0 Z1 Z2 Z3 Z4 Z5 Z6 Z7 Z8 Z9 Za Zb Zc Zd Ze Zf Zg)] (by rfl) rfl rfl lq_ ?_
   with_reducible refine (ip_Check.calls Z0 Z1 Z2 Z3 Z4 Z5 Z6 Z7 Z8 Z9 Za Zb Zc Zd Ze Zf Zg t231 _ ?side1 A5.out).mono ?_
   (case side1 => exact lg_)
   rintro e w24 ⟨rfl, hb⟩
   refine ⟨_, rfl, ?_⟩
   replace BK228 := Aside0.mk (bb_ BK228 hb)
   replace BK229 := Aside0.mk (bb_ BK229 hb)
   replace HB := Aside0.mk (below_step bg_ hb)
   (try clear hb)
   (try clear hb2)
   (try clear hk)
   (try clear hi)
   refine hK.out _ _ ⟨(run_load_box BK228.out 26 [] (nt_ z0 z1 z2 z3 z4 z5 z6 z7 z8 z9 za zb zc zd ze zf zg zh) [] rfl 0 rfl Tryz.underlying26 rfl (by kernel_rfl)), (run_load_box BK229.out 24 [] (al_ Z0 Z1 Z2 Z3 Z4 Z5 Z6 Z7 Z8 Z9 Za Zb Zc Zd Ze Zf Zg) [] rfl 0 rfl Tryz.underlying24 rfl (by kernel_rfl))⟩ (fun hHeld => ?_)
   clear hK K
   refine norm_ (a' := ?_) ?_ ?_
   rotate_left
   ·show Act.put _ (some 10) _ = _
    simp only [Act.put, sa_, s0_, s1_, i64_w, i32_w]
    rfl
   refine pl_ 6 11 ?_ 7 19 HT_ ?_ ?_ ?_ ?_
   rotate_left
   ·intro w'
    go_simp
    with_reducible rfl
   rotate_left
   ·simp only [Act.put, sa_, s0_, s1_, i64_w, i32_w]
    rfl
   refine pl_ 7 12 ?_ 8 18 HT_ ?_ ?_ ?_ ?_
   rotate_left
   ·intro w'
    go_simp
    with_reducible rfl
   rotate_left
   ·simp only [Act.put, sa_, s0_, s1_, i64_w, i32_w]
    rfl
   refine pl_ 8 13 ?_ 9 17 HT_ ?_ ?_ ?_ ?_
   rotate_left
   ·intro w'
    go_simp
    with_reducible rfl
   rotate_left
   ·simp only [Act.put, sa_, s0_, s1_, i64_w, i32_w]
    rfl
   refine pr_ 9 14 10 16 HT_ ?_ ?_ ?_
   rotate_left
   ·simp only [Act.put, sa_, s0_, s1_, i64_w, i32_w]
    rfl
   refine pr_ 10 15 11 15 HT_ ?_ ?_ ?_
   rotate_left
   ·simp only [Act.put, sa_, s0_, s1_, i64_w, i32_w]
    rfl
   refine pr_ 11 16 12 14 HT_ ?_ ?_ ?_
   rotate_left
   ·simp only [Act.put, sa_, s0_, s1_, i64_w, i32_w]
    rfl
   refine pr_ 12 17 13 13 HT_ ?_ ?_ ?_
   rotate_left
   ·simp only [Act.put, sa_, s0_, s1_, i64_w, i32_w]
    rfl
   refine pr_ 13 18 14 12 HT_ ?_ ?_ ?_
   rotate_left
   ·simp only [Act.put, sa_, s0_, s1_, i64_w, i32_w]
    rfl
   refine pr_ 14 19 15 11 HT_ ?_ ?_ ?_
   rotate_left
   ·simp only [Act.put, sa_, s0_, s1_, i64_w, i32_w]
    rfl
   refine pl_ 15 20 ?_ 16 10 HT_ ?_ ?_ ?_ ?_
   rotate_left
   ·intro w'
    go_simp
    with_reducible rfl
   rotate_left
   ·simp only [Act.put, sa_, s0_, s1_, i64_w, i32_w]
    rfl
   refine pl_ 16 21 ?_ 17 9 HT_ ?_ ?_ ?_ ?_
   rotate_left
   ·intro w'
    go_simp
    with_reducible rfl
   rotate_left
   ·simp only [Act.put, sa_, s0_, s1_, i64_w, i32_w]
    rfl
   refine pr_ 17 22 18 8 HT_ ?_ ?_ ?_
   rotate_left
   ·simp only [Act.put, sa_, s0_, s1_, i64_w, i32_w]
    rfl
   refine pr_ 18 23 19 7 HT_ ?_ ?_ ?_
   rotate_left
   ·simp only [Act.put, sa_, s0_, s1_, i64_w, i32_w]
    rfl
   refine pr_ 19 24 20 6 HT_ ?_ ?_ ?_
   rotate_left
   ·simp only [Act.put, sa_, s0_, s1_, i64_w, i32_w]
    rfl
   refine pr_ 20 25 21 5 HT_ ?_ ?_ ?_
   rotate_left
   ·simp only [Act.put, sa_, s0_, s1_, i64_w, i32_w]
    rfl
   refine pr_ 21 26 22 4 HT_ ?_ ?_ ?_
   rotate_left
   ·simp only [Act.put, sa_, s0_, s1_, i64_w, i32_w]
    rfl
   refine pr_ 22 27 23 3 HT_ ?_ ?_ ?_
   rotate_left
   ·simp only [Act.put, sa_, s0_, s1_, i64_w, i32_w]
    rfl
   refine pr_ 23 28 24 2 HT_ ?_ ?_ ?_
   rotate_left
   ·simp only [Act.put, sa_, s0_, s1_, i64_w, i32_w]
    rfl
   refine pl_ 24 29 ?_ 25 1 HT_ ?_ ?_ ?_ ?_
   rotate_left
   ·intro w'
    go_simp
    with_reducible rfl
   rotate_left
   ·simp only [Act.put, sa_, s0_, s1_, i64_w, i32_w]
    rfl
   refine pl_ 25 4 ?_ 26 0 HT_ ?_ ?_ ?_ ?_
   rotate_left
   ·intro w'
    go_simp
    with_reducible rfl
   rotate_left
   ·simp only [Act.put, sa_, s0_, s1_, i64_w, i32_w]
    rfl
   refine done_ (done_of HT_.out (by kernel_rfl)) ?_
   try go_wp2
   go_ret
   exact ⟨rq_, bg_⟩
 ·rw [if_neg c4] at H
  have c4b0 := beq_eq_false_iff_ne.mpr c4
  have c4b1 := bne_iff_ne.mpr c4
  obtain rfl := Option.some.inj H
  go_enter Tryz.func40, Tryz.ntmps40
  try go_wp2_with (first | ((with_reducible refine gate_dst (N := 2) rfl ?_); refine bx_ 2 (nr_ z0 z1 z2 z3 z4 z5 z6 z7 z8 z9 za zb zc zd ze zf zg zh) 26 ?_; intro gb228 hg w25 hbox hb; have BK228 := Aside0.mk (hbox); have GW228 := Aside0.mk (ge_ (w := w) hg); have GE228 := Aside0.mk (ge_ (w := w) hg); replace HB := Aside0.mk (below_step bq_ hb); clear hb hbox hg) | ((with_reducible refine gate_dst (N := 3) rfl ?_); refine bx_ 3 (ag_ Z0 Z1 Z2 Z3 Z4 Z5 Z6 Z7 Z8 Z9 Za Zb Zc Zd Ze Zf Zg) 24 ?_; intro gb229 hg w26 hbox hb; have n0_ := Aside0.mk (bb_ BK228 hb); have n1_ := Aside0.mk (below_step bg_ hb); have n2_ := Aside0.mk (hbox); have n3_ := Aside0.mk (gg_ (w := w) hg); have n4_ := Aside0.mk (gg_ (w := w) hg); have n5_ := Aside0.mk (nl_ BK228 hg); have n6_ := Aside0.mk (ng_ BK228 hg); clear BK228; clear HB; have BK228 := n0_; have HB := n1_; have BK229 := n2_; have GW229 := n3_; have GE229 := n4_; have NB228_229 := n5_; have NB229_228 := n6_; clear n0_ n1_ n2_ n3_ n4_ n5_ n6_; clear hb hbox hg))
  replace BK228 := Aside0.mk (blk_drew BK228.out)
  replace BK229 := Aside0.mk (blk_drew BK229.out)
  replace HB := Aside0.mk (below_drew1 HB.out)
  refine start_ (n := 26) (S := fun w' => (Instr.loadAt 26 (.pointer (some ⟨gb228, 0, none⟩))).run Tryz.prog w' = .ok (.agg (nr_ z0 z1 z2 z3 z4 z5 z6 z7 z8 z9 za zb zc zd ze zf zg zh)) w') (ds := []) (bv_ 0 26) (by kernel_rfl) rfl rfl ((run_load_box BK228.out 26 [] (nt_ z0 z1 z2 z3 z4 z5 z6 z7 z8 z9 za zb zc zd ze zf zg zh) [] rfl 0 rfl Tryz.underlying26 rfl (by kernel_rfl))) (fun hHeld => ?_); refine with_tabW cidr_Has.tab1 cidr_Has.bits1 (fun HT_ HW_ => ?_)
  generalize w26.drew = w27 at BK228 BK229 HB hHeld ⊢
  refine tl_ 0 5 ?_ 1 25 HT_ HW_ ?_ hHeld ?_ ?_ ?_
  rotate_left
  ·intro w' s0
   refine (load_exec rfl rfl s0).trans ?_; with_reducible rfl
  rotate_left
  ·simp only [Act.put, sa_, s0_, s1_, i64_w, i32_w]
   rfl
  refine one_ (i := 1) (N := some 6) (bv_ 2 24) rfl rfl (one_of HT_.out (by kernel_rfl)) (by decide) (fun K hK => ?_)
  refine goes_ Tryz.func6 (by kernel_rfl) rfl #[.agg (nr_ z0 z1 z2 z3 z4 z5 z6 z7 z8 z9 za zb zc zd ze zf zg zh)] (by rfl) rfl rfl lq_ ?_
  with_reducible refine (cidr_Check.calls z0 z1 z2 z3 z4 z5 z6 z7 z8 z9 za zb zc zd ze zf zg zh t230 _ ?side1 A3.out).mono ?_
  (case side1 => exact lg_)
  rintro e w28 ⟨rfl, hb⟩
  refine ⟨_, rfl, ?_⟩
  replace BK228 := Aside0.mk (bb_ BK228 hb)
  replace BK229 := Aside0.mk (bb_ BK229 hb)
  replace HB := Aside0.mk (below_step bg_ hb)
  (try clear hb)
  (try clear hb2)
  (try clear hk)
  (try clear hi)
  refine hK.out _ _ ((run_load_box BK228.out 26 [] (nt_ z0 z1 z2 z3 z4 z5 z6 z7 z8 z9 za zb zc zd ze zf zg zh) [] rfl 0 rfl Tryz.underlying26 rfl (by kernel_rfl))) (fun hHeld => ?_)
  clear hK K
  refine norm_ (a' := ?_) ?_ ?_
  rotate_left
  ·show Act.put _ (some 6) _ = _
   simp only [Act.put, sa_, s0_, s1_, i64_w, i32_w]
   rfl
  refine pl_ 2 7 ?_ 3 23 HT_ ?_ ?_ ?_ ?_
  rotate_left
  ·intro w'
   go_simp
   with_reducible rfl
  rotate_left
  ·simp only [Act.put, sa_, s0_, s1_, i64_w, i32_w]
   rfl
  refine pl_ 3 8 ?_ 4 22 HT_ ?_ ?_ ?_ ?_
  rotate_left
  ·intro w'
   go_simp
   with_reducible rfl
  rotate_left
  ·simp only [Act.put, sa_, s0_, s1_, i64_w, i32_w]
   rfl
  refine pr_ 4 9 5 21 HT_ ?_ ?_ ?_
  rotate_left
  ·simp only [Act.put, sa_, s0_, s1_, i64_w, i32_w]
   rfl
  refine pr_ 5 10 6 20 HT_ ?_ ?_ ?_
  rotate_left
  ·simp only [Act.put, sa_, s0_, s1_, i64_w, i32_w]
   rfl
  refine pr_ 6 11 7 19 HT_ ?_ ?_ ?_
  rotate_left
  ·simp only [Act.put, sa_, s0_, s1_, i64_w, i32_w]
   rfl
  refine pl_ 7 12 ?_ 8 18 HT_ ?_ ?_ ?_ ?_
  rotate_left
  ·intro w'
   go_simp
   with_reducible rfl
  rotate_left
  ·simp only [Act.put, sa_, s0_, s1_, i64_w, i32_w]
   rfl
  refine pl_ 8 13 ?_ 9 17 HT_ ?_ ?_ ?_ ?_
  rotate_left
  ·intro w'
   go_simp
   with_reducible rfl
  rotate_left
  ·simp only [Act.put, sa_, s0_, s1_, i64_w, i32_w]
   rfl
  refine pr_ 9 14 10 16 HT_ ?_ ?_ ?_
  rotate_left
  ·simp only [Act.put, sa_, s0_, s1_, i64_w, i32_w]
   rfl
  refine pr_ 10 15 11 15 HT_ ?_ ?_ ?_
  rotate_left
  ·simp only [Act.put, sa_, s0_, s1_, i64_w, i32_w]
   rfl
  refine pr_ 11 16 12 14 HT_ ?_ ?_ ?_
  rotate_left
  ·simp only [Act.put, sa_, s0_, s1_, i64_w, i32_w]
   rfl
  refine pr_ 12 17 13 13 HT_ ?_ ?_ ?_
  rotate_left
  ·simp only [Act.put, sa_, s0_, s1_, i64_w, i32_w]
   rfl
  refine pr_ 13 18 14 12 HT_ ?_ ?_ ?_
  rotate_left
  ·simp only [Act.put, sa_, s0_, s1_, i64_w, i32_w]
   rfl
  refine pr_ 14 19 15 11 HT_ ?_ ?_ ?_
  rotate_left
  ·simp only [Act.put, sa_, s0_, s1_, i64_w, i32_w]
   rfl
  refine pl_ 15 20 ?_ 16 10 HT_ ?_ ?_ ?_ ?_
  rotate_left
  ·intro w'
   go_simp
   with_reducible rfl
  rotate_left
  ·simp only [Act.put, sa_, s0_, s1_, i64_w, i32_w]
   rfl
  refine pl_ 16 21 ?_ 17 9 HT_ ?_ ?_ ?_ ?_
  rotate_left
  ·intro w'
   go_simp
   with_reducible rfl
  rotate_left
  ·simp only [Act.put, sa_, s0_, s1_, i64_w, i32_w]
   rfl
  refine pr_ 17 22 18 8 HT_ ?_ ?_ ?_
  rotate_left
  ·simp only [Act.put, sa_, s0_, s1_, i64_w, i32_w]
   rfl
  refine pr_ 18 23 19 7 HT_ ?_ ?_ ?_
  rotate_left
  ·simp only [Act.put, sa_, s0_, s1_, i64_w, i32_w]
   rfl
  refine pr_ 19 24 20 6 HT_ ?_ ?_ ?_
  rotate_left
  ·simp only [Act.put, sa_, s0_, s1_, i64_w, i32_w]
   rfl
  refine pr_ 20 25 21 5 HT_ ?_ ?_ ?_
  rotate_left
  ·simp only [Act.put, sa_, s0_, s1_, i64_w, i32_w]
   rfl
  refine pr_ 21 26 22 4 HT_ ?_ ?_ ?_
  rotate_left
  ·simp only [Act.put, sa_, s0_, s1_, i64_w, i32_w]
   rfl
  refine pr_ 22 27 23 3 HT_ ?_ ?_ ?_
  rotate_left
  ·simp only [Act.put, sa_, s0_, s1_, i64_w, i32_w]
   rfl
  refine pr_ 23 28 24 2 HT_ ?_ ?_ ?_
  rotate_left
  ·simp only [Act.put, sa_, s0_, s1_, i64_w, i32_w]
   rfl
  refine pl_ 24 29 ?_ 25 1 HT_ ?_ ?_ ?_ ?_
  rotate_left
  ·intro w'
   go_simp
   with_reducible rfl
  rotate_left
  ·simp only [Act.put, sa_, s0_, s1_, i64_w, i32_w]
   rfl
  refine pl_ 25 4 ?_ 26 0 HT_ ?_ ?_ ?_ ?_
  rotate_left
  ·intro w'
   go_simp
   with_reducible rfl
  rotate_left
  ·simp only [Act.put, sa_, s0_, s1_, i64_w, i32_w]
   rfl
  refine done_ (done_of HT_.out (by kernel_rfl)) ?_
  try go_wp2
  go_ret
  exact ⟨rq_, bg_⟩

end Go.Proofs.YtdopafhppaalfaaGreatDoor.G
