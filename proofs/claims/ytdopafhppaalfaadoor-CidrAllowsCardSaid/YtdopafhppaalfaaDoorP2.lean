-- Written by a program of this session (wip/gen/lprint.py over the kit's print.py) out of the translation. Lean checks it.
import Derived.Test.YtdopafhppaalfaaDoorP0
import Derived.Test.YtdopafhppaalfaaDoorP1
import Derived.Test.YtdopafhppaalfaaDoorZ
namespace Go.Proofs.YtdopafhppaalfaaDoor.P
open Go.Proofs.YtdopafhppaalfaaDoorZ
open Go.Proofs.YtdopafhppaalfaaDoor.E Go.Proofs.YtdopafhppaalfaaDoorV
open Go.RowKit Go.Proofs.YtdopafhppaalfaaDoorW.PrintWords Go.Proofs.YtdopafhppaalfaaDoorW.PrintLast Go.Proofs.YtdopafhppaalfaaDoorW.PrintMore
attribute [local go_sem] max2_int min2_int max_two min_two max_three min_three max_four min_four   -- for this text's walks alone
set_option linter.unusedVariables false
set_option linter.unusedSimpArgs false

attribute [local go_sem high] eqA24
def ip_V4.f (a0 : Int) (a1 : Int) (a2 : Int) (a3 : Int) : Option (Bool × Int × Int × Int × Int × Int × Int × Int × Int × Int × Int × Int × Int × Int × Int × Int × Int) := some (false, 0, 0, 0, 0, 0, 0, 0, 0, 0, 0, 0, 0, a0, a1, a2, a3)
set_option maxHeartbeats 8000000 in
set_option maxRecDepth 100000 in
theorem ip_V4.calls (a0 : Int) (a1 : Int) (a2 : Int) (a3 : Int) (r1 : Bool) (r2 : Int) (r3 : Int) (r4 : Int) (r5 : Int) (r6 : Int) (r7 : Int) (r8 : Int) (r9 : Int) (r10 : Int) (r11 : Int) (r12 : Int) (r13 : Int) (r14 : Int) (r15 : Int) (r16 : Int) (r17 : Int) (w : World) (hLW : LW w) (h : ip_V4.f a0 a1 a2 a3 = some (r1, r2, r3, r4, r5, r6, r7, r8, r9, r10, r11, r12, r13, r14, r15, r16, r17)) :
  Calls Tryd.prog 38 #[.int .u8 a0, .int .u8 a1, .int .u8 a2, .int .u8 a3] w fun e w' => e = .returned (.agg (ag_ r1 r2 r3 r4 r5 r6 r7 r8 r9 r10 r11 r12 r13 r14 r15 r16 r17)) ∧ Below w.heap.size w w' := by
 have hu24 := Tryd.underlying24
 have hu22 := Tryd.underlying22
 have HLW := Aside0.mk hLW
 clear hLW
 have HB := Aside0.mk (Below.refl w.heap.size w)
 have H := h
 unfold ip_V4.f at H
 clear h
 simp only [Option.some.injEq, Prod.mk.injEq] at H
 obtain ⟨rfl, rfl, rfl, rfl, rfl, rfl, rfl, rfl, rfl, rfl, rfl, rfl, rfl, rfl, rfl, rfl, rfl⟩ := H
 go_enter Tryd.func38, Tryd.ntmps38
 go_wp2_with (first | ((with_reducible refine gate_dst (N := 8) rfl ?_); refine bx_ 8 az_ 24 ?_; intro gb101 hg w5 hbox hb; have BK101 := Aside0.mk (hbox); have GW101 := Aside0.mk (ge_ (w := w) hg); have GE101 := Aside0.mk (ge_ (w := w) hg); replace HB := Aside0.mk (below_step bq_ hb); clear hb hbox hg; have hcz6_0 := cz_ BK101 0 (.bool false); obtain ⟨hfz6_0, hfz6_1, hfz6_2, hfz6_3, hfz6_4, hfz6_5, hfz6_6, hfz6_7, hfz6_8, hfz6_9, hfz6_10, hfz6_11, hfz6_12, hfz6_13, hfz6_14, hfz6_15, hfz6_16⟩ := f17_ BK101) | ((with_reducible refine gate_store (t := 24) (p := 8) rfl ?_); refine store_all ?hg 24 8 _ rfl rfl gb101 ay_ (al_ false 0 0 0 0 0 0 0 0 0 0 0 0 a0 a1 a2 a3) BK101.out rfl rfl rfl (by kernel_rfl) rfl ?_; (case hg => rfl); intro w7 hw; replace BK101 := Aside0.mk (show w7.heap[gb101]? = some (.cells (ag_ false 0 0 0 0 0 0 0 0 0 0 0 0 a0 a1 a2 a3) 24 (0, 0)) from ss_ BK101 hw); replace HB := Aside0.mk (sb_ hw); clear hw))
 refine bodyPost_ret (results_cell_row rfl _ _ gb101 24 (ag_ false 0 0 0 0 0 0 0 0 0 0 0 0 a0 a1 a2 a3) (0, 0) _ rfl bk_ Tryd.underlying24 rfl (by kernel_rfl)) rfl ?_
 exact ⟨rq_, bg_⟩

def ip_Check.f (z0 : Bool) (z1 : Int) (z2 : Int) (z3 : Int) (z4 : Int) (z5 : Int) (z6 : Int) (z7 : Int) (z8 : Int) (z9 : Int) (za : Int) (zb : Int) (zc : Int) (zd : Int) (ze : Int) (zf : Int) (zg : Int) : Option (Int) := if z0 = true then (some 0) else ((ip_V4.f zd ze zf zg).bind fun bt103 => (if (!(z0 == bt103.1) || ((!(z1 == bt103.2.1) || (!(z2 == bt103.2.2.1) || (!(z3 == bt103.2.2.2.1) || (!(z4 == bt103.2.2.2.2.1) || (!(z5 == bt103.2.2.2.2.2.1) || (!(z6 == bt103.2.2.2.2.2.2.1) || (!(z7 == bt103.2.2.2.2.2.2.2.1) || (!(z8 == bt103.2.2.2.2.2.2.2.2.1) || (!(z9 == bt103.2.2.2.2.2.2.2.2.2.1) || (!(za == bt103.2.2.2.2.2.2.2.2.2.2.1) || (!(zb == bt103.2.2.2.2.2.2.2.2.2.2.2.1) || (!(zc == bt103.2.2.2.2.2.2.2.2.2.2.2.2.1) || (!(zd == bt103.2.2.2.2.2.2.2.2.2.2.2.2.2.1) || (!(ze == bt103.2.2.2.2.2.2.2.2.2.2.2.2.2.2.1) || (!(zf == bt103.2.2.2.2.2.2.2.2.2.2.2.2.2.2.2.1) || (!(zg == bt103.2.2.2.2.2.2.2.2.2.2.2.2.2.2.2.2))))))))))))))))))) = true then (some 1) else (some 0)))
def ip_Check.T1 : Bool × List (List Nat × List Nat) := (true, [([], []), ([0], [0]), ([1], [1]), ([2], [2]), ([3], [3]), ([3], [3]), ([5, 3], [3, 5]), ([6, 3], [3, 6]), ([3], [3]), ([8, 3], [3, 8]), ([9, 3], [3, 9]), ([3], [3]), ([11, 3], [3, 11]), ([12, 3], [3, 12]), ([3], [3]), ([14, 3], [3, 14]), ([15, 3], [3, 15]), ([7, 10, 13, 16, 3, 3], [3, 7, 10, 13, 16]), ([4, 17, 3], [3, 4, 17]), ([3, 18], [3, 18])])
def ip_Check.B1 : List Nat := [0, 1, 3, 7, 15, 15, 47, 111, 15, 271, 783, 15, 2063, 6159, 15, 16399, 49167, 131055, 262143, 524287]
theorem ip_Check.tab1 : rtab .any (opsOf Tryd.f19 1) = ip_Check.T1 := by kernel_rfl
theorem ip_Check.bits1 : waitsOk ip_Check.T1.2 ip_Check.B1 = true := by kernel_rfl
set_option maxHeartbeats 8000000 in
set_option maxRecDepth 100000 in
theorem ip_Check.calls (z0 : Bool) (z1 : Int) (z2 : Int) (z3 : Int) (z4 : Int) (z5 : Int) (z6 : Int) (z7 : Int) (z8 : Int) (z9 : Int) (za : Int) (zb : Int) (zc : Int) (zd : Int) (ze : Int) (zf : Int) (zg : Int) (r : Int) (w : World) (hLW : LW w) (h : ip_Check.f z0 z1 z2 z3 z4 z5 z6 z7 z8 z9 za zb zc zd ze zf zg = some r) :
  Calls Tryd.prog 19 #[.agg (ag_ z0 z1 z2 z3 z4 z5 z6 z7 z8 z9 za zb zc zd ze zf zg)] w fun e w' => e = .returned (.int .i64 r) ∧ Below w.heap.size w w' := by
 have hu24 := Tryd.underlying24
 have HLW := Aside0.mk hLW
 clear hLW
 have HB := Aside0.mk (Below.refl w.heap.size w)
 have H := h
 unfold ip_Check.f at H
 clear h
 by_cases c2 : z0 = true
 ·subst c2
  replace H := ifT_ H
  obtain rfl := Option.some.inj H
  go_enter Tryd.func19, Tryd.ntmps19
  try go_wp2_with (first | ((with_reducible refine gate_dst (N := 1) rfl ?_); refine bx_ 1 (ag_ true z1 z2 z3 z4 z5 z6 z7 z8 z9 za zb zc zd ze zf zg) 24 ?_; intro gb102 hg w3 hbox hb; have BK102 := Aside0.mk (hbox); have GW102 := Aside0.mk (ge_ (w := w) hg); have GE102 := Aside0.mk (ge_ (w := w) hg); replace HB := Aside0.mk (below_step bq_ hb); clear hb hbox hg))
  replace BK102 := Aside0.mk (blk_drew BK102.out)
  replace HB := Aside0.mk (below_drew1 HB.out)
  refine start_ (n := 20) (S := fun w' => w'.cell? ⟨gb102, 0, none⟩ = some (.bool true) ∧ w'.cell? ⟨gb102, 1, none⟩ = some (.int .u8 z1) ∧ w'.cell? ⟨gb102, 2, none⟩ = some (.int .u8 z2) ∧ w'.cell? ⟨gb102, 3, none⟩ = some (.int .u8 z3) ∧ w'.cell? ⟨gb102, 4, none⟩ = some (.int .u8 z4) ∧ w'.cell? ⟨gb102, 5, none⟩ = some (.int .u8 z5) ∧ w'.cell? ⟨gb102, 6, none⟩ = some (.int .u8 z6) ∧ w'.cell? ⟨gb102, 7, none⟩ = some (.int .u8 z7) ∧ w'.cell? ⟨gb102, 8, none⟩ = some (.int .u8 z8) ∧ w'.cell? ⟨gb102, 9, none⟩ = some (.int .u8 z9) ∧ w'.cell? ⟨gb102, 10, none⟩ = some (.int .u8 za) ∧ w'.cell? ⟨gb102, 11, none⟩ = some (.int .u8 zb) ∧ w'.cell? ⟨gb102, 12, none⟩ = some (.int .u8 zc) ∧ w'.cell? ⟨gb102, 13, none⟩ = some (.int .u8 zd) ∧ w'.cell? ⟨gb102, 14, none⟩ = some (.int .u8 ze) ∧ w'.cell? ⟨gb102, 15, none⟩ = some (.int .u8 zf) ∧ w'.cell? ⟨gb102, 16, none⟩ = some (.int .u8 zg)) (ds := []) (bv_ 0 20) (by kernel_rfl) rfl rfl ⟨(blk_cell BK102.out 0).trans rfl, (blk_cell BK102.out 1).trans rfl, (blk_cell BK102.out 2).trans rfl, (blk_cell BK102.out 3).trans rfl, (blk_cell BK102.out 4).trans rfl, (blk_cell BK102.out 5).trans rfl, (blk_cell BK102.out 6).trans rfl, (blk_cell BK102.out 7).trans rfl, (blk_cell BK102.out 8).trans rfl, (blk_cell BK102.out 9).trans rfl, (blk_cell BK102.out 10).trans rfl, (blk_cell BK102.out 11).trans rfl, (blk_cell BK102.out 12).trans rfl, (blk_cell BK102.out 13).trans rfl, (blk_cell BK102.out 14).trans rfl, (blk_cell BK102.out 15).trans rfl, (blk_cell BK102.out 16).trans rfl⟩ (fun hHeld => ?_); refine with_tabW ip_Check.tab1 ip_Check.bits1 (fun HT_ HW_ => ?_)
  generalize w3.drew = w4 at BK102 HB hHeld ⊢
  refine pl_ 0 3 ?_ 1 19 HT_ ?_ ?_ ?_ ?_
  rotate_left
  ·intro w'
   go_simp
   with_reducible rfl
  rotate_left
  ·simp only [Act.put, sa_, s0_, s1_, i64_w, i32_w]
   rfl
  refine tl_ 1 4 ?_ 2 18 HT_ HW_ ?_ hHeld ?_ ?_ ?_
  rotate_left
  ·rintro w' ⟨s0, s1, s2, s3, s4, s5, s6, s7, s8, s9, s10, s11, s12, s13, s14, s15, s16⟩
   go_simp; with_reducible rfl
  rotate_left
  ·simp only [Act.put, sa_, s0_, s1_, i64_w, i32_w]
   rfl
  refine pl_ 2 5 ?_ 3 17 HT_ ?_ ?_ ?_ ?_
  rotate_left
  ·intro w'
   go_simp
   with_reducible rfl
  rotate_left
  ·simp only [Act.put, sa_, s0_, s1_, i64_w, i32_w]
   rfl
  refine pl_ 3 6 ?_ 4 16 HT_ ?_ ?_ ?_ ?_
  rotate_left
  ·intro w'
   go_simp
   with_reducible rfl
  rotate_left
  ·simp only [Act.put, sa_, s0_, s1_, i64_w, i32_w]
   rfl
  refine pr_ 4 7 5 15 HT_ ?_ ?_ ?_
  rotate_left
  ·simp only [Act.put, sa_, s0_, s1_, i64_w, i32_w]
   rfl
  refine pr_ 5 8 6 14 HT_ ?_ ?_ ?_
  rotate_left
  ·simp only [Act.put, sa_, s0_, s1_, i64_w, i32_w]
   rfl
  refine pr_ 6 9 7 13 HT_ ?_ ?_ ?_
  rotate_left
  ·simp only [Act.put, sa_, s0_, s1_, i64_w, i32_w]
   rfl
  refine pr_ 7 10 8 12 HT_ ?_ ?_ ?_
  rotate_left
  ·simp only [Act.put, sa_, s0_, s1_, i64_w, i32_w]
   rfl
  refine pr_ 8 11 9 11 HT_ ?_ ?_ ?_
  rotate_left
  ·simp only [Act.put, sa_, s0_, s1_, i64_w, i32_w]
   rfl
  refine pr_ 9 12 10 10 HT_ ?_ ?_ ?_
  rotate_left
  ·simp only [Act.put, sa_, s0_, s1_, i64_w, i32_w]
   rfl
  refine pr_ 10 13 11 9 HT_ ?_ ?_ ?_
  rotate_left
  ·simp only [Act.put, sa_, s0_, s1_, i64_w, i32_w]
   rfl
  refine pr_ 11 14 12 8 HT_ ?_ ?_ ?_
  rotate_left
  ·simp only [Act.put, sa_, s0_, s1_, i64_w, i32_w]
   rfl
  refine pr_ 12 15 13 7 HT_ ?_ ?_ ?_
  rotate_left
  ·simp only [Act.put, sa_, s0_, s1_, i64_w, i32_w]
   rfl
  refine pr_ 13 16 14 6 HT_ ?_ ?_ ?_
  rotate_left
  ·simp only [Act.put, sa_, s0_, s1_, i64_w, i32_w]
   rfl
  refine pr_ 14 17 15 5 HT_ ?_ ?_ ?_
  rotate_left
  ·simp only [Act.put, sa_, s0_, s1_, i64_w, i32_w]
   rfl
  refine pr_ 15 18 16 4 HT_ ?_ ?_ ?_
  rotate_left
  ·simp only [Act.put, sa_, s0_, s1_, i64_w, i32_w]
   rfl
  refine pr_ 16 19 17 3 HT_ ?_ ?_ ?_
  rotate_left
  ·simp only [Act.put, sa_, s0_, s1_, i64_w, i32_w]
   rfl
  refine pr_ 17 20 18 2 HT_ ?_ ?_ ?_
  rotate_left
  ·simp only [Act.put, sa_, s0_, s1_, i64_w, i32_w]
   rfl
  refine pr_ 18 21 19 1 HT_ ?_ ?_ ?_
  rotate_left
  ·simp only [Act.put, sa_, s0_, s1_, i64_w, i32_w]
   rfl
  refine pl_ 19 22 ?_ 20 0 HT_ ?_ ?_ ?_ ?_
  rotate_left
  ·intro w'
   go_simp
   with_reducible rfl
  rotate_left
  ·simp only [Act.put, sa_, s0_, s1_, i64_w, i32_w]
   rfl
  refine done_ (done_of HT_.out (by kernel_rfl)) ?_
  try go_wp2
  go_ret
  exact ⟨rq_, bg_⟩
 ·replace c2 := Bool.eq_false_iff.mpr c2
  subst c2
  replace H := ifF_ H
  replace H := Option.bind_eq_some_iff.mp H
  obtain ⟨⟨t103, t104, t105, t106, t107, t108, t109, t110, t111, t112, t113, t114, t115, t116, t117, t118, t119⟩, A50, H⟩ := H
  (try dsimp only at H)
  have A5 := Aside0.mk A50
  clear A50
  by_cases c6 : (!(false == t103) || ((!(z1 == t104) || (!(z2 == t105) || (!(z3 == t106) || (!(z4 == t107) || (!(z5 == t108) || (!(z6 == t109) || (!(z7 == t110) || (!(z8 == t111) || (!(z9 == t112) || (!(za == t113) || (!(zb == t114) || (!(zc == t115) || (!(zd == t116) || (!(ze == t117) || (!(zf == t118) || (!(zg == t119))))))))))))))))))) = true
  ·rw [if_pos c6] at H
   have c6b0 : (!(false == t103) || ((!(z1 == t104) || (!(z2 == t105) || (!(z3 == t106) || (!(z4 == t107) || (!(z5 == t108) || (!(z6 == t109) || (!(z7 == t110) || (!(z8 == t111) || (!(z9 == t112) || (!(za == t113) || (!(zb == t114) || (!(zc == t115) || (!(zd == t116) || (!(ze == t117) || (!(zf == t118) || (!(zg == t119))))))))))))))))))) = true := c6
   try (have c6bs := c6b0; simp only [Bool.false_beq, Bool.true_beq, beq_false, beq_true, Bool.not_not] at c6bs)
   clear c6
   obtain rfl := Option.some.inj H
   go_enter Tryd.func19, Tryd.ntmps19
   try go_wp2_with (first | ((with_reducible refine gate_dst (N := 1) rfl ?_); refine bx_ 1 (ag_ false z1 z2 z3 z4 z5 z6 z7 z8 z9 za zb zc zd ze zf zg) 24 ?_; intro gb102 hg w7 hbox hb; have BK102 := Aside0.mk (hbox); have GW102 := Aside0.mk (ge_ (w := w) hg); have GE102 := Aside0.mk (ge_ (w := w) hg); replace HB := Aside0.mk (below_step bq_ hb); clear hb hbox hg))
   replace BK102 := Aside0.mk (blk_drew BK102.out)
   replace HB := Aside0.mk (below_drew1 HB.out)
   refine start_ (n := 20) (S := fun w' => w'.cell? ⟨gb102, 0, none⟩ = some (.bool false) ∧ w'.cell? ⟨gb102, 1, none⟩ = some (.int .u8 z1) ∧ w'.cell? ⟨gb102, 2, none⟩ = some (.int .u8 z2) ∧ w'.cell? ⟨gb102, 3, none⟩ = some (.int .u8 z3) ∧ w'.cell? ⟨gb102, 4, none⟩ = some (.int .u8 z4) ∧ w'.cell? ⟨gb102, 5, none⟩ = some (.int .u8 z5) ∧ w'.cell? ⟨gb102, 6, none⟩ = some (.int .u8 z6) ∧ w'.cell? ⟨gb102, 7, none⟩ = some (.int .u8 z7) ∧ w'.cell? ⟨gb102, 8, none⟩ = some (.int .u8 z8) ∧ w'.cell? ⟨gb102, 9, none⟩ = some (.int .u8 z9) ∧ w'.cell? ⟨gb102, 10, none⟩ = some (.int .u8 za) ∧ w'.cell? ⟨gb102, 11, none⟩ = some (.int .u8 zb) ∧ w'.cell? ⟨gb102, 12, none⟩ = some (.int .u8 zc) ∧ w'.cell? ⟨gb102, 13, none⟩ = some (.int .u8 zd) ∧ w'.cell? ⟨gb102, 14, none⟩ = some (.int .u8 ze) ∧ w'.cell? ⟨gb102, 15, none⟩ = some (.int .u8 zf) ∧ w'.cell? ⟨gb102, 16, none⟩ = some (.int .u8 zg) ∧ (Instr.loadAt 24 (.pointer (some ⟨gb102, 0, none⟩))).run Tryd.prog w' = .ok (.agg (ag_ false z1 z2 z3 z4 z5 z6 z7 z8 z9 za zb zc zd ze zf zg)) w') (ds := []) (bv_ 0 20) (by kernel_rfl) rfl rfl ⟨(blk_cell BK102.out 0).trans rfl, (blk_cell BK102.out 1).trans rfl, (blk_cell BK102.out 2).trans rfl, (blk_cell BK102.out 3).trans rfl, (blk_cell BK102.out 4).trans rfl, (blk_cell BK102.out 5).trans rfl, (blk_cell BK102.out 6).trans rfl, (blk_cell BK102.out 7).trans rfl, (blk_cell BK102.out 8).trans rfl, (blk_cell BK102.out 9).trans rfl, (blk_cell BK102.out 10).trans rfl, (blk_cell BK102.out 11).trans rfl, (blk_cell BK102.out 12).trans rfl, (blk_cell BK102.out 13).trans rfl, (blk_cell BK102.out 14).trans rfl, (blk_cell BK102.out 15).trans rfl, (blk_cell BK102.out 16).trans rfl, (run_load_box BK102.out 24 [] (al_ false z1 z2 z3 z4 z5 z6 z7 z8 z9 za zb zc zd ze zf zg) [] rfl 0 rfl Tryd.underlying24 rfl (by kernel_rfl))⟩ (fun hHeld => ?_); refine with_tabW ip_Check.tab1 ip_Check.bits1 (fun HT_ HW_ => ?_)
   generalize w7.drew = w8 at BK102 HB hHeld ⊢
   refine pl_ 0 3 ?_ 1 19 HT_ ?_ ?_ ?_ ?_
   rotate_left
   ·intro w'
    go_simp
    with_reducible rfl
   rotate_left
   ·simp only [Act.put, sa_, s0_, s1_, i64_w, i32_w]
    rfl
   refine tl_ 1 4 ?_ 2 18 HT_ HW_ ?_ hHeld ?_ ?_ ?_
   rotate_left
   ·rintro w' ⟨s0, s1, s2, s3, s4, s5, s6, s7, s8, s9, s10, s11, s12, s13, s14, s15, s16, s17⟩
    go_simp; with_reducible rfl
   rotate_left
   ·simp only [Act.put, sa_, s0_, s1_, i64_w, i32_w]
    rfl
   refine pl_ 2 5 ?_ 3 17 HT_ ?_ ?_ ?_ ?_
   rotate_left
   ·intro w'
    go_simp
    with_reducible rfl
   rotate_left
   ·simp only [Act.put, sa_, s0_, s1_, i64_w, i32_w]
    rfl
   refine pl_ 3 6 ?_ 4 16 HT_ ?_ ?_ ?_ ?_
   rotate_left
   ·intro w'
    go_simp
    with_reducible rfl
   rotate_left
   ·simp only [Act.put, sa_, s0_, s1_, i64_w, i32_w]
    rfl
   refine pure_ (i := 5) (N := some 8) (v := ?_) (a' := ?_) #[true, true, true, true, false, true, false, false, false, false, false, false, false, false, false, false, false, false, false, false] rfl rfl (any_of HT_.out (by kernel_rfl)) (fun _ _ _ h => h) (Or.inl ⟨by rfl, ?_⟩) ?_ ?_
   rotate_left
   ·intro w'
    go_simp
    with_reducible rfl
   rotate_left
   ·simp only [Act.put, sa_, s0_, s1_, i64_w, i32_w]
    rfl
   refine pure_ (i := 6) (N := some 9) (v := ?_) (a' := ?_) #[true, true, true, true, false, true, true, false, false, false, false, false, false, false, false, false, false, false, false, false] rfl rfl (any_of HT_.out (by kernel_rfl)) (fun _ _ _ h => h) (Or.inl ⟨by rfl, ?_⟩) ?_ ?_
   rotate_left
   ·intro w'
    go_simp
    with_reducible rfl
   rotate_left
   ·simp only [Act.put, sa_, s0_, s1_, i64_w, i32_w]
    rfl
   refine pure_ (i := 8) (N := some 11) (v := ?_) (a' := ?_) #[true, true, true, true, false, true, true, false, true, false, false, false, false, false, false, false, false, false, false, false] rfl rfl (any_of HT_.out (by kernel_rfl)) (fun _ _ _ h => h) (Or.inl ⟨by rfl, ?_⟩) ?_ ?_
   rotate_left
   ·intro w'
    go_simp
    with_reducible rfl
   rotate_left
   ·simp only [Act.put, sa_, s0_, s1_, i64_w, i32_w]
    rfl
   refine pure_ (i := 9) (N := some 12) (v := ?_) (a' := ?_) #[true, true, true, true, false, true, true, false, true, true, false, false, false, false, false, false, false, false, false, false] rfl rfl (any_of HT_.out (by kernel_rfl)) (fun _ _ _ h => h) (Or.inl ⟨by rfl, ?_⟩) ?_ ?_
   rotate_left
   ·intro w'
    go_simp
    with_reducible rfl
   rotate_left
   ·simp only [Act.put, sa_, s0_, s1_, i64_w, i32_w]
    rfl
   refine pure_ (i := 11) (N := some 14) (v := ?_) (a' := ?_) #[true, true, true, true, false, true, true, false, true, true, false, true, false, false, false, false, false, false, false, false] rfl rfl (any_of HT_.out (by kernel_rfl)) (fun _ _ _ h => h) (Or.inl ⟨by rfl, ?_⟩) ?_ ?_
   rotate_left
   ·intro w'
    go_simp
    with_reducible rfl
   rotate_left
   ·simp only [Act.put, sa_, s0_, s1_, i64_w, i32_w]
    rfl
   refine pure_ (i := 12) (N := some 15) (v := ?_) (a' := ?_) #[true, true, true, true, false, true, true, false, true, true, false, true, true, false, false, false, false, false, false, false] rfl rfl (any_of HT_.out (by kernel_rfl)) (fun _ _ _ h => h) (Or.inl ⟨by rfl, ?_⟩) ?_ ?_
   rotate_left
   ·intro w'
    go_simp
    with_reducible rfl
   rotate_left
   ·simp only [Act.put, sa_, s0_, s1_, i64_w, i32_w]
    rfl
   refine pure_ (i := 14) (N := some 17) (v := ?_) (a' := ?_) #[true, true, true, true, false, true, true, false, true, true, false, true, true, false, true, false, false, false, false, false] rfl rfl (any_of HT_.out (by kernel_rfl)) (fun _ _ _ h => h) (Or.inl ⟨by rfl, ?_⟩) ?_ ?_
   rotate_left
   ·intro w'
    go_simp
    with_reducible rfl
   rotate_left
   ·simp only [Act.put, sa_, s0_, s1_, i64_w, i32_w]
    rfl
   refine pure_ (i := 15) (N := some 18) (v := ?_) (a' := ?_) #[true, true, true, true, false, true, true, false, true, true, false, true, true, false, true, true, false, false, false, false] rfl rfl (any_of HT_.out (by kernel_rfl)) (fun _ _ _ h => h) (Or.inl ⟨by rfl, ?_⟩) ?_ ?_
   rotate_left
   ·intro w'
    go_simp
    with_reducible rfl
   rotate_left
   ·simp only [Act.put, sa_, s0_, s1_, i64_w, i32_w]
    rfl
   refine take_ (i := 4) (N := some 7) (v := ?_) (a' := ?_) #[true, true, true, true, true, true, true, false, true, true, false, true, true, false, true, true, false, false, false, false] rfl rfl (take_ofW HT_.out HW_.out (by kernel_rfl)) (fun _ _ _ h => h) (Or.inl ⟨by rfl, ?_⟩) hHeld ?_ ?_
   rotate_left
   ·rintro w' ⟨s0, s1, s2, s3, s4, s5, s6, s7, s8, s9, s10, s11, s12, s13, s14, s15, s16, s17⟩
    refine (load_exec rfl rfl s17).trans ?_; with_reducible rfl
   rotate_left
   ·simp only [Act.put, sa_, s0_, s1_, i64_w, i32_w]
    rfl
   refine take_ (i := 7) (N := some 10) (v := ?_) (a' := ?_) #[true, true, true, true, true, true, true, true, true, true, false, true, true, false, true, true, false, false, false, false] rfl rfl (take_ofW HT_.out HW_.out (by kernel_rfl)) (fun _ _ _ h => h) (Or.inl ⟨by rfl, ?_⟩) hHeld ?_ ?_
   rotate_left
   ·rintro w' ⟨s0, s1, s2, s3, s4, s5, s6, s7, s8, s9, s10, s11, s12, s13, s14, s15, s16, s17⟩
    go_simp; with_reducible rfl
   rotate_left
   ·simp only [Act.put, sa_, s0_, s1_, i64_w, i32_w]
    rfl
   refine take_ (i := 10) (N := some 13) (v := ?_) (a' := ?_) #[true, true, true, true, true, true, true, true, true, true, true, true, true, false, true, true, false, false, false, false] rfl rfl (take_ofW HT_.out HW_.out (by kernel_rfl)) (fun _ _ _ h => h) (Or.inl ⟨by rfl, ?_⟩) hHeld ?_ ?_
   rotate_left
   ·rintro w' ⟨s0, s1, s2, s3, s4, s5, s6, s7, s8, s9, s10, s11, s12, s13, s14, s15, s16, s17⟩
    go_simp; with_reducible rfl
   rotate_left
   ·simp only [Act.put, sa_, s0_, s1_, i64_w, i32_w]
    rfl
   refine tl_ 13 16 ?_ 16 4 HT_ HW_ ?_ hHeld ?_ ?_ ?_
   rotate_left
   ·rintro w' ⟨s0, s1, s2, s3, s4, s5, s6, s7, s8, s9, s10, s11, s12, s13, s14, s15, s16, s17⟩
    go_simp; with_reducible rfl
   rotate_left
   ·simp only [Act.put, sa_, s0_, s1_, i64_w, i32_w]
    rfl
   refine tl_ 16 19 ?_ 17 3 HT_ HW_ ?_ hHeld ?_ ?_ ?_
   rotate_left
   ·rintro w' ⟨s0, s1, s2, s3, s4, s5, s6, s7, s8, s9, s10, s11, s12, s13, s14, s15, s16, s17⟩
    go_simp; with_reducible rfl
   rotate_left
   ·simp only [Act.put, sa_, s0_, s1_, i64_w, i32_w]
    rfl
   refine one_ (i := 17) (N := some 20) (bv_ 18 2) rfl rfl (one_of HT_.out (by kernel_rfl)) (by decide) (fun K hK => ?_)
   refine goes_ Tryd.func38 (by kernel_rfl) rfl #[.int .u8 zd, .int .u8 ze, .int .u8 zf, .int .u8 zg] (by rfl) rfl rfl lq_ ?_
   with_reducible refine (ip_V4.calls zd ze zf zg t103 t104 t105 t106 t107 t108 t109 t110 t111 t112 t113 t114 t115 t116 t117 t118 t119 _ ?side1 A5.out).mono ?_
   (case side1 => exact lg_)
   rintro e w9 ⟨rfl, hb⟩
   refine ⟨_, rfl, ?_⟩
   replace BK102 := Aside0.mk (bb_ BK102 hb)
   replace HB := Aside0.mk (below_step bg_ hb)
   (try clear hb)
   (try clear hb2)
   (try clear hk)
   (try clear hi)
   refine hK.out _ _ ⟨(blk_cell BK102.out 0).trans rfl, (blk_cell BK102.out 1).trans rfl, (blk_cell BK102.out 2).trans rfl, (blk_cell BK102.out 3).trans rfl, (blk_cell BK102.out 4).trans rfl, (blk_cell BK102.out 5).trans rfl, (blk_cell BK102.out 6).trans rfl, (blk_cell BK102.out 7).trans rfl, (blk_cell BK102.out 8).trans rfl, (blk_cell BK102.out 9).trans rfl, (blk_cell BK102.out 10).trans rfl, (blk_cell BK102.out 11).trans rfl, (blk_cell BK102.out 12).trans rfl, (blk_cell BK102.out 13).trans rfl, (blk_cell BK102.out 14).trans rfl, (blk_cell BK102.out 15).trans rfl, (blk_cell BK102.out 16).trans rfl, (run_load_box BK102.out 24 [] (al_ false z1 z2 z3 z4 z5 z6 z7 z8 z9 za zb zc zd ze zf zg) [] rfl 0 rfl Tryd.underlying24 rfl (by kernel_rfl))⟩ (fun hHeld => ?_)
   clear hK K
   refine norm_ (a' := ?_) ?_ ?_
   rotate_left
   ·show Act.put _ (some 20) _ = _
    simp only [Act.put, sa_, s0_, s1_, i64_w, i32_w]
    rfl
   refine pl_ 18 21 ?_ 19 1 HT_ ?_ ?_ ?_ ?_
   rotate_left
   ·intro w'
    go_simp
    with_reducible rfl
   rotate_left
   ·simp only [Act.put, sa_, s0_, s1_, i64_w, i32_w]
    rfl
   refine pl_ 19 22 ?_ 20 0 HT_ ?_ ?_ ?_ ?_
   rotate_left
   ·intro w'
    go_simp
    with_reducible rfl
   rotate_left
   ·simp only [Act.put, sa_, s0_, s1_, i64_w, i32_w]
    rfl
   refine done_ (done_of HT_.out (by kernel_rfl)) ?_
   try go_wp2
   go_ret
   exact ⟨rq_, bg_⟩
  ·rw [if_neg c6] at H
   have c6b0 : (!(false == t103) || ((!(z1 == t104) || (!(z2 == t105) || (!(z3 == t106) || (!(z4 == t107) || (!(z5 == t108) || (!(z6 == t109) || (!(z7 == t110) || (!(z8 == t111) || (!(z9 == t112) || (!(za == t113) || (!(zb == t114) || (!(zc == t115) || (!(zd == t116) || (!(ze == t117) || (!(zf == t118) || (!(zg == t119))))))))))))))))))) = false := by simpa using c6
   try (have c6bs := c6b0; simp only [Bool.false_beq, Bool.true_beq, beq_false, beq_true, Bool.not_not] at c6bs)
   clear c6
   obtain rfl := Option.some.inj H
   go_enter Tryd.func19, Tryd.ntmps19
   try go_wp2_with (first | ((with_reducible refine gate_dst (N := 1) rfl ?_); refine bx_ 1 (ag_ false z1 z2 z3 z4 z5 z6 z7 z8 z9 za zb zc zd ze zf zg) 24 ?_; intro gb102 hg w10 hbox hb; have BK102 := Aside0.mk (hbox); have GW102 := Aside0.mk (ge_ (w := w) hg); have GE102 := Aside0.mk (ge_ (w := w) hg); replace HB := Aside0.mk (below_step bq_ hb); clear hb hbox hg))
   replace BK102 := Aside0.mk (blk_drew BK102.out)
   replace HB := Aside0.mk (below_drew1 HB.out)
   refine start_ (n := 20) (S := fun w' => w'.cell? ⟨gb102, 0, none⟩ = some (.bool false) ∧ w'.cell? ⟨gb102, 1, none⟩ = some (.int .u8 z1) ∧ w'.cell? ⟨gb102, 2, none⟩ = some (.int .u8 z2) ∧ w'.cell? ⟨gb102, 3, none⟩ = some (.int .u8 z3) ∧ w'.cell? ⟨gb102, 4, none⟩ = some (.int .u8 z4) ∧ w'.cell? ⟨gb102, 5, none⟩ = some (.int .u8 z5) ∧ w'.cell? ⟨gb102, 6, none⟩ = some (.int .u8 z6) ∧ w'.cell? ⟨gb102, 7, none⟩ = some (.int .u8 z7) ∧ w'.cell? ⟨gb102, 8, none⟩ = some (.int .u8 z8) ∧ w'.cell? ⟨gb102, 9, none⟩ = some (.int .u8 z9) ∧ w'.cell? ⟨gb102, 10, none⟩ = some (.int .u8 za) ∧ w'.cell? ⟨gb102, 11, none⟩ = some (.int .u8 zb) ∧ w'.cell? ⟨gb102, 12, none⟩ = some (.int .u8 zc) ∧ w'.cell? ⟨gb102, 13, none⟩ = some (.int .u8 zd) ∧ w'.cell? ⟨gb102, 14, none⟩ = some (.int .u8 ze) ∧ w'.cell? ⟨gb102, 15, none⟩ = some (.int .u8 zf) ∧ w'.cell? ⟨gb102, 16, none⟩ = some (.int .u8 zg) ∧ (Instr.loadAt 24 (.pointer (some ⟨gb102, 0, none⟩))).run Tryd.prog w' = .ok (.agg (ag_ false z1 z2 z3 z4 z5 z6 z7 z8 z9 za zb zc zd ze zf zg)) w') (ds := []) (bv_ 0 20) (by kernel_rfl) rfl rfl ⟨(blk_cell BK102.out 0).trans rfl, (blk_cell BK102.out 1).trans rfl, (blk_cell BK102.out 2).trans rfl, (blk_cell BK102.out 3).trans rfl, (blk_cell BK102.out 4).trans rfl, (blk_cell BK102.out 5).trans rfl, (blk_cell BK102.out 6).trans rfl, (blk_cell BK102.out 7).trans rfl, (blk_cell BK102.out 8).trans rfl, (blk_cell BK102.out 9).trans rfl, (blk_cell BK102.out 10).trans rfl, (blk_cell BK102.out 11).trans rfl, (blk_cell BK102.out 12).trans rfl, (blk_cell BK102.out 13).trans rfl, (blk_cell BK102.out 14).trans rfl, (blk_cell BK102.out 15).trans rfl, (blk_cell BK102.out 16).trans rfl, (run_load_box BK102.out 24 [] (al_ false z1 z2 z3 z4 z5 z6 z7 z8 z9 za zb zc zd ze zf zg) [] rfl 0 rfl Tryd.underlying24 rfl (by kernel_rfl))⟩ (fun hHeld => ?_); refine with_tabW ip_Check.tab1 ip_Check.bits1 (fun HT_ HW_ => ?_)
   generalize w10.drew = w11 at BK102 HB hHeld ⊢
   refine pl_ 0 3 ?_ 1 19 HT_ ?_ ?_ ?_ ?_
   rotate_left
   ·intro w'
    go_simp
    with_reducible rfl
   rotate_left
   ·simp only [Act.put, sa_, s0_, s1_, i64_w, i32_w]
    rfl
   refine tl_ 1 4 ?_ 2 18 HT_ HW_ ?_ hHeld ?_ ?_ ?_
   rotate_left
   ·rintro w' ⟨s0, s1, s2, s3, s4, s5, s6, s7, s8, s9, s10, s11, s12, s13, s14, s15, s16, s17⟩
    go_simp; with_reducible rfl
   rotate_left
   ·simp only [Act.put, sa_, s0_, s1_, i64_w, i32_w]
    rfl
   refine pl_ 2 5 ?_ 3 17 HT_ ?_ ?_ ?_ ?_
   rotate_left
   ·intro w'
    go_simp
    with_reducible rfl
   rotate_left
   ·simp only [Act.put, sa_, s0_, s1_, i64_w, i32_w]
    rfl
   refine pl_ 3 6 ?_ 4 16 HT_ ?_ ?_ ?_ ?_
   rotate_left
   ·intro w'
    go_simp
    with_reducible rfl
   rotate_left
   ·simp only [Act.put, sa_, s0_, s1_, i64_w, i32_w]
    rfl
   refine pure_ (i := 5) (N := some 8) (v := ?_) (a' := ?_) #[true, true, true, true, false, true, false, false, false, false, false, false, false, false, false, false, false, false, false, false] rfl rfl (any_of HT_.out (by kernel_rfl)) (fun _ _ _ h => h) (Or.inl ⟨by rfl, ?_⟩) ?_ ?_
   rotate_left
   ·intro w'
    go_simp
    with_reducible rfl
   rotate_left
   ·simp only [Act.put, sa_, s0_, s1_, i64_w, i32_w]
    rfl
   refine pure_ (i := 6) (N := some 9) (v := ?_) (a' := ?_) #[true, true, true, true, false, true, true, false, false, false, false, false, false, false, false, false, false, false, false, false] rfl rfl (any_of HT_.out (by kernel_rfl)) (fun _ _ _ h => h) (Or.inl ⟨by rfl, ?_⟩) ?_ ?_
   rotate_left
   ·intro w'
    go_simp
    with_reducible rfl
   rotate_left
   ·simp only [Act.put, sa_, s0_, s1_, i64_w, i32_w]
    rfl
   refine pure_ (i := 8) (N := some 11) (v := ?_) (a' := ?_) #[true, true, true, true, false, true, true, false, true, false, false, false, false, false, false, false, false, false, false, false] rfl rfl (any_of HT_.out (by kernel_rfl)) (fun _ _ _ h => h) (Or.inl ⟨by rfl, ?_⟩) ?_ ?_
   rotate_left
   ·intro w'
    go_simp
    with_reducible rfl
   rotate_left
   ·simp only [Act.put, sa_, s0_, s1_, i64_w, i32_w]
    rfl
   refine pure_ (i := 9) (N := some 12) (v := ?_) (a' := ?_) #[true, true, true, true, false, true, true, false, true, true, false, false, false, false, false, false, false, false, false, false] rfl rfl (any_of HT_.out (by kernel_rfl)) (fun _ _ _ h => h) (Or.inl ⟨by rfl, ?_⟩) ?_ ?_
   rotate_left
   ·intro w'
    go_simp
    with_reducible rfl
   rotate_left
   ·simp only [Act.put, sa_, s0_, s1_, i64_w, i32_w]
    rfl
   refine pure_ (i := 11) (N := some 14) (v := ?_) (a' := ?_) #[true, true, true, true, false, true, true, false, true, true, false, true, false, false, false, false, false, false, false, false] rfl rfl (any_of HT_.out (by kernel_rfl)) (fun _ _ _ h => h) (Or.inl ⟨by rfl, ?_⟩) ?_ ?_
   rotate_left
   ·intro w'
    go_simp
    with_reducible rfl
   rotate_left
   ·simp only [Act.put, sa_, s0_, s1_, i64_w, i32_w]
    rfl
   refine pure_ (i := 12) (N := some 15) (v := ?_) (a' := ?_) #[true, true, true, true, false, true, true, false, true, true, false, true, true, false, false, false, false, false, false, false] rfl rfl (any_of HT_.out (by kernel_rfl)) (fun _ _ _ h => h) (Or.inl ⟨by rfl, ?_⟩) ?_ ?_
   rotate_left
   ·intro w'
    go_simp
    with_reducible rfl
   rotate_left
   ·simp only [Act.put, sa_, s0_, s1_, i64_w, i32_w]
    rfl
   refine pure_ (i := 14) (N := some 17) (v := ?_) (a' := ?_) #[true, true, true, true, false, true, true, false, true, true, false, true, true, false, true, false, false, false, false, false] rfl rfl (any_of HT_.out (by kernel_rfl)) (fun _ _ _ h => h) (Or.inl ⟨by rfl, ?_⟩) ?_ ?_
   rotate_left
   ·intro w'
    go_simp
    with_reducible rfl
   rotate_left
   ·simp only [Act.put, sa_, s0_, s1_, i64_w, i32_w]
    rfl
   refine pure_ (i := 15) (N := some 18) (v := ?_) (a' := ?_) #[true, true, true, true, false, true, true, false, true, true, false, true, true, false, true, true, false, false, false, false] rfl rfl (any_of HT_.out (by kernel_rfl)) (fun _ _ _ h => h) (Or.inl ⟨by rfl, ?_⟩) ?_ ?_
   rotate_left
   ·intro w'
    go_simp
    with_reducible rfl
   rotate_left
   ·simp only [Act.put, sa_, s0_, s1_, i64_w, i32_w]
    rfl
   refine take_ (i := 4) (N := some 7) (v := ?_) (a' := ?_) #[true, true, true, true, true, true, true, false, true, true, false, true, true, false, true, true, false, false, false, false] rfl rfl (take_ofW HT_.out HW_.out (by kernel_rfl)) (fun _ _ _ h => h) (Or.inl ⟨by rfl, ?_⟩) hHeld ?_ ?_
   rotate_left
   ·rintro w' ⟨s0, s1, s2, s3, s4, s5, s6, s7, s8, s9, s10, s11, s12, s13, s14, s15, s16, s17⟩
    refine (load_exec rfl rfl s17).trans ?_; with_reducible rfl
   rotate_left
   ·simp only [Act.put, sa_, s0_, s1_, i64_w, i32_w]
    rfl
   refine take_ (i := 7) (N := some 10) (v := ?_) (a' := ?_) #[true, true, true, true, true, true, true, true, true, true, false, true, true, false, true, true, false, false, false, false] rfl rfl (take_ofW HT_.out HW_.out (by kernel_rfl)) (fun _ _ _ h => h) (Or.inl ⟨by rfl, ?_⟩) hHeld ?_ ?_
   rotate_left
   ·rintro w' ⟨s0, s1, s2, s3, s4, s5, s6, s7, s8, s9, s10, s11, s12, s13, s14, s15, s16, s17⟩
    go_simp; with_reducible rfl
   rotate_left
   ·simp only [Act.put, sa_, s0_, s1_, i64_w, i32_w]
    rfl
   refine take_ (i := 10) (N := some 13) (v := ?_) (a' := ?_) #[true, true, true, true, true, true, true, true, true, true, true, true, true, false, true, true, false, false, false, false] rfl rfl (take_ofW HT_.out HW_.out (by kernel_rfl)) (fun _ _ _ h => h) (Or.inl ⟨by rfl, ?_⟩) hHeld ?_ ?_
   rotate_left
   ·rintro w' ⟨s0, s1, s2, s3, s4, s5, s6, s7, s8, s9, s10, s11, s12, s13, s14, s15, s16, s17⟩
    go_simp; with_reducible rfl
   rotate_left
   ·simp only [Act.put, sa_, s0_, s1_, i64_w, i32_w]
    rfl
   refine tl_ 13 16 ?_ 16 4 HT_ HW_ ?_ hHeld ?_ ?_ ?_
   rotate_left
   ·rintro w' ⟨s0, s1, s2, s3, s4, s5, s6, s7, s8, s9, s10, s11, s12, s13, s14, s15, s16, s17⟩
    go_simp; with_reducible rfl
   rotate_left
   ·simp only [Act.put, sa_, s0_, s1_, i64_w, i32_w]
    rfl
   refine tl_ 16 19 ?_ 17 3 HT_ HW_ ?_ hHeld ?_ ?_ ?_
   rotate_left
   ·rintro w' ⟨s0, s1, s2, s3, s4, s5, s6, s7, s8, s9, s10, s11, s12, s13, s14, s15, s16, s17⟩
    go_simp; with_reducible rfl
   rotate_left
   ·simp only [Act.put, sa_, s0_, s1_, i64_w, i32_w]
    rfl
   refine one_ (i := 17) (N := some 20) (bv_ 18 2) rfl rfl (one_of HT_.out (by kernel_rfl)) (by decide) (fun K hK => ?_)
   refine goes_ Tryd.func38 (by kernel_rfl) rfl #[.int .u8 zd, .int .u8 ze, .int .u8 zf, .int .u8 zg] (by rfl) rfl rfl lq_ ?_
   with_reducible refine (ip_V4.calls zd ze zf zg t103 t104 t105 t106 t107 t108 t109 t110 t111 t112 t113 t114 t115 t116 t117 t118 t119 _ ?side1 A5.out).mono ?_
   (case side1 => exact lg_)
   rintro e w12 ⟨rfl, hb⟩
   refine ⟨_, rfl, ?_⟩
   replace BK102 := Aside0.mk (bb_ BK102 hb)
   replace HB := Aside0.mk (below_step bg_ hb)
   (try clear hb)
   (try clear hb2)
   (try clear hk)
   (try clear hi)
   refine hK.out _ _ ⟨(blk_cell BK102.out 0).trans rfl, (blk_cell BK102.out 1).trans rfl, (blk_cell BK102.out 2).trans rfl, (blk_cell BK102.out 3).trans rfl, (blk_cell BK102.out 4).trans rfl, (blk_cell BK102.out 5).trans rfl, (blk_cell BK102.out 6).trans rfl, (blk_cell BK102.out 7).trans rfl, (blk_cell BK102.out 8).trans rfl, (blk_cell BK102.out 9).trans rfl, (blk_cell BK102.out 10).trans rfl, (blk_cell BK102.out 11).trans rfl, (blk_cell BK102.out 12).trans rfl, (blk_cell BK102.out 13).trans rfl, (blk_cell BK102.out 14).trans rfl, (blk_cell BK102.out 15).trans rfl, (blk_cell BK102.out 16).trans rfl, (run_load_box BK102.out 24 [] (al_ false z1 z2 z3 z4 z5 z6 z7 z8 z9 za zb zc zd ze zf zg) [] rfl 0 rfl Tryd.underlying24 rfl (by kernel_rfl))⟩ (fun hHeld => ?_)
   clear hK K
   refine norm_ (a' := ?_) ?_ ?_
   rotate_left
   ·show Act.put _ (some 20) _ = _
    simp only [Act.put, sa_, s0_, s1_, i64_w, i32_w]
    rfl
   refine pl_ 18 21 ?_ 19 1 HT_ ?_ ?_ ?_ ?_
   rotate_left
   ·intro w'
    go_simp
    with_reducible rfl
   rotate_left
   ·simp only [Act.put, sa_, s0_, s1_, i64_w, i32_w]
    rfl
   refine pl_ 19 22 ?_ 20 0 HT_ ?_ ?_ ?_ ?_
   rotate_left
   ·intro w'
    go_simp
    with_reducible rfl
   rotate_left
   ·simp only [Act.put, sa_, s0_, s1_, i64_w, i32_w]
    rfl
   refine done_ (done_of HT_.out (by kernel_rfl)) ?_
   try go_wp2
   go_ret
   exact ⟨rq_, bg_⟩

def cidr_size.f (z0 : Bool) (z1 : Int) (z2 : Int) (z3 : Int) (z4 : Int) (z5 : Int) (z6 : Int) (z7 : Int) (z8 : Int) (z9 : Int) (za : Int) (zb : Int) (zc : Int) (zd : Int) (ze : Int) (zf : Int) (zg : Int) : Option (Int × Int) := if z0 = true then (some (128, 0)) else (some (32, 96))
set_option maxHeartbeats 8000000 in
set_option maxRecDepth 100000 in
theorem cidr_size.calls (z0 : Bool) (z1 : Int) (z2 : Int) (z3 : Int) (z4 : Int) (z5 : Int) (z6 : Int) (z7 : Int) (z8 : Int) (z9 : Int) (za : Int) (zb : Int) (zc : Int) (zd : Int) (ze : Int) (zf : Int) (zg : Int) (r1 : Int) (r2 : Int) (w : World) (hLW : LW w) (h : cidr_size.f z0 z1 z2 z3 z4 z5 z6 z7 z8 z9 za zb zc zd ze zf zg = some (r1, r2)) :
  Calls Tryd.prog 40 #[.agg (ag_ z0 z1 z2 z3 z4 z5 z6 z7 z8 z9 za zb zc zd ze zf zg)] w fun e w' => e = .returned (.tuple #[.int .i64 r1, .int .i64 r2]) ∧ Below w.heap.size w w' := by
 have hu24 := Tryd.underlying24
 have HLW := Aside0.mk hLW
 clear hLW
 have HB := Aside0.mk (Below.refl w.heap.size w)
 have H := h
 unfold cidr_size.f at H
 clear h
 by_cases c2 : z0 = true
 ·subst c2
  replace H := ifT_ H
  simp only [Option.some.injEq, Prod.mk.injEq] at H
  obtain ⟨rfl, rfl⟩ := H
  go_enter Tryd.func40, Tryd.ntmps40
  go_wp2_with (first | ((with_reducible refine gate_dst (N := 1) rfl ?_); refine bx_ 1 (ag_ true z1 z2 z3 z4 z5 z6 z7 z8 z9 za zb zc zd ze zf zg) 24 ?_; intro gb120 hg w3 hbox hb; have BK120 := Aside0.mk (hbox); have GW120 := Aside0.mk (ge_ (w := w) hg); have GE120 := Aside0.mk (ge_ (w := w) hg); replace HB := Aside0.mk (below_step bq_ hb); clear hb hbox hg; have hcz4_0 := cz_ BK120 0 (.bool true); obtain ⟨hfz4_0, hfz4_1, hfz4_2, hfz4_3, hfz4_4, hfz4_5, hfz4_6, hfz4_7, hfz4_8, hfz4_9, hfz4_10, hfz4_11, hfz4_12, hfz4_13, hfz4_14, hfz4_15, hfz4_16⟩ := f17_ BK120))
  go_ret2
  exact ⟨rq_, bg_⟩
 ·replace c2 := Bool.eq_false_iff.mpr c2
  subst c2
  replace H := ifF_ H
  simp only [Option.some.injEq, Prod.mk.injEq] at H
  obtain ⟨rfl, rfl⟩ := H
  go_enter Tryd.func40, Tryd.ntmps40
  go_wp2_with (first | ((with_reducible refine gate_dst (N := 1) rfl ?_); refine bx_ 1 (ag_ false z1 z2 z3 z4 z5 z6 z7 z8 z9 za zb zc zd ze zf zg) 24 ?_; intro gb120 hg w5 hbox hb; have BK120 := Aside0.mk (hbox); have GW120 := Aside0.mk (ge_ (w := w) hg); have GE120 := Aside0.mk (ge_ (w := w) hg); replace HB := Aside0.mk (below_step bq_ hb); clear hb hbox hg; have hcz6_0 := cz_ BK120 0 (.bool false); obtain ⟨hfz6_0, hfz6_1, hfz6_2, hfz6_3, hfz6_4, hfz6_5, hfz6_6, hfz6_7, hfz6_8, hfz6_9, hfz6_10, hfz6_11, hfz6_12, hfz6_13, hfz6_14, hfz6_15, hfz6_16⟩ := f17_ BK120))
  go_ret2
  exact ⟨rq_, bg_⟩

-- NOT PRINTED: function 32 (cidr_first)

-- NOT PRINTED: function 22 (cidr_Check)

end Go.Proofs.YtdopafhppaalfaaDoor.P
