-- Written by a program of this session (wip/gen/lprint.py over the kit's print.py) out of the translation. Lean checks it.
import Derived.Test.YtdopafhppaalfaaGreatDoorG0
import Derived.Test.YtdopafhppaalfaaGreatDoorZ
namespace Go.Proofs.YtdopafhppaalfaaGreatDoor.G
open Go.Proofs.YtdopafhppaalfaaGreatDoorZ
open Go.Proofs.YtdopafhppaalfaaGreatDoor.E Go.Proofs.YtdopafhppaalfaaGreatDoorV
open Go.Proofs.YtdopafhppaalfaaGreatDoor.P
open Go.RowKit Go.Proofs.YtdopafhppaalfaaGreatDoorW.PrintWords Go.Proofs.YtdopafhppaalfaaGreatDoorW.PrintLast Go.Proofs.YtdopafhppaalfaaGreatDoorW.PrintMore
attribute [local go_sem] max2_int min2_int max_two min_two max_three min_three max_four min_four   -- for this text's walks alone
set_option linter.unusedVariables false
set_option linter.unusedSimpArgs false

attribute [local go_sem high] eqA24
def cidr_Check.f (z0 : Bool) (z1 : Int) (z2 : Int) (z3 : Int) (z4 : Int) (z5 : Int) (z6 : Int) (z7 : Int) (z8 : Int) (z9 : Int) (za : Int) (zb : Int) (zc : Int) (zd : Int) (ze : Int) (zf : Int) (zg : Int) (zh : Int) : Option (Int) := (cidr_size.f z0 z1 z2 z3 z4 z5 z6 z7 z8 z9 za zb zc zd ze zf zg).bind fun bt102 => ((ip_Check.f z0 z1 z2 z3 z4 z5 z6 z7 z8 z9 za zb zc zd ze zf zg).bind fun t104 => (if t104 = 0 then (if zh < 0 then (some 1) else (if zh > bt102.1 then (some 1) else ((cidr_first.f z0 z1 z2 z3 z4 z5 z6 z7 z8 z9 za zb zc zd ze zf zg zh).bind fun bt105 => (if (!(bt105.1 == z0) || ((!(bt105.2.1 == z1) || (!(bt105.2.2.1 == z2) || (!(bt105.2.2.2.1 == z3) || (!(bt105.2.2.2.2.1 == z4) || (!(bt105.2.2.2.2.2.1 == z5) || (!(bt105.2.2.2.2.2.2.1 == z6) || (!(bt105.2.2.2.2.2.2.2.1 == z7) || (!(bt105.2.2.2.2.2.2.2.2.1 == z8) || (!(bt105.2.2.2.2.2.2.2.2.2.1 == z9) || (!(bt105.2.2.2.2.2.2.2.2.2.2.1 == za) || (!(bt105.2.2.2.2.2.2.2.2.2.2.2.1 == zb) || (!(bt105.2.2.2.2.2.2.2.2.2.2.2.2.1 == zc) || (!(bt105.2.2.2.2.2.2.2.2.2.2.2.2.2.1 == zd) || (!(bt105.2.2.2.2.2.2.2.2.2.2.2.2.2.2.1 == ze) || (!(bt105.2.2.2.2.2.2.2.2.2.2.2.2.2.2.2.1 == zf) || (!(bt105.2.2.2.2.2.2.2.2.2.2.2.2.2.2.2.2 == zg))))))))))))))))))) = true then (some 1) else (some 0))))) else (some 1)))
def cidr_Check.T2 : Bool × List (List Nat × List Nat) := (true, [([], []), ([0], [0]), ([1], [1]), ([2], [2]), ([3, 2], [3]), ([4], [4]), ([5, 4], [4, 5]), ([6, 4], [4, 6]), ([4, 7], [4, 7]), ([8, 4], [8]), ([9], [9]), ([10, 9], [9, 10]), ([9], [9]), ([11, 12, 9], [9, 11, 12]), ([9, 13], [9, 13]), ([14, 9], [14]), ([15], [15]), ([16, 15], [15, 16]), ([15], [15]), ([18, 15], [15, 18]), ([17, 19, 15, 15], [15, 17, 19]), ([15], [15]), ([21, 15], [15, 21]), ([20, 22, 15], [15, 20, 22]), ([15, 23], [15, 23])])
def cidr_Check.B2 : List Nat := [0, 1, 3, 7, 15, 31, 63, 127, 255, 511, 1023, 2047, 1023, 8191, 16383, 32767, 65535, 131071, 65535, 327679, 1048575, 65535, 2162687, 8388607, 16777215]
theorem cidr_Check.tab2 : rtab .any (opsOf Tryz.f6 2) = cidr_Check.T2 := by kernel_rfl
theorem cidr_Check.bits2 : waitsOk cidr_Check.T2.2 cidr_Check.B2 = true := by kernel_rfl
set_option maxHeartbeats 8000000 in
set_option maxRecDepth 100000 in
theorem cidr_Check.calls (z0 : Bool) (z1 : Int) (z2 : Int) (z3 : Int) (z4 : Int) (z5 : Int) (z6 : Int) (z7 : Int) (z8 : Int) (z9 : Int) (za : Int) (zb : Int) (zc : Int) (zd : Int) (ze : Int) (zf : Int) (zg : Int) (zh : Int) (r : Int) (w : World) (hLW : LW w) (h : cidr_Check.f z0 z1 z2 z3 z4 z5 z6 z7 z8 z9 za zb zc zd ze zf zg zh = some r) :
  Calls Tryz.prog 6 #[.agg (nr_ z0 z1 z2 z3 z4 z5 z6 z7 z8 z9 za zb zc zd ze zf zg zh)] w fun e w' => e = .returned (.int .i64 r) ∧ Below w.heap.size w w' := by
 have hu26 := Tryz.underlying26
 have hu24 := Tryz.underlying24
 have HLW := Aside0.mk hLW
 clear hLW
 have HB := Aside0.mk (Below.refl w.heap.size w)
 have H := h
 unfold cidr_Check.f at H
 clear h
 replace H := Option.bind_eq_some_iff.mp H
 obtain ⟨⟨t102, t103⟩, A20, H⟩ := H
 (try dsimp only at H)
 have A2 := Aside0.mk A20
 clear A20
 replace H := Option.bind_eq_some_iff.mp H
 obtain ⟨t104, A30, H⟩ := H
 (try dsimp only at H)
 have A3 := Aside0.mk A30
 clear A30
 by_cases c4 : t104 = 0
 ·rw [if_pos c4] at H
  have c4b0 := beq_iff_eq.mpr c4
  have c4b1 := bne_eq_false_iff_eq.mpr c4
  clear c4
  by_cases c5 : zh < 0
  ·rw [if_pos c5] at H
   have c5b0 := decide_eq_true c5
   clear c5
   obtain rfl := Option.some.inj H
   go_enter Tryz.func6, Tryz.ntmps6
   try go_wp2_with (first | ((with_reducible refine gate_dst (N := 1) rfl ?_); refine bx_ 1 (nr_ z0 z1 z2 z3 z4 z5 z6 z7 z8 z9 za zb zc zd ze zf zg zh) 26 ?_; intro gb101 hg w6 hbox hb; have BK101 := Aside0.mk (hbox); have GW101 := Aside0.mk (ge_ (w := w) hg); have GE101 := Aside0.mk (ge_ (w := w) hg); replace HB := Aside0.mk (below_step bq_ hb); clear hb hbox hg) | ((with_reducible refine gate_dst (N := 7) rfl ?_); (try (refine gate_guard (by rfl) ?_; dsimp only)); refine load_box ?hg 24 (.tmp 6) rfl BK101.out [] (al_ z0 z1 z2 z3 z4 z5 z6 z7 z8 z9 za zb zc zd ze zf zg) [.int .i64 zh] rfl 0 rfl rfl Tryz.underlying24 rfl (by kernel_rfl) ?_; (case hg => rfl)) | ((with_reducible refine gate_callee (f := 15) rfl ?_); refine goesL_ (some 8) rfl rfl Tryz.func15 (by kernel_rfl) rfl #[.agg (ag_ z0 z1 z2 z3 z4 z5 z6 z7 z8 z9 za zb zc zd ze zf zg)] rfl lq_ ?_; (with_reducible refine (cidr_size.calls z0 z1 z2 z3 z4 z5 z6 z7 z8 z9 za zb zc zd ze zf zg t102 t103 _ ?side1 A2.out).mono ?_); (case side1 => exact lg_); rintro e w7 ⟨rfl, hb⟩; refine ⟨_, rfl, ?_⟩; replace BK101 := Aside0.mk (bb_ BK101 hb); replace HB := Aside0.mk (below_step bg_ hb); (try clear hb); (try clear hb2); (try clear hk); (try clear hi)))
   replace BK101 := Aside0.mk (blk_drew BK101.out)
   replace HB := Aside0.mk (below_drew1 HB.out)
   refine start_ (n := 25) (S := fun w' => w'.cell? ⟨gb101, 0, none⟩ = some (.bool z0) ∧ w'.cell? ⟨gb101, 17, none⟩ = some (.int .i64 zh) ∧ (Instr.loadAt 24 (.pointer (some ⟨gb101, 0, none⟩))).run Tryz.prog w' = .ok (.agg (ag_ z0 z1 z2 z3 z4 z5 z6 z7 z8 z9 za zb zc zd ze zf zg)) w') (ds := []) (bv_ 0 25) (by kernel_rfl) rfl rfl ⟨(blk_cell BK101.out 0).trans rfl, (blk_cell BK101.out 17).trans rfl, (run_load_box BK101.out 24 [] (al_ z0 z1 z2 z3 z4 z5 z6 z7 z8 z9 za zb zc zd ze zf zg) [.int .i64 zh] rfl 0 rfl Tryz.underlying24 rfl (by kernel_rfl))⟩ (fun hHeld => ?_); refine with_tabW cidr_Check.tab2 cidr_Check.bits2 (fun HT_ HW_ => ?_)
   generalize w7.drew = w8 at BK101 HB hHeld ⊢
   refine pl_ 0 11 ?_ 1 24 HT_ ?_ ?_ ?_ ?_
   rotate_left
   ·intro w'
    go_simp
    with_reducible rfl
   rotate_left
   ·simp only [Act.put, sa_, s0_, s1_, i64_w, i32_w]
    rfl
   refine tl_ 1 12 ?_ 2 23 HT_ HW_ ?_ hHeld ?_ ?_ ?_
   rotate_left
   ·rintro w' ⟨s0, s17, s18⟩
    refine (load_exec rfl rfl s18).trans ?_; with_reducible rfl
   rotate_left
   ·simp only [Act.put, sa_, s0_, s1_, i64_w, i32_w]
    rfl
   refine one_ (i := 2) (N := some 13) (bv_ 3 22) rfl rfl (one_of HT_.out (by kernel_rfl)) (by decide) (fun K hK => ?_)
   refine goes_ Tryz.func16 (by kernel_rfl) rfl #[.agg (ag_ z0 z1 z2 z3 z4 z5 z6 z7 z8 z9 za zb zc zd ze zf zg)] (by rfl) rfl rfl lq_ ?_
   with_reducible refine (ip_Check.calls z0 z1 z2 z3 z4 z5 z6 z7 z8 z9 za zb zc zd ze zf zg t104 _ ?side1 A3.out).mono ?_
   (case side1 => exact lg_)
   rintro e w9 ⟨rfl, hb⟩
   refine ⟨_, rfl, ?_⟩
   replace BK101 := Aside0.mk (bb_ BK101 hb)
   replace HB := Aside0.mk (below_step bg_ hb)
   (try clear hb)
   (try clear hb2)
   (try clear hk)
   (try clear hi)
   refine hK.out _ _ ⟨(blk_cell BK101.out 0).trans rfl, (blk_cell BK101.out 17).trans rfl, (run_load_box BK101.out 24 [] (al_ z0 z1 z2 z3 z4 z5 z6 z7 z8 z9 za zb zc zd ze zf zg) [.int .i64 zh] rfl 0 rfl Tryz.underlying24 rfl (by kernel_rfl))⟩ (fun hHeld => ?_)
   clear hK K
   refine norm_ (a' := ?_) ?_ ?_
   rotate_left
   ·show Act.put _ (some 13) _ = _
    simp only [Act.put, sa_, s0_, s1_, i64_w, i32_w]
    rfl
   refine pl_ 3 14 ?_ 4 21 HT_ ?_ ?_ ?_ ?_
   rotate_left
   ·intro w'
    go_simp
    with_reducible rfl
   rotate_left
   ·simp only [Act.put, sa_, s0_, s1_, i64_w, i32_w]
    rfl
   refine pl_ 4 15 ?_ 5 20 HT_ ?_ ?_ ?_ ?_
   rotate_left
   ·intro w'
    go_simp
    with_reducible rfl
   rotate_left
   ·simp only [Act.put, sa_, s0_, s1_, i64_w, i32_w]
    rfl
   refine pl_ 5 16 ?_ 6 19 HT_ ?_ ?_ ?_ ?_
   rotate_left
   ·intro w'
    go_simp
    with_reducible rfl
   rotate_left
   ·simp only [Act.put, sa_, s0_, s1_, i64_w, i32_w]
    rfl
   refine tl_ 6 17 ?_ 7 18 HT_ HW_ ?_ hHeld ?_ ?_ ?_
   rotate_left
   ·rintro w' ⟨s0, s17, s18⟩
    go_simp; with_reducible rfl
   rotate_left
   ·simp only [Act.put, sa_, s0_, s1_, i64_w, i32_w]
    rfl
   refine pl_ 7 18 ?_ 8 17 HT_ ?_ ?_ ?_ ?_
   rotate_left
   ·intro w'
    go_simp
    with_reducible rfl
   rotate_left
   ·simp only [Act.put, sa_, s0_, s1_, i64_w, i32_w]
    rfl
   refine pl_ 8 19 ?_ 9 16 HT_ ?_ ?_ ?_ ?_
   rotate_left
   ·intro w'
    go_simp
    with_reducible rfl
   rotate_left
   ·simp only [Act.put, sa_, s0_, s1_, i64_w, i32_w]
    rfl
   refine pl_ 9 20 ?_ 10 15 HT_ ?_ ?_ ?_ ?_
   rotate_left
   ·intro w'
    go_simp
    with_reducible rfl
   rotate_left
   ·simp only [Act.put, sa_, s0_, s1_, i64_w, i32_w]
    rfl
   refine pr_ 10 21 11 14 HT_ ?_ ?_ ?_
   rotate_left
   ·simp only [Act.put, sa_, s0_, s1_, i64_w, i32_w]
    rfl
   refine pr_ 11 22 12 13 HT_ ?_ ?_ ?_
   rotate_left
   ·simp only [Act.put, sa_, s0_, s1_, i64_w, i32_w]
    rfl
   refine pr_ 12 23 13 12 HT_ ?_ ?_ ?_
   rotate_left
   ·simp only [Act.put, sa_, s0_, s1_, i64_w, i32_w]
    rfl
   refine pr_ 13 24 14 11 HT_ ?_ ?_ ?_
   rotate_left
   ·simp only [Act.put, sa_, s0_, s1_, i64_w, i32_w]
    rfl
   refine pl_ 14 25 ?_ 15 10 HT_ ?_ ?_ ?_ ?_
   rotate_left
   ·intro w'
    go_simp
    with_reducible rfl
   rotate_left
   ·simp only [Act.put, sa_, s0_, s1_, i64_w, i32_w]
    rfl
   refine pl_ 15 26 ?_ 16 9 HT_ ?_ ?_ ?_ ?_
   rotate_left
   ·intro w'
    go_simp
    with_reducible rfl
   rotate_left
   ·simp only [Act.put, sa_, s0_, s1_, i64_w, i32_w]
    rfl
   refine pr_ 16 27 17 8 HT_ ?_ ?_ ?_
   rotate_left
   ·simp only [Act.put, sa_, s0_, s1_, i64_w, i32_w]
    rfl
   refine pr_ 17 28 18 7 HT_ ?_ ?_ ?_
   rotate_left
   ·simp only [Act.put, sa_, s0_, s1_, i64_w, i32_w]
    rfl
   refine pr_ 18 29 19 6 HT_ ?_ ?_ ?_
   rotate_left
   ·simp only [Act.put, sa_, s0_, s1_, i64_w, i32_w]
    rfl
   refine pr_ 19 30 20 5 HT_ ?_ ?_ ?_
   rotate_left
   ·simp only [Act.put, sa_, s0_, s1_, i64_w, i32_w]
    rfl
   refine pr_ 20 31 21 4 HT_ ?_ ?_ ?_
   rotate_left
   ·simp only [Act.put, sa_, s0_, s1_, i64_w, i32_w]
    rfl
   refine pr_ 21 32 22 3 HT_ ?_ ?_ ?_
   rotate_left
   ·simp only [Act.put, sa_, s0_, s1_, i64_w, i32_w]
    rfl
   refine pr_ 22 33 23 2 HT_ ?_ ?_ ?_
   rotate_left
   ·simp only [Act.put, sa_, s0_, s1_, i64_w, i32_w]
    rfl
   refine pr_ 23 34 24 1 HT_ ?_ ?_ ?_
   rotate_left
   ·simp only [Act.put, sa_, s0_, s1_, i64_w, i32_w]
    rfl
   refine pl_ 24 35 ?_ 25 0 HT_ ?_ ?_ ?_ ?_
   rotate_left
   ·intro w'
    go_simp
    with_reducible rfl
   rotate_left
   ·simp only [Act.put, sa_, s0_, s1_, i64_w, i32_w]
    rfl
   refine done_ (done_of HT_.out (by kernel_rfl)) ?_
   try go_wp2
   go_ret
   exact ⟨rq_, bg_⟩
  ·rw [if_neg c5] at H
   have c5b0 := decide_eq_false c5
   clear c5
   by_cases c10 : zh > t102
   ·rw [if_pos c10] at H
    have c10b0 := decide_eq_true c10
    clear c10
    obtain rfl := Option.some.inj H
    go_enter Tryz.func6, Tryz.ntmps6
    try go_wp2_with (first | ((with_reducible refine gate_dst (N := 1) rfl ?_); refine bx_ 1 (nr_ z0 z1 z2 z3 z4 z5 z6 z7 z8 z9 za zb zc zd ze zf zg zh) 26 ?_; intro gb101 hg w11 hbox hb; have BK101 := Aside0.mk (hbox); have GW101 := Aside0.mk (ge_ (w := w) hg); have GE101 := Aside0.mk (ge_ (w := w) hg); replace HB := Aside0.mk (below_step bq_ hb); clear hb hbox hg) | ((with_reducible refine gate_dst (N := 7) rfl ?_); (try (refine gate_guard (by rfl) ?_; dsimp only)); refine load_box ?hg 24 (.tmp 6) rfl BK101.out [] (al_ z0 z1 z2 z3 z4 z5 z6 z7 z8 z9 za zb zc zd ze zf zg) [.int .i64 zh] rfl 0 rfl rfl Tryz.underlying24 rfl (by kernel_rfl) ?_; (case hg => rfl)) | ((with_reducible refine gate_callee (f := 15) rfl ?_); refine goesL_ (some 8) rfl rfl Tryz.func15 (by kernel_rfl) rfl #[.agg (ag_ z0 z1 z2 z3 z4 z5 z6 z7 z8 z9 za zb zc zd ze zf zg)] rfl lq_ ?_; (with_reducible refine (cidr_size.calls z0 z1 z2 z3 z4 z5 z6 z7 z8 z9 za zb zc zd ze zf zg t102 t103 _ ?side1 A2.out).mono ?_); (case side1 => exact lg_); rintro e w12 ⟨rfl, hb⟩; refine ⟨_, rfl, ?_⟩; replace BK101 := Aside0.mk (bb_ BK101 hb); replace HB := Aside0.mk (below_step bg_ hb); (try clear hb); (try clear hb2); (try clear hk); (try clear hi)))
    replace BK101 := Aside0.mk (blk_drew BK101.out)
    replace HB := Aside0.mk (below_drew1 HB.out)
    refine start_ (n := 25) (S := fun w' => w'.cell? ⟨gb101, 0, none⟩ = some (.bool z0) ∧ w'.cell? ⟨gb101, 17, none⟩ = some (.int .i64 zh) ∧ (Instr.loadAt 24 (.pointer (some ⟨gb101, 0, none⟩))).run Tryz.prog w' = .ok (.agg (ag_ z0 z1 z2 z3 z4 z5 z6 z7 z8 z9 za zb zc zd ze zf zg)) w') (ds := []) (bv_ 0 25) (by kernel_rfl) rfl rfl ⟨(blk_cell BK101.out 0).trans rfl, (blk_cell BK101.out 17).trans rfl, (run_load_box BK101.out 24 [] (al_ z0 z1 z2 z3 z4 z5 z6 z7 z8 z9 za zb zc zd ze zf zg) [.int .i64 zh] rfl 0 rfl Tryz.underlying24 rfl (by kernel_rfl))⟩ (fun hHeld => ?_); refine with_tabW cidr_Check.tab2 cidr_Check.bits2 (fun HT_ HW_ => ?_)
    generalize w12.drew = w13 at BK101 HB hHeld ⊢
    refine pl_ 0 11 ?_ 1 24 HT_ ?_ ?_ ?_ ?_
    rotate_left
    ·intro w'
     go_simp
     with_reducible rfl
    rotate_left
    ·simp only [Act.put, sa_, s0_, s1_, i64_w, i32_w]
     rfl
    refine tl_ 1 12 ?_ 2 23 HT_ HW_ ?_ hHeld ?_ ?_ ?_
    rotate_left
    ·rintro w' ⟨s0, s17, s18⟩
     refine (load_exec rfl rfl s18).trans ?_; with_reducible rfl
    rotate_left
    ·simp only [Act.put, sa_, s0_, s1_, i64_w, i32_w]
     rfl
    refine one_ (i := 2) (N := some 13) (bv_ 3 22) rfl rfl (one_of HT_.out (by kernel_rfl)) (by decide) (fun K hK => ?_)
    refine goes_ Tryz.func16 (by kernel_rfl) rfl #[.agg (ag_ z0 z1 z2 z3 z4 z5 z6 z7 z8 z9 za zb zc zd ze zf zg)] (by rfl) rfl rfl lq_ ?_
    with_reducible refine (ip_Check.calls z0 z1 z2 z3 z4 z5 z6 z7 z8 z9 za zb zc zd ze zf zg t104 _ ?side1 A3.out).mono ?_
    (case side1 => exact lg_)
    rintro e w14 ⟨rfl, hb⟩
    refine ⟨_, rfl, ?_⟩
    replace BK101 := Aside0.mk (bb_ BK101 hb)
    replace HB := Aside0.mk (below_step bg_ hb)
    (try clear hb)
    (try clear hb2)
    (try clear hk)
    (try clear hi)
    refine hK.out _ _ ⟨(blk_cell BK101.out 0).trans rfl, (blk_cell BK101.out 17).trans rfl, (run_load_box BK101.out 24 [] (al_ z0 z1 z2 z3 z4 z5 z6 z7 z8 z9 za zb zc zd ze zf zg) [.int .i64 zh] rfl 0 rfl Tryz.underlying24 rfl (by kernel_rfl))⟩ (fun hHeld => ?_)
    clear hK K
    refine norm_ (a' := ?_) ?_ ?_
    rotate_left
    ·show Act.put _ (some 13) _ = _
     simp only [Act.put, sa_, s0_, s1_, i64_w, i32_w]
     rfl
    refine pl_ 3 14 ?_ 4 21 HT_ ?_ ?_ ?_ ?_
    rotate_left
    ·intro w'
     go_simp
     with_reducible rfl
    rotate_left
    ·simp only [Act.put, sa_, s0_, s1_, i64_w, i32_w]
     rfl
    refine pl_ 4 15 ?_ 5 20 HT_ ?_ ?_ ?_ ?_
    rotate_left
    ·intro w'
     go_simp
     with_reducible rfl
    rotate_left
    ·simp only [Act.put, sa_, s0_, s1_, i64_w, i32_w]
     rfl
    refine pl_ 5 16 ?_ 6 19 HT_ ?_ ?_ ?_ ?_
    rotate_left
    ·intro w'
     go_simp
     with_reducible rfl
    rotate_left
    ·simp only [Act.put, sa_, s0_, s1_, i64_w, i32_w]
     rfl
    refine tl_ 6 17 ?_ 7 18 HT_ HW_ ?_ hHeld ?_ ?_ ?_
    rotate_left
    ·rintro w' ⟨s0, s17, s18⟩
     go_simp; with_reducible rfl
    rotate_left
    ·simp only [Act.put, sa_, s0_, s1_, i64_w, i32_w]
     rfl
    refine pl_ 7 18 ?_ 8 17 HT_ ?_ ?_ ?_ ?_
    rotate_left
    ·intro w'
     go_simp
     with_reducible rfl
    rotate_left
    ·simp only [Act.put, sa_, s0_, s1_, i64_w, i32_w]
     rfl
    refine pl_ 8 19 ?_ 9 16 HT_ ?_ ?_ ?_ ?_
    rotate_left
    ·intro w'
     go_simp
     with_reducible rfl
    rotate_left
    ·simp only [Act.put, sa_, s0_, s1_, i64_w, i32_w]
     rfl
    refine pl_ 9 20 ?_ 10 15 HT_ ?_ ?_ ?_ ?_
    rotate_left
    ·intro w'
     go_simp
     with_reducible rfl
    rotate_left
    ·simp only [Act.put, sa_, s0_, s1_, i64_w, i32_w]
     rfl
    refine pl_ 10 21 ?_ 11 14 HT_ ?_ ?_ ?_ ?_
    rotate_left
    ·intro w'
     go_simp
     with_reducible rfl
    rotate_left
    ·simp only [Act.put, sa_, s0_, s1_, i64_w, i32_w]
     rfl
    refine pure_ (i := 12) (N := some 23) (v := ?_) (a' := ?_) #[true, true, true, true, true, true, true, true, true, true, true, false, true, false, false, false, false, false, false, false, false, false, false, false, false] rfl rfl (any_of HT_.out (by kernel_rfl)) (fun _ _ _ h => h) (Or.inl ⟨by rfl, ?_⟩) ?_ ?_
    rotate_left
    ·intro w'
     go_simp
     with_reducible rfl
    rotate_left
    ·simp only [Act.put, sa_, s0_, s1_, i64_w, i32_w]
     rfl
    refine tl_ 11 22 ?_ 13 12 HT_ HW_ ?_ hHeld ?_ ?_ ?_
    rotate_left
    ·rintro w' ⟨s0, s17, s18⟩
     go_simp; with_reducible rfl
    rotate_left
    ·simp only [Act.put, sa_, s0_, s1_, i64_w, i32_w]
     rfl
    refine pl_ 13 24 ?_ 14 11 HT_ ?_ ?_ ?_ ?_
    rotate_left
    ·intro w'
     go_simp
     with_reducible rfl
    rotate_left
    ·simp only [Act.put, sa_, s0_, s1_, i64_w, i32_w]
     rfl
    refine pl_ 14 25 ?_ 15 10 HT_ ?_ ?_ ?_ ?_
    rotate_left
    ·intro w'
     go_simp
     with_reducible rfl
    rotate_left
    ·simp only [Act.put, sa_, s0_, s1_, i64_w, i32_w]
     rfl
    refine pl_ 15 26 ?_ 16 9 HT_ ?_ ?_ ?_ ?_
    rotate_left
    ·intro w'
     go_simp
     with_reducible rfl
    rotate_left
    ·simp only [Act.put, sa_, s0_, s1_, i64_w, i32_w]
     rfl
    refine pr_ 16 27 17 8 HT_ ?_ ?_ ?_
    rotate_left
    ·simp only [Act.put, sa_, s0_, s1_, i64_w, i32_w]
     rfl
    refine pr_ 17 28 18 7 HT_ ?_ ?_ ?_
    rotate_left
    ·simp only [Act.put, sa_, s0_, s1_, i64_w, i32_w]
     rfl
    refine pr_ 18 29 19 6 HT_ ?_ ?_ ?_
    rotate_left
    ·simp only [Act.put, sa_, s0_, s1_, i64_w, i32_w]
     rfl
    refine pr_ 19 30 20 5 HT_ ?_ ?_ ?_
    rotate_left
    ·simp only [Act.put, sa_, s0_, s1_, i64_w, i32_w]
     rfl
    refine pr_ 20 31 21 4 HT_ ?_ ?_ ?_
    rotate_left
    ·simp only [Act.put, sa_, s0_, s1_, i64_w, i32_w]
     rfl
    refine pr_ 21 32 22 3 HT_ ?_ ?_ ?_
    rotate_left
    ·simp only [Act.put, sa_, s0_, s1_, i64_w, i32_w]
     rfl
    refine pr_ 22 33 23 2 HT_ ?_ ?_ ?_
    rotate_left
    ·simp only [Act.put, sa_, s0_, s1_, i64_w, i32_w]
     rfl
    refine pr_ 23 34 24 1 HT_ ?_ ?_ ?_
    rotate_left
    ·simp only [Act.put, sa_, s0_, s1_, i64_w, i32_w]
     rfl
    refine pl_ 24 35 ?_ 25 0 HT_ ?_ ?_ ?_ ?_
    rotate_left
    ·intro w'
     go_simp
     with_reducible rfl
    rotate_left
    ·simp only [Act.put, sa_, s0_, s1_, i64_w, i32_w]
     rfl
    refine done_ (done_of HT_.out (by kernel_rfl)) ?_
    try go_wp2
    go_ret
    exact ⟨rq_, bg_⟩
   ·rw [if_neg c10] at H
    have c10b0 := decide_eq_false c10
    clear c10
    replace H := Option.bind_eq_some_iff.mp H
    obtain ⟨⟨t105, t106, t107, t108, t109, t110, t111, t112, t113, t114, t115, t116, t117, t118, t119, t120, t121⟩, A150, H⟩ := H
    (try dsimp only at H)
    have A15 := Aside0.mk A150
    clear A150
    by_cases c16 : (!(t105 == z0) || ((!(t106 == z1) || (!(t107 == z2) || (!(t108 == z3) || (!(t109 == z4) || (!(t110 == z5) || (!(t111 == z6) || (!(t112 == z7) || (!(t113 == z8) || (!(t114 == z9) || (!(t115 == za) || (!(t116 == zb) || (!(t117 == zc) || (!(t118 == zd) || (!(t119 == ze) || (!(t120 == zf) || (!(t121 == zg))))))))))))))))))) = true
    ·rw [if_pos c16] at H
     have c16b0 : (!(t105 == z0) || ((!(t106 == z1) || (!(t107 == z2) || (!(t108 == z3) || (!(t109 == z4) || (!(t110 == z5) || (!(t111 == z6) || (!(t112 == z7) || (!(t113 == z8) || (!(t114 == z9) || (!(t115 == za) || (!(t116 == zb) || (!(t117 == zc) || (!(t118 == zd) || (!(t119 == ze) || (!(t120 == zf) || (!(t121 == zg))))))))))))))))))) = true := c16
     clear c16
     obtain rfl := Option.some.inj H
     go_enter Tryz.func6, Tryz.ntmps6
     try go_wp2_with (first | ((with_reducible refine gate_dst (N := 1) rfl ?_); refine bx_ 1 (nr_ z0 z1 z2 z3 z4 z5 z6 z7 z8 z9 za zb zc zd ze zf zg zh) 26 ?_; intro gb101 hg w17 hbox hb; have BK101 := Aside0.mk (hbox); have GW101 := Aside0.mk (ge_ (w := w) hg); have GE101 := Aside0.mk (ge_ (w := w) hg); replace HB := Aside0.mk (below_step bq_ hb); clear hb hbox hg) | ((with_reducible refine gate_dst (N := 7) rfl ?_); (try (refine gate_guard (by rfl) ?_; dsimp only)); refine load_box ?hg 24 (.tmp 6) rfl BK101.out [] (al_ z0 z1 z2 z3 z4 z5 z6 z7 z8 z9 za zb zc zd ze zf zg) [.int .i64 zh] rfl 0 rfl rfl Tryz.underlying24 rfl (by kernel_rfl) ?_; (case hg => rfl)) | ((with_reducible refine gate_callee (f := 15) rfl ?_); refine goesL_ (some 8) rfl rfl Tryz.func15 (by kernel_rfl) rfl #[.agg (ag_ z0 z1 z2 z3 z4 z5 z6 z7 z8 z9 za zb zc zd ze zf zg)] rfl lq_ ?_; (with_reducible refine (cidr_size.calls z0 z1 z2 z3 z4 z5 z6 z7 z8 z9 za zb zc zd ze zf zg t102 t103 _ ?side1 A2.out).mono ?_); (case side1 => exact lg_); rintro e w18 ⟨rfl, hb⟩; refine ⟨_, rfl, ?_⟩; replace BK101 := Aside0.mk (bb_ BK101 hb); replace HB := Aside0.mk (below_step bg_ hb); (try clear hb); (try clear hb2); (try clear hk); (try clear hi)))
     replace BK101 := Aside0.mk (blk_drew BK101.out)
     replace HB := Aside0.mk (below_drew1 HB.out)
     refine start_ (n := 25) (S := fun w' => w'.cell? ⟨gb101, 0, none⟩ = some (.bool z0) ∧ w'.cell? ⟨gb101, 17, none⟩ = some (.int .i64 zh) ∧ (Instr.loadAt 24 (.pointer (some ⟨gb101, 0, none⟩))).run Tryz.prog w' = .ok (.agg (ag_ z0 z1 z2 z3 z4 z5 z6 z7 z8 z9 za zb zc zd ze zf zg)) w' ∧ (Instr.loadAt 24 (.pointer (some ⟨gb101, 0, none⟩))).run Tryz.prog w' = .ok (.agg (ag_ z0 z1 z2 z3 z4 z5 z6 z7 z8 z9 za zb zc zd ze zf zg)) w' ∧ (Instr.loadAt 24 (.pointer (some ⟨gb101, 0, none⟩))).run Tryz.prog w' = .ok (.agg (ag_ z0 z1 z2 z3 z4 z5 z6 z7 z8 z9 za zb zc zd ze zf zg)) w') (ds := []) (bv_ 0 25) (by kernel_rfl) rfl rfl ⟨(blk_cell BK101.out 0).trans rfl, (blk_cell BK101.out 17).trans rfl, (run_load_box BK101.out 24 [] (al_ z0 z1 z2 z3 z4 z5 z6 z7 z8 z9 za zb zc zd ze zf zg) [.int .i64 zh] rfl 0 rfl Tryz.underlying24 rfl (by kernel_rfl)), (run_load_box BK101.out 24 [] (al_ z0 z1 z2 z3 z4 z5 z6 z7 z8 z9 za zb zc zd ze zf zg) [.int .i64 zh] rfl 0 rfl Tryz.underlying24 rfl (by kernel_rfl)), (run_load_box BK101.out 24 [] (al_ z0 z1 z2 z3 z4 z5 z6 z7 z8 z9 za zb zc zd ze zf zg) [.int .i64 zh] rfl 0 rfl Tryz.underlying24 rfl (by kernel_rfl))⟩ (fun hHeld => ?_); refine with_tabW cidr_Check.tab2 cidr_Check.bits2 (fun HT_ HW_ => ?_)
     generalize w18.drew = w19 at BK101 HB hHeld ⊢
     refine pl_ 0 11 ?_ 1 24 HT_ ?_ ?_ ?_ ?_
     rotate_left
     ·intro w'
      go_simp
      with_reducible rfl
     rotate_left
     ·simp only [Act.put, sa_, s0_, s1_, i64_w, i32_w]
      rfl
     refine tl_ 1 12 ?_ 2 23 HT_ HW_ ?_ hHeld ?_ ?_ ?_
     rotate_left
     ·rintro w' ⟨s0, s17, s18, s19, s20⟩
      refine (load_exec rfl rfl s18).trans ?_; with_reducible rfl
     rotate_left
     ·simp only [Act.put, sa_, s0_, s1_, i64_w, i32_w]
      rfl
     refine one_ (i := 2) (N := some 13) (bv_ 3 22) rfl rfl (one_of HT_.out (by kernel_rfl)) (by decide) (fun K hK => ?_)
     refine goes_ Tryz.func16 (by kernel_rfl) rfl #[.agg (ag_ z0 z1 z2 z3 z4 z5 z6 z7 z8 z9 za zb zc zd ze zf zg)] (by rfl) rfl rfl lq_ ?_
     with_reducible refine (ip_Check.calls z0 z1 z2 z3 z4 z5 z6 z7 z8 z9 za zb zc zd ze zf zg t104 _ ?side1 A3.out).mono ?_
     (case side1 => exact lg_)
     rintro e w20 ⟨rfl, hb⟩
     refine ⟨_, rfl, ?_⟩
     replace BK101 := Aside0.mk (bb_ BK101 hb)
     replace HB := Aside0.mk (below_step bg_ hb)
     (try clear hb)
     (try clear hb2)
     (try clear hk)
     (try clear hi)
     refine hK.out _ _ ⟨(blk_cell BK101.out 0).trans rfl, (blk_cell BK101.out 17).trans rfl, (run_load_box BK101.out 24 [] (al_ z0 z1 z2 z3 z4 z5 z6 z7 z8 z9 za zb zc zd ze zf zg) [.int .i64 zh] rfl 0 rfl Tryz.underlying24 rfl (by kernel_rfl)), (run_load_box BK101.out 24 [] (al_ z0 z1 z2 z3 z4 z5 z6 z7 z8 z9 za zb zc zd ze zf zg) [.int .i64 zh] rfl 0 rfl Tryz.underlying24 rfl (by kernel_rfl)), (run_load_box BK101.out 24 [] (al_ z0 z1 z2 z3 z4 z5 z6 z7 z8 z9 za zb zc zd ze zf zg) [.int .i64 zh] rfl 0 rfl Tryz.underlying24 rfl (by kernel_rfl))⟩ (fun hHeld => ?_)
     clear hK K
     refine norm_ (a' := ?_) ?_ ?_
     rotate_left
     ·show Act.put _ (some 13) _ = _
      simp only [Act.put, sa_, s0_, s1_, i64_w, i32_w]
      rfl
     refine pl_ 3 14 ?_ 4 21 HT_ ?_ ?_ ?_ ?_
     rotate_left
     ·intro w'
      go_simp
      with_reducible rfl
     rotate_left
     ·simp only [Act.put, sa_, s0_, s1_, i64_w, i32_w]
      rfl
     refine pl_ 4 15 ?_ 5 20 HT_ ?_ ?_ ?_ ?_
     rotate_left
     ·intro w'
      go_simp
      with_reducible rfl
     rotate_left
     ·simp only [Act.put, sa_, s0_, s1_, i64_w, i32_w]
      rfl
     refine pl_ 5 16 ?_ 6 19 HT_ ?_ ?_ ?_ ?_
     rotate_left
     ·intro w'
      go_simp
      with_reducible rfl
     rotate_left
     ·simp only [Act.put, sa_, s0_, s1_, i64_w, i32_w]
      rfl
     refine tl_ 6 17 ?_ 7 18 HT_ HW_ ?_ hHeld ?_ ?_ ?_
     rotate_left
     ·rintro w' ⟨s0, s17, s18, s19, s20⟩
      go_simp; with_reducible rfl
     rotate_left
     ·simp only [Act.put, sa_, s0_, s1_, i64_w, i32_w]
      rfl
     refine pl_ 7 18 ?_ 8 17 HT_ ?_ ?_ ?_ ?_
     rotate_left
     ·intro w'
      go_simp
      with_reducible rfl
     rotate_left
     ·simp only [Act.put, sa_, s0_, s1_, i64_w, i32_w]
      rfl
     refine pl_ 8 19 ?_ 9 16 HT_ ?_ ?_ ?_ ?_
     rotate_left
     ·intro w'
      go_simp
      with_reducible rfl
     rotate_left
     ·simp only [Act.put, sa_, s0_, s1_, i64_w, i32_w]
      rfl
     refine pl_ 9 20 ?_ 10 15 HT_ ?_ ?_ ?_ ?_
     rotate_left
     ·intro w'
      go_simp
      with_reducible rfl
     rotate_left
     ·simp only [Act.put, sa_, s0_, s1_, i64_w, i32_w]
      rfl
     refine pl_ 10 21 ?_ 11 14 HT_ ?_ ?_ ?_ ?_
     rotate_left
     ·intro w'
      go_simp
      with_reducible rfl
     rotate_left
     ·simp only [Act.put, sa_, s0_, s1_, i64_w, i32_w]
      rfl
     refine pure_ (i := 12) (N := some 23) (v := ?_) (a' := ?_) #[true, true, true, true, true, true, true, true, true, true, true, false, true, false, false, false, false, false, false, false, false, false, false, false, false] rfl rfl (any_of HT_.out (by kernel_rfl)) (fun _ _ _ h => h) (Or.inl ⟨by rfl, ?_⟩) ?_ ?_
     rotate_left
     ·intro w'
      go_simp
      with_reducible rfl
     rotate_left
     ·simp only [Act.put, sa_, s0_, s1_, i64_w, i32_w]
      rfl
     refine tl_ 11 22 ?_ 13 12 HT_ HW_ ?_ hHeld ?_ ?_ ?_
     rotate_left
     ·rintro w' ⟨s0, s17, s18, s19, s20⟩
      go_simp; with_reducible rfl
     rotate_left
     ·simp only [Act.put, sa_, s0_, s1_, i64_w, i32_w]
      rfl
     refine pl_ 13 24 ?_ 14 11 HT_ ?_ ?_ ?_ ?_
     rotate_left
     ·intro w'
      go_simp
      with_reducible rfl
     rotate_left
     ·simp only [Act.put, sa_, s0_, s1_, i64_w, i32_w]
      rfl
     refine pl_ 14 25 ?_ 15 10 HT_ ?_ ?_ ?_ ?_
     rotate_left
     ·intro w'
      go_simp
      with_reducible rfl
     rotate_left
     ·simp only [Act.put, sa_, s0_, s1_, i64_w, i32_w]
      rfl
     refine pl_ 15 26 ?_ 16 9 HT_ ?_ ?_ ?_ ?_
     rotate_left
     ·intro w'
      go_simp
      with_reducible rfl
     rotate_left
     ·simp only [Act.put, sa_, s0_, s1_, i64_w, i32_w]
      rfl
     refine pl_ 16 27 ?_ 17 8 HT_ ?_ ?_ ?_ ?_
     rotate_left
     ·intro w'
      go_simp
      with_reducible rfl
     rotate_left
     ·simp only [Act.put, sa_, s0_, s1_, i64_w, i32_w]
      rfl
     refine pure_ (i := 18) (N := some 29) (v := ?_) (a' := ?_) #[true, true, true, true, true, true, true, true, true, true, true, true, true, true, true, true, true, false, true, false, false, false, false, false, false] rfl rfl (any_of HT_.out (by kernel_rfl)) (fun _ _ _ h => h) (Or.inl ⟨by rfl, ?_⟩) ?_ ?_
     rotate_left
     ·intro w'
      go_simp
      with_reducible rfl
     rotate_left
     ·simp only [Act.put, sa_, s0_, s1_, i64_w, i32_w]
      rfl
     refine pure_ (i := 21) (N := some 32) (v := ?_) (a' := ?_) #[true, true, true, true, true, true, true, true, true, true, true, true, true, true, true, true, true, false, true, false, false, true, false, false, false] rfl rfl (any_of HT_.out (by kernel_rfl)) (fun _ _ _ h => h) (Or.inl ⟨by rfl, ?_⟩) ?_ ?_
     rotate_left
     ·intro w'
      go_simp
      with_reducible rfl
     rotate_left
     ·simp only [Act.put, sa_, s0_, s1_, i64_w, i32_w]
      rfl
     refine take_ (i := 17) (N := some 28) (v := ?_) (a' := ?_) #[true, true, true, true, true, true, true, true, true, true, true, true, true, true, true, true, true, true, true, false, false, true, false, false, false] rfl rfl (take_ofW HT_.out HW_.out (by kernel_rfl)) (fun _ _ _ h => h) (Or.inl ⟨by rfl, ?_⟩) hHeld ?_ ?_
     rotate_left
     ·rintro w' ⟨s0, s17, s18, s19, s20⟩
      refine (load_exec rfl rfl s19).trans ?_; with_reducible rfl
     rotate_left
     ·simp only [Act.put, sa_, s0_, s1_, i64_w, i32_w]
      rfl
     refine take_ (i := 19) (N := some 30) (v := ?_) (a' := ?_) #[true, true, true, true, true, true, true, true, true, true, true, true, true, true, true, true, true, true, true, true, false, true, false, false, false] rfl rfl (take_ofW HT_.out HW_.out (by kernel_rfl)) (fun _ _ _ h => h) (Or.inl ⟨by rfl, ?_⟩) hHeld ?_ ?_
     rotate_left
     ·rintro w' ⟨s0, s17, s18, s19, s20⟩
      go_simp; with_reducible rfl
     rotate_left
     ·simp only [Act.put, sa_, s0_, s1_, i64_w, i32_w]
      rfl
     refine take_ (i := 22) (N := some 33) (v := ?_) (a' := ?_) #[true, true, true, true, true, true, true, true, true, true, true, true, true, true, true, true, true, true, true, true, false, true, true, false, false] rfl rfl (take_ofW HT_.out HW_.out (by kernel_rfl)) (fun _ _ _ h => h) (Or.inl ⟨by rfl, ?_⟩) hHeld ?_ ?_
     rotate_left
     ·rintro w' ⟨s0, s17, s18, s19, s20⟩
      refine (load_exec rfl rfl s20).trans ?_; with_reducible rfl
     rotate_left
     ·simp only [Act.put, sa_, s0_, s1_, i64_w, i32_w]
      rfl
     refine one_ (i := 20) (N := some 31) (bv_ 23 2) rfl rfl (one_of HT_.out (by kernel_rfl)) (by decide) (fun K hK => ?_)
     refine goes_ Tryz.func17 (by kernel_rfl) rfl #[.agg (ag_ z0 z1 z2 z3 z4 z5 z6 z7 z8 z9 za zb zc zd ze zf zg), .int .i64 zh] (by rfl) rfl rfl lq_ ?_
     with_reducible refine (cidr_first.calls z0 z1 z2 z3 z4 z5 z6 z7 z8 z9 za zb zc zd ze zf zg zh t105 t106 t107 t108 t109 t110 t111 t112 t113 t114 t115 t116 t117 t118 t119 t120 t121 _ ?side1 A15.out).mono ?_
     (case side1 => exact lg_)
     rintro e w21 ⟨rfl, hb⟩
     refine ⟨_, rfl, ?_⟩
     replace BK101 := Aside0.mk (bb_ BK101 hb)
     replace HB := Aside0.mk (below_step bg_ hb)
     (try clear hb)
     (try clear hb2)
     (try clear hk)
     (try clear hi)
     refine hK.out _ _ ⟨(blk_cell BK101.out 0).trans rfl, (blk_cell BK101.out 17).trans rfl, (run_load_box BK101.out 24 [] (al_ z0 z1 z2 z3 z4 z5 z6 z7 z8 z9 za zb zc zd ze zf zg) [.int .i64 zh] rfl 0 rfl Tryz.underlying24 rfl (by kernel_rfl)), (run_load_box BK101.out 24 [] (al_ z0 z1 z2 z3 z4 z5 z6 z7 z8 z9 za zb zc zd ze zf zg) [.int .i64 zh] rfl 0 rfl Tryz.underlying24 rfl (by kernel_rfl)), (run_load_box BK101.out 24 [] (al_ z0 z1 z2 z3 z4 z5 z6 z7 z8 z9 za zb zc zd ze zf zg) [.int .i64 zh] rfl 0 rfl Tryz.underlying24 rfl (by kernel_rfl))⟩ (fun hHeld => ?_)
     clear hK K
     refine norm_ (a' := ?_) ?_ ?_
     rotate_left
     ·show Act.put _ (some 31) _ = _
      simp only [Act.put, sa_, s0_, s1_, i64_w, i32_w]
      rfl
     refine pl_ 23 34 ?_ 24 1 HT_ ?_ ?_ ?_ ?_
     rotate_left
     ·intro w'
      go_simp
      with_reducible rfl
     rotate_left
     ·simp only [Act.put, sa_, s0_, s1_, i64_w, i32_w]
      rfl
     refine pl_ 24 35 ?_ 25 0 HT_ ?_ ?_ ?_ ?_
     rotate_left
     ·intro w'
      go_simp
      with_reducible rfl
     rotate_left
     ·simp only [Act.put, sa_, s0_, s1_, i64_w, i32_w]
      rfl
     refine done_ (done_of HT_.out (by kernel_rfl)) ?_
     try go_wp2
     go_ret
     exact ⟨rq_, bg_⟩
    ·rw [if_neg c16] at H
     have c16b0 : (!(t105 == z0) || ((!(t106 == z1) || (!(t107 == z2) || (!(t108 == z3) || (!(t109 == z4) || (!(t110 == z5) || (!(t111 == z6) || (!(t112 == z7) || (!(t113 == z8) || (!(t114 == z9) || (!(t115 == za) || (!(t116 == zb) || (!(t117 == zc) || (!(t118 == zd) || (!(t119 == ze) || (!(t120 == zf) || (!(t121 == zg))))))))))))))))))) = false := by simpa using c16
     clear c16
     obtain rfl := Option.some.inj H
     go_enter Tryz.func6, Tryz.ntmps6
     try go_wp2_with (first | ((with_reducible refine gate_dst (N := 1) rfl ?_); refine bx_ 1 (nr_ z0 z1 z2 z3 z4 z5 z6 z7 z8 z9 za zb zc zd ze zf zg zh) 26 ?_; intro gb101 hg w22 hbox hb; have BK101 := Aside0.mk (hbox); have GW101 := Aside0.mk (ge_ (w := w) hg); have GE101 := Aside0.mk (ge_ (w := w) hg); replace HB := Aside0.mk (below_step bq_ hb); clear hb hbox hg) | ((with_reducible refine gate_dst (N := 7) rfl ?_); (try (refine gate_guard (by rfl) ?_; dsimp only)); refine load_box ?hg 24 (.tmp 6) rfl BK101.out [] (al_ z0 z1 z2 z3 z4 z5 z6 z7 z8 z9 za zb zc zd ze zf zg) [.int .i64 zh] rfl 0 rfl rfl Tryz.underlying24 rfl (by kernel_rfl) ?_; (case hg => rfl)) | ((with_reducible refine gate_callee (f := 15) rfl ?_); refine goesL_ (some 8) rfl rfl Tryz.func15 (by kernel_rfl) rfl #[.agg (ag_ z0 z1 z2 z3 z4 z5 z6 z7 z8 z9 za zb zc zd ze zf zg)] rfl lq_ ?_; (with_reducible refine (cidr_size.calls z0 z1 z2 z3 z4 z5 z6 z7 z8 z9 za zb zc zd ze zf zg t102 t103 _ ?side1 A2.out).mono ?_); (case side1 => exact lg_); rintro e w23 ⟨rfl, hb⟩; refine ⟨_, rfl, ?_⟩; replace BK101 := Aside0.mk (bb_ BK101 hb); replace HB := Aside0.mk (below_step bg_ hb); (try clear hb); (try clear hb2); (try clear hk); (try clear hi)))
     replace BK101 := Aside0.mk (blk_drew BK101.out)
     replace HB := Aside0.mk (below_drew1 HB.out)
     refine start_ (n := 25) (S := fun w' => w'.cell? ⟨gb101, 0, none⟩ = some (.bool z0) ∧ w'.cell? ⟨gb101, 17, none⟩ = some (.int .i64 zh) ∧ (Instr.loadAt 24 (.pointer (some ⟨gb101, 0, none⟩))).run Tryz.prog w' = .ok (.agg (ag_ z0 z1 z2 z3 z4 z5 z6 z7 z8 z9 za zb zc zd ze zf zg)) w' ∧ (Instr.loadAt 24 (.pointer (some ⟨gb101, 0, none⟩))).run Tryz.prog w' = .ok (.agg (ag_ z0 z1 z2 z3 z4 z5 z6 z7 z8 z9 za zb zc zd ze zf zg)) w' ∧ (Instr.loadAt 24 (.pointer (some ⟨gb101, 0, none⟩))).run Tryz.prog w' = .ok (.agg (ag_ z0 z1 z2 z3 z4 z5 z6 z7 z8 z9 za zb zc zd ze zf zg)) w') (ds := []) (bv_ 0 25) (by kernel_rfl) rfl rfl ⟨(blk_cell BK101.out 0).trans rfl, (blk_cell BK101.out 17).trans rfl, (run_load_box BK101.out 24 [] (al_ z0 z1 z2 z3 z4 z5 z6 z7 z8 z9 za zb zc zd ze zf zg) [.int .i64 zh] rfl 0 rfl Tryz.underlying24 rfl (by kernel_rfl)), (run_load_box BK101.out 24 [] (al_ z0 z1 z2 z3 z4 z5 z6 z7 z8 z9 za zb zc zd ze zf zg) [.int .i64 zh] rfl 0 rfl Tryz.underlying24 rfl (by kernel_rfl)), (run_load_box BK101.out 24 [] (al_ z0 z1 z2 z3 z4 z5 z6 z7 z8 z9 za zb zc zd ze zf zg) [.int .i64 zh] rfl 0 rfl Tryz.underlying24 rfl (by kernel_rfl))⟩ (fun hHeld => ?_); refine with_tabW cidr_Check.tab2 cidr_Check.bits2 (fun HT_ HW_ => ?_)
     generalize w23.drew = w24 at BK101 HB hHeld ⊢
     refine pl_ 0 11 ?_ 1 24 HT_ ?_ ?_ ?_ ?_
     rotate_left
     ·intro w'
      go_simp
      with_reducible rfl
     rotate_left
     ·simp only [Act.put, sa_, s0_, s1_, i64_w, i32_w]
      rfl
     refine tl_ 1 12 ?_ 2 23 HT_ HW_ ?_ hHeld ?_ ?_ ?_
     rotate_left
     ·rintro w' ⟨s0, s17, s18, s19, s20⟩
      refine (load_exec rfl rfl s18).trans ?_; with_reducible rfl
     rotate_left
     ·simp only [Act.put, sa_, s0_, s1_, i64_w, i32_w]
      rfl
     refine one_ (i := 2) (N := some 13) (bv_ 3 22) rfl rfl (one_of HT_.out (by kernel_rfl)) (by decide) (fun K hK => ?_)
     refine goes_ Tryz.func16 (by kernel_rfl) rfl #[.agg (ag_ z0 z1 z2 z3 z4 z5 z6 z7 z8 z9 za zb zc zd ze zf zg)] (by rfl) rfl rfl lq_ ?_
     with_reducible refine (ip_Check.calls z0 z1 z2 z3 z4 z5 z6 z7 z8 z9 za zb zc zd ze zf zg t104 _ ?side1 A3.out).mono ?_
     (case side1 => exact lg_)
     rintro e w25 ⟨rfl, hb⟩
     refine ⟨_, rfl, ?_⟩
     replace BK101 := Aside0.mk (bb_ BK101 hb)
     replace HB := Aside0.mk (below_step bg_ hb)
     (try clear hb)
     (try clear hb2)
     (try clear hk)
     (try clear hi)
     refine hK.out _ _ ⟨(blk_cell BK101.out 0).trans rfl, (blk_cell BK101.out 17).trans rfl, (run_load_box BK101.out 24 [] (al_ z0 z1 z2 z3 z4 z5 z6 z7 z8 z9 za zb zc zd ze zf zg) [.int .i64 zh] rfl 0 rfl Tryz.underlying24 rfl (by kernel_rfl)), (run_load_box BK101.out 24 [] (al_ z0 z1 z2 z3 z4 z5 z6 z7 z8 z9 za zb zc zd ze zf zg) [.int .i64 zh] rfl 0 rfl Tryz.underlying24 rfl (by kernel_rfl)), (run_load_box BK101.out 24 [] (al_ z0 z1 z2 z3 z4 z5 z6 z7 z8 z9 za zb zc zd ze zf zg) [.int .i64 zh] rfl 0 rfl Tryz.underlying24 rfl (by kernel_rfl))⟩ (fun hHeld => ?_)
     clear hK K
     refine norm_ (a' := ?_) ?_ ?_
     rotate_left
     ·show Act.put _ (some 13) _ = _
      simp only [Act.put, sa_, s0_, s1_, i64_w, i32_w]
      rfl
     refine pl_ 3 14 ?_ 4 21 HT_ ?_ ?_ ?_ ?_
     rotate_left
     ·intro w'
      go_simp
      with_reducible rfl
     rotate_left
     ·simp only [Act.put, sa_, s0_, s1_, i64_w, i32_w]
      rfl
     refine pl_ 4 15 ?_ 5 20 HT_ ?_ ?_ ?_ ?_
     rotate_left
     ·intro w'
      go_simp
      with_reducible rfl
     rotate_left
     ·simp only [Act.put, sa_, s0_, s1_, i64_w, i32_w]
      rfl
     refine pl_ 5 16 ?_ 6 19 HT_ ?_ ?_ ?_ ?_
     rotate_left
     ·intro w'
      go_simp
      with_reducible rfl
     rotate_left
     ·simp only [Act.put, sa_, s0_, s1_, i64_w, i32_w]
      rfl
     refine tl_ 6 17 ?_ 7 18 HT_ HW_ ?_ hHeld ?_ ?_ ?_
     rotate_left
     ·rintro w' ⟨s0, s17, s18, s19, s20⟩
      go_simp; with_reducible rfl
     rotate_left
     ·simp only [Act.put, sa_, s0_, s1_, i64_w, i32_w]
      rfl
     refine pl_ 7 18 ?_ 8 17 HT_ ?_ ?_ ?_ ?_
     rotate_left
     ·intro w'
      go_simp
      with_reducible rfl
     rotate_left
     ·simp only [Act.put, sa_, s0_, s1_, i64_w, i32_w]
      rfl
     refine pl_ 8 19 ?_ 9 16 HT_ ?_ ?_ ?_ ?_
     rotate_left
     ·intro w'
      go_simp
      with_reducible rfl
     rotate_left
     ·simp only [Act.put, sa_, s0_, s1_, i64_w, i32_w]
      rfl
     refine pl_ 9 20 ?_ 10 15 HT_ ?_ ?_ ?_ ?_
     rotate_left
     ·intro w'
      go_simp
      with_reducible rfl
     rotate_left
     ·simp only [Act.put, sa_, s0_, s1_, i64_w, i32_w]
      rfl
     refine pl_ 10 21 ?_ 11 14 HT_ ?_ ?_ ?_ ?_
     rotate_left
     ·intro w'
      go_simp
      with_reducible rfl
     rotate_left
     ·simp only [Act.put, sa_, s0_, s1_, i64_w, i32_w]
      rfl
     refine pure_ (i := 12) (N := some 23) (v := ?_) (a' := ?_) #[true, true, true, true, true, true, true, true, true, true, true, false, true, false, false, false, false, false, false, false, false, false, false, false, false] rfl rfl (any_of HT_.out (by kernel_rfl)) (fun _ _ _ h => h) (Or.inl ⟨by rfl, ?_⟩) ?_ ?_
     rotate_left
     ·intro w'
      go_simp
      with_reducible rfl
     rotate_left
     ·simp only [Act.put, sa_, s0_, s1_, i64_w, i32_w]
      rfl
     refine tl_ 11 22 ?_ 13 12 HT_ HW_ ?_ hHeld ?_ ?_ ?_
     rotate_left
     ·rintro w' ⟨s0, s17, s18, s19, s20⟩
      go_simp; with_reducible rfl
     rotate_left
     ·simp only [Act.put, sa_, s0_, s1_, i64_w, i32_w]
      rfl
     refine pl_ 13 24 ?_ 14 11 HT_ ?_ ?_ ?_ ?_
     rotate_left
     ·intro w'
      go_simp
      with_reducible rfl
     rotate_left
     ·simp only [Act.put, sa_, s0_, s1_, i64_w, i32_w]
      rfl
     refine pl_ 14 25 ?_ 15 10 HT_ ?_ ?_ ?_ ?_
     rotate_left
     ·intro w'
      go_simp
      with_reducible rfl
     rotate_left
     ·simp only [Act.put, sa_, s0_, s1_, i64_w, i32_w]
      rfl
     refine pl_ 15 26 ?_ 16 9 HT_ ?_ ?_ ?_ ?_
     rotate_left
     ·intro w'
      go_simp
      with_reducible rfl
     rotate_left
     ·simp only [Act.put, sa_, s0_, s1_, i64_w, i32_w]
      rfl
     refine pl_ 16 27 ?_ 17 8 HT_ ?_ ?_ ?_ ?_
     rotate_left
     ·intro w'
      go_simp
      with_reducible rfl
     rotate_left
     ·simp only [Act.put, sa_, s0_, s1_, i64_w, i32_w]
      rfl
     refine pure_ (i := 18) (N := some 29) (v := ?_) (a' := ?_) #[true, true, true, true, true, true, true, true, true, true, true, true, true, true, true, true, true, false, true, false, false, false, false, false, false] rfl rfl (any_of HT_.out (by kernel_rfl)) (fun _ _ _ h => h) (Or.inl ⟨by rfl, ?_⟩) ?_ ?_
     rotate_left
     ·intro w'
      go_simp
      with_reducible rfl
     rotate_left
     ·simp only [Act.put, sa_, s0_, s1_, i64_w, i32_w]
      rfl
     refine pure_ (i := 21) (N := some 32) (v := ?_) (a' := ?_) #[true, true, true, true, true, true, true, true, true, true, true, true, true, true, true, true, true, false, true, false, false, true, false, false, false] rfl rfl (any_of HT_.out (by kernel_rfl)) (fun _ _ _ h => h) (Or.inl ⟨by rfl, ?_⟩) ?_ ?_
     rotate_left
     ·intro w'
      go_simp
      with_reducible rfl
     rotate_left
     ·simp only [Act.put, sa_, s0_, s1_, i64_w, i32_w]
      rfl
     refine take_ (i := 17) (N := some 28) (v := ?_) (a' := ?_) #[true, true, true, true, true, true, true, true, true, true, true, true, true, true, true, true, true, true, true, false, false, true, false, false, false] rfl rfl (take_ofW HT_.out HW_.out (by kernel_rfl)) (fun _ _ _ h => h) (Or.inl ⟨by rfl, ?_⟩) hHeld ?_ ?_
     rotate_left
     ·rintro w' ⟨s0, s17, s18, s19, s20⟩
      refine (load_exec rfl rfl s19).trans ?_; with_reducible rfl
     rotate_left
     ·simp only [Act.put, sa_, s0_, s1_, i64_w, i32_w]
      rfl
     refine take_ (i := 19) (N := some 30) (v := ?_) (a' := ?_) #[true, true, true, true, true, true, true, true, true, true, true, true, true, true, true, true, true, true, true, true, false, true, false, false, false] rfl rfl (take_ofW HT_.out HW_.out (by kernel_rfl)) (fun _ _ _ h => h) (Or.inl ⟨by rfl, ?_⟩) hHeld ?_ ?_
     rotate_left
     ·rintro w' ⟨s0, s17, s18, s19, s20⟩
      go_simp; with_reducible rfl
     rotate_left
     ·simp only [Act.put, sa_, s0_, s1_, i64_w, i32_w]
      rfl
     refine take_ (i := 22) (N := some 33) (v := ?_) (a' := ?_) #[true, true, true, true, true, true, true, true, true, true, true, true, true, true, true, true, true, true, true, true, false, true, true, false, false] rfl rfl (take_ofW HT_.out HW_.out (by kernel_rfl)) (fun _ _ _ h => h) (Or.inl ⟨by rfl, ?_⟩) hHeld ?_ ?_
     rotate_left
     ·rintro w' ⟨s0, s17, s18, s19, s20⟩
      refine (load_exec rfl rfl s20).trans ?_; with_reducible rfl
     rotate_left
     ·simp only [Act.put, sa_, s0_, s1_, i64_w, i32_w]
      rfl
     refine one_ (i := 20) (N := some 31) (bv_ 23 2) rfl rfl (one_of HT_.out (by kernel_rfl)) (by decide) (fun K hK => ?_)
     refine goes_ Tryz.func17 (by kernel_rfl) rfl #[.agg (ag_ z0 z1 z2 z3 z4 z5 z6 z7 z8 z9 za zb zc zd ze zf zg), .int .i64 zh] (by rfl) rfl rfl lq_ ?_
     with_reducible refine (cidr_first.calls z0 z1 z2 z3 z4 z5 z6 z7 z8 z9 za zb zc zd ze zf zg zh t105 t106 t107 t108 t109 t110 t111 t112 t113 t114 t115 t116 t117 t118 t119 t120 t121 _ ?side1 A15.out).mono ?_
     (case side1 => exact lg_)
     rintro e w26 ⟨rfl, hb⟩
     refine ⟨_, rfl, ?_⟩
     replace BK101 := Aside0.mk (bb_ BK101 hb)
     replace HB := Aside0.mk (below_step bg_ hb)
     (try clear hb)
     (try clear hb2)
     (try clear hk)
     (try clear hi)
     refine hK.out _ _ ⟨(blk_cell BK101.out 0).trans rfl, (blk_cell BK101.out 17).trans rfl, (run_load_box BK101.out 24 [] (al_ z0 z1 z2 z3 z4 z5 z6 z7 z8 z9 za zb zc zd ze zf zg) [.int .i64 zh] rfl 0 rfl Tryz.underlying24 rfl (by kernel_rfl)), (run_load_box BK101.out 24 [] (al_ z0 z1 z2 z3 z4 z5 z6 z7 z8 z9 za zb zc zd ze zf zg) [.int .i64 zh] rfl 0 rfl Tryz.underlying24 rfl (by kernel_rfl)), (run_load_box BK101.out 24 [] (al_ z0 z1 z2 z3 z4 z5 z6 z7 z8 z9 za zb zc zd ze zf zg) [.int .i64 zh] rfl 0 rfl Tryz.underlying24 rfl (by kernel_rfl))⟩ (fun hHeld => ?_)
     clear hK K
     refine norm_ (a' := ?_) ?_ ?_
     rotate_left
     ·show Act.put _ (some 31) _ = _
      simp only [Act.put, sa_, s0_, s1_, i64_w, i32_w]
      rfl
     refine pl_ 23 34 ?_ 24 1 HT_ ?_ ?_ ?_ ?_
     rotate_left
     ·intro w'
      go_simp
      with_reducible rfl
     rotate_left
     ·simp only [Act.put, sa_, s0_, s1_, i64_w, i32_w]
      rfl
     refine pl_ 24 35 ?_ 25 0 HT_ ?_ ?_ ?_ ?_
     rotate_left
     ·intro w'
      go_simp
      with_reducible rfl
     rotate_left
     ·simp only [Act.put, sa_, s0_, s1_, i64_w, i32_w]
      rfl
     refine done_ (done_of HT_.out (by kernel_rfl)) ?_
     try go_wp2
     go_ret
     exact ⟨rq_, bg_⟩
 ·rw [if_neg c4] at H
  have c4b0 := beq_eq_false_iff_ne.mpr c4
  have c4b1 := bne_iff_ne.mpr c4
  obtain rfl := Option.some.inj H
  go_enter Tryz.func6, Tryz.ntmps6
  try go_wp2_with (first | ((with_reducible refine gate_dst (N := 1) rfl ?_); refine bx_ 1 (nr_ z0 z1 z2 z3 z4 z5 z6 z7 z8 z9 za zb zc zd ze zf zg zh) 26 ?_; intro gb101 hg w27 hbox hb; have BK101 := Aside0.mk (hbox); have GW101 := Aside0.mk (ge_ (w := w) hg); have GE101 := Aside0.mk (ge_ (w := w) hg); replace HB := Aside0.mk (below_step bq_ hb); clear hb hbox hg) | ((with_reducible refine gate_dst (N := 7) rfl ?_); (try (refine gate_guard (by rfl) ?_; dsimp only)); refine load_box ?hg 24 (.tmp 6) rfl BK101.out [] (al_ z0 z1 z2 z3 z4 z5 z6 z7 z8 z9 za zb zc zd ze zf zg) [.int .i64 zh] rfl 0 rfl rfl Tryz.underlying24 rfl (by kernel_rfl) ?_; (case hg => rfl)) | ((with_reducible refine gate_callee (f := 15) rfl ?_); refine goesL_ (some 8) rfl rfl Tryz.func15 (by kernel_rfl) rfl #[.agg (ag_ z0 z1 z2 z3 z4 z5 z6 z7 z8 z9 za zb zc zd ze zf zg)] rfl lq_ ?_; (with_reducible refine (cidr_size.calls z0 z1 z2 z3 z4 z5 z6 z7 z8 z9 za zb zc zd ze zf zg t102 t103 _ ?side1 A2.out).mono ?_); (case side1 => exact lg_); rintro e w28 ⟨rfl, hb⟩; refine ⟨_, rfl, ?_⟩; replace BK101 := Aside0.mk (bb_ BK101 hb); replace HB := Aside0.mk (below_step bg_ hb); (try clear hb); (try clear hb2); (try clear hk); (try clear hi)))
  replace BK101 := Aside0.mk (blk_drew BK101.out)
  replace HB := Aside0.mk (below_drew1 HB.out)
  refine start_ (n := 25) (S := fun w' => (Instr.loadAt 24 (.pointer (some ⟨gb101, 0, none⟩))).run Tryz.prog w' = .ok (.agg (ag_ z0 z1 z2 z3 z4 z5 z6 z7 z8 z9 za zb zc zd ze zf zg)) w') (ds := []) (bv_ 0 25) (by kernel_rfl) rfl rfl ((run_load_box BK101.out 24 [] (al_ z0 z1 z2 z3 z4 z5 z6 z7 z8 z9 za zb zc zd ze zf zg) [.int .i64 zh] rfl 0 rfl Tryz.underlying24 rfl (by kernel_rfl))) (fun hHeld => ?_); refine with_tabW cidr_Check.tab2 cidr_Check.bits2 (fun HT_ HW_ => ?_)
  generalize w28.drew = w29 at BK101 HB hHeld ⊢
  refine pl_ 0 11 ?_ 1 24 HT_ ?_ ?_ ?_ ?_
  rotate_left
  ·intro w'
   go_simp
   with_reducible rfl
  rotate_left
  ·simp only [Act.put, sa_, s0_, s1_, i64_w, i32_w]
   rfl
  refine tl_ 1 12 ?_ 2 23 HT_ HW_ ?_ hHeld ?_ ?_ ?_
  rotate_left
  ·intro w' s0
   refine (load_exec rfl rfl s0).trans ?_; with_reducible rfl
  rotate_left
  ·simp only [Act.put, sa_, s0_, s1_, i64_w, i32_w]
   rfl
  refine one_ (i := 2) (N := some 13) (bv_ 3 22) rfl rfl (one_of HT_.out (by kernel_rfl)) (by decide) (fun K hK => ?_)
  refine goes_ Tryz.func16 (by kernel_rfl) rfl #[.agg (ag_ z0 z1 z2 z3 z4 z5 z6 z7 z8 z9 za zb zc zd ze zf zg)] (by rfl) rfl rfl lq_ ?_
  with_reducible refine (ip_Check.calls z0 z1 z2 z3 z4 z5 z6 z7 z8 z9 za zb zc zd ze zf zg t104 _ ?side1 A3.out).mono ?_
  (case side1 => exact lg_)
  rintro e w30 ⟨rfl, hb⟩
  refine ⟨_, rfl, ?_⟩
  replace BK101 := Aside0.mk (bb_ BK101 hb)
  replace HB := Aside0.mk (below_step bg_ hb)
  (try clear hb)
  (try clear hb2)
  (try clear hk)
  (try clear hi)
  refine hK.out _ _ ((run_load_box BK101.out 24 [] (al_ z0 z1 z2 z3 z4 z5 z6 z7 z8 z9 za zb zc zd ze zf zg) [.int .i64 zh] rfl 0 rfl Tryz.underlying24 rfl (by kernel_rfl))) (fun hHeld => ?_)
  clear hK K
  refine norm_ (a' := ?_) ?_ ?_
  rotate_left
  ·show Act.put _ (some 13) _ = _
   simp only [Act.put, sa_, s0_, s1_, i64_w, i32_w]
   rfl
  refine pl_ 3 14 ?_ 4 21 HT_ ?_ ?_ ?_ ?_
  rotate_left
  ·intro w'
   go_simp
   with_reducible rfl
  rotate_left
  ·simp only [Act.put, sa_, s0_, s1_, i64_w, i32_w]
   rfl
  refine pl_ 4 15 ?_ 5 20 HT_ ?_ ?_ ?_ ?_
  rotate_left
  ·intro w'
   go_simp
   with_reducible rfl
  rotate_left
  ·simp only [Act.put, sa_, s0_, s1_, i64_w, i32_w]
   rfl
  refine pr_ 5 16 6 19 HT_ ?_ ?_ ?_
  rotate_left
  ·simp only [Act.put, sa_, s0_, s1_, i64_w, i32_w]
   rfl
  refine pr_ 6 17 7 18 HT_ ?_ ?_ ?_
  rotate_left
  ·simp only [Act.put, sa_, s0_, s1_, i64_w, i32_w]
   rfl
  refine pr_ 7 18 8 17 HT_ ?_ ?_ ?_
  rotate_left
  ·simp only [Act.put, sa_, s0_, s1_, i64_w, i32_w]
   rfl
  refine pl_ 8 19 ?_ 9 16 HT_ ?_ ?_ ?_ ?_
  rotate_left
  ·intro w'
   go_simp
   with_reducible rfl
  rotate_left
  ·simp only [Act.put, sa_, s0_, s1_, i64_w, i32_w]
   rfl
  refine pl_ 9 20 ?_ 10 15 HT_ ?_ ?_ ?_ ?_
  rotate_left
  ·intro w'
   go_simp
   with_reducible rfl
  rotate_left
  ·simp only [Act.put, sa_, s0_, s1_, i64_w, i32_w]
   rfl
  refine pr_ 10 21 11 14 HT_ ?_ ?_ ?_
  rotate_left
  ·simp only [Act.put, sa_, s0_, s1_, i64_w, i32_w]
   rfl
  refine pr_ 11 22 12 13 HT_ ?_ ?_ ?_
  rotate_left
  ·simp only [Act.put, sa_, s0_, s1_, i64_w, i32_w]
   rfl
  refine pr_ 12 23 13 12 HT_ ?_ ?_ ?_
  rotate_left
  ·simp only [Act.put, sa_, s0_, s1_, i64_w, i32_w]
   rfl
  refine pr_ 13 24 14 11 HT_ ?_ ?_ ?_
  rotate_left
  ·simp only [Act.put, sa_, s0_, s1_, i64_w, i32_w]
   rfl
  refine pl_ 14 25 ?_ 15 10 HT_ ?_ ?_ ?_ ?_
  rotate_left
  ·intro w'
   go_simp
   with_reducible rfl
  rotate_left
  ·simp only [Act.put, sa_, s0_, s1_, i64_w, i32_w]
   rfl
  refine pl_ 15 26 ?_ 16 9 HT_ ?_ ?_ ?_ ?_
  rotate_left
  ·intro w'
   go_simp
   with_reducible rfl
  rotate_left
  ·simp only [Act.put, sa_, s0_, s1_, i64_w, i32_w]
   rfl
  refine pr_ 16 27 17 8 HT_ ?_ ?_ ?_
  rotate_left
  ·simp only [Act.put, sa_, s0_, s1_, i64_w, i32_w]
   rfl
  refine pr_ 17 28 18 7 HT_ ?_ ?_ ?_
  rotate_left
  ·simp only [Act.put, sa_, s0_, s1_, i64_w, i32_w]
   rfl
  refine pr_ 18 29 19 6 HT_ ?_ ?_ ?_
  rotate_left
  ·simp only [Act.put, sa_, s0_, s1_, i64_w, i32_w]
   rfl
  refine pr_ 19 30 20 5 HT_ ?_ ?_ ?_
  rotate_left
  ·simp only [Act.put, sa_, s0_, s1_, i64_w, i32_w]
   rfl
  refine pr_ 20 31 21 4 HT_ ?_ ?_ ?_
  rotate_left
  ·simp only [Act.put, sa_, s0_, s1_, i64_w, i32_w]
   rfl
  refine pr_ 21 32 22 3 HT_ ?_ ?_ ?_
  rotate_left
  ·simp only [Act.put, sa_, s0_, s1_, i64_w, i32_w]
   rfl
  refine pr_ 22 33 23 2 HT_ ?_ ?_ ?_
  rotate_left
  ·simp only [Act.put, sa_, s0_, s1_, i64_w, i32_w]
   rfl
  refine pr_ 23 34 24 1 HT_ ?_ ?_ ?_
  rotate_left
  ·simp only [Act.put, sa_, s0_, s1_, i64_w, i32_w]
   rfl
  refine pl_ 24 35 ?_ 25 0 HT_ ?_ ?_ ?_ ?_
  rotate_left
  ·intro w'
   go_simp
   with_reducible rfl
  rotate_left
  ·simp only [Act.put, sa_, s0_, s1_, i64_w, i32_w]
   rfl
  refine done_ (done_of HT_.out (by kernel_rfl)) ?_
  try go_wp2
  go_ret
  exact ⟨rq_, bg_⟩

end Go.Proofs.YtdopafhppaalfaaGreatDoor.G
