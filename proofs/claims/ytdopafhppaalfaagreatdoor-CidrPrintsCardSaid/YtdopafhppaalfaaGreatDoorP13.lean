-- Written by a program of this session (wip/gen/lprint.py over the kit's print.py) out of the translation. Lean checks it.
import Derived.Test.YtdopafhppaalfaaGreatDoorP0
import Derived.Test.YtdopafhppaalfaaGreatDoorP2
import Derived.Test.YtdopafhppaalfaaGreatDoorP11
import Derived.Test.YtdopafhppaalfaaGreatDoorP12
import Derived.Test.YtdopafhppaalfaaGreatDoorZ
namespace Go.Proofs.YtdopafhppaalfaaGreatDoor.P
open Go.Proofs.YtdopafhppaalfaaGreatDoorZ
open Go.Proofs.YtdopafhppaalfaaGreatDoor.E Go.Proofs.YtdopafhppaalfaaGreatDoorV
open Go.RowKit Go.Proofs.YtdopafhppaalfaaGreatDoorW.PrintWords Go.Proofs.YtdopafhppaalfaaGreatDoorW.PrintLast Go.Proofs.YtdopafhppaalfaaGreatDoorW.PrintMore
attribute [local go_sem] max2_int min2_int max_two min_two max_three min_three max_four min_four   -- for this text's walks alone
set_option linter.unusedVariables false
set_option linter.unusedSimpArgs false

def ip_Parse.f (k : Nat) (a0 : ByteArray) : Option (Bool × Int × Int × Int × Int × Int × Int × Int × Int × Int × Int × Int × Int × Int × Int × Int × Int × Int) := if (a0.size : Int) > 64 then (some (false, 0, 0, 0, 0, 0, 0, 0, 0, 0, 0, 0, 0, 0, 0, 0, 0, 5)) else ((ip_four.f k a0).bind fun bt311 => (if bt311.2.2.2.2 = true then ((ip_V4.f bt311.1 bt311.2.1 bt311.2.2.1 bt311.2.2.2.1).bind fun bt317 => (some (bt317.1, bt317.2.1, bt317.2.2.1, bt317.2.2.2.1, bt317.2.2.2.2.1, bt317.2.2.2.2.2.1, bt317.2.2.2.2.2.2.1, bt317.2.2.2.2.2.2.2.1, bt317.2.2.2.2.2.2.2.2.1, bt317.2.2.2.2.2.2.2.2.2.1, bt317.2.2.2.2.2.2.2.2.2.2.1, bt317.2.2.2.2.2.2.2.2.2.2.2.1, bt317.2.2.2.2.2.2.2.2.2.2.2.2.1, bt317.2.2.2.2.2.2.2.2.2.2.2.2.2.1, bt317.2.2.2.2.2.2.2.2.2.2.2.2.2.2.1, bt317.2.2.2.2.2.2.2.2.2.2.2.2.2.2.2.1, bt317.2.2.2.2.2.2.2.2.2.2.2.2.2.2.2.2, 0))) else ((ip_six.f k a0).bind fun bt334 => (if bt334.2.2.2.2.2.2.2.2.2.2.2.2.2.2.2.2 = true then ((strings_Contains.f a0 (⟨#[58]⟩ : ByteArray)).bind fun t352 => (if t352 = true then (some (true, bt334.1, bt334.2.1, bt334.2.2.1, bt334.2.2.2.1, bt334.2.2.2.2.1, bt334.2.2.2.2.2.1, bt334.2.2.2.2.2.2.1, bt334.2.2.2.2.2.2.2.1, bt334.2.2.2.2.2.2.2.2.1, bt334.2.2.2.2.2.2.2.2.2.1, bt334.2.2.2.2.2.2.2.2.2.2.1, bt334.2.2.2.2.2.2.2.2.2.2.2.1, bt334.2.2.2.2.2.2.2.2.2.2.2.2.1, bt334.2.2.2.2.2.2.2.2.2.2.2.2.2.1, bt334.2.2.2.2.2.2.2.2.2.2.2.2.2.2.1, bt334.2.2.2.2.2.2.2.2.2.2.2.2.2.2.2.1, 0)) else (some (false, 0, 0, 0, 0, 0, 0, 0, 0, 0, 0, 0, 0, 0, 0, 0, 0, 5)))) else (some (false, 0, 0, 0, 0, 0, 0, 0, 0, 0, 0, 0, 0, 0, 0, 0, 0, 5))))))
theorem ip_Parse.mono : ∀ a0 k, LeO (ip_Parse.f k a0) (ip_Parse.f (k + 1) a0) := by
 intro a0 k
 unfold ip_Parse.f
 repeat' first
   | (with_reducible exact ip_four.mono _ _)
   | (with_reducible exact ip_six.mono _ _)
   | (with_reducible exact LeO.refl _)
   | (with_reducible exact LeO.none _)
   | (with_reducible refine LeO.ite ?_ ?_)
   | (with_reducible refine LeO.bind ?_ (fun _ => ?_))
   | exact ip_four.mono _ _
   | exact ip_six.mono _ _
   | exact LeO.none _
   | refine LeO.ite ?_ ?_
   | refine LeO.bind ?_ (fun _ => ?_)
set_option maxHeartbeats 8000000 in
set_option maxRecDepth 100000 in
theorem ip_Parse.calls (k : Nat) (a0 : ByteArray) (r1 : Bool) (r2 : Int) (r3 : Int) (r4 : Int) (r5 : Int) (r6 : Int) (r7 : Int) (r8 : Int) (r9 : Int) (r10 : Int) (r11 : Int) (r12 : Int) (r13 : Int) (r14 : Int) (r15 : Int) (r16 : Int) (r17 : Int) (r18 : Int) (w : World) (hLW : LW w) (h : ip_Parse.f k a0 = some (r1, r2, r3, r4, r5, r6, r7, r8, r9, r10, r11, r12, r13, r14, r15, r16, r17, r18)) :
  Calls Tryz.prog 22 #[.string a0] w fun e w' => e = .returned (.tuple #[.agg (ag_ r1 r2 r3 r4 r5 r6 r7 r8 r9 r10 r11 r12 r13 r14 r15 r16 r17), .int .i64 r18]) ∧ Below w.heap.size w w' := by
 have hu24 := Tryz.underlying24
 have hu78 := Tryz.underlying78
 have hu22 := Tryz.underlying22
 have HLW := Aside0.mk hLW
 clear hLW
 have HB := Aside0.mk (Below.refl w.heap.size w)
 have H := h
 unfold ip_Parse.f at H
 clear h
 by_cases c2 : (a0.size : Int) > 64
 ·rw [if_pos c2] at H
  have c2b0 := decide_eq_true c2
  have c2b1 : decide (64 < a0.size) = true := decide_eq_true (by omega)
  clear c2
  simp only [Option.some.injEq, Prod.mk.injEq] at H
  obtain ⟨rfl, rfl, rfl, rfl, rfl, rfl, rfl, rfl, rfl, rfl, rfl, rfl, rfl, rfl, rfl, rfl, rfl, rfl⟩ := H
  go_enter Tryz.func22, Tryz.ntmps22
  go_wp2_with (first | ((with_reducible refine gate_dst (N := 2) rfl ?_); refine bx_ 2 az_ 24 ?_; intro gb310 hg w3 hbox hb; have BK310 := Aside0.mk (hbox); have GW310 := Aside0.mk (ge_ (w := w) hg); have GE310 := Aside0.mk (ge_ (w := w) hg); replace HB := Aside0.mk (below_step bq_ hb); clear hb hbox hg; obtain ⟨hcz4_0, hcz4_1, hcz4_2, hcz4_3, hcz4_4, hcz4_5, hcz4_6, hcz4_7, hcz4_8, hcz4_9, hcz4_10, hcz4_11, hcz4_12, hcz4_13, hcz4_14, hcz4_15, hcz4_16⟩ := c17_ BK310; obtain ⟨hfz4_0, hfz4_1, hfz4_2, hfz4_3, hfz4_4, hfz4_5, hfz4_6, hfz4_7, hfz4_8, hfz4_9, hfz4_10, hfz4_11, hfz4_12, hfz4_13, hfz4_14, hfz4_15, hfz4_16⟩ := f17_ BK310) | ((with_reducible refine gate_store (t := 24) (p := 2) rfl ?_); refine store_all ?hg 24 2 _ rfl rfl gb310 ay_ ay_ BK310.out rfl rfl rfl (by kernel_rfl) rfl ?_; (case hg => rfl); intro w5 hw; replace BK310 := Aside0.mk (show w5.heap[gb310]? = some (.cells az_ 24 (0, 0)) from ss_ BK310 hw); replace HB := Aside0.mk (sb_ hw); clear hw))
  refine bodyPost_ret (results_ct rfl _ _ gb310 24 az_ (0, 0) _ rfl bk_ Tryz.underlying24 rfl (by kernel_rfl)) rfl ?_
  exact ⟨rq_, bg_⟩
 ·rw [if_neg c2] at H
  have c2b0 := decide_eq_false c2
  have c2b1 : decide (64 < a0.size) = false := decide_eq_false (by omega)
  clear c2
  replace H := Option.bind_eq_some_iff.mp H
  obtain ⟨⟨t311, t312, t313, t314, t315⟩, A60, H⟩ := H
  (try dsimp only at H)
  have A6 := Aside0.mk A60
  clear A60
  by_cases c7 : t315 = true
  ·subst c7
   replace H := ifT_ H
   replace H := Option.bind_eq_some_iff.mp H
   obtain ⟨⟨t317, t318, t319, t320, t321, t322, t323, t324, t325, t326, t327, t328, t329, t330, t331, t332, t333⟩, A80, H⟩ := H
   (try dsimp only at H)
   have A8 := Aside0.mk A80
   clear A80
   simp only [Option.some.injEq, Prod.mk.injEq] at H
   obtain ⟨rfl, rfl, rfl, rfl, rfl, rfl, rfl, rfl, rfl, rfl, rfl, rfl, rfl, rfl, rfl, rfl, rfl, rfl⟩ := H
   go_enter Tryz.func22, Tryz.ntmps22
   go_wp2_with (first | ((with_reducible refine gate_dst (N := 2) rfl ?_); refine bx_ 2 az_ 24 ?_; intro gb310 hg w9 hbox hb; have BK310 := Aside0.mk (hbox); have GW310 := Aside0.mk (ge_ (w := w) hg); have GE310 := Aside0.mk (ge_ (w := w) hg); replace HB := Aside0.mk (below_step bq_ hb); clear hb hbox hg) | ((with_reducible refine gate_callee (f := 44) rfl ?_); refine goesL_ (some 14) rfl rfl Tryz.func44 (by kernel_rfl) rfl #[.string a0] rfl lq_ ?_; (with_reducible refine (ip_four.calls k a0 t311 t312 t313 t314 true _ ?side1 A6.out).mono ?_); (case side1 => exact lg_); rintro e w10 ⟨rfl, hb⟩; refine ⟨_, rfl, ?_⟩; replace BK310 := Aside0.mk (bb_ BK310 hb); replace HB := Aside0.mk (below_step bg_ hb); (try clear hb); (try clear hb2); (try clear hk); (try clear hi)) | ((with_reducible refine gate_dst (N := 4) rfl ?_); refine bx_ 4 #[.int .u8 0, .int .u8 0, .int .u8 0, .int .u8 0] 78 ?_; intro gb316 hg w11 hbox hb; have n0_ := Aside0.mk (bb_ BK310 hb); have n1_ := Aside0.mk (below_step bg_ hb); have n2_ := Aside0.mk (hbox); have n3_ := Aside0.mk (gg_ (w := w) hg); have n4_ := Aside0.mk (gg_ (w := w) hg); have n5_ := Aside0.mk (nl_ BK310 hg); have n6_ := Aside0.mk (ng_ BK310 hg); clear BK310; clear HB; have BK310 := n0_; have HB := n1_; have BK316 := n2_; have GW316 := n3_; have GE316 := n4_; have NB310_316 := n5_; have NB316_310 := n6_; clear n0_ n1_ n2_ n3_ n4_ n5_ n6_; clear hb hbox hg; have hnb12 := NB316_310.out; have hnc12 := NB310_316.out; have hcz13_0 := cz_ BK316 0 (.int .u8 0); have hcz13_1 := cz_ BK316 1 (.int .u8 0); have hcz13_2 := cz_ BK316 2 (.int .u8 0); have hcz13_3 := cz_ BK316 3 (.int .u8 0); have hfz13_0 := bf_ BK316 0; have hfz13_1 := bf_ BK316 1; have hfz13_2 := bf_ BK316 2; have hfz13_3 := bf_ BK316 3) | ((with_reducible refine gate_callee (f := 31) rfl ?_); refine goesL_ (some 26) rfl rfl Tryz.func31 (by kernel_rfl) rfl #[.int .u8 t311, .int .u8 t312, .int .u8 t313, .int .u8 t314] rfl lq_ ?_; (with_reducible refine (ip_V4.calls t311 t312 t313 t314 t317 t318 t319 t320 t321 t322 t323 t324 t325 t326 t327 t328 t329 t330 t331 t332 t333 _ ?side1 A8.out).mono ?_); (case side1 => exact lg_); rintro e w14 ⟨rfl, hb⟩; refine ⟨_, rfl, ?_⟩; replace BK310 := Aside0.mk (blk_below (g := gb310) (o := .cells az_ 24 (0, 0)) (by (with_reducible repeat (first | refine blk_drewN ?_ _ | refine blk_drew ?_ | refine blk_alloc ?_ _)); refine blk_far ?_ NB310_316.out _; (with_reducible repeat (first | refine blk_drewN ?_ _ | refine blk_drew ?_ | refine blk_alloc ?_ _)); refine blk_far ?_ NB310_316.out _; (with_reducible repeat (first | refine blk_drewN ?_ _ | refine blk_drew ?_ | refine blk_alloc ?_ _)); refine blk_far ?_ NB310_316.out _; (with_reducible repeat (first | refine blk_drewN ?_ _ | refine blk_drew ?_ | refine blk_alloc ?_ _)); refine blk_far ?_ NB310_316.out _; (with_reducible repeat (first | refine blk_drewN ?_ _ | refine blk_drew ?_ | refine blk_alloc ?_ _)); exact BK310.out) hb); replace BK316 := Aside0.mk (blk_below (g := gb316) (o := .cells #[.int .u8 t311, .int .u8 t312, .int .u8 t313, .int .u8 t314] 78 (0, 0)) (by (with_reducible repeat (first | refine blk_drewN ?_ _ | refine blk_drew ?_ | refine blk_alloc ?_ _)); refine blk_put (cs := #[.int .u8 t311, .int .u8 t312, .int .u8 t313, .int .u8 0]) ?_ 3 _ rfl; (with_reducible repeat (first | refine blk_drewN ?_ _ | refine blk_drew ?_ | refine blk_alloc ?_ _)); refine blk_put (cs := #[.int .u8 t311, .int .u8 t312, .int .u8 0, .int .u8 0]) ?_ 2 _ rfl; (with_reducible repeat (first | refine blk_drewN ?_ _ | refine blk_drew ?_ | refine blk_alloc ?_ _)); refine blk_put (cs := #[.int .u8 t311, .int .u8 0, .int .u8 0, .int .u8 0]) ?_ 1 _ rfl; (with_reducible repeat (first | refine blk_drewN ?_ _ | refine blk_drew ?_ | refine blk_alloc ?_ _)); refine blk_put (cs := #[.int .u8 0, .int .u8 0, .int .u8 0, .int .u8 0]) ?_ 0 _ rfl; (with_reducible repeat (first | refine blk_drewN ?_ _ | refine blk_drew ?_ | refine blk_alloc ?_ _)); exact BK316.out) hb); replace HB := Aside0.mk (below_step bg_ hb); (try clear hb); (try clear hb2); (try clear hk); (try clear hi); obtain ⟨hcz15_0, hcz15_1, hcz15_2, hcz15_3, hcz15_4, hcz15_5, hcz15_6, hcz15_7, hcz15_8, hcz15_9, hcz15_10, hcz15_11, hcz15_12, hcz15_13, hcz15_14, hcz15_15, hcz15_16⟩ := c17_ BK310; obtain ⟨hfz15_0, hfz15_1, hfz15_2, hfz15_3, hfz15_4, hfz15_5, hfz15_6, hfz15_7, hfz15_8, hfz15_9, hfz15_10, hfz15_11, hfz15_12, hfz15_13, hfz15_14, hfz15_15, hfz15_16⟩ := f17_ BK310) | ((with_reducible refine gate_store (t := 24) (p := 2) rfl ?_); refine store_all ?hg 24 2 _ rfl rfl gb310 ay_ (al_ t317 t318 t319 t320 t321 t322 t323 t324 t325 t326 t327 t328 t329 t330 t331 t332 t333) BK310.out rfl rfl rfl (by kernel_rfl) rfl ?_; (case hg => rfl); intro w16 hw; replace BK310 := Aside0.mk (show w16.heap[gb310]? = some (.cells (ag_ t317 t318 t319 t320 t321 t322 t323 t324 t325 t326 t327 t328 t329 t330 t331 t332 t333) 24 (0, 0)) from ss_ BK310 hw); replace BK316 := Aside0.mk (sf_ BK316 NB316_310 hw); replace HB := Aside0.mk (sb_ hw); clear hw))
   refine bodyPost_ret (results_ct rfl _ _ gb310 24 (ag_ t317 t318 t319 t320 t321 t322 t323 t324 t325 t326 t327 t328 t329 t330 t331 t332 t333) (0, 0) _ rfl bk_ Tryz.underlying24 rfl (by kernel_rfl)) rfl ?_
   exact ⟨rq_, bg_⟩
  ·replace c7 := Bool.eq_false_iff.mpr c7
   subst c7
   replace H := ifF_ H
   replace H := Option.bind_eq_some_iff.mp H
   obtain ⟨⟨t334, t335, t336, t337, t338, t339, t340, t341, t342, t343, t344, t345, t346, t347, t348, t349, t350⟩, A170, H⟩ := H
   (try dsimp only at H)
   have A17 := Aside0.mk A170
   clear A170
   by_cases c18 : t350 = true
   ·subst c18
    replace H := ifT_ H
    replace H := Option.bind_eq_some_iff.mp H
    obtain ⟨t352, A190, H⟩ := H
    (try dsimp only at H)
    have A19 := Aside0.mk A190
    clear A190
    by_cases c20 : t352 = true
    ·subst c20
     replace H := ifT_ H
     simp only [Option.some.injEq, Prod.mk.injEq] at H
     obtain ⟨rfl, rfl, rfl, rfl, rfl, rfl, rfl, rfl, rfl, rfl, rfl, rfl, rfl, rfl, rfl, rfl, rfl, rfl⟩ := H
     go_enter Tryz.func22, Tryz.ntmps22
     go_wp2_with (first | ((with_reducible refine gate_dst (N := 2) rfl ?_); refine bx_ 2 az_ 24 ?_; intro gb310 hg w21 hbox hb; have BK310 := Aside0.mk (hbox); have GW310 := Aside0.mk (ge_ (w := w) hg); have GE310 := Aside0.mk (ge_ (w := w) hg); replace HB := Aside0.mk (below_step bq_ hb); clear hb hbox hg) | ((with_reducible refine gate_callee (f := 44) rfl ?_); refine goesL_ (some 14) rfl rfl Tryz.func44 (by kernel_rfl) rfl #[.string a0] rfl lq_ ?_; (with_reducible refine (ip_four.calls k a0 t311 t312 t313 t314 false _ ?side1 A6.out).mono ?_); (case side1 => exact lg_); rintro e w22 ⟨rfl, hb⟩; refine ⟨_, rfl, ?_⟩; replace BK310 := Aside0.mk (bb_ BK310 hb); replace HB := Aside0.mk (below_step bg_ hb); (try clear hb); (try clear hb2); (try clear hk); (try clear hi)) | ((with_reducible refine gate_dst (N := 4) rfl ?_); refine bx_ 4 #[.int .u8 0, .int .u8 0, .int .u8 0, .int .u8 0] 78 ?_; intro gb316 hg w23 hbox hb; have n0_ := Aside0.mk (bb_ BK310 hb); have n1_ := Aside0.mk (below_step bg_ hb); have n2_ := Aside0.mk (hbox); have n3_ := Aside0.mk (gg_ (w := w) hg); have n4_ := Aside0.mk (gg_ (w := w) hg); have n5_ := Aside0.mk (nl_ BK310 hg); have n6_ := Aside0.mk (ng_ BK310 hg); clear BK310; clear HB; have BK310 := n0_; have HB := n1_; have BK316 := n2_; have GW316 := n3_; have GE316 := n4_; have NB310_316 := n5_; have NB316_310 := n6_; clear n0_ n1_ n2_ n3_ n4_ n5_ n6_; clear hb hbox hg; have hnb24 := NB316_310.out; have hnc24 := NB310_316.out; have hcz25_0 := cz_ BK316 0 (.int .u8 0); have hcz25_1 := cz_ BK316 1 (.int .u8 0); have hcz25_2 := cz_ BK316 2 (.int .u8 0); have hcz25_3 := cz_ BK316 3 (.int .u8 0); have hfz25_0 := bf_ BK316 0; have hfz25_1 := bf_ BK316 1; have hfz25_2 := bf_ BK316 2; have hfz25_3 := bf_ BK316 3) | ((with_reducible refine gate_callee (f := 45) rfl ?_); refine goesL_ (some 29) rfl rfl Tryz.func45 (by kernel_rfl) rfl #[.string a0] rfl lq_ ?_; (with_reducible refine (ip_six.calls k a0 t334 t335 t336 t337 t338 t339 t340 t341 t342 t343 t344 t345 t346 t347 t348 t349 true _ ?side1 A17.out).mono ?_); (case side1 => exact lg_); rintro e w26 ⟨rfl, hb⟩; refine ⟨_, rfl, ?_⟩; replace BK310 := Aside0.mk (blk_below (g := gb310) (o := .cells az_ 24 (0, 0)) (by (with_reducible repeat (first | refine blk_drewN ?_ _ | refine blk_drew ?_ | refine blk_alloc ?_ _)); refine blk_far ?_ NB310_316.out _; (with_reducible repeat (first | refine blk_drewN ?_ _ | refine blk_drew ?_ | refine blk_alloc ?_ _)); refine blk_far ?_ NB310_316.out _; (with_reducible repeat (first | refine blk_drewN ?_ _ | refine blk_drew ?_ | refine blk_alloc ?_ _)); refine blk_far ?_ NB310_316.out _; (with_reducible repeat (first | refine blk_drewN ?_ _ | refine blk_drew ?_ | refine blk_alloc ?_ _)); refine blk_far ?_ NB310_316.out _; (with_reducible repeat (first | refine blk_drewN ?_ _ | refine blk_drew ?_ | refine blk_alloc ?_ _)); exact BK310.out) hb); replace BK316 := Aside0.mk (blk_below (g := gb316) (o := .cells #[.int .u8 t311, .int .u8 t312, .int .u8 t313, .int .u8 t314] 78 (0, 0)) (by (with_reducible repeat (first | refine blk_drewN ?_ _ | refine blk_drew ?_ | refine blk_alloc ?_ _)); refine blk_put (cs := #[.int .u8 t311, .int .u8 t312, .int .u8 t313, .int .u8 0]) ?_ 3 _ rfl; (with_reducible repeat (first | refine blk_drewN ?_ _ | refine blk_drew ?_ | refine blk_alloc ?_ _)); refine blk_put (cs := #[.int .u8 t311, .int .u8 t312, .int .u8 0, .int .u8 0]) ?_ 2 _ rfl; (with_reducible repeat (first | refine blk_drewN ?_ _ | refine blk_drew ?_ | refine blk_alloc ?_ _)); refine blk_put (cs := #[.int .u8 t311, .int .u8 0, .int .u8 0, .int .u8 0]) ?_ 1 _ rfl; (with_reducible repeat (first | refine blk_drewN ?_ _ | refine blk_drew ?_ | refine blk_alloc ?_ _)); refine blk_put (cs := #[.int .u8 0, .int .u8 0, .int .u8 0, .int .u8 0]) ?_ 0 _ rfl; (with_reducible repeat (first | refine blk_drewN ?_ _ | refine blk_drew ?_ | refine blk_alloc ?_ _)); exact BK316.out) hb); replace HB := Aside0.mk (below_step bg_ hb); (try clear hb); (try clear hb2); (try clear hk); (try clear hi)) | ((with_reducible refine gate_dst (N := 6) rfl ?_); refine bx_ 6 #[.int .u8 0, .int .u8 0, .int .u8 0, .int .u8 0, .int .u8 0, .int .u8 0, .int .u8 0, .int .u8 0, .int .u8 0, .int .u8 0, .int .u8 0, .int .u8 0, .int .u8 0, .int .u8 0, .int .u8 0, .int .u8 0] 22 ?_; intro gb351 hg w27 hbox hb; have n0_ := Aside0.mk (bb_ BK310 hb); have n1_ := Aside0.mk (bb_ BK316 hb); have n2_ := Aside0.mk (below_step bg_ hb); have n3_ := Aside0.mk (hbox); have n4_ := Aside0.mk (gg_ (w := w) hg); have n5_ := Aside0.mk (gg_ (w := w) hg); have n6_ := Aside0.mk (nl_ BK310 hg); have n7_ := Aside0.mk (ng_ BK310 hg); have n8_ := Aside0.mk (nl_ BK316 hg); have n9_ := Aside0.mk (ng_ BK316 hg); clear BK310; clear BK316; clear HB; have BK310 := n0_; have BK316 := n1_; have HB := n2_; have BK351 := n3_; have GW351 := n4_; have GE351 := n5_; have NB310_351 := n6_; have NB351_310 := n7_; have NB316_351 := n8_; have NB351_316 := n9_; clear n0_ n1_ n2_ n3_ n4_ n5_ n6_ n7_ n8_ n9_; clear hb hbox hg; have hnb28 := NB351_310.out; have hnc28 := NB310_351.out; have hnb29 := NB351_316.out; have hnc29 := NB316_351.out; obtain ⟨hcz30_0, hcz30_1, hcz30_2, hcz30_3, hcz30_4, hcz30_5, hcz30_6, hcz30_7, hcz30_8, hcz30_9, hcz30_10, hcz30_11, hcz30_12, hcz30_13, hcz30_14, hcz30_15⟩ := c16_ BK351; obtain ⟨hfz30_0, hfz30_1, hfz30_2, hfz30_3, hfz30_4, hfz30_5, hfz30_6, hfz30_7, hfz30_8, hfz30_9, hfz30_10, hfz30_11, hfz30_12, hfz30_13, hfz30_14, hfz30_15⟩ := f16_ BK351) | ((with_reducible refine gate_store (t := 22) (p := 6) rfl ?_); refine store_all ?hg 22 6 _ rfl rfl gb351 [.int .u8 0, .int .u8 0, .int .u8 0, .int .u8 0, .int .u8 0, .int .u8 0, .int .u8 0, .int .u8 0, .int .u8 0, .int .u8 0, .int .u8 0, .int .u8 0, .int .u8 0, .int .u8 0, .int .u8 0, .int .u8 0] [.int .u8 t334, .int .u8 t335, .int .u8 t336, .int .u8 t337, .int .u8 t338, .int .u8 t339, .int .u8 t340, .int .u8 t341, .int .u8 t342, .int .u8 t343, .int .u8 t344, .int .u8 t345, .int .u8 t346, .int .u8 t347, .int .u8 t348, .int .u8 t349] BK351.out rfl rfl rfl (by kernel_rfl) rfl ?_; (case hg => rfl); intro w31 hw; replace BK310 := Aside0.mk (sf_ BK310 NB310_351 hw); replace BK316 := Aside0.mk (sf_ BK316 NB316_351 hw); replace BK351 := Aside0.mk (show w31.heap[gb351]? = some (.cells #[.int .u8 t334, .int .u8 t335, .int .u8 t336, .int .u8 t337, .int .u8 t338, .int .u8 t339, .int .u8 t340, .int .u8 t341, .int .u8 t342, .int .u8 t343, .int .u8 t344, .int .u8 t345, .int .u8 t346, .int .u8 t347, .int .u8 t348, .int .u8 t349] 22 (0, 0)) from ss_ BK351 hw); replace HB := Aside0.mk (sb_ hw); clear hw) | (go_at_call 46; (with_reducible refine (strings_Contains.calls a0 (⟨#[58]⟩ : ByteArray) true _ ?side1 A19.out).mono ?_); (case side1 => exact lg_); rintro e w32 ⟨rfl, hb⟩; replace BK310 := Aside0.mk (bb_ BK310 hb); replace BK316 := Aside0.mk (bb_ BK316 hb); replace BK351 := Aside0.mk (bb_ BK351 hb); replace HB := Aside0.mk (below_step bg_ hb); (try clear hb); (try clear hb2); (try clear hk); (try clear hi); obtain ⟨hcz33_0, hcz33_1, hcz33_2, hcz33_3, hcz33_4, hcz33_5, hcz33_6, hcz33_7, hcz33_8, hcz33_9, hcz33_10, hcz33_11, hcz33_12, hcz33_13, hcz33_14, hcz33_15, hcz33_16⟩ := c17_ BK310; obtain ⟨hfz33_0, hfz33_1, hfz33_2, hfz33_3, hfz33_4, hfz33_5, hfz33_6, hfz33_7, hfz33_8, hfz33_9, hfz33_10, hfz33_11, hfz33_12, hfz33_13, hfz33_14, hfz33_15, hfz33_16⟩ := f17_ BK310) | ((with_reducible refine gate_dst (N := 37) rfl ?_); (try (refine gate_guard (by rfl) ?_; dsimp only)); refine load_box ?hg 22 (.tmp 6) rfl BK351.out [] [.int .u8 t334, .int .u8 t335, .int .u8 t336, .int .u8 t337, .int .u8 t338, .int .u8 t339, .int .u8 t340, .int .u8 t341, .int .u8 t342, .int .u8 t343, .int .u8 t344, .int .u8 t345, .int .u8 t346, .int .u8 t347, .int .u8 t348, .int .u8 t349] [] rfl 0 rfl rfl Tryz.underlying22 rfl (by kernel_rfl) ?_; (case hg => rfl)) | ((with_reducible refine gate_store (t := 24) (p := 2) rfl ?_); refine store_all ?hg 24 2 _ rfl rfl gb310 ay_ (al_ true t334 t335 t336 t337 t338 t339 t340 t341 t342 t343 t344 t345 t346 t347 t348 t349) BK310.out rfl rfl rfl (by kernel_rfl) rfl ?_; (case hg => rfl); intro w34 hw; replace BK310 := Aside0.mk (show w34.heap[gb310]? = some (.cells (ag_ true t334 t335 t336 t337 t338 t339 t340 t341 t342 t343 t344 t345 t346 t347 t348 t349) 24 (0, 0)) from ss_ BK310 hw); replace BK316 := Aside0.mk (sf_ BK316 NB316_310 hw); replace BK351 := Aside0.mk (sf_ BK351 NB351_310 hw); replace HB := Aside0.mk (sb_ hw); clear hw))
     refine bodyPost_ret (results_ct rfl _ _ gb310 24 (ag_ true t334 t335 t336 t337 t338 t339 t340 t341 t342 t343 t344 t345 t346 t347 t348 t349) (0, 0) _ rfl bk_ Tryz.underlying24 rfl (by kernel_rfl)) rfl ?_
     exact ⟨rq_, bg_⟩
    ·replace c20 := Bool.eq_false_iff.mpr c20
     subst c20
     replace H := ifF_ H
     simp only [Option.some.injEq, Prod.mk.injEq] at H
     obtain ⟨rfl, rfl, rfl, rfl, rfl, rfl, rfl, rfl, rfl, rfl, rfl, rfl, rfl, rfl, rfl, rfl, rfl, rfl⟩ := H
     go_enter Tryz.func22, Tryz.ntmps22
     go_wp2_with (first | ((with_reducible refine gate_dst (N := 2) rfl ?_); refine bx_ 2 az_ 24 ?_; intro gb310 hg w35 hbox hb; have BK310 := Aside0.mk (hbox); have GW310 := Aside0.mk (ge_ (w := w) hg); have GE310 := Aside0.mk (ge_ (w := w) hg); replace HB := Aside0.mk (below_step bq_ hb); clear hb hbox hg) | ((with_reducible refine gate_callee (f := 44) rfl ?_); refine goesL_ (some 14) rfl rfl Tryz.func44 (by kernel_rfl) rfl #[.string a0] rfl lq_ ?_; (with_reducible refine (ip_four.calls k a0 t311 t312 t313 t314 false _ ?side1 A6.out).mono ?_); (case side1 => exact lg_); rintro e w36 ⟨rfl, hb⟩; refine ⟨_, rfl, ?_⟩; replace BK310 := Aside0.mk (bb_ BK310 hb); replace HB := Aside0.mk (below_step bg_ hb); (try clear hb); (try clear hb2); (try clear hk); (try clear hi)) | ((with_reducible refine gate_dst (N := 4) rfl ?_); refine bx_ 4 #[.int .u8 0, .int .u8 0, .int .u8 0, .int .u8 0] 78 ?_; intro gb316 hg w37 hbox hb; have n0_ := Aside0.mk (bb_ BK310 hb); have n1_ := Aside0.mk (below_step bg_ hb); have n2_ := Aside0.mk (hbox); have n3_ := Aside0.mk (gg_ (w := w) hg); have n4_ := Aside0.mk (gg_ (w := w) hg); have n5_ := Aside0.mk (nl_ BK310 hg); have n6_ := Aside0.mk (ng_ BK310 hg); clear BK310; clear HB; have BK310 := n0_; have HB := n1_; have BK316 := n2_; have GW316 := n3_; have GE316 := n4_; have NB310_316 := n5_; have NB316_310 := n6_; clear n0_ n1_ n2_ n3_ n4_ n5_ n6_; clear hb hbox hg; have hnb38 := NB316_310.out; have hnc38 := NB310_316.out; have hcz39_0 := cz_ BK316 0 (.int .u8 0); have hcz39_1 := cz_ BK316 1 (.int .u8 0); have hcz39_2 := cz_ BK316 2 (.int .u8 0); have hcz39_3 := cz_ BK316 3 (.int .u8 0); have hfz39_0 := bf_ BK316 0; have hfz39_1 := bf_ BK316 1; have hfz39_2 := bf_ BK316 2; have hfz39_3 := bf_ BK316 3) | ((with_reducible refine gate_callee (f := 45) rfl ?_); refine goesL_ (some 29) rfl rfl Tryz.func45 (by kernel_rfl) rfl #[.string a0] rfl lq_ ?_; (with_reducible refine (ip_six.calls k a0 t334 t335 t336 t337 t338 t339 t340 t341 t342 t343 t344 t345 t346 t347 t348 t349 true _ ?side1 A17.out).mono ?_); (case side1 => exact lg_); rintro e w40 ⟨rfl, hb⟩; refine ⟨_, rfl, ?_⟩; replace BK310 := Aside0.mk (blk_below (g := gb310) (o := .cells az_ 24 (0, 0)) (by (with_reducible repeat (first | refine blk_drewN ?_ _ | refine blk_drew ?_ | refine blk_alloc ?_ _)); refine blk_far ?_ NB310_316.out _; (with_reducible repeat (first | refine blk_drewN ?_ _ | refine blk_drew ?_ | refine blk_alloc ?_ _)); refine blk_far ?_ NB310_316.out _; (with_reducible repeat (first | refine blk_drewN ?_ _ | refine blk_drew ?_ | refine blk_alloc ?_ _)); refine blk_far ?_ NB310_316.out _; (with_reducible repeat (first | refine blk_drewN ?_ _ | refine blk_drew ?_ | refine blk_alloc ?_ _)); refine blk_far ?_ NB310_316.out _; (with_reducible repeat (first | refine blk_drewN ?_ _ | refine blk_drew ?_ | refine blk_alloc ?_ _)); exact BK310.out) hb); replace BK316 := Aside0.mk (blk_below (g := gb316) (o := .cells #[.int .u8 t311, .int .u8 t312, .int .u8 t313, .int .u8 t314] 78 (0, 0)) (by (with_reducible repeat (first | refine blk_drewN ?_ _ | refine blk_drew ?_ | refine blk_alloc ?_ _)); refine blk_put (cs := #[.int .u8 t311, .int .u8 t312, .int .u8 t313, .int .u8 0]) ?_ 3 _ rfl; (with_reducible repeat (first | refine blk_drewN ?_ _ | refine blk_drew ?_ | refine blk_alloc ?_ _)); refine blk_put (cs := #[.int .u8 t311, .int .u8 t312, .int .u8 0, .int .u8 0]) ?_ 2 _ rfl; (with_reducible repeat (first | refine blk_drewN ?_ _ | refine blk_drew ?_ | refine blk_alloc ?_ _)); refine blk_put (cs := #[.int .u8 t311, .int .u8 0, .int .u8 0, .int .u8 0]) ?_ 1 _ rfl; (with_reducible repeat (first | refine blk_drewN ?_ _ | refine blk_drew ?_ | refine blk_alloc ?_ _)); refine blk_put (cs := #[.int .u8 0, .int .u8 0, .int .u8 0, .int .u8 0]) ?_ 0 _ rfl; (with_reducible repeat (first | refine blk_drewN ?_ _ | refine blk_drew ?_ | refine blk_alloc ?_ _)); exact BK316.out) hb); replace HB := Aside0.mk (below_step bg_ hb); (try clear hb); (try clear hb2); (try clear hk); (try clear hi)) | ((with_reducible refine gate_dst (N := 6) rfl ?_); refine bx_ 6 #[.int .u8 0, .int .u8 0, .int .u8 0, .int .u8 0, .int .u8 0, .int .u8 0, .int .u8 0, .int .u8 0, .int .u8 0, .int .u8 0, .int .u8 0, .int .u8 0, .int .u8 0, .int .u8 0, .int .u8 0, .int .u8 0] 22 ?_; intro gb351 hg w41 hbox hb; have n0_ := Aside0.mk (bb_ BK310 hb); have n1_ := Aside0.mk (bb_ BK316 hb); have n2_ := Aside0.mk (below_step bg_ hb); have n3_ := Aside0.mk (hbox); have n4_ := Aside0.mk (gg_ (w := w) hg); have n5_ := Aside0.mk (gg_ (w := w) hg); have n6_ := Aside0.mk (nl_ BK310 hg); have n7_ := Aside0.mk (ng_ BK310 hg); have n8_ := Aside0.mk (nl_ BK316 hg); have n9_ := Aside0.mk (ng_ BK316 hg); clear BK310; clear BK316; clear HB; have BK310 := n0_; have BK316 := n1_; have HB := n2_; have BK351 := n3_; have GW351 := n4_; have GE351 := n5_; have NB310_351 := n6_; have NB351_310 := n7_; have NB316_351 := n8_; have NB351_316 := n9_; clear n0_ n1_ n2_ n3_ n4_ n5_ n6_ n7_ n8_ n9_; clear hb hbox hg; have hnb42 := NB351_310.out; have hnc42 := NB310_351.out; have hnb43 := NB351_316.out; have hnc43 := NB316_351.out; obtain ⟨hcz44_0, hcz44_1, hcz44_2, hcz44_3, hcz44_4, hcz44_5, hcz44_6, hcz44_7, hcz44_8, hcz44_9, hcz44_10, hcz44_11, hcz44_12, hcz44_13, hcz44_14, hcz44_15⟩ := c16_ BK351; obtain ⟨hfz44_0, hfz44_1, hfz44_2, hfz44_3, hfz44_4, hfz44_5, hfz44_6, hfz44_7, hfz44_8, hfz44_9, hfz44_10, hfz44_11, hfz44_12, hfz44_13, hfz44_14, hfz44_15⟩ := f16_ BK351) | ((with_reducible refine gate_store (t := 22) (p := 6) rfl ?_); refine store_all ?hg 22 6 _ rfl rfl gb351 [.int .u8 0, .int .u8 0, .int .u8 0, .int .u8 0, .int .u8 0, .int .u8 0, .int .u8 0, .int .u8 0, .int .u8 0, .int .u8 0, .int .u8 0, .int .u8 0, .int .u8 0, .int .u8 0, .int .u8 0, .int .u8 0] [.int .u8 t334, .int .u8 t335, .int .u8 t336, .int .u8 t337, .int .u8 t338, .int .u8 t339, .int .u8 t340, .int .u8 t341, .int .u8 t342, .int .u8 t343, .int .u8 t344, .int .u8 t345, .int .u8 t346, .int .u8 t347, .int .u8 t348, .int .u8 t349] BK351.out rfl rfl rfl (by kernel_rfl) rfl ?_; (case hg => rfl); intro w45 hw; replace BK310 := Aside0.mk (sf_ BK310 NB310_351 hw); replace BK316 := Aside0.mk (sf_ BK316 NB316_351 hw); replace BK351 := Aside0.mk (show w45.heap[gb351]? = some (.cells #[.int .u8 t334, .int .u8 t335, .int .u8 t336, .int .u8 t337, .int .u8 t338, .int .u8 t339, .int .u8 t340, .int .u8 t341, .int .u8 t342, .int .u8 t343, .int .u8 t344, .int .u8 t345, .int .u8 t346, .int .u8 t347, .int .u8 t348, .int .u8 t349] 22 (0, 0)) from ss_ BK351 hw); replace HB := Aside0.mk (sb_ hw); clear hw) | (go_at_call 46; (with_reducible refine (strings_Contains.calls a0 (⟨#[58]⟩ : ByteArray) false _ ?side1 A19.out).mono ?_); (case side1 => exact lg_); rintro e w46 ⟨rfl, hb⟩; replace BK310 := Aside0.mk (bb_ BK310 hb); replace BK316 := Aside0.mk (bb_ BK316 hb); replace BK351 := Aside0.mk (bb_ BK351 hb); replace HB := Aside0.mk (below_step bg_ hb); (try clear hb); (try clear hb2); (try clear hk); (try clear hi); obtain ⟨hcz47_0, hcz47_1, hcz47_2, hcz47_3, hcz47_4, hcz47_5, hcz47_6, hcz47_7, hcz47_8, hcz47_9, hcz47_10, hcz47_11, hcz47_12, hcz47_13, hcz47_14, hcz47_15, hcz47_16⟩ := c17_ BK310; obtain ⟨hfz47_0, hfz47_1, hfz47_2, hfz47_3, hfz47_4, hfz47_5, hfz47_6, hfz47_7, hfz47_8, hfz47_9, hfz47_10, hfz47_11, hfz47_12, hfz47_13, hfz47_14, hfz47_15, hfz47_16⟩ := f17_ BK310) | ((with_reducible refine gate_store (t := 24) (p := 2) rfl ?_); refine store_all ?hg 24 2 _ rfl rfl gb310 ay_ ay_ BK310.out rfl rfl rfl (by kernel_rfl) rfl ?_; (case hg => rfl); intro w48 hw; replace BK310 := Aside0.mk (show w48.heap[gb310]? = some (.cells az_ 24 (0, 0)) from ss_ BK310 hw); replace BK316 := Aside0.mk (sf_ BK316 NB316_310 hw); replace BK351 := Aside0.mk (sf_ BK351 NB351_310 hw); replace HB := Aside0.mk (sb_ hw); clear hw))
     refine bodyPost_ret (results_ct rfl _ _ gb310 24 az_ (0, 0) _ rfl bk_ Tryz.underlying24 rfl (by kernel_rfl)) rfl ?_
     exact ⟨rq_, bg_⟩
   ·replace c18 := Bool.eq_false_iff.mpr c18
    subst c18
    replace H := ifF_ H
    simp only [Option.some.injEq, Prod.mk.injEq] at H
    obtain ⟨rfl, rfl, rfl, rfl, rfl, rfl, rfl, rfl, rfl, rfl, rfl, rfl, rfl, rfl, rfl, rfl, rfl, rfl⟩ := H
    go_enter Tryz.func22, Tryz.ntmps22
    go_wp2_with (first | ((with_reducible refine gate_dst (N := 2) rfl ?_); refine bx_ 2 az_ 24 ?_; intro gb310 hg w49 hbox hb; have BK310 := Aside0.mk (hbox); have GW310 := Aside0.mk (ge_ (w := w) hg); have GE310 := Aside0.mk (ge_ (w := w) hg); replace HB := Aside0.mk (below_step bq_ hb); clear hb hbox hg) | ((with_reducible refine gate_callee (f := 44) rfl ?_); refine goesL_ (some 14) rfl rfl Tryz.func44 (by kernel_rfl) rfl #[.string a0] rfl lq_ ?_; (with_reducible refine (ip_four.calls k a0 t311 t312 t313 t314 false _ ?side1 A6.out).mono ?_); (case side1 => exact lg_); rintro e w50 ⟨rfl, hb⟩; refine ⟨_, rfl, ?_⟩; replace BK310 := Aside0.mk (bb_ BK310 hb); replace HB := Aside0.mk (below_step bg_ hb); (try clear hb); (try clear hb2); (try clear hk); (try clear hi)) | ((with_reducible refine gate_dst (N := 4) rfl ?_); refine bx_ 4 #[.int .u8 0, .int .u8 0, .int .u8 0, .int .u8 0] 78 ?_; intro gb316 hg w51 hbox hb; have n0_ := Aside0.mk (bb_ BK310 hb); have n1_ := Aside0.mk (below_step bg_ hb); have n2_ := Aside0.mk (hbox); have n3_ := Aside0.mk (gg_ (w := w) hg); have n4_ := Aside0.mk (gg_ (w := w) hg); have n5_ := Aside0.mk (nl_ BK310 hg); have n6_ := Aside0.mk (ng_ BK310 hg); clear BK310; clear HB; have BK310 := n0_; have HB := n1_; have BK316 := n2_; have GW316 := n3_; have GE316 := n4_; have NB310_316 := n5_; have NB316_310 := n6_; clear n0_ n1_ n2_ n3_ n4_ n5_ n6_; clear hb hbox hg; have hnb52 := NB316_310.out; have hnc52 := NB310_316.out; have hcz53_0 := cz_ BK316 0 (.int .u8 0); have hcz53_1 := cz_ BK316 1 (.int .u8 0); have hcz53_2 := cz_ BK316 2 (.int .u8 0); have hcz53_3 := cz_ BK316 3 (.int .u8 0); have hfz53_0 := bf_ BK316 0; have hfz53_1 := bf_ BK316 1; have hfz53_2 := bf_ BK316 2; have hfz53_3 := bf_ BK316 3) | ((with_reducible refine gate_callee (f := 45) rfl ?_); refine goesL_ (some 29) rfl rfl Tryz.func45 (by kernel_rfl) rfl #[.string a0] rfl lq_ ?_; (with_reducible refine (ip_six.calls k a0 t334 t335 t336 t337 t338 t339 t340 t341 t342 t343 t344 t345 t346 t347 t348 t349 false _ ?side1 A17.out).mono ?_); (case side1 => exact lg_); rintro e w54 ⟨rfl, hb⟩; refine ⟨_, rfl, ?_⟩; replace BK310 := Aside0.mk (blk_below (g := gb310) (o := .cells az_ 24 (0, 0)) (by (with_reducible repeat (first | refine blk_drewN ?_ _ | refine blk_drew ?_ | refine blk_alloc ?_ _)); refine blk_far ?_ NB310_316.out _; (with_reducible repeat (first | refine blk_drewN ?_ _ | refine blk_drew ?_ | refine blk_alloc ?_ _)); refine blk_far ?_ NB310_316.out _; (with_reducible repeat (first | refine blk_drewN ?_ _ | refine blk_drew ?_ | refine blk_alloc ?_ _)); refine blk_far ?_ NB310_316.out _; (with_reducible repeat (first | refine blk_drewN ?_ _ | refine blk_drew ?_ | refine blk_alloc ?_ _)); refine blk_far ?_ NB310_316.out _; (with_reducible repeat (first | refine blk_drewN ?_ _ | refine blk_drew ?_ | refine blk_alloc ?_ _)); exact BK310.out) hb); replace BK316 := Aside0.mk (blk_below (g := gb316) (o := .cells #[.int .u8 t311, .int .u8 t312, .int .u8 t313, .int .u8 t314] 78 (0, 0)) (by (with_reducible repeat (first | refine blk_drewN ?_ _ | refine blk_drew ?_ | refine blk_alloc ?_ _)); refine blk_put (cs := #[.int .u8 t311, .int .u8 t312, .int .u8 t313, .int .u8 0]) ?_ 3 _ rfl; (with_reducible repeat (first | refine blk_drewN ?_ _ | refine blk_drew ?_ | refine blk_alloc ?_ _)); refine blk_put (cs := #[.int .u8 t311, .int .u8 t312, .int .u8 0, .int .u8 0]) ?_ 2 _ rfl; (with_reducible repeat (first | refine blk_drewN ?_ _ | refine blk_drew ?_ | refine blk_alloc ?_ _)); refine blk_put (cs := #[.int .u8 t311, .int .u8 0, .int .u8 0, .int .u8 0]) ?_ 1 _ rfl; (with_reducible repeat (first | refine blk_drewN ?_ _ | refine blk_drew ?_ | refine blk_alloc ?_ _)); refine blk_put (cs := #[.int .u8 0, .int .u8 0, .int .u8 0, .int .u8 0]) ?_ 0 _ rfl; (with_reducible repeat (first | refine blk_drewN ?_ _ | refine blk_drew ?_ | refine blk_alloc ?_ _)); exact BK316.out) hb); replace HB := Aside0.mk (below_step bg_ hb); (try clear hb); (try clear hb2); (try clear hk); (try clear hi)) | ((with_reducible refine gate_dst (N := 6) rfl ?_); refine bx_ 6 #[.int .u8 0, .int .u8 0, .int .u8 0, .int .u8 0, .int .u8 0, .int .u8 0, .int .u8 0, .int .u8 0, .int .u8 0, .int .u8 0, .int .u8 0, .int .u8 0, .int .u8 0, .int .u8 0, .int .u8 0, .int .u8 0] 22 ?_; intro gb351 hg w55 hbox hb; have n0_ := Aside0.mk (bb_ BK310 hb); have n1_ := Aside0.mk (bb_ BK316 hb); have n2_ := Aside0.mk (below_step bg_ hb); have n3_ := Aside0.mk (hbox); have n4_ := Aside0.mk (gg_ (w := w) hg); have n5_ := Aside0.mk (gg_ (w := w) hg); have n6_ := Aside0.mk (nl_ BK310 hg); have n7_ := Aside0.mk (ng_ BK310 hg); have n8_ := Aside0.mk (nl_ BK316 hg); have n9_ := Aside0.mk (ng_ BK316 hg); clear BK310; clear BK316; clear HB; have BK310 := n0_; have BK316 := n1_; have HB := n2_; have BK351 := n3_; have GW351 := n4_; have GE351 := n5_; have NB310_351 := n6_; have NB351_310 := n7_; have NB316_351 := n8_; have NB351_316 := n9_; clear n0_ n1_ n2_ n3_ n4_ n5_ n6_ n7_ n8_ n9_; clear hb hbox hg; have hnb56 := NB351_310.out; have hnc56 := NB310_351.out; have hnb57 := NB351_316.out; have hnc57 := NB316_351.out; obtain ⟨hcz58_0, hcz58_1, hcz58_2, hcz58_3, hcz58_4, hcz58_5, hcz58_6, hcz58_7, hcz58_8, hcz58_9, hcz58_10, hcz58_11, hcz58_12, hcz58_13, hcz58_14, hcz58_15⟩ := c16_ BK351; obtain ⟨hfz58_0, hfz58_1, hfz58_2, hfz58_3, hfz58_4, hfz58_5, hfz58_6, hfz58_7, hfz58_8, hfz58_9, hfz58_10, hfz58_11, hfz58_12, hfz58_13, hfz58_14, hfz58_15⟩ := f16_ BK351) | ((with_reducible refine gate_store (t := 22) (p := 6) rfl ?_); refine store_all ?hg 22 6 _ rfl rfl gb351 [.int .u8 0, .int .u8 0, .int .u8 0, .int .u8 0, .int .u8 0, .int .u8 0, .int .u8 0, .int .u8 0, .int .u8 0, .int .u8 0, .int .u8 0, .int .u8 0, .int .u8 0, .int .u8 0, .int .u8 0, .int .u8 0] [.int .u8 t334, .int .u8 t335, .int .u8 t336, .int .u8 t337, .int .u8 t338, .int .u8 t339, .int .u8 t340, .int .u8 t341, .int .u8 t342, .int .u8 t343, .int .u8 t344, .int .u8 t345, .int .u8 t346, .int .u8 t347, .int .u8 t348, .int .u8 t349] BK351.out rfl rfl rfl (by kernel_rfl) rfl ?_; (case hg => rfl); intro w59 hw; replace BK310 := Aside0.mk (sf_ BK310 NB310_351 hw); replace BK316 := Aside0.mk (sf_ BK316 NB316_351 hw); replace BK351 := Aside0.mk (show w59.heap[gb351]? = some (.cells #[.int .u8 t334, .int .u8 t335, .int .u8 t336, .int .u8 t337, .int .u8 t338, .int .u8 t339, .int .u8 t340, .int .u8 t341, .int .u8 t342, .int .u8 t343, .int .u8 t344, .int .u8 t345, .int .u8 t346, .int .u8 t347, .int .u8 t348, .int .u8 t349] 22 (0, 0)) from ss_ BK351 hw); replace HB := Aside0.mk (sb_ hw); clear hw; obtain ⟨hcz60_0, hcz60_1, hcz60_2, hcz60_3, hcz60_4, hcz60_5, hcz60_6, hcz60_7, hcz60_8, hcz60_9, hcz60_10, hcz60_11, hcz60_12, hcz60_13, hcz60_14, hcz60_15, hcz60_16⟩ := c17_ BK310; obtain ⟨hfz60_0, hfz60_1, hfz60_2, hfz60_3, hfz60_4, hfz60_5, hfz60_6, hfz60_7, hfz60_8, hfz60_9, hfz60_10, hfz60_11, hfz60_12, hfz60_13, hfz60_14, hfz60_15, hfz60_16⟩ := f17_ BK310) | ((with_reducible refine gate_store (t := 24) (p := 2) rfl ?_); refine store_all ?hg 24 2 _ rfl rfl gb310 ay_ ay_ BK310.out rfl rfl rfl (by kernel_rfl) rfl ?_; (case hg => rfl); intro w61 hw; replace BK310 := Aside0.mk (show w61.heap[gb310]? = some (.cells az_ 24 (0, 0)) from ss_ BK310 hw); replace BK316 := Aside0.mk (sf_ BK316 NB316_310 hw); replace BK351 := Aside0.mk (sf_ BK351 NB351_310 hw); replace HB := Aside0.mk (sb_ hw); clear hw))
    refine bodyPost_ret (results_ct rfl _ _ gb310 24 az_ (0, 0) _ rfl bk_ Tryz.underlying24 rfl (by kernel_rfl)) rfl ?_
    exact ⟨rq_, bg_⟩

-- NOT PRINTED: function 8 (cidr_Parse)

-- NOT PRINTED: function 20 (cidr_Forbidden)

-- NOT PRINTED: function 56 (api_Net_56)

-- NOT PRINTED: function 36 (api_Net_36)

def ip_last.f (l0 : List Int) : Option (Bool × Int × Int × Int × Int × Int × Int × Int × Int × Int × Int × Int × Int × Int × Int × Int × Int) := if 0 < (l0.length : Int) then (if 1 < (l0.length : Int) then (if 2 < (l0.length : Int) then (if 3 < (l0.length : Int) then ((ip_V4.f (rd l0 0) (rd l0 1) (rd l0 2) (rd l0 3)).bind fun bt390 => (some (bt390.1, bt390.2.1, bt390.2.2.1, bt390.2.2.2.1, bt390.2.2.2.2.1, bt390.2.2.2.2.2.1, bt390.2.2.2.2.2.2.1, bt390.2.2.2.2.2.2.2.1, bt390.2.2.2.2.2.2.2.2.1, bt390.2.2.2.2.2.2.2.2.2.1, bt390.2.2.2.2.2.2.2.2.2.2.1, bt390.2.2.2.2.2.2.2.2.2.2.2.1, bt390.2.2.2.2.2.2.2.2.2.2.2.2.1, bt390.2.2.2.2.2.2.2.2.2.2.2.2.2.1, bt390.2.2.2.2.2.2.2.2.2.2.2.2.2.2.1, bt390.2.2.2.2.2.2.2.2.2.2.2.2.2.2.2.1, bt390.2.2.2.2.2.2.2.2.2.2.2.2.2.2.2.2))) else (none)) else (none)) else (none)) else (none)
def ip_last.T1 : Bool × List (List Nat × List Nat) := (true, [([], []), ([0], [0]), ([1], [1]), ([], []), ([3], [3]), ([4], [4]), ([], []), ([6], [6]), ([7], [7]), ([], []), ([9], [9]), ([10], [10]), ([2, 5, 8, 11], [2, 5, 8, 11]), ([12, 12, 0, 1, 2, 3, 4, 5, 6, 7, 8, 9, 10, 11, 12], [12])])
def ip_last.B1 : List Nat := [0, 1, 3, 0, 8, 24, 0, 64, 192, 0, 512, 1536, 4095, 8191]
theorem ip_last.tab1 : rtab .any (opsOf Tryz.f57 1) = ip_last.T1 := by kernel_rfl
theorem ip_last.bits1 : waitsOk ip_last.T1.2 ip_last.B1 = true := by kernel_rfl
set_option maxHeartbeats 8000000 in
set_option maxRecDepth 100000 in
theorem ip_last.calls (A0 : Option Addr) (c0 : Nat) (l0 : List Int) (r1 : Bool) (r2 : Int) (r3 : Int) (r4 : Int) (r5 : Int) (r6 : Int) (r7 : Int) (r8 : Int) (r9 : Int) (r10 : Int) (r11 : Int) (r12 : Int) (r13 : Int) (r14 : Int) (r15 : Int) (r16 : Int) (r17 : Int) (w : World) (hLW : LW w) (hr0 : Kd.C (Kd.int .u8) w A0 l0.length l0) (hc0 : l0.length ≤ c0) (h : ip_last.f l0 = some (r1, r2, r3, r4, r5, r6, r7, r8, r9, r10, r11, r12, r13, r14, r15, r16, r17)) :
  Calls Tryz.prog 57 #[.slice A0 l0.length c0] w fun e w' => e = .returned (.agg (ag_ r1 r2 r3 r4 r5 r6 r7 r8 r9 r10 r11 r12 r13 r14 r15 r16 r17)) ∧ Below w.heap.size w w' := by
 have hu24 := Tryz.underlying24
 have HLW := Aside0.mk hLW
 clear hLW
 have HR0 := Aside0.mk hr0
 have HC0 := Aside0.mk hc0
 clear hr0 hc0
 have HB := Aside0.mk (Below.refl w.heap.size w)
 have H := h
 unfold ip_last.f at H
 clear h
 by_cases c2 : 0 < (l0.length : Int)
 ·rw [if_pos c2] at H
  have c2b0 := decide_eq_true c2
  have c2b1 : decide (0 < l0.length) = true := decide_eq_true (by omega)
  clear c2
  by_cases c3 : 1 < (l0.length : Int)
  ·rw [if_pos c3] at H
   have c3b0 := decide_eq_true c3
   have c3b1 : decide (1 < l0.length) = true := decide_eq_true (by omega)
   clear c3
   by_cases c4 : 2 < (l0.length : Int)
   ·rw [if_pos c4] at H
    have c4b0 := decide_eq_true c4
    have c4b1 : decide (2 < l0.length) = true := decide_eq_true (by omega)
    clear c4
    by_cases c5 : 3 < (l0.length : Int)
    ·rw [if_pos c5] at H
     have c5b0 := decide_eq_true c5
     have c5b1 : decide (3 < l0.length) = true := decide_eq_true (by omega)
     clear c5
     replace H := Option.bind_eq_some_iff.mp H
     obtain ⟨⟨t390, t391, t392, t393, t394, t395, t396, t397, t398, t399, t400, t401, t402, t403, t404, t405, t406⟩, A60, H⟩ := H
     (try dsimp only at H)
     have A6 := Aside0.mk A60
     clear A60
     simp only [Option.some.injEq, Prod.mk.injEq] at H
     obtain ⟨rfl, rfl, rfl, rfl, rfl, rfl, rfl, rfl, rfl, rfl, rfl, rfl, rfl, rfl, rfl, rfl, rfl⟩ := H
     go_enter Tryz.func57, Tryz.ntmps57
     try go_wp2_with (first | ((with_reducible refine gate_dst (N := 2) rfl ?_); refine bx_ 2 az_ 24 ?_; intro gb385 hg w7 hbox hb; have BK385 := Aside0.mk (hbox); have GW385 := Aside0.mk (ge_ (w := w) hg); have GE385 := Aside0.mk (ge_ (w := w) hg); replace HB := Aside0.mk (below_step bq_ hb); clear hb hbox hg))
     replace BK385 := Aside0.mk (blk_drew BK385.out)
     replace HB := Aside0.mk (below_drew1 HB.out)
     have p386 : 0 ≤ (0 : Int) := (by omega)
     have q386 : 0 < (l0.length : Int) := of_decide_eq_true as_
     obtain ⟨ad386, e386, hx386_0⟩ := Kd.at_int HR0.out 0 p386 q386
     have hw386_0 := hx386_0
     (try rw [show ((0 : Int)).toNat = 0 from rfl] at hw386_0)
     (try rw [show 0 * 1 = 0 from rfl] at hw386_0)
     (try rw [Addr.add_zero'] at hw386_0)
     cases e386
     have qi386 : (0 < l0.length) = True := eq_true (by omega)
     (try rw [show ((0 : Int)).toNat = 0 from rfl] at hx386_0)
     (try rw [Addr.add_zero'] at hx386_0)
     replace hx386_0 := (HB.out.cell (World.block_lt_of_cell? w _ hx386_0)).trans hx386_0
     replace p386 := eq_true p386
     replace q386 := eq_true q386
     have p387 : 0 ≤ (1 : Int) := (by omega)
     have q387 : 1 < (l0.length : Int) := of_decide_eq_true as_
     obtain ⟨ad387, e387, hx387_0⟩ := Kd.at_int HR0.out 1 p387 q387
     have hw387_0 := hx387_0
     (try rw [show ((1 : Int)).toNat = 1 from rfl] at hw387_0)
     (try rw [show 1 * 1 = 1 from rfl] at hw387_0)
     (try simp only [Nat.reduceMul, Nat.reduceEqDiff, Go.Addr.add, ↓reduceIte] at hw387_0)
     obtain rfl : ad386 = ad387 := (by injection e387)
     (try simp only [show (1 : Int).toNat = 1 from rfl, Nat.reduceMul, Nat.reduceEqDiff, Go.Addr.add, ↓reduceIte] at hx387_0)
     have qi387 : (1 < l0.length) = True := eq_true (by omega)
     (try rw [show ((1 : Int)).toNat = 1 from rfl] at hx387_0)
     replace hx387_0 := (HB.out.cell (World.block_lt_of_cell? w _ hx387_0)).trans hx387_0
     replace p387 := eq_true p387
     replace q387 := eq_true q387
     have p388 : 0 ≤ (2 : Int) := (by omega)
     have q388 : 2 < (l0.length : Int) := of_decide_eq_true as_
     obtain ⟨ad388, e388, hx388_0⟩ := Kd.at_int HR0.out 2 p388 q388
     have hw388_0 := hx388_0
     (try rw [show ((2 : Int)).toNat = 2 from rfl] at hw388_0)
     (try rw [show 2 * 1 = 2 from rfl] at hw388_0)
     (try simp only [Nat.reduceMul, Nat.reduceEqDiff, Go.Addr.add, ↓reduceIte] at hw388_0)
     obtain rfl : ad386 = ad388 := (by injection e388)
     (try simp only [show (2 : Int).toNat = 2 from rfl, Nat.reduceMul, Nat.reduceEqDiff, Go.Addr.add, ↓reduceIte] at hx388_0)
     have qi388 : (2 < l0.length) = True := eq_true (by omega)
     (try rw [show ((2 : Int)).toNat = 2 from rfl] at hx388_0)
     replace hx388_0 := (HB.out.cell (World.block_lt_of_cell? w _ hx388_0)).trans hx388_0
     replace p388 := eq_true p388
     replace q388 := eq_true q388
     have p389 : 0 ≤ (3 : Int) := (by omega)
     have q389 : 3 < (l0.length : Int) := of_decide_eq_true as_
     obtain ⟨ad389, e389, hx389_0⟩ := Kd.at_int HR0.out 3 p389 q389
     have hw389_0 := hx389_0
     (try rw [show ((3 : Int)).toNat = 3 from rfl] at hw389_0)
     (try rw [show 3 * 1 = 3 from rfl] at hw389_0)
     (try simp only [Nat.reduceMul, Nat.reduceEqDiff, Go.Addr.add, ↓reduceIte] at hw389_0)
     obtain rfl : ad386 = ad389 := (by injection e389)
     (try simp only [show (3 : Int).toNat = 3 from rfl, Nat.reduceMul, Nat.reduceEqDiff, Go.Addr.add, ↓reduceIte] at hx389_0)
     have qi389 : (3 < l0.length) = True := eq_true (by omega)
     (try rw [show ((3 : Int)).toNat = 3 from rfl] at hx389_0)
     replace hx389_0 := (HB.out.cell (World.block_lt_of_cell? w _ hx389_0)).trans hx389_0
     replace p389 := eq_true p389
     replace q389 := eq_true q389
     refine start_ (n := 14) (S := fun w' => w'.cell? ad386 = some (.int .u8 (rd l0 0)) ∧ w'.cell? ⟨ad386.block, ad386.off + 1, none⟩ = some (.int .u8 (rd l0 1)) ∧ w'.cell? ⟨ad386.block, ad386.off + 2, none⟩ = some (.int .u8 (rd l0 2)) ∧ w'.cell? ⟨ad386.block, ad386.off + 3, none⟩ = some (.int .u8 (rd l0 3))) (ds := []) (bv_ 0 14) (by kernel_rfl) rfl rfl ⟨((HB.out.cell (World.block_lt_of_cell? w _ hw386_0)).trans hw386_0), ((HB.out.cell (World.block_lt_of_cell? w _ hw387_0)).trans hw387_0), ((HB.out.cell (World.block_lt_of_cell? w _ hw388_0)).trans hw388_0), ((HB.out.cell (World.block_lt_of_cell? w _ hw389_0)).trans hw389_0)⟩ (fun hHeld => ?_); refine with_tabW ip_last.tab1 ip_last.bits1 (fun HT_ HW_ => ?_)
     generalize w7.drew = w8 at BK385 HB hx386_0 hx387_0 hx388_0 hx389_0 hHeld ⊢
     refine pl_ 0 3 ?_ 1 13 HT_ ?_ ?_ ?_ ?_
     rotate_left
     ·intro w'
      go_simp
      with_reducible rfl
     rotate_left
     ·simp only [Act.put, sa_, s0_, s1_, i64_w, i32_w]
      rfl
     refine pl_ 1 4 ?_ 2 12 HT_ ?_ ?_ ?_ ?_
     rotate_left
     ·intro w'
      go_simp
      with_reducible rfl
     rotate_left
     ·simp only [Act.put, sa_, s0_, s1_, i64_w, i32_w]
      rfl
     refine pure_ (i := 3) (N := some 6) (v := ?_) (a' := ?_) #[true, true, false, true, false, false, false, false, false, false, false, false, false, false] rfl rfl (any_of HT_.out (by kernel_rfl)) (fun _ _ _ h => h) (Or.inl ⟨by rfl, ?_⟩) ?_ ?_
     rotate_left
     ·intro w'
      go_simp
      with_reducible rfl
     rotate_left
     ·simp only [Act.put, sa_, s0_, s1_, i64_w, i32_w]
      rfl
     refine pure_ (i := 4) (N := some 7) (v := ?_) (a' := ?_) #[true, true, false, true, true, false, false, false, false, false, false, false, false, false] rfl rfl (any_of HT_.out (by kernel_rfl)) (fun _ _ _ h => h) (Or.inl ⟨by rfl, ?_⟩) ?_ ?_
     rotate_left
     ·intro w'
      go_simp
      with_reducible rfl
     rotate_left
     ·simp only [Act.put, sa_, s0_, s1_, i64_w, i32_w]
      rfl
     refine pure_ (i := 6) (N := some 9) (v := ?_) (a' := ?_) #[true, true, false, true, true, false, true, false, false, false, false, false, false, false] rfl rfl (any_of HT_.out (by kernel_rfl)) (fun _ _ _ h => h) (Or.inl ⟨by rfl, ?_⟩) ?_ ?_
     rotate_left
     ·intro w'
      go_simp
      with_reducible rfl
     rotate_left
     ·simp only [Act.put, sa_, s0_, s1_, i64_w, i32_w]
      rfl
     refine pure_ (i := 7) (N := some 10) (v := ?_) (a' := ?_) #[true, true, false, true, true, false, true, true, false, false, false, false, false, false] rfl rfl (any_of HT_.out (by kernel_rfl)) (fun _ _ _ h => h) (Or.inl ⟨by rfl, ?_⟩) ?_ ?_
     rotate_left
     ·intro w'
      go_simp
      with_reducible rfl
     rotate_left
     ·simp only [Act.put, sa_, s0_, s1_, i64_w, i32_w]
      rfl
     refine pure_ (i := 9) (N := some 12) (v := ?_) (a' := ?_) #[true, true, false, true, true, false, true, true, false, true, false, false, false, false] rfl rfl (any_of HT_.out (by kernel_rfl)) (fun _ _ _ h => h) (Or.inl ⟨by rfl, ?_⟩) ?_ ?_
     rotate_left
     ·intro w'
      go_simp
      with_reducible rfl
     rotate_left
     ·simp only [Act.put, sa_, s0_, s1_, i64_w, i32_w]
      rfl
     refine pure_ (i := 10) (N := some 13) (v := ?_) (a' := ?_) #[true, true, false, true, true, false, true, true, false, true, true, false, false, false] rfl rfl (any_of HT_.out (by kernel_rfl)) (fun _ _ _ h => h) (Or.inl ⟨by rfl, ?_⟩) ?_ ?_
     rotate_left
     ·intro w'
      go_simp
      with_reducible rfl
     rotate_left
     ·simp only [Act.put, sa_, s0_, s1_, i64_w, i32_w]
      rfl
     refine take_ (i := 2) (N := some 5) (v := ?_) (a' := ?_) #[true, true, true, true, true, false, true, true, false, true, true, false, false, false] rfl rfl (take_ofW HT_.out HW_.out (by kernel_rfl)) (fun _ _ _ h => h) (Or.inl ⟨by rfl, ?_⟩) hHeld ?_ ?_
     rotate_left
     ·rintro w' ⟨s0, s1, s2, s3⟩
      go_simp
      with_reducible rfl
     rotate_left
     ·simp only [Act.put, sa_, s0_, s1_, i64_w, i32_w]
      rfl
     refine take_ (i := 5) (N := some 8) (v := ?_) (a' := ?_) #[true, true, true, true, true, true, true, true, false, true, true, false, false, false] rfl rfl (take_ofW HT_.out HW_.out (by kernel_rfl)) (fun _ _ _ h => h) (Or.inl ⟨by rfl, ?_⟩) hHeld ?_ ?_
     rotate_left
     ·rintro w' ⟨s0, s1, s2, s3⟩
      go_simp
      with_reducible rfl
     rotate_left
     ·simp only [Act.put, sa_, s0_, s1_, i64_w, i32_w]
      rfl
     refine tl_ 8 11 ?_ 11 3 HT_ HW_ ?_ hHeld ?_ ?_ ?_
     rotate_left
     ·rintro w' ⟨s0, s1, s2, s3⟩
      go_simp
      with_reducible rfl
     rotate_left
     ·simp only [Act.put, sa_, s0_, s1_, i64_w, i32_w]
      rfl
     refine tl_ 11 14 ?_ 12 2 HT_ HW_ ?_ hHeld ?_ ?_ ?_
     rotate_left
     ·rintro w' ⟨s0, s1, s2, s3⟩
      go_simp
      with_reducible rfl
     rotate_left
     ·simp only [Act.put, sa_, s0_, s1_, i64_w, i32_w]
      rfl
     refine one_ (i := 12) (N := some 15) (bv_ 13 1) rfl rfl (one_of HT_.out (by kernel_rfl)) (by decide) (fun K hK => ?_)
     refine goes_ Tryz.func31 (by kernel_rfl) rfl #[.int .u8 (rd l0 0), .int .u8 (rd l0 1), .int .u8 (rd l0 2), .int .u8 (rd l0 3)] (by rfl) rfl rfl lq_ ?_
     with_reducible refine (ip_V4.calls (rd l0 0) (rd l0 1) (rd l0 2) (rd l0 3) t390 t391 t392 t393 t394 t395 t396 t397 t398 t399 t400 t401 t402 t403 t404 t405 t406 _ ?side1 A6.out).mono ?_
     (case side1 => exact lg_)
     rintro e w9 ⟨rfl, hb⟩
     refine ⟨_, rfl, ?_⟩
     replace BK385 := Aside0.mk (bb_ BK385 hb)
     replace HB := Aside0.mk (below_step bg_ hb)
     (try clear hb)
     (try clear hb2)
     (try clear hk)
     (try clear hi)
     refine hK.out _ _ ⟨((HB.out.cell (World.block_lt_of_cell? w _ hw386_0)).trans hw386_0), ((HB.out.cell (World.block_lt_of_cell? w _ hw387_0)).trans hw387_0), ((HB.out.cell (World.block_lt_of_cell? w _ hw388_0)).trans hw388_0), ((HB.out.cell (World.block_lt_of_cell? w _ hw389_0)).trans hw389_0)⟩ (fun hHeld => ?_)
     clear hK K
     refine norm_ (a' := ?_) ?_ ?_
     rotate_left
     ·show Act.put _ (some 15) _ = _
      simp only [Act.put, sa_, s0_, s1_, i64_w, i32_w]
      rfl
     refine one_ (i := 13) (N := none) (bv_ 14 0) rfl rfl (one_of HT_.out (by kernel_rfl)) (by decide) (fun K hK => ?_)
     have hs10 : w9.cell? ⟨gb385, 0, none⟩ = some (.bool false) := (blk_cell BK385.out 0).trans rfl
     have hfs10 := bf_ BK385 0
     have hs11 : w9.cell? ⟨gb385, 1, none⟩ = some (.int .u8 0) := (blk_cell BK385.out 1).trans rfl
     have hfs11 := bf_ BK385 1
     have hs12 : w9.cell? ⟨gb385, 2, none⟩ = some (.int .u8 0) := (blk_cell BK385.out 2).trans rfl
     have hfs12 := bf_ BK385 2
     have hs13 : w9.cell? ⟨gb385, 3, none⟩ = some (.int .u8 0) := (blk_cell BK385.out 3).trans rfl
     have hfs13 := bf_ BK385 3
     have hs14 : w9.cell? ⟨gb385, 4, none⟩ = some (.int .u8 0) := (blk_cell BK385.out 4).trans rfl
     have hfs14 := bf_ BK385 4
     have hs15 : w9.cell? ⟨gb385, 5, none⟩ = some (.int .u8 0) := (blk_cell BK385.out 5).trans rfl
     have hfs15 := bf_ BK385 5
     have hs16 : w9.cell? ⟨gb385, 6, none⟩ = some (.int .u8 0) := (blk_cell BK385.out 6).trans rfl
     have hfs16 := bf_ BK385 6
     have hs17 : w9.cell? ⟨gb385, 7, none⟩ = some (.int .u8 0) := (blk_cell BK385.out 7).trans rfl
     have hfs17 := bf_ BK385 7
     have hs18 : w9.cell? ⟨gb385, 8, none⟩ = some (.int .u8 0) := (blk_cell BK385.out 8).trans rfl
     have hfs18 := bf_ BK385 8
     have hs19 : w9.cell? ⟨gb385, 9, none⟩ = some (.int .u8 0) := (blk_cell BK385.out 9).trans rfl
     have hfs19 := bf_ BK385 9
     have hs20 : w9.cell? ⟨gb385, 10, none⟩ = some (.int .u8 0) := (blk_cell BK385.out 10).trans rfl
     have hfs20 := bf_ BK385 10
     have hs21 : w9.cell? ⟨gb385, 11, none⟩ = some (.int .u8 0) := (blk_cell BK385.out 11).trans rfl
     have hfs21 := bf_ BK385 11
     have hs22 : w9.cell? ⟨gb385, 12, none⟩ = some (.int .u8 0) := (blk_cell BK385.out 12).trans rfl
     have hfs22 := bf_ BK385 12
     have hs23 : w9.cell? ⟨gb385, 13, none⟩ = some (.int .u8 0) := (blk_cell BK385.out 13).trans rfl
     have hfs23 := bf_ BK385 13
     have hs24 : w9.cell? ⟨gb385, 14, none⟩ = some (.int .u8 0) := (blk_cell BK385.out 14).trans rfl
     have hfs24 := bf_ BK385 14
     have hs25 : w9.cell? ⟨gb385, 15, none⟩ = some (.int .u8 0) := (blk_cell BK385.out 15).trans rfl
     have hfs25 := bf_ BK385 15
     have hs26 : w9.cell? ⟨gb385, 16, none⟩ = some (.int .u8 0) := (blk_cell BK385.out 16).trans rfl
     have hfs26 := bf_ BK385 16
     refine skip_ (w1 := ?_) (by rfl) rfl ?_ ?_
     rotate_left
     ·go_simp
      rfl
     refine hK.out _ _ ⟨((cell_far (p := ⟨gb385, _, none⟩) (by exact nf_ hw386_0 GW385.out) _).trans (((cell_far (p := ⟨gb385, _, none⟩) (by exact nf_ hw386_0 GW385.out) _).trans (((cell_far (p := ⟨gb385, _, none⟩) (by exact nf_ hw386_0 GW385.out) _).trans (((cell_far (p := ⟨gb385, _, none⟩) (by exact nf_ hw386_0 GW385.out) _).trans (((cell_far (p := ⟨gb385, _, none⟩) (by exact nf_ hw386_0 GW385.out) _).trans (((cell_far (p := ⟨gb385, _, none⟩) (by exact nf_ hw386_0 GW385.out) _).trans (((cell_far (p := ⟨gb385, _, none⟩) (by exact nf_ hw386_0 GW385.out) _).trans (((cell_far (p := ⟨gb385, _, none⟩) (by exact nf_ hw386_0 GW385.out) _).trans (((cell_far (p := ⟨gb385, _, none⟩) (by exact nf_ hw386_0 GW385.out) _).trans (((cell_far (p := ⟨gb385, _, none⟩) (by exact nf_ hw386_0 GW385.out) _).trans (((cell_far (p := ⟨gb385, _, none⟩) (by exact nf_ hw386_0 GW385.out) _).trans (((cell_far (p := ⟨gb385, _, none⟩) (by exact nf_ hw386_0 GW385.out) _).trans (((cell_far (p := ⟨gb385, _, none⟩) (by exact nf_ hw386_0 GW385.out) _).trans (((cell_far (p := ⟨gb385, _, none⟩) (by exact nf_ hw386_0 GW385.out) _).trans (((cell_far (p := ⟨gb385, _, none⟩) (by exact nf_ hw386_0 GW385.out) _).trans (((cell_far (p := ⟨gb385, _, none⟩) (by exact nf_ hw386_0 GW385.out) _).trans (((cell_far (p := ⟨gb385, _, none⟩) (by exact nf_ hw386_0 GW385.out) _).trans (hHeld.1)))))))))))))))))))))))))))))))))), ((cell_far (p := ⟨gb385, _, none⟩) (by exact nf_ hw387_0 GW385.out) _).trans (((cell_far (p := ⟨gb385, _, none⟩) (by exact nf_ hw387_0 GW385.out) _).trans (((cell_far (p := ⟨gb385, _, none⟩) (by exact nf_ hw387_0 GW385.out) _).trans (((cell_far (p := ⟨gb385, _, none⟩) (by exact nf_ hw387_0 GW385.out) _).trans (((cell_far (p := ⟨gb385, _, none⟩) (by exact nf_ hw387_0 GW385.out) _).trans (((cell_far (p := ⟨gb385, _, none⟩) (by exact nf_ hw387_0 GW385.out) _).trans (((cell_far (p := ⟨gb385, _, none⟩) (by exact nf_ hw387_0 GW385.out) _).trans (((cell_far (p := ⟨gb385, _, none⟩) (by exact nf_ hw387_0 GW385.out) _).trans (((cell_far (p := ⟨gb385, _, none⟩) (by exact nf_ hw387_0 GW385.out) _).trans (((cell_far (p := ⟨gb385, _, none⟩) (by exact nf_ hw387_0 GW385.out) _).trans (((cell_far (p := ⟨gb385, _, none⟩) (by exact nf_ hw387_0 GW385.out) _).trans (((cell_far (p := ⟨gb385, _, none⟩) (by exact nf_ hw387_0 GW385.out) _).trans (((cell_far (p := ⟨gb385, _, none⟩) (by exact nf_ hw387_0 GW385.out) _).trans (((cell_far (p := ⟨gb385, _, none⟩) (by exact nf_ hw387_0 GW385.out) _).trans (((cell_far (p := ⟨gb385, _, none⟩) (by exact nf_ hw387_0 GW385.out) _).trans (((cell_far (p := ⟨gb385, _, none⟩) (by exact nf_ hw387_0 GW385.out) _).trans (((cell_far (p := ⟨gb385, _, none⟩) (by exact nf_ hw387_0 GW385.out) _).trans (hHeld.2.1)))))))))))))))))))))))))))))))))), ((cell_far (p := ⟨gb385, _, none⟩) (by exact nf_ hw388_0 GW385.out) _).trans (((cell_far (p := ⟨gb385, _, none⟩) (by exact nf_ hw388_0 GW385.out) _).trans (((cell_far (p := ⟨gb385, _, none⟩) (by exact nf_ hw388_0 GW385.out) _).trans (((cell_far (p := ⟨gb385, _, none⟩) (by exact nf_ hw388_0 GW385.out) _).trans (((cell_far (p := ⟨gb385, _, none⟩) (by exact nf_ hw388_0 GW385.out) _).trans (((cell_far (p := ⟨gb385, _, none⟩) (by exact nf_ hw388_0 GW385.out) _).trans (((cell_far (p := ⟨gb385, _, none⟩) (by exact nf_ hw388_0 GW385.out) _).trans (((cell_far (p := ⟨gb385, _, none⟩) (by exact nf_ hw388_0 GW385.out) _).trans (((cell_far (p := ⟨gb385, _, none⟩) (by exact nf_ hw388_0 GW385.out) _).trans (((cell_far (p := ⟨gb385, _, none⟩) (by exact nf_ hw388_0 GW385.out) _).trans (((cell_far (p := ⟨gb385, _, none⟩) (by exact nf_ hw388_0 GW385.out) _).trans (((cell_far (p := ⟨gb385, _, none⟩) (by exact nf_ hw388_0 GW385.out) _).trans (((cell_far (p := ⟨gb385, _, none⟩) (by exact nf_ hw388_0 GW385.out) _).trans (((cell_far (p := ⟨gb385, _, none⟩) (by exact nf_ hw388_0 GW385.out) _).trans (((cell_far (p := ⟨gb385, _, none⟩) (by exact nf_ hw388_0 GW385.out) _).trans (((cell_far (p := ⟨gb385, _, none⟩) (by exact nf_ hw388_0 GW385.out) _).trans (((cell_far (p := ⟨gb385, _, none⟩) (by exact nf_ hw388_0 GW385.out) _).trans (hHeld.2.2.1)))))))))))))))))))))))))))))))))), ((cell_far (p := ⟨gb385, _, none⟩) (by exact nf_ hw389_0 GW385.out) _).trans (((cell_far (p := ⟨gb385, _, none⟩) (by exact nf_ hw389_0 GW385.out) _).trans (((cell_far (p := ⟨gb385, _, none⟩) (by exact nf_ hw389_0 GW385.out) _).trans (((cell_far (p := ⟨gb385, _, none⟩) (by exact nf_ hw389_0 GW385.out) _).trans (((cell_far (p := ⟨gb385, _, none⟩) (by exact nf_ hw389_0 GW385.out) _).trans (((cell_far (p := ⟨gb385, _, none⟩) (by exact nf_ hw389_0 GW385.out) _).trans (((cell_far (p := ⟨gb385, _, none⟩) (by exact nf_ hw389_0 GW385.out) _).trans (((cell_far (p := ⟨gb385, _, none⟩) (by exact nf_ hw389_0 GW385.out) _).trans (((cell_far (p := ⟨gb385, _, none⟩) (by exact nf_ hw389_0 GW385.out) _).trans (((cell_far (p := ⟨gb385, _, none⟩) (by exact nf_ hw389_0 GW385.out) _).trans (((cell_far (p := ⟨gb385, _, none⟩) (by exact nf_ hw389_0 GW385.out) _).trans (((cell_far (p := ⟨gb385, _, none⟩) (by exact nf_ hw389_0 GW385.out) _).trans (((cell_far (p := ⟨gb385, _, none⟩) (by exact nf_ hw389_0 GW385.out) _).trans (((cell_far (p := ⟨gb385, _, none⟩) (by exact nf_ hw389_0 GW385.out) _).trans (((cell_far (p := ⟨gb385, _, none⟩) (by exact nf_ hw389_0 GW385.out) _).trans (((cell_far (p := ⟨gb385, _, none⟩) (by exact nf_ hw389_0 GW385.out) _).trans (((cell_far (p := ⟨gb385, _, none⟩) (by exact nf_ hw389_0 GW385.out) _).trans (hHeld.2.2.2))))))))))))))))))))))))))))))))))⟩ (fun hHeld => ?_)
     clear hK K
     refine done_ (done_of HT_.out (by kernel_rfl)) ?_
     try go_wp2
     refine bodyPost_ret (results_cell_row rfl _ _ gb385 24 (ag_ t390 t391 t392 t393 t394 t395 t396 t397 t398 t399 t400 t401 t402 t403 t404 t405 t406) (0, 0) _ rfl (by (with_reducible repeat (first | refine blk_drewN ?_ _ | refine blk_drew ?_ | refine blk_alloc ?_ _)); refine blk_put (cs := (ag_ t390 t391 t392 t393 t394 t395 t396 t397 t398 t399 t400 t401 t402 t403 t404 t405 0)) ?_ 16 _ rfl; (with_reducible repeat (first | refine blk_drewN ?_ _ | refine blk_drew ?_ | refine blk_alloc ?_ _)); refine blk_put (cs := (ag_ t390 t391 t392 t393 t394 t395 t396 t397 t398 t399 t400 t401 t402 t403 t404 0 0)) ?_ 15 _ rfl; (with_reducible repeat (first | refine blk_drewN ?_ _ | refine blk_drew ?_ | refine blk_alloc ?_ _)); refine blk_put (cs := (ag_ t390 t391 t392 t393 t394 t395 t396 t397 t398 t399 t400 t401 t402 t403 0 0 0)) ?_ 14 _ rfl; (with_reducible repeat (first | refine blk_drewN ?_ _ | refine blk_drew ?_ | refine blk_alloc ?_ _)); refine blk_put (cs := (ag_ t390 t391 t392 t393 t394 t395 t396 t397 t398 t399 t400 t401 t402 0 0 0 0)) ?_ 13 _ rfl; (with_reducible repeat (first | refine blk_drewN ?_ _ | refine blk_drew ?_ | refine blk_alloc ?_ _)); refine blk_put (cs := (ag_ t390 t391 t392 t393 t394 t395 t396 t397 t398 t399 t400 t401 0 0 0 0 0)) ?_ 12 _ rfl; (with_reducible repeat (first | refine blk_drewN ?_ _ | refine blk_drew ?_ | refine blk_alloc ?_ _)); refine blk_put (cs := (ag_ t390 t391 t392 t393 t394 t395 t396 t397 t398 t399 t400 0 0 0 0 0 0)) ?_ 11 _ rfl; (with_reducible repeat (first | refine blk_drewN ?_ _ | refine blk_drew ?_ | refine blk_alloc ?_ _)); refine blk_put (cs := (ag_ t390 t391 t392 t393 t394 t395 t396 t397 t398 t399 0 0 0 0 0 0 0)) ?_ 10 _ rfl; (with_reducible repeat (first | refine blk_drewN ?_ _ | refine blk_drew ?_ | refine blk_alloc ?_ _)); refine blk_put (cs := (ag_ t390 t391 t392 t393 t394 t395 t396 t397 t398 0 0 0 0 0 0 0 0)) ?_ 9 _ rfl; (with_reducible repeat (first | refine blk_drewN ?_ _ | refine blk_drew ?_ | refine blk_alloc ?_ _)); refine blk_put (cs := (ag_ t390 t391 t392 t393 t394 t395 t396 t397 0 0 0 0 0 0 0 0 0)) ?_ 8 _ rfl; (with_reducible repeat (first | refine blk_drewN ?_ _ | refine blk_drew ?_ | refine blk_alloc ?_ _)); refine blk_put (cs := (ag_ t390 t391 t392 t393 t394 t395 t396 0 0 0 0 0 0 0 0 0 0)) ?_ 7 _ rfl; (with_reducible repeat (first | refine blk_drewN ?_ _ | refine blk_drew ?_ | refine blk_alloc ?_ _)); refine blk_put (cs := (ag_ t390 t391 t392 t393 t394 t395 0 0 0 0 0 0 0 0 0 0 0)) ?_ 6 _ rfl; (with_reducible repeat (first | refine blk_drewN ?_ _ | refine blk_drew ?_ | refine blk_alloc ?_ _)); refine blk_put (cs := (ag_ t390 t391 t392 t393 t394 0 0 0 0 0 0 0 0 0 0 0 0)) ?_ 5 _ rfl; (with_reducible repeat (first | refine blk_drewN ?_ _ | refine blk_drew ?_ | refine blk_alloc ?_ _)); refine blk_put (cs := (ag_ t390 t391 t392 t393 0 0 0 0 0 0 0 0 0 0 0 0 0)) ?_ 4 _ rfl; (with_reducible repeat (first | refine blk_drewN ?_ _ | refine blk_drew ?_ | refine blk_alloc ?_ _)); refine blk_put (cs := (ag_ t390 t391 t392 0 0 0 0 0 0 0 0 0 0 0 0 0 0)) ?_ 3 _ rfl; (with_reducible repeat (first | refine blk_drewN ?_ _ | refine blk_drew ?_ | refine blk_alloc ?_ _)); refine blk_put (cs := (ag_ t390 t391 0 0 0 0 0 0 0 0 0 0 0 0 0 0 0)) ?_ 2 _ rfl; (with_reducible repeat (first | refine blk_drewN ?_ _ | refine blk_drew ?_ | refine blk_alloc ?_ _)); refine blk_put (cs := (ag_ t390 0 0 0 0 0 0 0 0 0 0 0 0 0 0 0 0)) ?_ 1 _ rfl; (with_reducible repeat (first | refine blk_drewN ?_ _ | refine blk_drew ?_ | refine blk_alloc ?_ _)); refine blk_put (cs := az_) ?_ 0 _ rfl; (with_reducible repeat (first | refine blk_drewN ?_ _ | refine blk_drew ?_ | refine blk_alloc ?_ _)); exact BK385.out) Tryz.underlying24 rfl (by kernel_rfl)) rfl ?_
     exact ⟨rq_, bg_⟩
    ·rw [if_neg c5] at H
     exact absurd H (by simp)
   ·rw [if_neg c4] at H
    exact absurd H (by simp)
  ·rw [if_neg c3] at H
   exact absurd H (by simp)
 ·rw [if_neg c2] at H
  exact absurd H (by simp)

def ip_Unmap.f (z0 : Bool) (z1 : Int) (z2 : Int) (z3 : Int) (z4 : Int) (z5 : Int) (z6 : Int) (z7 : Int) (z8 : Int) (z9 : Int) (za : Int) (zb : Int) (zc : Int) (zd : Int) (ze : Int) (zf : Int) (zg : Int) : Option (Bool × Int × Int × Int × Int × Int × Int × Int × Int × Int × Int × Int × Int × Int × Int × Int × Int) := (ip_mapped.f z0 z1 z2 z3 z4 z5 z6 z7 z8 z9 za zb zc zd ze zf zg).bind fun t409 => (if t409 = true then ((ip_last.f ([zd, ze, zf, zg] : List Int)).bind fun bt411 => (some (bt411.1, bt411.2.1, bt411.2.2.1, bt411.2.2.2.1, bt411.2.2.2.2.1, bt411.2.2.2.2.2.1, bt411.2.2.2.2.2.2.1, bt411.2.2.2.2.2.2.2.1, bt411.2.2.2.2.2.2.2.2.1, bt411.2.2.2.2.2.2.2.2.2.1, bt411.2.2.2.2.2.2.2.2.2.2.1, bt411.2.2.2.2.2.2.2.2.2.2.2.1, bt411.2.2.2.2.2.2.2.2.2.2.2.2.1, bt411.2.2.2.2.2.2.2.2.2.2.2.2.2.1, bt411.2.2.2.2.2.2.2.2.2.2.2.2.2.2.1, bt411.2.2.2.2.2.2.2.2.2.2.2.2.2.2.2.1, bt411.2.2.2.2.2.2.2.2.2.2.2.2.2.2.2.2))) else (some (z0, z1, z2, z3, z4, z5, z6, z7, z8, z9, za, zb, zc, zd, ze, zf, zg)))
set_option maxHeartbeats 8000000 in
set_option maxRecDepth 100000 in
theorem ip_Unmap.calls (z0 : Bool) (z1 : Int) (z2 : Int) (z3 : Int) (z4 : Int) (z5 : Int) (z6 : Int) (z7 : Int) (z8 : Int) (z9 : Int) (za : Int) (zb : Int) (zc : Int) (zd : Int) (ze : Int) (zf : Int) (zg : Int) (r1 : Bool) (r2 : Int) (r3 : Int) (r4 : Int) (r5 : Int) (r6 : Int) (r7 : Int) (r8 : Int) (r9 : Int) (r10 : Int) (r11 : Int) (r12 : Int) (r13 : Int) (r14 : Int) (r15 : Int) (r16 : Int) (r17 : Int) (w : World) (hLW : LW w) (h : ip_Unmap.f z0 z1 z2 z3 z4 z5 z6 z7 z8 z9 za zb zc zd ze zf zg = some (r1, r2, r3, r4, r5, r6, r7, r8, r9, r10, r11, r12, r13, r14, r15, r16, r17)) :
  Calls Tryz.prog 38 #[.agg (ag_ z0 z1 z2 z3 z4 z5 z6 z7 z8 z9 za zb zc zd ze zf zg)] w fun e w' => e = .returned (.agg (ag_ r1 r2 r3 r4 r5 r6 r7 r8 r9 r10 r11 r12 r13 r14 r15 r16 r17)) ∧ Below w.heap.size w w' := by
 have hu24 := Tryz.underlying24
 have HLW := Aside0.mk hLW
 clear hLW
 have HB := Aside0.mk (Below.refl w.heap.size w)
 have H := h
 unfold ip_Unmap.f at H
 clear h
 replace H := Option.bind_eq_some_iff.mp H
 obtain ⟨t409, A20, H⟩ := H
 (try dsimp only at H)
 have A2 := Aside0.mk A20
 clear A20
 by_cases c3 : t409 = true
 ·subst c3
  replace H := ifT_ H
  replace H := Option.bind_eq_some_iff.mp H
  obtain ⟨⟨t411, t412, t413, t414, t415, t416, t417, t418, t419, t420, t421, t422, t423, t424, t425, t426, t427⟩, A40, H⟩ := H
  (try dsimp only at H)
  have A4 := Aside0.mk A40
  clear A40
  simp only [Option.some.injEq, Prod.mk.injEq] at H
  obtain ⟨rfl, rfl, rfl, rfl, rfl, rfl, rfl, rfl, rfl, rfl, rfl, rfl, rfl, rfl, rfl, rfl, rfl⟩ := H
  go_enter Tryz.func38, Tryz.ntmps38
  go_wp2_with (first | ((with_reducible refine gate_dst (N := 1) rfl ?_); refine bx_ 1 (ag_ z0 z1 z2 z3 z4 z5 z6 z7 z8 z9 za zb zc zd ze zf zg) 24 ?_; intro gb407 hg w5 hbox hb; have BK407 := Aside0.mk (hbox); have GW407 := Aside0.mk (ge_ (w := w) hg); have GE407 := Aside0.mk (ge_ (w := w) hg); replace HB := Aside0.mk (below_step bq_ hb); clear hb hbox hg) | ((with_reducible refine gate_dst (N := 2) rfl ?_); refine bx_ 2 az_ 24 ?_; intro gb408 hg w6 hbox hb; have n0_ := Aside0.mk (bb_ BK407 hb); have n1_ := Aside0.mk (below_step bg_ hb); have n2_ := Aside0.mk (hbox); have n3_ := Aside0.mk (gg_ (w := w) hg); have n4_ := Aside0.mk (gg_ (w := w) hg); have n5_ := Aside0.mk (nl_ BK407 hg); have n6_ := Aside0.mk (ng_ BK407 hg); clear BK407; clear HB; have BK407 := n0_; have HB := n1_; have BK408 := n2_; have GW408 := n3_; have GE408 := n4_; have NB407_408 := n5_; have NB408_407 := n6_; clear n0_ n1_ n2_ n3_ n4_ n5_ n6_; clear hb hbox hg) | ((with_reducible refine gate_dst (N := 3) rfl ?_); (try (refine gate_guard (by rfl) ?_; dsimp only)); refine load_box ?hg 24 (.tmp 1) rfl BK407.out [] (al_ z0 z1 z2 z3 z4 z5 z6 z7 z8 z9 za zb zc zd ze zf zg) [] rfl 0 rfl rfl Tryz.underlying24 rfl (by kernel_rfl) ?_; (case hg => rfl)) | ((with_reducible refine gate_callee (f := 27) rfl ?_); refine goesL_ (some 4) rfl rfl Tryz.func27 (by kernel_rfl) rfl #[.agg (ag_ z0 z1 z2 z3 z4 z5 z6 z7 z8 z9 za zb zc zd ze zf zg)] rfl lq_ ?_; (with_reducible refine (ip_mapped.calls z0 z1 z2 z3 z4 z5 z6 z7 z8 z9 za zb zc zd ze zf zg true _ ?side1 A2.out).mono ?_); (case side1 => exact lg_); rintro e w7 ⟨rfl, hb⟩; refine ⟨_, rfl, ?_⟩; replace BK407 := Aside0.mk (bb_ BK407 hb); replace BK408 := Aside0.mk (bb_ BK408 hb); replace HB := Aside0.mk (below_step bg_ hb); (try clear hb); (try clear hb2); (try clear hk); (try clear hi); have HR410 := Aside0.mk (C_arr BK407.out .u8 [.bool z0, .int .u8 z1, .int .u8 z2, .int .u8 z3, .int .u8 z4, .int .u8 z5, .int .u8 z6, .int .u8 z7, .int .u8 z8, .int .u8 z9, .int .u8 za, .int .u8 zb, .int .u8 zc] [zd, ze, zf, zg] [] rfl (q := 13) rfl (by show 4 ≤ 9223372036854775807; decide)); have HC410 := Aside0.mk (show ([zd, ze, zf, zg] : List Int).length ≤ 4 from by show 4 ≤ 4; decide); have hl410 : ([zd, ze, zf, zg] : List Int).length = 4 := rfl) | ((with_reducible refine gate_callee (f := 57) rfl ?_); refine goesL_ (some 7) rfl rfl Tryz.func57 (by kernel_rfl) rfl #[.slice (some ⟨gb407, 13, none⟩) ([zd, ze, zf, zg] : List Int).length 4] rfl (by (try simp only [List.map_toArray, List.map_cons, List.map_nil]); first | done | (rw [show ([zd, ze, zf, zg] : List Int).length = 4 from rfl] <;> rfl) | rfl | (simp only [List.length_drop, List.length_take]; rfl)) ?_; (with_reducible refine (ip_last.calls _ _ ([zd, ze, zf, zg] : List Int) t411 t412 t413 t414 t415 t416 t417 t418 t419 t420 t421 t422 t423 t424 t425 t426 t427 _ ?side3 ?side1 ?side2 A4.out).mono ?_); (case side1 => repeat (first | exact (by repeat (first | (with_reducible exact HR410.out) | (with_reducible refine Kd.C_alloc ?_ _) | (with_reducible refine Kd.C_drewN ?_ _) | (with_reducible refine Kd.C_drew ?_) | exact HR410.out)) | (with_reducible refine Kd.C_alloc ?_ _) | (with_reducible refine Kd.C_drewN ?_ _) | (with_reducible refine Kd.C_drew ?_))); (case side2 => exact HC410.out); (case side3 => exact lg_); rintro e w8 ⟨rfl, hb⟩; refine ⟨_, rfl, ?_⟩; replace BK407 := Aside0.mk (bb_ BK407 hb); replace BK408 := Aside0.mk (bb_ BK408 hb); replace HR410 := Aside0.mk (cb_ HR410 hb); replace HB := Aside0.mk (below_step bg_ hb); (try clear hb); (try clear hb2); (try clear hk); (try clear hi); have hnb9 := NB408_407.out; have hnc9 := NB407_408.out; obtain ⟨hcz10_0, hcz10_1, hcz10_2, hcz10_3, hcz10_4, hcz10_5, hcz10_6, hcz10_7, hcz10_8, hcz10_9, hcz10_10, hcz10_11, hcz10_12, hcz10_13, hcz10_14, hcz10_15, hcz10_16⟩ := c17_ BK408; obtain ⟨hfz10_0, hfz10_1, hfz10_2, hfz10_3, hfz10_4, hfz10_5, hfz10_6, hfz10_7, hfz10_8, hfz10_9, hfz10_10, hfz10_11, hfz10_12, hfz10_13, hfz10_14, hfz10_15, hfz10_16⟩ := f17_ BK408) | ((with_reducible refine gate_store (t := 24) (p := 2) rfl ?_); refine store_all ?hg 24 2 _ rfl rfl gb408 ay_ (al_ t411 t412 t413 t414 t415 t416 t417 t418 t419 t420 t421 t422 t423 t424 t425 t426 t427) BK408.out rfl rfl rfl (by kernel_rfl) rfl ?_; (case hg => rfl); intro w11 hw; replace BK407 := Aside0.mk (sf_ BK407 NB407_408 hw); replace BK408 := Aside0.mk (show w11.heap[gb408]? = some (.cells (ag_ t411 t412 t413 t414 t415 t416 t417 t418 t419 t420 t421 t422 t423 t424 t425 t426 t427) 24 (0, 0)) from ss_ BK408 hw); replace HB := Aside0.mk (sb_ hw); clear hw))
  refine bodyPost_ret (results_cell_row rfl _ _ gb408 24 (ag_ t411 t412 t413 t414 t415 t416 t417 t418 t419 t420 t421 t422 t423 t424 t425 t426 t427) (0, 0) _ rfl bk_ Tryz.underlying24 rfl (by kernel_rfl)) rfl ?_
  exact ⟨rq_, bg_⟩
 ·replace c3 := Bool.eq_false_iff.mpr c3
  subst c3
  replace H := ifF_ H
  simp only [Option.some.injEq, Prod.mk.injEq] at H
  obtain ⟨rfl, rfl, rfl, rfl, rfl, rfl, rfl, rfl, rfl, rfl, rfl, rfl, rfl, rfl, rfl, rfl, rfl⟩ := H
  go_enter Tryz.func38, Tryz.ntmps38
  go_wp2_with (first | ((with_reducible refine gate_dst (N := 1) rfl ?_); refine bx_ 1 (ag_ z0 z1 z2 z3 z4 z5 z6 z7 z8 z9 za zb zc zd ze zf zg) 24 ?_; intro gb407 hg w12 hbox hb; have BK407 := Aside0.mk (hbox); have GW407 := Aside0.mk (ge_ (w := w) hg); have GE407 := Aside0.mk (ge_ (w := w) hg); replace HB := Aside0.mk (below_step bq_ hb); clear hb hbox hg) | ((with_reducible refine gate_dst (N := 2) rfl ?_); refine bx_ 2 az_ 24 ?_; intro gb408 hg w13 hbox hb; have n0_ := Aside0.mk (bb_ BK407 hb); have n1_ := Aside0.mk (below_step bg_ hb); have n2_ := Aside0.mk (hbox); have n3_ := Aside0.mk (gg_ (w := w) hg); have n4_ := Aside0.mk (gg_ (w := w) hg); have n5_ := Aside0.mk (nl_ BK407 hg); have n6_ := Aside0.mk (ng_ BK407 hg); clear BK407; clear HB; have BK407 := n0_; have HB := n1_; have BK408 := n2_; have GW408 := n3_; have GE408 := n4_; have NB407_408 := n5_; have NB408_407 := n6_; clear n0_ n1_ n2_ n3_ n4_ n5_ n6_; clear hb hbox hg) | ((with_reducible refine gate_dst (N := 3) rfl ?_); (try (refine gate_guard (by rfl) ?_; dsimp only)); refine load_box ?hg 24 (.tmp 1) rfl BK407.out [] (al_ z0 z1 z2 z3 z4 z5 z6 z7 z8 z9 za zb zc zd ze zf zg) [] rfl 0 rfl rfl Tryz.underlying24 rfl (by kernel_rfl) ?_; (case hg => rfl)) | ((with_reducible refine gate_callee (f := 27) rfl ?_); refine goesL_ (some 4) rfl rfl Tryz.func27 (by kernel_rfl) rfl #[.agg (ag_ z0 z1 z2 z3 z4 z5 z6 z7 z8 z9 za zb zc zd ze zf zg)] rfl lq_ ?_; (with_reducible refine (ip_mapped.calls z0 z1 z2 z3 z4 z5 z6 z7 z8 z9 za zb zc zd ze zf zg false _ ?side1 A2.out).mono ?_); (case side1 => exact lg_); rintro e w14 ⟨rfl, hb⟩; refine ⟨_, rfl, ?_⟩; replace BK407 := Aside0.mk (bb_ BK407 hb); replace BK408 := Aside0.mk (bb_ BK408 hb); replace HB := Aside0.mk (below_step bg_ hb); (try clear hb); (try clear hb2); (try clear hk); (try clear hi); have hnb15 := NB408_407.out; have hnc15 := NB407_408.out; obtain ⟨hcz16_0, hcz16_1, hcz16_2, hcz16_3, hcz16_4, hcz16_5, hcz16_6, hcz16_7, hcz16_8, hcz16_9, hcz16_10, hcz16_11, hcz16_12, hcz16_13, hcz16_14, hcz16_15, hcz16_16⟩ := c17_ BK408; obtain ⟨hfz16_0, hfz16_1, hfz16_2, hfz16_3, hfz16_4, hfz16_5, hfz16_6, hfz16_7, hfz16_8, hfz16_9, hfz16_10, hfz16_11, hfz16_12, hfz16_13, hfz16_14, hfz16_15, hfz16_16⟩ := f17_ BK408) | ((with_reducible refine gate_dst (N := 8) rfl ?_); (try (refine gate_guard (by rfl) ?_; dsimp only)); refine load_box ?hg 24 (.tmp 1) rfl BK407.out [] (al_ z0 z1 z2 z3 z4 z5 z6 z7 z8 z9 za zb zc zd ze zf zg) [] rfl 0 rfl rfl Tryz.underlying24 rfl (by kernel_rfl) ?_; (case hg => rfl)) | ((with_reducible refine gate_store (t := 24) (p := 2) rfl ?_); refine store_all ?hg 24 2 _ rfl rfl gb408 ay_ (al_ z0 z1 z2 z3 z4 z5 z6 z7 z8 z9 za zb zc zd ze zf zg) BK408.out rfl rfl rfl (by kernel_rfl) rfl ?_; (case hg => rfl); intro w17 hw; replace BK407 := Aside0.mk (sf_ BK407 NB407_408 hw); replace BK408 := Aside0.mk (show w17.heap[gb408]? = some (.cells (ag_ z0 z1 z2 z3 z4 z5 z6 z7 z8 z9 za zb zc zd ze zf zg) 24 (0, 0)) from ss_ BK408 hw); replace HB := Aside0.mk (sb_ hw); clear hw))
  refine bodyPost_ret (results_cell_row rfl _ _ gb408 24 (ag_ z0 z1 z2 z3 z4 z5 z6 z7 z8 z9 za zb zc zd ze zf zg) (0, 0) _ rfl bk_ Tryz.underlying24 rfl (by kernel_rfl)) rfl ?_
  exact ⟨rq_, bg_⟩

def ip_Embeds.f (z0 : Bool) (z1 : Int) (z2 : Int) (z3 : Int) (z4 : Int) (z5 : Int) (z6 : Int) (z7 : Int) (z8 : Int) (z9 : Int) (za : Int) (zb : Int) (zc : Int) (zd : Int) (ze : Int) (zf : Int) (zg : Int) : Option (Bool × Int × Int × Int × Int × Int × Int × Int × Int × Int × Int × Int × Int × Int × Int × Int × Int × Bool) := if z0 = true then (none) else (some (false, 0, 0, 0, 0, 0, 0, 0, 0, 0, 0, 0, 0, 0, 0, 0, 0, false))
set_option maxHeartbeats 8000000 in
set_option maxRecDepth 100000 in
theorem ip_Embeds.calls (z0 : Bool) (z1 : Int) (z2 : Int) (z3 : Int) (z4 : Int) (z5 : Int) (z6 : Int) (z7 : Int) (z8 : Int) (z9 : Int) (za : Int) (zb : Int) (zc : Int) (zd : Int) (ze : Int) (zf : Int) (zg : Int) (r1 : Bool) (r2 : Int) (r3 : Int) (r4 : Int) (r5 : Int) (r6 : Int) (r7 : Int) (r8 : Int) (r9 : Int) (r10 : Int) (r11 : Int) (r12 : Int) (r13 : Int) (r14 : Int) (r15 : Int) (r16 : Int) (r17 : Int) (r18 : Bool) (w : World) (hLW : LW w) (h : ip_Embeds.f z0 z1 z2 z3 z4 z5 z6 z7 z8 z9 za zb zc zd ze zf zg = some (r1, r2, r3, r4, r5, r6, r7, r8, r9, r10, r11, r12, r13, r14, r15, r16, r17, r18)) :
  Calls Tryz.prog 41 #[.agg (ag_ z0 z1 z2 z3 z4 z5 z6 z7 z8 z9 za zb zc zd ze zf zg)] w fun e w' => e = .returned (.tuple #[.agg (ag_ r1 r2 r3 r4 r5 r6 r7 r8 r9 r10 r11 r12 r13 r14 r15 r16 r17), .bool r18]) ∧ Below w.heap.size w w' := by
 have hu24 := Tryz.underlying24
 have HLW := Aside0.mk hLW
 clear hLW
 have HB := Aside0.mk (Below.refl w.heap.size w)
 have H := h
 unfold ip_Embeds.f at H
 clear h
 by_cases c2 : z0 = true
 ·subst c2
  replace H := ifT_ H
  exact absurd H (by simp)
 ·replace c2 := Bool.eq_false_iff.mpr c2
  subst c2
  replace H := ifF_ H
  simp only [Option.some.injEq, Prod.mk.injEq] at H
  obtain ⟨rfl, rfl, rfl, rfl, rfl, rfl, rfl, rfl, rfl, rfl, rfl, rfl, rfl, rfl, rfl, rfl, rfl, rfl⟩ := H
  go_enter Tryz.func41, Tryz.ntmps41
  go_wp2_with (first | ((with_reducible refine gate_dst (N := 1) rfl ?_); refine bx_ 1 (ag_ false z1 z2 z3 z4 z5 z6 z7 z8 z9 za zb zc zd ze zf zg) 24 ?_; intro gb428 hg w3 hbox hb; have BK428 := Aside0.mk (hbox); have GW428 := Aside0.mk (ge_ (w := w) hg); have GE428 := Aside0.mk (ge_ (w := w) hg); replace HB := Aside0.mk (below_step bq_ hb); clear hb hbox hg) | ((with_reducible refine gate_dst (N := 2) rfl ?_); refine bx_ 2 az_ 24 ?_; intro gb429 hg w4 hbox hb; have n0_ := Aside0.mk (bb_ BK428 hb); have n1_ := Aside0.mk (below_step bg_ hb); have n2_ := Aside0.mk (hbox); have n3_ := Aside0.mk (gg_ (w := w) hg); have n4_ := Aside0.mk (gg_ (w := w) hg); have n5_ := Aside0.mk (nl_ BK428 hg); have n6_ := Aside0.mk (ng_ BK428 hg); clear BK428; clear HB; have BK428 := n0_; have HB := n1_; have BK429 := n2_; have GW429 := n3_; have GE429 := n4_; have NB428_429 := n5_; have NB429_428 := n6_; clear n0_ n1_ n2_ n3_ n4_ n5_ n6_; clear hb hbox hg; have HR430 := Aside0.mk (C_arr BK428.out .u8 [.bool false] [z1, z2, z3, z4, z5, z6, z7, z8, z9, za, zb, zc] [.int .u8 zd, .int .u8 ze, .int .u8 zf, .int .u8 zg] rfl (q := 1) rfl (by show 12 ≤ 9223372036854775807; decide)); have HC430 := Aside0.mk (show ([z1, z2, z3, z4, z5, z6, z7, z8, z9, za, zb, zc] : List Int).length ≤ 16 from by show 12 ≤ 16; decide); have hl430 : ([z1, z2, z3, z4, z5, z6, z7, z8, z9, za, zb, zc] : List Int).length = 12 := rfl; have hcv5 := Kd.C_string (P := Tryz.prog) (A := (some ⟨gb428, 1, none⟩)) (c := 16) Tryz.underlying60 Tryz.underlying5 Tryz.underlying9 (by repeat (first | (with_reducible exact HR430.out) | (with_reducible refine Kd.C_alloc ?_ _) | (with_reducible refine Kd.C_drewN ?_ _) | (with_reducible refine Kd.C_drew ?_) | exact HR430.out)); have hcv5b := hcv5; rw [show ([z1, z2, z3, z4, z5, z6, z7, z8, z9, za, zb, zc] : List Int).length = 12 from rfl] at hcv5b; have hnb6 := NB428_429.out; have hnc6 := NB429_428.out; obtain ⟨hcz7_0, hcz7_1, hcz7_2, hcz7_3, hcz7_4, hcz7_5, hcz7_6, hcz7_7, hcz7_8, hcz7_9, hcz7_10, hcz7_11, hcz7_12, hcz7_13, hcz7_14, hcz7_15, hcz7_16⟩ := c17_ BK428; obtain ⟨hfz7_0, hfz7_1, hfz7_2, hfz7_3, hfz7_4, hfz7_5, hfz7_6, hfz7_7, hfz7_8, hfz7_9, hfz7_10, hfz7_11, hfz7_12, hfz7_13, hfz7_14, hfz7_15, hfz7_16⟩ := f17_ BK428; obtain ⟨hcz8_0, hcz8_1, hcz8_2, hcz8_3, hcz8_4, hcz8_5, hcz8_6, hcz8_7, hcz8_8, hcz8_9, hcz8_10, hcz8_11, hcz8_12, hcz8_13, hcz8_14, hcz8_15, hcz8_16⟩ := c17_ BK429; obtain ⟨hfz8_0, hfz8_1, hfz8_2, hfz8_3, hfz8_4, hfz8_5, hfz8_6, hfz8_7, hfz8_8, hfz8_9, hfz8_10, hfz8_11, hfz8_12, hfz8_13, hfz8_14, hfz8_15, hfz8_16⟩ := f17_ BK429) | ((with_reducible refine gate_store (t := 24) (p := 2) rfl ?_); refine store_all ?hg 24 2 _ rfl rfl gb429 ay_ ay_ BK429.out rfl rfl rfl (by kernel_rfl) rfl ?_; (case hg => rfl); intro w9 hw; replace BK428 := Aside0.mk (sf_ BK428 NB428_429 hw); replace BK429 := Aside0.mk (show w9.heap[gb429]? = some (.cells az_ 24 (0, 0)) from ss_ BK429 hw); replace HB := Aside0.mk (sb_ hw); clear hw))
  refine bodyPost_ret (results_ct rfl _ _ gb429 24 az_ (0, 0) _ rfl bk_ Tryz.underlying24 rfl (by kernel_rfl)) rfl ?_
  exact ⟨rq_, bg_⟩

-- NOT PRINTED: function 19 (cidr_Allow)

-- NOT PRINTED: function 7 (lanternlaw06_awake)

def lanternref05_digits.f : Nat → Int → Int → Option (ByteArray)
 | 0, _, _ => none
 | k + 1, a0, a1 => if a1 = 0 then (none) else (if 0 ≤ (Int.tmod a0 a1) then (if (Int.tmod a0 a1) ≤ (wrap64 ((Int.tmod a0 a1) + 1)) then (if (wrap64 ((Int.tmod a0 a1) + 1)) ≤ 16 then (if a0 < a1 then (some ((⟨#[48, 49, 50, 51, 52, 53, 54, 55, 56, 57, 97, 98, 99, 100, 101, 102]⟩ : ByteArray).extract ((Int.tmod a0 a1) : Int).toNat ((wrap64 ((Int.tmod a0 a1) + 1)) : Int).toNat)) else ((lanternref05_digits.f k (wrap64 (Int.tdiv a0 a1)) a1).bind fun t471 => (if t471.size + ((⟨#[48, 49, 50, 51, 52, 53, 54, 55, 56, 57, 97, 98, 99, 100, 101, 102]⟩ : ByteArray).extract ((Int.tmod a0 a1) : Int).toNat ((wrap64 ((Int.tmod a0 a1) + 1)) : Int).toNat).size ≤ 9223372036854775807 then (some (t471 ++ ((⟨#[48, 49, 50, 51, 52, 53, 54, 55, 56, 57, 97, 98, 99, 100, 101, 102]⟩ : ByteArray).extract ((Int.tmod a0 a1) : Int).toNat ((wrap64 ((Int.tmod a0 a1) + 1)) : Int).toNat))) else (none)))) else (none)) else (none)) else (none))
theorem lanternref05_digits.mono_l : ∀ k, (∀ y0 y1, LeO (lanternref05_digits.f k y0 y1) (lanternref05_digits.f (k + 1) y0 y1))
 | 0 => fun _ _ r h => by simp [lanternref05_digits.f] at h
 | k + 1 => by
  have ih0 := lanternref05_digits.mono_l k
  ·intro y0 y1
   unfold lanternref05_digits.f
   repeat' first
   | (with_reducible exact ih0 _ _)
   | (with_reducible exact LeO.refl _)
   | (with_reducible exact LeO.none _)
   | (with_reducible refine LeO.ite ?_ ?_)
   | (with_reducible refine LeO.bind ?_ (fun _ => ?_))
   | exact ih0 _ _
   | exact LeO.none _
   | refine LeO.ite ?_ ?_
   | refine LeO.bind ?_ (fun _ => ?_)
theorem lanternref05_digits.mono : ∀ a0 a1 k, LeO (lanternref05_digits.f k a0 a1) (lanternref05_digits.f (k + 1) a0 a1) := by
 intro a0 a1 k
 have ih0 := lanternref05_digits.mono_l k
 exact ih0 a0 a1
set_option maxHeartbeats 8000000 in
set_option maxRecDepth 100000 in
theorem lanternref05_digits.calls (k : Nat) : ∀ (a0 : Int) (a1 : Int) (r : ByteArray) (w : World) (hLW : LW w) (h : lanternref05_digits.f k a0 a1 = some r),
  Calls Tryz.prog 51 #[.int .i64 a0, .int .i64 a1] w fun e w' => e = .returned (.string r) ∧ Drawn0 w w' := by
 induction k using Nat.strongRecOn with
 | _ k ih =>
 intro a0 a1 r w hLW h
 cases k with
 | zero => exact absurd h (by simp [lanternref05_digits.f])
 | succ k =>
 simp only [lanternref05_digits.f] at h
 have HLW := Aside0.mk hLW
 clear hLW
 have H := h
 clear h
 by_cases c3 : a1 = 0
 ·rw [if_pos c3] at H
  exact absurd H (by simp)
 ·rw [if_neg c3] at H
  have c3b0 := beq_eq_false_iff_ne.mpr c3
  have c3b1 := bne_iff_ne.mpr c3
  obtain ⟨ji4, hji4⟩ : ∃ j_ : Int, (Int.tmod a0 a1) = j_ := ⟨_, rfl⟩
  replace H : (if 0 ≤ (ji4) then (if (ji4) ≤ (wrap64 ((ji4) + 1)) then (if (wrap64 ((ji4) + 1)) ≤ 16 then (if a0 < a1 then (some ((⟨#[48, 49, 50, 51, 52, 53, 54, 55, 56, 57, 97, 98, 99, 100, 101, 102]⟩ : ByteArray).extract ((ji4) : Int).toNat ((wrap64 ((ji4) + 1)) : Int).toNat)) else ((lanternref05_digits.f k (wrap64 (Int.tdiv a0 a1)) a1).bind fun t471 => (if t471.size + ((⟨#[48, 49, 50, 51, 52, 53, 54, 55, 56, 57, 97, 98, 99, 100, 101, 102]⟩ : ByteArray).extract ((ji4) : Int).toNat ((wrap64 ((ji4) + 1)) : Int).toNat).size ≤ 9223372036854775807 then (some (t471 ++ ((⟨#[48, 49, 50, 51, 52, 53, 54, 55, 56, 57, 97, 98, 99, 100, 101, 102]⟩ : ByteArray).extract ((ji4) : Int).toNat ((wrap64 ((ji4) + 1)) : Int).toNat))) else (none)))) else (none)) else (none)) else (none)) = some r := by first | (rw [hji4] at H; exact H) | (simp only [hji4] at H ⊢; exact H)
  by_cases c5 : 0 ≤ (ji4)
  ·rw [if_pos c5] at H
   have c5b0 := eq_true c5
   have c5b1 := decide_eq_true c5
   clear c5
   by_cases c6 : (ji4) ≤ (wrap64 ((ji4) + 1))
   ·rw [if_pos c6] at H
    have c6b0 := eq_true c6
    have c6b1 := decide_eq_true c6
    by_cases c7 : (wrap64 ((ji4) + 1)) ≤ 16
    ·rw [if_pos c7] at H
     have c7b0 := eq_true c7
     have c7b1 := decide_eq_true c7
     by_cases c8 : a0 < a1
     ·rw [if_pos c8] at H
      have c8b0 := decide_eq_true c8
      clear c8
      obtain rfl := Option.some.inj H
      go_enter Tryz.func51, Tryz.ntmps51
      go_wp2
      repeat (go_quiet (fail); try go_wp2)
      go_ret
      exact ⟨by first | rfl | (simp; done) | (simp only [← hji4] <;> (first | rfl | simp)) | (simp [*]; done), by repeat (first | exact Drawn0.refl _ | apply Drawn0.step)⟩
     ·rw [if_neg c8] at H
      have c8b0 := decide_eq_false c8
      clear c8
      replace H := Option.bind_eq_some_iff.mp H
      obtain ⟨t471, A90, H⟩ := H
      (try dsimp only at H)
      have A9 := Aside0.mk A90
      clear A90
      by_cases c10 : t471.size + ((⟨#[48, 49, 50, 51, 52, 53, 54, 55, 56, 57, 97, 98, 99, 100, 101, 102]⟩ : ByteArray).extract ((ji4) : Int).toNat ((wrap64 ((ji4) + 1)) : Int).toNat).size ≤ 9223372036854775807
      ·rw [if_pos c10] at H
       have c10b0 := eq_true c10
       have c10b1 := decide_eq_true c10
       try have c10b2 : (9223372036854775807 < t471.size + ((⟨#[48, 49, 50, 51, 52, 53, 54, 55, 56, 57, 97, 98, 99, 100, 101, 102]⟩ : ByteArray).extract ((ji4) : Int).toNat ((wrap64 ((ji4) + 1)) : Int).toNat).size) = False := eq_false (Nat.not_lt.2 c10)
       obtain rfl := Option.some.inj H
       go_enter Tryz.func51, Tryz.ntmps51
       go_wp2_with (first | (go_at_call 51; (with_reducible refine (ih k (by omega) (wrap64 (Int.tdiv a0 a1)) a1 t471 _ ?side1 A9.out).mono ?_); (case side1 => repeat (first | exact HLW.out | apply LW.drewN | apply LW.drew)); rintro e w' ⟨rfl, ⟨nd, rfl⟩⟩; (try first | exact ⟨rfl, _, World.drewN_drewN _ _ _⟩ | exact ⟨rfl, _, Eq.trans (World.drewN_drewN _ _ _) (congrArg (World.drewN _) (Nat.add_assoc _ _ _))⟩)))
       repeat (go_quiet (first | (go_at_call 51; (with_reducible refine (ih k (by omega) (wrap64 (Int.tdiv a0 a1)) a1 t471 _ ?side1 A9.out).mono ?_); (case side1 => repeat (first | exact HLW.out | apply LW.drewN | apply LW.drew)); rintro e w' ⟨rfl, ⟨nd, rfl⟩⟩; (try first | exact ⟨rfl, _, World.drewN_drewN _ _ _⟩ | exact ⟨rfl, _, Eq.trans (World.drewN_drewN _ _ _) (congrArg (World.drewN _) (Nat.add_assoc _ _ _))⟩))); try go_wp2_with (first | (go_at_call 51; (with_reducible refine (ih k (by omega) (wrap64 (Int.tdiv a0 a1)) a1 t471 _ ?side1 A9.out).mono ?_); (case side1 => repeat (first | exact HLW.out | apply LW.drewN | apply LW.drew)); rintro e w' ⟨rfl, ⟨nd, rfl⟩⟩; (try first | exact ⟨rfl, _, World.drewN_drewN _ _ _⟩ | exact ⟨rfl, _, Eq.trans (World.drewN_drewN _ _ _) (congrArg (World.drewN _) (Nat.add_assoc _ _ _))⟩))))
       go_ret
       exact ⟨by first | rfl | (simp; done) | (simp only [← hji4] <;> (first | rfl | simp)) | (simp [*]; done), by repeat (first | exact Drawn0.refl _ | apply Drawn0.step)⟩
      ·rw [if_neg c10] at H
       exact absurd H (by simp)
    ·rw [if_neg c7] at H
     exact absurd H (by simp)
   ·rw [if_neg c6] at H
    exact absurd H (by simp)
  ·rw [if_neg c5] at H
   exact absurd H (by simp)

def lanternref05_dots.l0 : Nat → ByteArray → Int → Bool → Int → Int → Int → Int → Int → Int → Int → Int → Int → Int → Int → Int → Int → Int → Int → Int → Option (ByteArray)
 | 0, _, _, _, _, _, _, _, _, _, _, _, _, _, _, _, _, _, _, _ => none
 | k + 1, x3, x4, V0, V1, V2, V3, V4, V5, V6, V7, V8, V9, V10, V11, V12, V13, V14, V15, V16 => if x4 < 16 then (if x4 > 12 then (if x3.size + 1 ≤ 9223372036854775807 then (if 0 ≤ x4 then ((lanternref05_digits.f k (wrap64 (rd [V1, V2, V3, V4, V5, V6, V7, V8, V9, V10, V11, V12, V13, V14, V15, V16] x4)) 10).bind fun t474 => (if (x3 ++ (⟨#[46]⟩ : ByteArray)).size + t474.size ≤ 9223372036854775807 then (lanternref05_dots.l0 k ((x3 ++ (⟨#[46]⟩ : ByteArray)) ++ t474) (wrap64 (x4 + 1)) V0 V1 V2 V3 V4 V5 V6 V7 V8 V9 V10 V11 V12 V13 V14 V15 V16) else (none))) else (none)) else (none)) else (if 0 ≤ x4 then ((lanternref05_digits.f k (wrap64 (rd [V1, V2, V3, V4, V5, V6, V7, V8, V9, V10, V11, V12, V13, V14, V15, V16] x4)) 10).bind fun t476 => (if x3.size + t476.size ≤ 9223372036854775807 then (lanternref05_dots.l0 k (x3 ++ t476) (wrap64 (x4 + 1)) V0 V1 V2 V3 V4 V5 V6 V7 V8 V9 V10 V11 V12 V13 V14 V15 V16) else (none))) else (none))) else (some x3)
def lanternref05_dots.f (k : Nat) (z0 : Bool) (z1 : Int) (z2 : Int) (z3 : Int) (z4 : Int) (z5 : Int) (z6 : Int) (z7 : Int) (z8 : Int) (z9 : Int) (za : Int) (zb : Int) (zc : Int) (zd : Int) (ze : Int) (zf : Int) (zg : Int) : Option (ByteArray) := lanternref05_dots.l0 k (⟨#[]⟩ : ByteArray) 12 z0 z1 z2 z3 z4 z5 z6 z7 z8 z9 za zb zc zd ze zf zg
theorem lanternref05_dots.mono_l : ∀ k, (∀ y0 y1 y2 y3 y4 y5 y6 y7 y8 y9 y10 y11 y12 y13 y14 y15 y16 y17 y18, LeO (lanternref05_dots.l0 k y0 y1 y2 y3 y4 y5 y6 y7 y8 y9 y10 y11 y12 y13 y14 y15 y16 y17 y18) (lanternref05_dots.l0 (k + 1) y0 y1 y2 y3 y4 y5 y6 y7 y8 y9 y10 y11 y12 y13 y14 y15 y16 y17 y18))
 | 0 => fun _ _ _ _ _ _ _ _ _ _ _ _ _ _ _ _ _ _ _ r h => by simp [lanternref05_dots.l0] at h
 | k + 1 => by
  have ih0 := lanternref05_dots.mono_l k
  ·intro y0 y1 y2 y3 y4 y5 y6 y7 y8 y9 y10 y11 y12 y13 y14 y15 y16 y17 y18
   unfold lanternref05_dots.l0
   repeat' first
   | (with_reducible exact ih0 _ _ _ _ _ _ _ _ _ _ _ _ _ _ _ _ _ _ _)
   | (with_reducible exact lanternref05_digits.mono _ _ _)
   | (with_reducible exact LeO.refl _)
   | (with_reducible exact LeO.none _)
   | (with_reducible refine LeO.ite ?_ ?_)
   | (with_reducible refine LeO.bind ?_ (fun _ => ?_))
   | exact ih0 _ _ _ _ _ _ _ _ _ _ _ _ _ _ _ _ _ _ _
   | exact lanternref05_digits.mono _ _ _
   | exact LeO.none _
   | refine LeO.ite ?_ ?_
   | refine LeO.bind ?_ (fun _ => ?_)
theorem lanternref05_dots.mono : ∀ a0 a1 a2 a3 a4 a5 a6 a7 a8 a9 a10 a11 a12 a13 a14 a15 a16 k, LeO (lanternref05_dots.f k a0 a1 a2 a3 a4 a5 a6 a7 a8 a9 a10 a11 a12 a13 a14 a15 a16) (lanternref05_dots.f (k + 1) a0 a1 a2 a3 a4 a5 a6 a7 a8 a9 a10 a11 a12 a13 a14 a15 a16) := by
 intro a0 a1 a2 a3 a4 a5 a6 a7 a8 a9 a10 a11 a12 a13 a14 a15 a16 k
 have ih0 := lanternref05_dots.mono_l k
 unfold lanternref05_dots.f
 repeat' first
   | (with_reducible exact ih0 _ _ _ _ _ _ _ _ _ _ _ _ _ _ _ _ _ _ _)
   | (with_reducible exact lanternref05_digits.mono _ _ _)
   | (with_reducible exact LeO.refl _)
   | (with_reducible exact LeO.none _)
   | (with_reducible refine LeO.ite ?_ ?_)
   | (with_reducible refine LeO.bind ?_ (fun _ => ?_))
   | exact ih0 _ _ _ _ _ _ _ _ _ _ _ _ _ _ _ _ _ _ _
   | exact lanternref05_digits.mono _ _ _
   | exact LeO.none _
   | refine LeO.ite ?_ ?_
   | refine LeO.bind ?_ (fun _ => ?_)
set_option maxHeartbeats 8000000 in
set_option maxRecDepth 100000 in
theorem lanternref05_dots.calls (k : Nat) (z0 : Bool) (z1 : Int) (z2 : Int) (z3 : Int) (z4 : Int) (z5 : Int) (z6 : Int) (z7 : Int) (z8 : Int) (z9 : Int) (za : Int) (zb : Int) (zc : Int) (zd : Int) (ze : Int) (zf : Int) (zg : Int) (r : ByteArray) (w : World) (hLW : LW w) (h : lanternref05_dots.f k z0 z1 z2 z3 z4 z5 z6 z7 z8 z9 za zb zc zd ze zf zg = some r) :
  Calls Tryz.prog 49 #[.agg (ag_ z0 z1 z2 z3 z4 z5 z6 z7 z8 z9 za zb zc zd ze zf zg)] w fun e w' => e = .returned (.string r) ∧ Below w.heap.size w w' := by
 have hu24 := Tryz.underlying24
 have HLW := Aside0.mk hLW
 clear hLW
 have HB := Aside0.mk (Below.refl w.heap.size w)
 have H := h
 unfold lanternref05_dots.f at H
 clear h
 have H' := Aside0.mk H
 clear H
 go_enter Tryz.func49, Tryz.ntmps49
 go_wp2_with (first | ((with_reducible refine gate_dst (N := 1) rfl ?_); refine bx_ 1 (ag_ z0 z1 z2 z3 z4 z5 z6 z7 z8 z9 za zb zc zd ze zf zg) 24 ?_; intro gb472 hg w2 hbox hb; have BK472 := Aside0.mk (hbox); have GW472 := Aside0.mk (ge_ (w := w) hg); have GE472 := Aside0.mk (ge_ (w := w) hg); replace HB := Aside0.mk (below_step bq_ hb); clear hb hbox hg))
 go_loopg [3, 4] k (fun kq v3 v4 w' => ∃ (x3_1 : ByteArray) (x4_1 : Int), v3 = .string x3_1 ∧ v4 = .int .i64 x4_1 ∧ Aside0 (lanternref05_dots.l0 kq x3_1 x4_1 z0 z1 z2 z3 z4 z5 z6 z7 z8 z9 za zb zc zd ze zf zg = some r) ∧ Aside0 (kq ≤ k) ∧ Aside0 (w'.heap[gb472]? = some (.cells (ag_ z0 z1 z2 z3 z4 z5 z6 z7 z8 z9 za zb zc zd ze zf zg) 24 (0, 0))) ∧ Aside0 (Below w.heap.size w w'))
 case atStart => exact ⟨((⟨#[]⟩ : ByteArray)), (12), sq_, sq_, H', ⟨Nat.le_refl _⟩, ⟨bk_⟩, ⟨bg_⟩⟩
 case round =>
  clear H'
  try clear p2
  obtain ⟨x3_1, x4_1, rfl, rfl, HA, HK1, BK472, HB⟩ := hrel
  cases gk with
  | zero => exact absurd HA.out (by simp [lanternref05_dots.l0])
  | succ k1 =>
   have H := HA.out
   clear HA
   simp only [lanternref05_dots.l0] at H
   by_cases c3 : x4_1 < 16
   ·rw [if_pos c3] at H
    have c3b0 := decide_eq_true c3
    clear c3
    by_cases c4 : x4_1 > 12
    ·rw [if_pos c4] at H
     have c4b0 := decide_eq_true c4
     clear c4
     by_cases c5 : x3_1.size + 1 ≤ 9223372036854775807
     ·rw [if_pos c5] at H
      have c5b0 := eq_true c5
      have c5b1 := decide_eq_true c5
      try have c5b2 : (9223372036854775807 < x3_1.size + 1) = False := eq_false (Nat.not_lt.2 c5)
      by_cases c6 : 0 ≤ x4_1
      ·rw [if_pos c6] at H
       have c6b0 := decide_eq_true c6
       clear c6
       replace H := Option.bind_eq_some_iff.mp H
       obtain ⟨t474, A70, H⟩ := H
       (try dsimp only at H)
       have A7 := Aside0.mk A70
       clear A70
       by_cases c8 : (x3_1 ++ (⟨#[46]⟩ : ByteArray)).size + t474.size ≤ 9223372036854775807
       ·rw [if_pos c8] at H
        have c8b0 := eq_true c8
        have c8b1 := decide_eq_true c8
        try have c8b2 : (9223372036854775807 < (x3_1 ++ (⟨#[46]⟩ : ByteArray)).size + t474.size) = False := eq_false (Nat.not_lt.2 c8)
        try have c8b8 : (9223372036854775807 < x3_1.size + 1 + t474.size) = False := eq_false (by have hq := of_eq_true c8b0; simp only [ByteArray.size_append, ByteArray.size_extract] at hq; have hz0 : (⟨#[46]⟩ : ByteArray).size = 1 := rfl; omega)
        have H' := Aside0.mk H
        clear H
        have par9 : (0 ≤ x4_1) = True := eq_true (of_decide_eq_true as_)
        have qar9 : (x4_1 < 16) = True := eq_true (of_decide_eq_true as_)
        obtain ⟨hcz10_0, hcz10_1, hcz10_2, hcz10_3, hcz10_4, hcz10_5, hcz10_6, hcz10_7, hcz10_8, hcz10_9, hcz10_10, hcz10_11, hcz10_12, hcz10_13, hcz10_14, hcz10_15, hcz10_16⟩ := c17_ BK472
        obtain ⟨hfz10_0, hfz10_1, hfz10_2, hfz10_3, hfz10_4, hfz10_5, hfz10_6, hfz10_7, hfz10_8, hfz10_9, hfz10_10, hfz10_11, hfz10_12, hfz10_13, hfz10_14, hfz10_15, hfz10_16⟩ := f17_ BK472
        have hxar9 : wr.cell? ⟨gb472, 1 + (x4_1).toNat, none⟩ = some (.int .u8 (rd [z1, z2, z3, z4, z5, z6, z7, z8, z9, za, zb, zc, zd, ze, zf, zg] x4_1)) := (blk_idx BK472.out .u8 [.bool z0] [z1, z2, z3, z4, z5, z6, z7, z8, z9, za, zb, zc, zd, ze, zf, zg] [] rfl x4_1 (of_decide_eq_true as_) (of_decide_eq_true as_) rfl)
        have hfar9 := bf_ BK472 (1 + (x4_1).toNat)
        go_wp2_with (first | ((with_reducible refine gate_callee (f := 51) rfl ?_); refine goesL_ (some 19) rfl rfl Tryz.func51 (by kernel_rfl) rfl #[.int .i64 (wrap64 (rd [z1, z2, z3, z4, z5, z6, z7, z8, z9, za, zb, zc, zd, ze, zf, zg] x4_1)), .int .i64 10] rfl lq_ ?_; (with_reducible refine (lanternref05_digits.calls k1 (wrap64 (rd [z1, z2, z3, z4, z5, z6, z7, z8, z9, za, zb, zc, zd, ze, zf, zg] x4_1)) 10 t474 _ ?side1 A7.out).mono ?_); (case side1 => exact lg_); rintro e w' ⟨rfl, ⟨nd, rfl⟩⟩; refine ⟨_, rfl, ?_⟩))
        go_roundg k1
        case measure => have := HK1.out; omega
        case rel => exact ⟨((x3_1 ++ (⟨#[46]⟩ : ByteArray)) ++ t474), (wrap64 (x4_1 + 1)), sq_, sq_, H', ⟨by have := HK1.out; omega⟩, ⟨bk_⟩, ⟨bg_⟩⟩
       ·rw [if_neg c8] at H
        exact absurd H (by simp)
      ·rw [if_neg c6] at H
       exact absurd H (by simp)
     ·rw [if_neg c5] at H
      exact absurd H (by simp)
    ·rw [if_neg c4] at H
     have c4b0 := decide_eq_false c4
     clear c4
     by_cases c11 : 0 ≤ x4_1
     ·rw [if_pos c11] at H
      have c11b0 := decide_eq_true c11
      clear c11
      replace H := Option.bind_eq_some_iff.mp H
      obtain ⟨t476, A120, H⟩ := H
      (try dsimp only at H)
      have A12 := Aside0.mk A120
      clear A120
      by_cases c13 : x3_1.size + t476.size ≤ 9223372036854775807
      ·rw [if_pos c13] at H
       have c13b0 := eq_true c13
       have c13b1 := decide_eq_true c13
       try have c13b2 : (9223372036854775807 < x3_1.size + t476.size) = False := eq_false (Nat.not_lt.2 c13)
       have H' := Aside0.mk H
       clear H
       have par14 : (0 ≤ x4_1) = True := eq_true (of_decide_eq_true as_)
       have qar14 : (x4_1 < 16) = True := eq_true (of_decide_eq_true as_)
       obtain ⟨hcz15_0, hcz15_1, hcz15_2, hcz15_3, hcz15_4, hcz15_5, hcz15_6, hcz15_7, hcz15_8, hcz15_9, hcz15_10, hcz15_11, hcz15_12, hcz15_13, hcz15_14, hcz15_15, hcz15_16⟩ := c17_ BK472
       obtain ⟨hfz15_0, hfz15_1, hfz15_2, hfz15_3, hfz15_4, hfz15_5, hfz15_6, hfz15_7, hfz15_8, hfz15_9, hfz15_10, hfz15_11, hfz15_12, hfz15_13, hfz15_14, hfz15_15, hfz15_16⟩ := f17_ BK472
       have hxar14 : wr.cell? ⟨gb472, 1 + (x4_1).toNat, none⟩ = some (.int .u8 (rd [z1, z2, z3, z4, z5, z6, z7, z8, z9, za, zb, zc, zd, ze, zf, zg] x4_1)) := (blk_idx BK472.out .u8 [.bool z0] [z1, z2, z3, z4, z5, z6, z7, z8, z9, za, zb, zc, zd, ze, zf, zg] [] rfl x4_1 (of_decide_eq_true as_) (of_decide_eq_true as_) rfl)
       have hfar14 := bf_ BK472 (1 + (x4_1).toNat)
       go_wp2_with (first | ((with_reducible refine gate_callee (f := 51) rfl ?_); refine goesL_ (some 19) rfl rfl Tryz.func51 (by kernel_rfl) rfl #[.int .i64 (wrap64 (rd [z1, z2, z3, z4, z5, z6, z7, z8, z9, za, zb, zc, zd, ze, zf, zg] x4_1)), .int .i64 10] rfl lq_ ?_; (with_reducible refine (lanternref05_digits.calls k1 (wrap64 (rd [z1, z2, z3, z4, z5, z6, z7, z8, z9, za, zb, zc, zd, ze, zf, zg] x4_1)) 10 t476 _ ?side1 A12.out).mono ?_); (case side1 => exact lg_); rintro e w' ⟨rfl, ⟨nd, rfl⟩⟩; refine ⟨_, rfl, ?_⟩))
       go_roundg k1
       case measure => have := HK1.out; omega
       case rel => exact ⟨(x3_1 ++ t476), (wrap64 (x4_1 + 1)), sq_, sq_, H', ⟨by have := HK1.out; omega⟩, ⟨bk_⟩, ⟨bg_⟩⟩
      ·rw [if_neg c13] at H
       exact absurd H (by simp)
     ·rw [if_neg c11] at H
      exact absurd H (by simp)
   ·rw [if_neg c3] at H
    have c3b0 := decide_eq_false c3
    clear c3
    obtain rfl := Option.some.inj H
    go_wp2
    go_ret
    exact ⟨rq_, bg_⟩

end Go.Proofs.YtdopafhppaalfaaGreatDoor.P
