-- Written by a program of this session (wip/gen/lprint.py over the kit's print.py) out of the translation. Lean checks it.
import Derived.Test.YtdopafhppaalfaaDoorP0
import Derived.Test.YtdopafhppaalfaaDoorP1
import Derived.Test.YtdopafhppaalfaaDoorP2
import Derived.Test.YtdopafhppaalfaaDoorP3
import Derived.Test.YtdopafhppaalfaaDoorZ
namespace Go.Proofs.YtdopafhppaalfaaDoor.P
open Go.Proofs.YtdopafhppaalfaaDoorZ
open Go.Proofs.YtdopafhppaalfaaDoor.E Go.Proofs.YtdopafhppaalfaaDoorV
open Go.RowKit Go.Proofs.YtdopafhppaalfaaDoorW.PrintWords Go.Proofs.YtdopafhppaalfaaDoorW.PrintLast Go.Proofs.YtdopafhppaalfaaDoorW.PrintMore
attribute [local go_sem] max2_int min2_int max_two min_two max_three min_three max_four min_four   -- for this text's walks alone
set_option linter.unusedVariables false
set_option linter.unusedSimpArgs false

attribute [local go_sem high] eqA24
def ip_Parse.f (k : Nat) (a0 : ByteArray) : Option (Bool × Int × Int × Int × Int × Int × Int × Int × Int × Int × Int × Int × Int × Int × Int × Int × Int × Int) := if (a0.size : Int) > 64 then (none) else ((ip_four.f k a0).bind fun bt174 => (if bt174.2.2.2.2 = true then ((ip_V4.f bt174.1 bt174.2.1 bt174.2.2.1 bt174.2.2.2.1).bind fun bt180 => (some (bt180.1, bt180.2.1, bt180.2.2.1, bt180.2.2.2.1, bt180.2.2.2.2.1, bt180.2.2.2.2.2.1, bt180.2.2.2.2.2.2.1, bt180.2.2.2.2.2.2.2.1, bt180.2.2.2.2.2.2.2.2.1, bt180.2.2.2.2.2.2.2.2.2.1, bt180.2.2.2.2.2.2.2.2.2.2.1, bt180.2.2.2.2.2.2.2.2.2.2.2.1, bt180.2.2.2.2.2.2.2.2.2.2.2.2.1, bt180.2.2.2.2.2.2.2.2.2.2.2.2.2.1, bt180.2.2.2.2.2.2.2.2.2.2.2.2.2.2.1, bt180.2.2.2.2.2.2.2.2.2.2.2.2.2.2.2.1, bt180.2.2.2.2.2.2.2.2.2.2.2.2.2.2.2.2, 0))) else ((ip_six.f k a0).bind fun bt197 => (if bt197.2.2.2.2.2.2.2.2.2.2.2.2.2.2.2.2 = true then ((strings_Contains.f a0 (⟨#[58]⟩ : ByteArray)).bind fun t215 => (if t215 = true then (some (true, bt197.1, bt197.2.1, bt197.2.2.1, bt197.2.2.2.1, bt197.2.2.2.2.1, bt197.2.2.2.2.2.1, bt197.2.2.2.2.2.2.1, bt197.2.2.2.2.2.2.2.1, bt197.2.2.2.2.2.2.2.2.1, bt197.2.2.2.2.2.2.2.2.2.1, bt197.2.2.2.2.2.2.2.2.2.2.1, bt197.2.2.2.2.2.2.2.2.2.2.2.1, bt197.2.2.2.2.2.2.2.2.2.2.2.2.1, bt197.2.2.2.2.2.2.2.2.2.2.2.2.2.1, bt197.2.2.2.2.2.2.2.2.2.2.2.2.2.2.1, bt197.2.2.2.2.2.2.2.2.2.2.2.2.2.2.2.1, 0)) else (none))) else (none)))))
theorem ip_Parse.mono : ∀ a0 k, LeO (ip_Parse.f k a0) (ip_Parse.f (k + 1) a0) := by
 intro a0 k
 unfold ip_Parse.f
 repeat' first
   | (with_reducible exact ip_four.mono _ _)
   | (with_reducible exact ip_six.mono _ _)
   | (with_reducible exact LeO.refl _)
   | (with_reducible exact LeO.none _)
   | (with_reducible refine LeO.ite ?_ ?_)
   | (with_reducible refine LeO.bind ?_ (fun _ => ?_))
   | exact ip_four.mono _ _
   | exact ip_six.mono _ _
   | exact LeO.none _
   | refine LeO.ite ?_ ?_
   | refine LeO.bind ?_ (fun _ => ?_)
set_option maxHeartbeats 8000000 in
set_option maxRecDepth 100000 in
theorem ip_Parse.calls (k : Nat) (a0 : ByteArray) (r1 : Bool) (r2 : Int) (r3 : Int) (r4 : Int) (r5 : Int) (r6 : Int) (r7 : Int) (r8 : Int) (r9 : Int) (r10 : Int) (r11 : Int) (r12 : Int) (r13 : Int) (r14 : Int) (r15 : Int) (r16 : Int) (r17 : Int) (r18 : Int) (w : World) (hLW : LW w) (h : ip_Parse.f k a0 = some (r1, r2, r3, r4, r5, r6, r7, r8, r9, r10, r11, r12, r13, r14, r15, r16, r17, r18)) :
  Calls Tryd.prog 45 #[.string a0] w fun e w' => e = .returned (.tuple #[.agg #[.bool r1, .int .u8 r2, .int .u8 r3, .int .u8 r4, .int .u8 r5, .int .u8 r6, .int .u8 r7, .int .u8 r8, .int .u8 r9, .int .u8 r10, .int .u8 r11, .int .u8 r12, .int .u8 r13, .int .u8 r14, .int .u8 r15, .int .u8 r16, .int .u8 r17], .int .i64 r18]) ∧ Below w.heap.size w w' := by
 have hu24 := Tryd.underlying24
 have hu85 := Tryd.underlying85
 have hu22 := Tryd.underlying22
 have HLW := Aside0.mk hLW
 clear hLW
 have HB := Aside0.mk (Below.refl w.heap.size w)
 have H : (if (a0.size : Int) > 64 then (none) else ((ip_four.f k a0).bind fun bt174 => (if bt174.2.2.2.2 = true then ((ip_V4.f bt174.1 bt174.2.1 bt174.2.2.1 bt174.2.2.2.1).bind fun bt180 => (some (bt180.1, bt180.2.1, bt180.2.2.1, bt180.2.2.2.1, bt180.2.2.2.2.1, bt180.2.2.2.2.2.1, bt180.2.2.2.2.2.2.1, bt180.2.2.2.2.2.2.2.1, bt180.2.2.2.2.2.2.2.2.1, bt180.2.2.2.2.2.2.2.2.2.1, bt180.2.2.2.2.2.2.2.2.2.2.1, bt180.2.2.2.2.2.2.2.2.2.2.2.1, bt180.2.2.2.2.2.2.2.2.2.2.2.2.1, bt180.2.2.2.2.2.2.2.2.2.2.2.2.2.1, bt180.2.2.2.2.2.2.2.2.2.2.2.2.2.2.1, bt180.2.2.2.2.2.2.2.2.2.2.2.2.2.2.2.1, bt180.2.2.2.2.2.2.2.2.2.2.2.2.2.2.2.2, 0))) else ((ip_six.f k a0).bind fun bt197 => (if bt197.2.2.2.2.2.2.2.2.2.2.2.2.2.2.2.2 = true then ((strings_Contains.f a0 (⟨#[58]⟩ : ByteArray)).bind fun t215 => (if t215 = true then (some (true, bt197.1, bt197.2.1, bt197.2.2.1, bt197.2.2.2.1, bt197.2.2.2.2.1, bt197.2.2.2.2.2.1, bt197.2.2.2.2.2.2.1, bt197.2.2.2.2.2.2.2.1, bt197.2.2.2.2.2.2.2.2.1, bt197.2.2.2.2.2.2.2.2.2.1, bt197.2.2.2.2.2.2.2.2.2.2.1, bt197.2.2.2.2.2.2.2.2.2.2.2.1, bt197.2.2.2.2.2.2.2.2.2.2.2.2.1, bt197.2.2.2.2.2.2.2.2.2.2.2.2.2.1, bt197.2.2.2.2.2.2.2.2.2.2.2.2.2.2.1, bt197.2.2.2.2.2.2.2.2.2.2.2.2.2.2.2.1, 0)) else (none))) else (none)))))) = some (r1, r2, r3, r4, r5, r6, r7, r8, r9, r10, r11, r12, r13, r14, r15, r16, r17, r18) := h
 clear h
 by_cases c2 : (a0.size : Int) > 64
 ·rw [if_pos c2] at H
  exact absurd H (by simp)
 ·rw [if_neg c2] at H
  have c2b0 : decide (64 < (a0.size : Int)) = false := decide_eq_false c2
  have c2b1 : decide (64 < a0.size) = false := decide_eq_false (by omega)
  clear c2
  replace H := Option.bind_eq_some_iff.mp H
  obtain ⟨⟨t174, t175, t176, t177, t178⟩, A30, H⟩ := H
  (try dsimp only at H)
  have A3 := Aside0.mk A30
  clear A30
  by_cases c4 : t178 = true
  ·subst c4
   replace H := ifT_ H
   replace H := Option.bind_eq_some_iff.mp H
   obtain ⟨⟨t180, t181, t182, t183, t184, t185, t186, t187, t188, t189, t190, t191, t192, t193, t194, t195, t196⟩, A50, H⟩ := H
   (try dsimp only at H)
   have A5 := Aside0.mk A50
   clear A50
   simp only [Option.some.injEq, Prod.mk.injEq] at H
   obtain ⟨rfl, rfl, rfl, rfl, rfl, rfl, rfl, rfl, rfl, rfl, rfl, rfl, rfl, rfl, rfl, rfl, rfl, rfl⟩ := H
   go_enter Tryd.func45, Tryd.ntmps45
   go_wp2_with (first | ((with_reducible refine gate_dst (N := 2) rfl ?_); refine box_event ?hg (N := 2) ?hd (cs := #[.bool false, .int .u8 0, .int .u8 0, .int .u8 0, .int .u8 0, .int .u8 0, .int .u8 0, .int .u8 0, .int .u8 0, .int .u8 0, .int .u8 0, .int .u8 0, .int .u8 0, .int .u8 0, .int .u8 0, .int .u8 0, .int .u8 0]) (t := 24) ?hr ?_; (case hd => rfl); (case hg => rfl); (case hr => first | (go_simp; done) | (go_simp; rfl)); intro gb173 hg w6 hbox hb; have n0_ := Aside0.mk (below_step bq_ hb); have n1_ := Aside0.mk (hbox); have n2_ := Aside0.mk (show w.heap.size ≤ gb173 from ge_ hg); have n3_ := Aside0.mk (show w.heap.size ≤ gb173 from ge_ hg); clear HB; have HB := n0_; have BK173 := n1_; have GW173 := n2_; have GE173 := n3_; clear n0_ n1_ n2_ n3_; clear hb hbox hg) | ((with_reducible refine gate_callee (f := 53) rfl ?_); refine goesL_ (some 14) rfl rfl Tryd.func53 (by kernel_rfl) rfl #[.string a0] rfl lq_ ?_; (with_reducible refine (ip_four.calls k a0 t174 t175 t176 t177 true _ ?side1 A3.out).mono ?_); (case side1 => exact lg_); rintro e w7 ⟨rfl, hb⟩; refine ⟨_, rfl, ?_⟩; have n0_ := Aside0.mk (bb_ BK173 hb); have n1_ := Aside0.mk (below_step bg_ hb); clear BK173; clear HB; have BK173 := n0_; have HB := n1_; clear n0_ n1_; (try clear hb); (try clear hb2); (try clear hk); (try clear hi)) | ((with_reducible refine gate_dst (N := 4) rfl ?_); refine box_event ?hg (N := 4) ?hd (cs := #[.int .u8 0, .int .u8 0, .int .u8 0, .int .u8 0]) (t := 85) ?hr ?_; (case hd => rfl); (case hg => rfl); (case hr => first | (go_simp; done) | (go_simp; rfl)); intro gb179 hg w8 hbox hb; have n0_ := Aside0.mk (bb_ BK173 hb); have n1_ := Aside0.mk (below_step bg_ hb); have n2_ := Aside0.mk (hbox); have n3_ := Aside0.mk (show w.heap.size ≤ gb179 from gg_ hg); have n4_ := Aside0.mk (show w.heap.size ≤ gb179 from gg_ hg); have n5_ := Aside0.mk (show gb173 ≠ gb179 from nl_ BK173 hg); have n6_ := Aside0.mk (show gb179 ≠ gb173 from ng_ BK173 hg); clear BK173; clear HB; have BK173 := n0_; have HB := n1_; have BK179 := n2_; have GW179 := n3_; have GE179 := n4_; have NB173_179 := n5_; have NB179_173 := n6_; clear n0_ n1_ n2_ n3_ n4_ n5_ n6_; clear hb hbox hg; have hnb9 := NB179_173.out; have hnc9 := NB173_179.out; have hcz10_0 := cz_ BK179 0 (.int .u8 0); have hcz10_1 := cz_ BK179 1 (.int .u8 0); have hcz10_2 := cz_ BK179 2 (.int .u8 0); have hcz10_3 := cz_ BK179 3 (.int .u8 0); have hfz10_0 := bf_ BK179 0; have hfz10_1 := bf_ BK179 1; have hfz10_2 := bf_ BK179 2; have hfz10_3 := bf_ BK179 3) | ((with_reducible refine gate_callee (f := 38) rfl ?_); refine goesL_ (some 26) rfl rfl Tryd.func38 (by kernel_rfl) rfl #[.int .u8 t174, .int .u8 t175, .int .u8 t176, .int .u8 t177] rfl lq_ ?_; (with_reducible refine (ip_V4.calls t174 t175 t176 t177 t180 t181 t182 t183 t184 t185 t186 t187 t188 t189 t190 t191 t192 t193 t194 t195 t196 _ ?side1 A5.out).mono ?_); (case side1 => exact lg_); rintro e w11 ⟨rfl, hb⟩; refine ⟨_, rfl, ?_⟩; have n0_ := Aside0.mk (blk_below (g := gb173) (o := .cells #[.bool false, .int .u8 0, .int .u8 0, .int .u8 0, .int .u8 0, .int .u8 0, .int .u8 0, .int .u8 0, .int .u8 0, .int .u8 0, .int .u8 0, .int .u8 0, .int .u8 0, .int .u8 0, .int .u8 0, .int .u8 0, .int .u8 0] 24 (0, 0)) (by (with_reducible repeat (first | refine blk_drewN ?_ _ | refine blk_drew ?_ | refine blk_alloc ?_ _)); refine blk_far ?_ NB173_179.out _; (with_reducible repeat (first | refine blk_drewN ?_ _ | refine blk_drew ?_ | refine blk_alloc ?_ _)); refine blk_far ?_ NB173_179.out _; (with_reducible repeat (first | refine blk_drewN ?_ _ | refine blk_drew ?_ | refine blk_alloc ?_ _)); refine blk_far ?_ NB173_179.out _; (with_reducible repeat (first | refine blk_drewN ?_ _ | refine blk_drew ?_ | refine blk_alloc ?_ _)); refine blk_far ?_ NB173_179.out _; (with_reducible repeat (first | refine blk_drewN ?_ _ | refine blk_drew ?_ | refine blk_alloc ?_ _)); exact BK173.out) hb); have n1_ := Aside0.mk (blk_below (g := gb179) (o := .cells #[.int .u8 t174, .int .u8 t175, .int .u8 t176, .int .u8 t177] 85 (0, 0)) (by (with_reducible repeat (first | refine blk_drewN ?_ _ | refine blk_drew ?_ | refine blk_alloc ?_ _)); refine blk_put (cs := #[.int .u8 t174, .int .u8 t175, .int .u8 t176, .int .u8 0]) ?_ 3 _ rfl; (with_reducible repeat (first | refine blk_drewN ?_ _ | refine blk_drew ?_ | refine blk_alloc ?_ _)); refine blk_put (cs := #[.int .u8 t174, .int .u8 t175, .int .u8 0, .int .u8 0]) ?_ 2 _ rfl; (with_reducible repeat (first | refine blk_drewN ?_ _ | refine blk_drew ?_ | refine blk_alloc ?_ _)); refine blk_put (cs := #[.int .u8 t174, .int .u8 0, .int .u8 0, .int .u8 0]) ?_ 1 _ rfl; (with_reducible repeat (first | refine blk_drewN ?_ _ | refine blk_drew ?_ | refine blk_alloc ?_ _)); refine blk_put (cs := #[.int .u8 0, .int .u8 0, .int .u8 0, .int .u8 0]) ?_ 0 _ rfl; (with_reducible repeat (first | refine blk_drewN ?_ _ | refine blk_drew ?_ | refine blk_alloc ?_ _)); exact BK179.out) hb); have n2_ := Aside0.mk (below_step bg_ hb); clear BK173; clear BK179; clear HB; have BK173 := n0_; have BK179 := n1_; have HB := n2_; clear n0_ n1_ n2_; (try clear hb); (try clear hb2); (try clear hk); (try clear hi); have hcz12_0 := cz_ BK173 0 (.bool false); have hcz12_1 := cz_ BK173 1 (.int .u8 0); have hcz12_2 := cz_ BK173 2 (.int .u8 0); have hcz12_3 := cz_ BK173 3 (.int .u8 0); have hcz12_4 := cz_ BK173 4 (.int .u8 0); have hcz12_5 := cz_ BK173 5 (.int .u8 0); have hcz12_6 := cz_ BK173 6 (.int .u8 0); have hcz12_7 := cz_ BK173 7 (.int .u8 0); have hcz12_8 := cz_ BK173 8 (.int .u8 0); have hcz12_9 := cz_ BK173 9 (.int .u8 0); have hcz12_10 := cz_ BK173 10 (.int .u8 0); have hcz12_11 := cz_ BK173 11 (.int .u8 0); have hcz12_12 := cz_ BK173 12 (.int .u8 0); have hcz12_13 := cz_ BK173 13 (.int .u8 0); have hcz12_14 := cz_ BK173 14 (.int .u8 0); have hcz12_15 := cz_ BK173 15 (.int .u8 0); have hcz12_16 := cz_ BK173 16 (.int .u8 0); have hfz12_0 := bf_ BK173 0; have hfz12_1 := bf_ BK173 1; have hfz12_2 := bf_ BK173 2; have hfz12_3 := bf_ BK173 3; have hfz12_4 := bf_ BK173 4; have hfz12_5 := bf_ BK173 5; have hfz12_6 := bf_ BK173 6; have hfz12_7 := bf_ BK173 7; have hfz12_8 := bf_ BK173 8; have hfz12_9 := bf_ BK173 9; have hfz12_10 := bf_ BK173 10; have hfz12_11 := bf_ BK173 11; have hfz12_12 := bf_ BK173 12; have hfz12_13 := bf_ BK173 13; have hfz12_14 := bf_ BK173 14; have hfz12_15 := bf_ BK173 15; have hfz12_16 := bf_ BK173 16) | ((with_reducible refine gate_store (t := 24) (p := 2) rfl ?_); refine store_all ?hg 24 2 _ rfl rfl gb173 [.bool false, .int .u8 0, .int .u8 0, .int .u8 0, .int .u8 0, .int .u8 0, .int .u8 0, .int .u8 0, .int .u8 0, .int .u8 0, .int .u8 0, .int .u8 0, .int .u8 0, .int .u8 0, .int .u8 0, .int .u8 0, .int .u8 0] [.bool t180, .int .u8 t181, .int .u8 t182, .int .u8 t183, .int .u8 t184, .int .u8 t185, .int .u8 t186, .int .u8 t187, .int .u8 t188, .int .u8 t189, .int .u8 t190, .int .u8 t191, .int .u8 t192, .int .u8 t193, .int .u8 t194, .int .u8 t195, .int .u8 t196] BK173.out rfl rfl rfl (by kernel_rfl) rfl ?_; (case hg => rfl); intro w13 hw; have n0_ : Aside0 (w13.heap[gb173]? = some (.cells #[.bool t180, .int .u8 t181, .int .u8 t182, .int .u8 t183, .int .u8 t184, .int .u8 t185, .int .u8 t186, .int .u8 t187, .int .u8 t188, .int .u8 t189, .int .u8 t190, .int .u8 t191, .int .u8 t192, .int .u8 t193, .int .u8 t194, .int .u8 t195, .int .u8 t196] 24 (0, 0))) := ⟨(by rw [hw]; exact (by (with_reducible repeat (first | refine blk_drewN ?_ _ | refine blk_drew ?_ | refine blk_alloc ?_ _)); refine blk_part [.bool t180, .int .u8 t181, .int .u8 t182, .int .u8 t183, .int .u8 t184, .int .u8 t185, .int .u8 t186, .int .u8 t187, .int .u8 t188, .int .u8 t189, .int .u8 t190, .int .u8 t191, .int .u8 t192, .int .u8 t193, .int .u8 t194, .int .u8 t195, .int .u8 t196] [.bool false, .int .u8 0, .int .u8 0, .int .u8 0, .int .u8 0, .int .u8 0, .int .u8 0, .int .u8 0, .int .u8 0, .int .u8 0, .int .u8 0, .int .u8 0, .int .u8 0, .int .u8 0, .int .u8 0, .int .u8 0, .int .u8 0] [] [] (cs := #[.bool false, .int .u8 0, .int .u8 0, .int .u8 0, .int .u8 0, .int .u8 0, .int .u8 0, .int .u8 0, .int .u8 0, .int .u8 0, .int .u8 0, .int .u8 0, .int .u8 0, .int .u8 0, .int .u8 0, .int .u8 0, .int .u8 0]) ?_ rfl rfl rfl; (with_reducible repeat (first | refine blk_drewN ?_ _ | refine blk_drew ?_ | refine blk_alloc ?_ _)); exact BK173.out))⟩; have n1_ : Aside0 (w13.heap[gb179]? = some (.cells #[.int .u8 t174, .int .u8 t175, .int .u8 t176, .int .u8 t177] 85 (0, 0))) := ⟨(by rw [hw]; exact (by (with_reducible repeat (first | refine blk_drewN ?_ _ | refine blk_drew ?_ | refine blk_alloc ?_ _)); refine blk_farC NB179_173.out _ _ ?_; (with_reducible repeat (first | refine blk_drewN ?_ _ | refine blk_drew ?_ | refine blk_alloc ?_ _)); exact BK179.out))⟩; have n2_ : Aside0 (Below w.heap.size w w13) := ⟨(by rw [hw]; exact (by repeat (first | (with_reducible first | exact HB.out | apply below_alloc | apply pw_below_drewN | apply below_drew1 | refine below_set ?_ GE173.out | refine below_set ?_ GE179.out | refine below_setC GE173.out _ _ ?_ | refine below_setC GE179.out _ _ ?_) | exact HB.out)))⟩; clear hw; clear BK173; clear BK179; clear HB; have BK173 := n0_; have BK179 := n1_; have HB := n2_; clear n0_ n1_ n2_))
   refine bodyPost_ret (results_ct rfl _ _ gb173 24 #[.bool t180, .int .u8 t181, .int .u8 t182, .int .u8 t183, .int .u8 t184, .int .u8 t185, .int .u8 t186, .int .u8 t187, .int .u8 t188, .int .u8 t189, .int .u8 t190, .int .u8 t191, .int .u8 t192, .int .u8 t193, .int .u8 t194, .int .u8 t195, .int .u8 t196] (0, 0) _ rfl bk_ Tryd.underlying24 rfl (by kernel_rfl)) rfl ?_
   exact ⟨rq_, bg_⟩
  ·replace c4 := Bool.eq_false_iff.mpr c4
   subst c4
   replace H := ifF_ H
   replace H := Option.bind_eq_some_iff.mp H
   obtain ⟨⟨t197, t198, t199, t200, t201, t202, t203, t204, t205, t206, t207, t208, t209, t210, t211, t212, t213⟩, A140, H⟩ := H
   (try dsimp only at H)
   have A14 := Aside0.mk A140
   clear A140
   by_cases c15 : t213 = true
   ·subst c15
    replace H := ifT_ H
    replace H := Option.bind_eq_some_iff.mp H
    obtain ⟨t215, A160, H⟩ := H
    (try dsimp only at H)
    have A16 := Aside0.mk A160
    clear A160
    by_cases c17 : t215 = true
    ·subst c17
     replace H := ifT_ H
     simp only [Option.some.injEq, Prod.mk.injEq] at H
     obtain ⟨rfl, rfl, rfl, rfl, rfl, rfl, rfl, rfl, rfl, rfl, rfl, rfl, rfl, rfl, rfl, rfl, rfl, rfl⟩ := H
     go_enter Tryd.func45, Tryd.ntmps45
     go_wp2_with (first | ((with_reducible refine gate_dst (N := 2) rfl ?_); refine box_event ?hg (N := 2) ?hd (cs := #[.bool false, .int .u8 0, .int .u8 0, .int .u8 0, .int .u8 0, .int .u8 0, .int .u8 0, .int .u8 0, .int .u8 0, .int .u8 0, .int .u8 0, .int .u8 0, .int .u8 0, .int .u8 0, .int .u8 0, .int .u8 0, .int .u8 0]) (t := 24) ?hr ?_; (case hd => rfl); (case hg => rfl); (case hr => first | (go_simp; done) | (go_simp; rfl)); intro gb173 hg w18 hbox hb; have n0_ := Aside0.mk (below_step bq_ hb); have n1_ := Aside0.mk (hbox); have n2_ := Aside0.mk (show w.heap.size ≤ gb173 from ge_ hg); have n3_ := Aside0.mk (show w.heap.size ≤ gb173 from ge_ hg); clear HB; have HB := n0_; have BK173 := n1_; have GW173 := n2_; have GE173 := n3_; clear n0_ n1_ n2_ n3_; clear hb hbox hg) | ((with_reducible refine gate_callee (f := 53) rfl ?_); refine goesL_ (some 14) rfl rfl Tryd.func53 (by kernel_rfl) rfl #[.string a0] rfl lq_ ?_; (with_reducible refine (ip_four.calls k a0 t174 t175 t176 t177 false _ ?side1 A3.out).mono ?_); (case side1 => exact lg_); rintro e w19 ⟨rfl, hb⟩; refine ⟨_, rfl, ?_⟩; have n0_ := Aside0.mk (bb_ BK173 hb); have n1_ := Aside0.mk (below_step bg_ hb); clear BK173; clear HB; have BK173 := n0_; have HB := n1_; clear n0_ n1_; (try clear hb); (try clear hb2); (try clear hk); (try clear hi)) | ((with_reducible refine gate_dst (N := 4) rfl ?_); refine box_event ?hg (N := 4) ?hd (cs := #[.int .u8 0, .int .u8 0, .int .u8 0, .int .u8 0]) (t := 85) ?hr ?_; (case hd => rfl); (case hg => rfl); (case hr => first | (go_simp; done) | (go_simp; rfl)); intro gb179 hg w20 hbox hb; have n0_ := Aside0.mk (bb_ BK173 hb); have n1_ := Aside0.mk (below_step bg_ hb); have n2_ := Aside0.mk (hbox); have n3_ := Aside0.mk (show w.heap.size ≤ gb179 from gg_ hg); have n4_ := Aside0.mk (show w.heap.size ≤ gb179 from gg_ hg); have n5_ := Aside0.mk (show gb173 ≠ gb179 from nl_ BK173 hg); have n6_ := Aside0.mk (show gb179 ≠ gb173 from ng_ BK173 hg); clear BK173; clear HB; have BK173 := n0_; have HB := n1_; have BK179 := n2_; have GW179 := n3_; have GE179 := n4_; have NB173_179 := n5_; have NB179_173 := n6_; clear n0_ n1_ n2_ n3_ n4_ n5_ n6_; clear hb hbox hg; have hnb21 := NB179_173.out; have hnc21 := NB173_179.out; have hcz22_0 := cz_ BK179 0 (.int .u8 0); have hcz22_1 := cz_ BK179 1 (.int .u8 0); have hcz22_2 := cz_ BK179 2 (.int .u8 0); have hcz22_3 := cz_ BK179 3 (.int .u8 0); have hfz22_0 := bf_ BK179 0; have hfz22_1 := bf_ BK179 1; have hfz22_2 := bf_ BK179 2; have hfz22_3 := bf_ BK179 3) | ((with_reducible refine gate_callee (f := 54) rfl ?_); refine goesL_ (some 29) rfl rfl Tryd.func54 (by kernel_rfl) rfl #[.string a0] rfl lq_ ?_; (with_reducible refine (ip_six.calls k a0 t197 t198 t199 t200 t201 t202 t203 t204 t205 t206 t207 t208 t209 t210 t211 t212 true _ ?side1 A14.out).mono ?_); (case side1 => exact lg_); rintro e w23 ⟨rfl, hb⟩; refine ⟨_, rfl, ?_⟩; have n0_ := Aside0.mk (blk_below (g := gb173) (o := .cells #[.bool false, .int .u8 0, .int .u8 0, .int .u8 0, .int .u8 0, .int .u8 0, .int .u8 0, .int .u8 0, .int .u8 0, .int .u8 0, .int .u8 0, .int .u8 0, .int .u8 0, .int .u8 0, .int .u8 0, .int .u8 0, .int .u8 0] 24 (0, 0)) (by (with_reducible repeat (first | refine blk_drewN ?_ _ | refine blk_drew ?_ | refine blk_alloc ?_ _)); refine blk_far ?_ NB173_179.out _; (with_reducible repeat (first | refine blk_drewN ?_ _ | refine blk_drew ?_ | refine blk_alloc ?_ _)); refine blk_far ?_ NB173_179.out _; (with_reducible repeat (first | refine blk_drewN ?_ _ | refine blk_drew ?_ | refine blk_alloc ?_ _)); refine blk_far ?_ NB173_179.out _; (with_reducible repeat (first | refine blk_drewN ?_ _ | refine blk_drew ?_ | refine blk_alloc ?_ _)); refine blk_far ?_ NB173_179.out _; (with_reducible repeat (first | refine blk_drewN ?_ _ | refine blk_drew ?_ | refine blk_alloc ?_ _)); exact BK173.out) hb); have n1_ := Aside0.mk (blk_below (g := gb179) (o := .cells #[.int .u8 t174, .int .u8 t175, .int .u8 t176, .int .u8 t177] 85 (0, 0)) (by (with_reducible repeat (first | refine blk_drewN ?_ _ | refine blk_drew ?_ | refine blk_alloc ?_ _)); refine blk_put (cs := #[.int .u8 t174, .int .u8 t175, .int .u8 t176, .int .u8 0]) ?_ 3 _ rfl; (with_reducible repeat (first | refine blk_drewN ?_ _ | refine blk_drew ?_ | refine blk_alloc ?_ _)); refine blk_put (cs := #[.int .u8 t174, .int .u8 t175, .int .u8 0, .int .u8 0]) ?_ 2 _ rfl; (with_reducible repeat (first | refine blk_drewN ?_ _ | refine blk_drew ?_ | refine blk_alloc ?_ _)); refine blk_put (cs := #[.int .u8 t174, .int .u8 0, .int .u8 0, .int .u8 0]) ?_ 1 _ rfl; (with_reducible repeat (first | refine blk_drewN ?_ _ | refine blk_drew ?_ | refine blk_alloc ?_ _)); refine blk_put (cs := #[.int .u8 0, .int .u8 0, .int .u8 0, .int .u8 0]) ?_ 0 _ rfl; (with_reducible repeat (first | refine blk_drewN ?_ _ | refine blk_drew ?_ | refine blk_alloc ?_ _)); exact BK179.out) hb); have n2_ := Aside0.mk (below_step bg_ hb); clear BK173; clear BK179; clear HB; have BK173 := n0_; have BK179 := n1_; have HB := n2_; clear n0_ n1_ n2_; (try clear hb); (try clear hb2); (try clear hk); (try clear hi)) | ((with_reducible refine gate_dst (N := 6) rfl ?_); refine box_event ?hg (N := 6) ?hd (cs := #[.int .u8 0, .int .u8 0, .int .u8 0, .int .u8 0, .int .u8 0, .int .u8 0, .int .u8 0, .int .u8 0, .int .u8 0, .int .u8 0, .int .u8 0, .int .u8 0, .int .u8 0, .int .u8 0, .int .u8 0, .int .u8 0]) (t := 22) ?hr ?_; (case hd => rfl); (case hg => rfl); (case hr => first | (go_simp; done) | (go_simp; rfl)); intro gb214 hg w24 hbox hb; have n0_ := Aside0.mk (bb_ BK173 hb); have n1_ := Aside0.mk (bb_ BK179 hb); have n2_ := Aside0.mk (below_step bg_ hb); have n3_ := Aside0.mk (hbox); have n4_ := Aside0.mk (show w.heap.size ≤ gb214 from gg_ hg); have n5_ := Aside0.mk (show w.heap.size ≤ gb214 from gg_ hg); have n6_ := Aside0.mk (show gb173 ≠ gb214 from nl_ BK173 hg); have n7_ := Aside0.mk (show gb214 ≠ gb173 from ng_ BK173 hg); have n8_ := Aside0.mk (show gb179 ≠ gb214 from nl_ BK179 hg); have n9_ := Aside0.mk (show gb214 ≠ gb179 from ng_ BK179 hg); clear BK173; clear BK179; clear HB; have BK173 := n0_; have BK179 := n1_; have HB := n2_; have BK214 := n3_; have GW214 := n4_; have GE214 := n5_; have NB173_214 := n6_; have NB214_173 := n7_; have NB179_214 := n8_; have NB214_179 := n9_; clear n0_ n1_ n2_ n3_ n4_ n5_ n6_ n7_ n8_ n9_; clear hb hbox hg; have hnb25 := NB214_173.out; have hnc25 := NB173_214.out; have hnb26 := NB214_179.out; have hnc26 := NB179_214.out; have hcz27_0 := cz_ BK214 0 (.int .u8 0); have hcz27_1 := cz_ BK214 1 (.int .u8 0); have hcz27_2 := cz_ BK214 2 (.int .u8 0); have hcz27_3 := cz_ BK214 3 (.int .u8 0); have hcz27_4 := cz_ BK214 4 (.int .u8 0); have hcz27_5 := cz_ BK214 5 (.int .u8 0); have hcz27_6 := cz_ BK214 6 (.int .u8 0); have hcz27_7 := cz_ BK214 7 (.int .u8 0); have hcz27_8 := cz_ BK214 8 (.int .u8 0); have hcz27_9 := cz_ BK214 9 (.int .u8 0); have hcz27_10 := cz_ BK214 10 (.int .u8 0); have hcz27_11 := cz_ BK214 11 (.int .u8 0); have hcz27_12 := cz_ BK214 12 (.int .u8 0); have hcz27_13 := cz_ BK214 13 (.int .u8 0); have hcz27_14 := cz_ BK214 14 (.int .u8 0); have hcz27_15 := cz_ BK214 15 (.int .u8 0); have hfz27_0 := bf_ BK214 0; have hfz27_1 := bf_ BK214 1; have hfz27_2 := bf_ BK214 2; have hfz27_3 := bf_ BK214 3; have hfz27_4 := bf_ BK214 4; have hfz27_5 := bf_ BK214 5; have hfz27_6 := bf_ BK214 6; have hfz27_7 := bf_ BK214 7; have hfz27_8 := bf_ BK214 8; have hfz27_9 := bf_ BK214 9; have hfz27_10 := bf_ BK214 10; have hfz27_11 := bf_ BK214 11; have hfz27_12 := bf_ BK214 12; have hfz27_13 := bf_ BK214 13; have hfz27_14 := bf_ BK214 14; have hfz27_15 := bf_ BK214 15) | ((with_reducible refine gate_store (t := 22) (p := 6) rfl ?_); refine store_all ?hg 22 6 _ rfl rfl gb214 [.int .u8 0, .int .u8 0, .int .u8 0, .int .u8 0, .int .u8 0, .int .u8 0, .int .u8 0, .int .u8 0, .int .u8 0, .int .u8 0, .int .u8 0, .int .u8 0, .int .u8 0, .int .u8 0, .int .u8 0, .int .u8 0] [.int .u8 t197, .int .u8 t198, .int .u8 t199, .int .u8 t200, .int .u8 t201, .int .u8 t202, .int .u8 t203, .int .u8 t204, .int .u8 t205, .int .u8 t206, .int .u8 t207, .int .u8 t208, .int .u8 t209, .int .u8 t210, .int .u8 t211, .int .u8 t212] BK214.out rfl rfl rfl (by kernel_rfl) rfl ?_; (case hg => rfl); intro w28 hw; have n0_ : Aside0 (w28.heap[gb173]? = some (.cells #[.bool false, .int .u8 0, .int .u8 0, .int .u8 0, .int .u8 0, .int .u8 0, .int .u8 0, .int .u8 0, .int .u8 0, .int .u8 0, .int .u8 0, .int .u8 0, .int .u8 0, .int .u8 0, .int .u8 0, .int .u8 0, .int .u8 0] 24 (0, 0))) := ⟨(by rw [hw]; exact (by (with_reducible repeat (first | refine blk_drewN ?_ _ | refine blk_drew ?_ | refine blk_alloc ?_ _)); refine blk_farC NB173_214.out _ _ ?_; (with_reducible repeat (first | refine blk_drewN ?_ _ | refine blk_drew ?_ | refine blk_alloc ?_ _)); exact BK173.out))⟩; have n1_ : Aside0 (w28.heap[gb179]? = some (.cells #[.int .u8 t174, .int .u8 t175, .int .u8 t176, .int .u8 t177] 85 (0, 0))) := ⟨(by rw [hw]; exact (by (with_reducible repeat (first | refine blk_drewN ?_ _ | refine blk_drew ?_ | refine blk_alloc ?_ _)); refine blk_farC NB179_214.out _ _ ?_; (with_reducible repeat (first | refine blk_drewN ?_ _ | refine blk_drew ?_ | refine blk_alloc ?_ _)); exact BK179.out))⟩; have n2_ : Aside0 (w28.heap[gb214]? = some (.cells #[.int .u8 t197, .int .u8 t198, .int .u8 t199, .int .u8 t200, .int .u8 t201, .int .u8 t202, .int .u8 t203, .int .u8 t204, .int .u8 t205, .int .u8 t206, .int .u8 t207, .int .u8 t208, .int .u8 t209, .int .u8 t210, .int .u8 t211, .int .u8 t212] 22 (0, 0))) := ⟨(by rw [hw]; exact (by (with_reducible repeat (first | refine blk_drewN ?_ _ | refine blk_drew ?_ | refine blk_alloc ?_ _)); refine blk_part [.int .u8 t197, .int .u8 t198, .int .u8 t199, .int .u8 t200, .int .u8 t201, .int .u8 t202, .int .u8 t203, .int .u8 t204, .int .u8 t205, .int .u8 t206, .int .u8 t207, .int .u8 t208, .int .u8 t209, .int .u8 t210, .int .u8 t211, .int .u8 t212] [.int .u8 0, .int .u8 0, .int .u8 0, .int .u8 0, .int .u8 0, .int .u8 0, .int .u8 0, .int .u8 0, .int .u8 0, .int .u8 0, .int .u8 0, .int .u8 0, .int .u8 0, .int .u8 0, .int .u8 0, .int .u8 0] [] [] (cs := #[.int .u8 0, .int .u8 0, .int .u8 0, .int .u8 0, .int .u8 0, .int .u8 0, .int .u8 0, .int .u8 0, .int .u8 0, .int .u8 0, .int .u8 0, .int .u8 0, .int .u8 0, .int .u8 0, .int .u8 0, .int .u8 0]) ?_ rfl rfl rfl; (with_reducible repeat (first | refine blk_drewN ?_ _ | refine blk_drew ?_ | refine blk_alloc ?_ _)); exact BK214.out))⟩; have n3_ : Aside0 (Below w.heap.size w w28) := ⟨(by rw [hw]; exact (by repeat (first | (with_reducible first | exact HB.out | apply below_alloc | apply pw_below_drewN | apply below_drew1 | refine below_set ?_ GE173.out | refine below_set ?_ GE179.out | refine below_set ?_ GE214.out | refine below_setC GE173.out _ _ ?_ | refine below_setC GE179.out _ _ ?_ | refine below_setC GE214.out _ _ ?_) | exact HB.out)))⟩; clear hw; clear BK173; clear BK179; clear BK214; clear HB; have BK173 := n0_; have BK179 := n1_; have BK214 := n2_; have HB := n3_; clear n0_ n1_ n2_ n3_) | (go_at_call 55; (with_reducible refine (strings_Contains.calls a0 (⟨#[58]⟩ : ByteArray) true _ ?side1 A16.out).mono ?_); (case side1 => exact lg_); rintro e w29 ⟨rfl, hb⟩; have n0_ := Aside0.mk (bb_ BK173 hb); have n1_ := Aside0.mk (bb_ BK179 hb); have n2_ := Aside0.mk (bb_ BK214 hb); have n3_ := Aside0.mk (below_step bg_ hb); clear BK173; clear BK179; clear BK214; clear HB; have BK173 := n0_; have BK179 := n1_; have BK214 := n2_; have HB := n3_; clear n0_ n1_ n2_ n3_; (try clear hb); (try clear hb2); (try clear hk); (try clear hi); have hcz30_0 := cz_ BK173 0 (.bool false); have hcz30_1 := cz_ BK173 1 (.int .u8 0); have hcz30_2 := cz_ BK173 2 (.int .u8 0); have hcz30_3 := cz_ BK173 3 (.int .u8 0); have hcz30_4 := cz_ BK173 4 (.int .u8 0); have hcz30_5 := cz_ BK173 5 (.int .u8 0); have hcz30_6 := cz_ BK173 6 (.int .u8 0); have hcz30_7 := cz_ BK173 7 (.int .u8 0); have hcz30_8 := cz_ BK173 8 (.int .u8 0); have hcz30_9 := cz_ BK173 9 (.int .u8 0); have hcz30_10 := cz_ BK173 10 (.int .u8 0); have hcz30_11 := cz_ BK173 11 (.int .u8 0); have hcz30_12 := cz_ BK173 12 (.int .u8 0); have hcz30_13 := cz_ BK173 13 (.int .u8 0); have hcz30_14 := cz_ BK173 14 (.int .u8 0); have hcz30_15 := cz_ BK173 15 (.int .u8 0); have hcz30_16 := cz_ BK173 16 (.int .u8 0); have hfz30_0 := bf_ BK173 0; have hfz30_1 := bf_ BK173 1; have hfz30_2 := bf_ BK173 2; have hfz30_3 := bf_ BK173 3; have hfz30_4 := bf_ BK173 4; have hfz30_5 := bf_ BK173 5; have hfz30_6 := bf_ BK173 6; have hfz30_7 := bf_ BK173 7; have hfz30_8 := bf_ BK173 8; have hfz30_9 := bf_ BK173 9; have hfz30_10 := bf_ BK173 10; have hfz30_11 := bf_ BK173 11; have hfz30_12 := bf_ BK173 12; have hfz30_13 := bf_ BK173 13; have hfz30_14 := bf_ BK173 14; have hfz30_15 := bf_ BK173 15; have hfz30_16 := bf_ BK173 16) | ((with_reducible refine gate_dst (N := 37) rfl ?_); (try (refine gate_guard (by rfl) ?_; dsimp only)); refine load_box ?hg 22 (.tmp 6) rfl BK214.out [] [.int .u8 t197, .int .u8 t198, .int .u8 t199, .int .u8 t200, .int .u8 t201, .int .u8 t202, .int .u8 t203, .int .u8 t204, .int .u8 t205, .int .u8 t206, .int .u8 t207, .int .u8 t208, .int .u8 t209, .int .u8 t210, .int .u8 t211, .int .u8 t212] [] rfl 0 rfl rfl Tryd.underlying22 rfl (by kernel_rfl) ?_; (case hg => rfl)) | ((with_reducible refine gate_store (t := 24) (p := 2) rfl ?_); refine store_all ?hg 24 2 _ rfl rfl gb173 [.bool false, .int .u8 0, .int .u8 0, .int .u8 0, .int .u8 0, .int .u8 0, .int .u8 0, .int .u8 0, .int .u8 0, .int .u8 0, .int .u8 0, .int .u8 0, .int .u8 0, .int .u8 0, .int .u8 0, .int .u8 0, .int .u8 0] [.bool true, .int .u8 t197, .int .u8 t198, .int .u8 t199, .int .u8 t200, .int .u8 t201, .int .u8 t202, .int .u8 t203, .int .u8 t204, .int .u8 t205, .int .u8 t206, .int .u8 t207, .int .u8 t208, .int .u8 t209, .int .u8 t210, .int .u8 t211, .int .u8 t212] BK173.out rfl rfl rfl (by kernel_rfl) rfl ?_; (case hg => rfl); intro w31 hw; have n0_ : Aside0 (w31.heap[gb173]? = some (.cells #[.bool true, .int .u8 t197, .int .u8 t198, .int .u8 t199, .int .u8 t200, .int .u8 t201, .int .u8 t202, .int .u8 t203, .int .u8 t204, .int .u8 t205, .int .u8 t206, .int .u8 t207, .int .u8 t208, .int .u8 t209, .int .u8 t210, .int .u8 t211, .int .u8 t212] 24 (0, 0))) := ⟨(by rw [hw]; exact (by (with_reducible repeat (first | refine blk_drewN ?_ _ | refine blk_drew ?_ | refine blk_alloc ?_ _)); refine blk_part [.bool true, .int .u8 t197, .int .u8 t198, .int .u8 t199, .int .u8 t200, .int .u8 t201, .int .u8 t202, .int .u8 t203, .int .u8 t204, .int .u8 t205, .int .u8 t206, .int .u8 t207, .int .u8 t208, .int .u8 t209, .int .u8 t210, .int .u8 t211, .int .u8 t212] [.bool false, .int .u8 0, .int .u8 0, .int .u8 0, .int .u8 0, .int .u8 0, .int .u8 0, .int .u8 0, .int .u8 0, .int .u8 0, .int .u8 0, .int .u8 0, .int .u8 0, .int .u8 0, .int .u8 0, .int .u8 0, .int .u8 0] [] [] (cs := #[.bool false, .int .u8 0, .int .u8 0, .int .u8 0, .int .u8 0, .int .u8 0, .int .u8 0, .int .u8 0, .int .u8 0, .int .u8 0, .int .u8 0, .int .u8 0, .int .u8 0, .int .u8 0, .int .u8 0, .int .u8 0, .int .u8 0]) ?_ rfl rfl rfl; (with_reducible repeat (first | refine blk_drewN ?_ _ | refine blk_drew ?_ | refine blk_alloc ?_ _)); exact BK173.out))⟩; have n1_ : Aside0 (w31.heap[gb179]? = some (.cells #[.int .u8 t174, .int .u8 t175, .int .u8 t176, .int .u8 t177] 85 (0, 0))) := ⟨(by rw [hw]; exact (by (with_reducible repeat (first | refine blk_drewN ?_ _ | refine blk_drew ?_ | refine blk_alloc ?_ _)); refine blk_farC NB179_173.out _ _ ?_; (with_reducible repeat (first | refine blk_drewN ?_ _ | refine blk_drew ?_ | refine blk_alloc ?_ _)); exact BK179.out))⟩; have n2_ : Aside0 (w31.heap[gb214]? = some (.cells #[.int .u8 t197, .int .u8 t198, .int .u8 t199, .int .u8 t200, .int .u8 t201, .int .u8 t202, .int .u8 t203, .int .u8 t204, .int .u8 t205, .int .u8 t206, .int .u8 t207, .int .u8 t208, .int .u8 t209, .int .u8 t210, .int .u8 t211, .int .u8 t212] 22 (0, 0))) := ⟨(by rw [hw]; exact (by (with_reducible repeat (first | refine blk_drewN ?_ _ | refine blk_drew ?_ | refine blk_alloc ?_ _)); refine blk_farC NB214_173.out _ _ ?_; (with_reducible repeat (first | refine blk_drewN ?_ _ | refine blk_drew ?_ | refine blk_alloc ?_ _)); exact BK214.out))⟩; have n3_ : Aside0 (Below w.heap.size w w31) := ⟨(by rw [hw]; exact (by repeat (first | (with_reducible first | exact HB.out | apply below_alloc | apply pw_below_drewN | apply below_drew1 | refine below_set ?_ GE173.out | refine below_set ?_ GE179.out | refine below_set ?_ GE214.out | refine below_setC GE173.out _ _ ?_ | refine below_setC GE179.out _ _ ?_ | refine below_setC GE214.out _ _ ?_) | exact HB.out)))⟩; clear hw; clear BK173; clear BK179; clear BK214; clear HB; have BK173 := n0_; have BK179 := n1_; have BK214 := n2_; have HB := n3_; clear n0_ n1_ n2_ n3_))
     refine bodyPost_ret (results_ct rfl _ _ gb173 24 #[.bool true, .int .u8 t197, .int .u8 t198, .int .u8 t199, .int .u8 t200, .int .u8 t201, .int .u8 t202, .int .u8 t203, .int .u8 t204, .int .u8 t205, .int .u8 t206, .int .u8 t207, .int .u8 t208, .int .u8 t209, .int .u8 t210, .int .u8 t211, .int .u8 t212] (0, 0) _ rfl bk_ Tryd.underlying24 rfl (by kernel_rfl)) rfl ?_
     exact ⟨rq_, bg_⟩
    ·replace c17 := Bool.eq_false_iff.mpr c17
     subst c17
     replace H := ifF_ H
     exact absurd H (by simp)
   ·replace c15 := Bool.eq_false_iff.mpr c15
    subst c15
    replace H := ifF_ H
    exact absurd H (by simp)

-- NOT PRINTED: function 30 (cidr_Parse)

-- NOT PRINTED: function 10 (cidr_Forbidden)

-- NOT PRINTED: function 39 (api_Net_39)

-- NOT PRINTED: function 20 (api_Net_20)

def ip_mapped.f (a0_0 : Bool) (a0_1 : Int) (a0_2 : Int) (a0_3 : Int) (a0_4 : Int) (a0_5 : Int) (a0_6 : Int) (a0_7 : Int) (a0_8 : Int) (a0_9 : Int) (a0_10 : Int) (a0_11 : Int) (a0_12 : Int) (a0_13 : Int) (a0_14 : Int) (a0_15 : Int) (a0_16 : Int) : Option (Bool) := (some (([0, 0, 0, 0, 0, 0, 0, 0, 0, 0, 255, 255] : List Int) : List Int)).bind fun y250 => (if a0_0 = true then (some ((a0_1 == (cpy 0 12 0 y250 a0_1) && (a0_2 == (cpy 0 12 1 y250 a0_2) && (a0_3 == (cpy 0 12 2 y250 a0_3) && (a0_4 == (cpy 0 12 3 y250 a0_4) && (a0_5 == (cpy 0 12 4 y250 a0_5) && (a0_6 == (cpy 0 12 5 y250 a0_6) && (a0_7 == (cpy 0 12 6 y250 a0_7) && (a0_8 == (cpy 0 12 7 y250 a0_8) && (a0_9 == (cpy 0 12 8 y250 a0_9) && (a0_10 == (cpy 0 12 9 y250 a0_10) && (a0_11 == (cpy 0 12 10 y250 a0_11) && (a0_12 == (cpy 0 12 11 y250 a0_12) && (a0_13 == (cpy 0 12 12 y250 a0_13) && (a0_14 == (cpy 0 12 13 y250 a0_14) && (a0_15 == (cpy 0 12 14 y250 a0_15) && (a0_16 == (cpy 0 12 15 y250 a0_16))))))))))))))))))) else (some false))
set_option maxHeartbeats 8000000 in
set_option maxRecDepth 100000 in
theorem ip_mapped.calls (a0_0 : Bool) (a0_1 : Int) (a0_2 : Int) (a0_3 : Int) (a0_4 : Int) (a0_5 : Int) (a0_6 : Int) (a0_7 : Int) (a0_8 : Int) (a0_9 : Int) (a0_10 : Int) (a0_11 : Int) (a0_12 : Int) (a0_13 : Int) (a0_14 : Int) (a0_15 : Int) (a0_16 : Int) (r : Bool) (w : World) (hLW : LW w) (h : ip_mapped.f a0_0 a0_1 a0_2 a0_3 a0_4 a0_5 a0_6 a0_7 a0_8 a0_9 a0_10 a0_11 a0_12 a0_13 a0_14 a0_15 a0_16 = some r) :
  Calls Tryd.prog 41 #[.agg #[.bool a0_0, .int .u8 a0_1, .int .u8 a0_2, .int .u8 a0_3, .int .u8 a0_4, .int .u8 a0_5, .int .u8 a0_6, .int .u8 a0_7, .int .u8 a0_8, .int .u8 a0_9, .int .u8 a0_10, .int .u8 a0_11, .int .u8 a0_12, .int .u8 a0_13, .int .u8 a0_14, .int .u8 a0_15, .int .u8 a0_16]] w fun e w' => e = .returned (.bool r) ∧ Below w.heap.size w w' := by
 have hu24 := Tryd.underlying24
 have HLW := Aside0.mk hLW
 clear hLW
 have HB := Aside0.mk (Below.refl w.heap.size w)
 have H : ((some (([0, 0, 0, 0, 0, 0, 0, 0, 0, 0, 255, 255] : List Int) : List Int)).bind fun y250 => (if a0_0 = true then (some ((a0_1 == (cpy 0 12 0 y250 a0_1) && (a0_2 == (cpy 0 12 1 y250 a0_2) && (a0_3 == (cpy 0 12 2 y250 a0_3) && (a0_4 == (cpy 0 12 3 y250 a0_4) && (a0_5 == (cpy 0 12 4 y250 a0_5) && (a0_6 == (cpy 0 12 5 y250 a0_6) && (a0_7 == (cpy 0 12 6 y250 a0_7) && (a0_8 == (cpy 0 12 7 y250 a0_8) && (a0_9 == (cpy 0 12 8 y250 a0_9) && (a0_10 == (cpy 0 12 9 y250 a0_10) && (a0_11 == (cpy 0 12 10 y250 a0_11) && (a0_12 == (cpy 0 12 11 y250 a0_12) && (a0_13 == (cpy 0 12 12 y250 a0_13) && (a0_14 == (cpy 0 12 13 y250 a0_14) && (a0_15 == (cpy 0 12 14 y250 a0_15) && (a0_16 == (cpy 0 12 15 y250 a0_16))))))))))))))))))) else (some false))) = some r := h
 clear h
 obtain ⟨y250, hy250⟩ : ∃ y_ : List Int, y_ = (([0, 0, 0, 0, 0, 0, 0, 0, 0, 0, 255, 255] : List Int)) := ⟨_, rfl⟩
 replace H : (if a0_0 = true then (some ((a0_1 == (cpy 0 12 0 y250 a0_1) && (a0_2 == (cpy 0 12 1 y250 a0_2) && (a0_3 == (cpy 0 12 2 y250 a0_3) && (a0_4 == (cpy 0 12 3 y250 a0_4) && (a0_5 == (cpy 0 12 4 y250 a0_5) && (a0_6 == (cpy 0 12 5 y250 a0_6) && (a0_7 == (cpy 0 12 6 y250 a0_7) && (a0_8 == (cpy 0 12 7 y250 a0_8) && (a0_9 == (cpy 0 12 8 y250 a0_9) && (a0_10 == (cpy 0 12 9 y250 a0_10) && (a0_11 == (cpy 0 12 10 y250 a0_11) && (a0_12 == (cpy 0 12 11 y250 a0_12) && (a0_13 == (cpy 0 12 12 y250 a0_13) && (a0_14 == (cpy 0 12 13 y250 a0_14) && (a0_15 == (cpy 0 12 14 y250 a0_15) && (a0_16 == (cpy 0 12 15 y250 a0_16))))))))))))))))))) else (some false)) = some r := by first | (rw [hy250]; with_reducible exact H) | (have H2_ := (Option.bind_some _ _).symm.trans H; rw [hy250]; with_reducible exact H2_) | (have H2_ := (Option.bind_some _ _).symm.trans H; with_reducible exact H2_) | with_reducible exact H | (rw [hy250]; exact H) | exact H
 have Ny250 := Aside0.mk hy250
 clear hy250
 by_cases c2 : a0_0 = true
 ·subst c2
  replace H := ifT_ H
  obtain rfl := Option.some.inj H
  go_enter Tryd.func41, Tryd.ntmps41
  go_wp2_with (first | ((with_reducible refine gate_dst (N := 1) rfl ?_); refine box_event ?hg (N := 1) ?hd (cs := #[.bool true, .int .u8 a0_1, .int .u8 a0_2, .int .u8 a0_3, .int .u8 a0_4, .int .u8 a0_5, .int .u8 a0_6, .int .u8 a0_7, .int .u8 a0_8, .int .u8 a0_9, .int .u8 a0_10, .int .u8 a0_11, .int .u8 a0_12, .int .u8 a0_13, .int .u8 a0_14, .int .u8 a0_15, .int .u8 a0_16]) (t := 24) ?hr ?_; (case hd => rfl); (case hg => rfl); (case hr => first | (go_simp; done) | (go_simp; rfl)); intro gb248 hg w3 hbox hb; have n0_ := Aside0.mk (below_step bq_ hb); have n1_ := Aside0.mk (hbox); have n2_ := Aside0.mk (show w.heap.size ≤ gb248 from ge_ hg); have n3_ := Aside0.mk (show w.heap.size ≤ gb248 from ge_ hg); clear HB; have HB := n0_; have BK248 := n1_; have GW248 := n2_; have GE248 := n3_; clear n0_ n1_ n2_ n3_; clear hb hbox hg) | ((with_reducible refine gate_dst (N := 4) rfl ?_); (try (refine gate_guard (by rfl) ?_; dsimp only)); refine load_box ?hg 24 (.tmp 1) rfl BK248.out [] [.bool true, .int .u8 a0_1, .int .u8 a0_2, .int .u8 a0_3, .int .u8 a0_4, .int .u8 a0_5, .int .u8 a0_6, .int .u8 a0_7, .int .u8 a0_8, .int .u8 a0_9, .int .u8 a0_10, .int .u8 a0_11, .int .u8 a0_12, .int .u8 a0_13, .int .u8 a0_14, .int .u8 a0_15, .int .u8 a0_16] [] rfl 0 rfl rfl Tryd.underlying24 rfl (by kernel_rfl) ?_; (case hg => rfl)) | ((with_reducible refine gate_dst (N := 3) rfl ?_); refine box_event ?hg (N := 3) ?hd (cs := #[.bool false, .int .u8 0, .int .u8 0, .int .u8 0, .int .u8 0, .int .u8 0, .int .u8 0, .int .u8 0, .int .u8 0, .int .u8 0, .int .u8 0, .int .u8 0, .int .u8 0, .int .u8 0, .int .u8 0, .int .u8 0, .int .u8 0]) (t := 24) ?hr ?_; (case hd => rfl); (case hg => rfl); (case hr => first | (go_simp; done) | (go_simp; rfl)); intro gb249 hg w4 hbox hb; have n0_ := Aside0.mk (bb_ BK248 hb); have n1_ := Aside0.mk (below_step bg_ hb); have n2_ := Aside0.mk (hbox); have n3_ := Aside0.mk (show w.heap.size ≤ gb249 from gg_ hg); have n4_ := Aside0.mk (show w.heap.size ≤ gb249 from gg_ hg); have n5_ := Aside0.mk (show gb248 ≠ gb249 from nl_ BK248 hg); have n6_ := Aside0.mk (show gb249 ≠ gb248 from ng_ BK248 hg); clear BK248; clear HB; have BK248 := n0_; have HB := n1_; have BK249 := n2_; have GW249 := n3_; have GE249 := n4_; have NB248_249 := n5_; have NB249_248 := n6_; clear n0_ n1_ n2_ n3_ n4_ n5_ n6_; clear hb hbox hg; have hnb5 := NB249_248.out; have hnc5 := NB248_249.out; have hcz6_0 := cz_ BK249 0 (.bool false); have hcz6_1 := cz_ BK249 1 (.int .u8 0); have hcz6_2 := cz_ BK249 2 (.int .u8 0); have hcz6_3 := cz_ BK249 3 (.int .u8 0); have hcz6_4 := cz_ BK249 4 (.int .u8 0); have hcz6_5 := cz_ BK249 5 (.int .u8 0); have hcz6_6 := cz_ BK249 6 (.int .u8 0); have hcz6_7 := cz_ BK249 7 (.int .u8 0); have hcz6_8 := cz_ BK249 8 (.int .u8 0); have hcz6_9 := cz_ BK249 9 (.int .u8 0); have hcz6_10 := cz_ BK249 10 (.int .u8 0); have hcz6_11 := cz_ BK249 11 (.int .u8 0); have hcz6_12 := cz_ BK249 12 (.int .u8 0); have hcz6_13 := cz_ BK249 13 (.int .u8 0); have hcz6_14 := cz_ BK249 14 (.int .u8 0); have hcz6_15 := cz_ BK249 15 (.int .u8 0); have hcz6_16 := cz_ BK249 16 (.int .u8 0); have hfz6_0 := bf_ BK249 0; have hfz6_1 := bf_ BK249 1; have hfz6_2 := bf_ BK249 2; have hfz6_3 := bf_ BK249 3; have hfz6_4 := bf_ BK249 4; have hfz6_5 := bf_ BK249 5; have hfz6_6 := bf_ BK249 6; have hfz6_7 := bf_ BK249 7; have hfz6_8 := bf_ BK249 8; have hfz6_9 := bf_ BK249 9; have hfz6_10 := bf_ BK249 10; have hfz6_11 := bf_ BK249 11; have hfz6_12 := bf_ BK249 12; have hfz6_13 := bf_ BK249 13; have hfz6_14 := bf_ BK249 14; have hfz6_15 := bf_ BK249 15; have hfz6_16 := bf_ BK249 16) | ((with_reducible refine gate_store (t := 24) (p := 3) rfl ?_); refine store_all ?hg 24 3 _ rfl rfl gb249 [.bool false, .int .u8 0, .int .u8 0, .int .u8 0, .int .u8 0, .int .u8 0, .int .u8 0, .int .u8 0, .int .u8 0, .int .u8 0, .int .u8 0, .int .u8 0, .int .u8 0, .int .u8 0, .int .u8 0, .int .u8 0, .int .u8 0] [.bool true, .int .u8 a0_1, .int .u8 a0_2, .int .u8 a0_3, .int .u8 a0_4, .int .u8 a0_5, .int .u8 a0_6, .int .u8 a0_7, .int .u8 a0_8, .int .u8 a0_9, .int .u8 a0_10, .int .u8 a0_11, .int .u8 a0_12, .int .u8 a0_13, .int .u8 a0_14, .int .u8 a0_15, .int .u8 a0_16] BK249.out rfl rfl rfl (by kernel_rfl) rfl ?_; (case hg => rfl); intro w7 hw; have n0_ : Aside0 (w7.heap[gb248]? = some (.cells #[.bool true, .int .u8 a0_1, .int .u8 a0_2, .int .u8 a0_3, .int .u8 a0_4, .int .u8 a0_5, .int .u8 a0_6, .int .u8 a0_7, .int .u8 a0_8, .int .u8 a0_9, .int .u8 a0_10, .int .u8 a0_11, .int .u8 a0_12, .int .u8 a0_13, .int .u8 a0_14, .int .u8 a0_15, .int .u8 a0_16] 24 (0, 0))) := ⟨(by rw [hw]; exact (by (with_reducible repeat (first | refine blk_drewN ?_ _ | refine blk_drew ?_ | refine blk_alloc ?_ _)); refine blk_farC NB248_249.out _ _ ?_; (with_reducible repeat (first | refine blk_drewN ?_ _ | refine blk_drew ?_ | refine blk_alloc ?_ _)); exact BK248.out))⟩; have n1_ : Aside0 (w7.heap[gb249]? = some (.cells #[.bool true, .int .u8 a0_1, .int .u8 a0_2, .int .u8 a0_3, .int .u8 a0_4, .int .u8 a0_5, .int .u8 a0_6, .int .u8 a0_7, .int .u8 a0_8, .int .u8 a0_9, .int .u8 a0_10, .int .u8 a0_11, .int .u8 a0_12, .int .u8 a0_13, .int .u8 a0_14, .int .u8 a0_15, .int .u8 a0_16] 24 (0, 0))) := ⟨(by rw [hw]; exact (by (with_reducible repeat (first | refine blk_drewN ?_ _ | refine blk_drew ?_ | refine blk_alloc ?_ _)); refine blk_part [.bool true, .int .u8 a0_1, .int .u8 a0_2, .int .u8 a0_3, .int .u8 a0_4, .int .u8 a0_5, .int .u8 a0_6, .int .u8 a0_7, .int .u8 a0_8, .int .u8 a0_9, .int .u8 a0_10, .int .u8 a0_11, .int .u8 a0_12, .int .u8 a0_13, .int .u8 a0_14, .int .u8 a0_15, .int .u8 a0_16] [.bool false, .int .u8 0, .int .u8 0, .int .u8 0, .int .u8 0, .int .u8 0, .int .u8 0, .int .u8 0, .int .u8 0, .int .u8 0, .int .u8 0, .int .u8 0, .int .u8 0, .int .u8 0, .int .u8 0, .int .u8 0, .int .u8 0] [] [] (cs := #[.bool false, .int .u8 0, .int .u8 0, .int .u8 0, .int .u8 0, .int .u8 0, .int .u8 0, .int .u8 0, .int .u8 0, .int .u8 0, .int .u8 0, .int .u8 0, .int .u8 0, .int .u8 0, .int .u8 0, .int .u8 0, .int .u8 0]) ?_ rfl rfl rfl; (with_reducible repeat (first | refine blk_drewN ?_ _ | refine blk_drew ?_ | refine blk_alloc ?_ _)); exact BK249.out))⟩; have n2_ : Aside0 (Below w.heap.size w w7) := ⟨(by rw [hw]; exact (by repeat (first | (with_reducible first | exact HB.out | apply below_alloc | apply pw_below_drewN | apply below_drew1 | refine below_set ?_ GE248.out | refine below_set ?_ GE249.out | refine below_setC GE248.out _ _ ?_ | refine below_setC GE249.out _ _ ?_) | exact HB.out)))⟩; clear hw; clear BK248; clear BK249; clear HB; have BK248 := n0_; have BK249 := n1_; have HB := n2_; clear n0_ n1_ n2_) | ((with_reducible refine gate_dst (N := 7) rfl ?_); refine Kd.R_lit (Kd.int .u8) _ 5 ?hg (N := 7) ?hd (xs := ([0, 0, 0, 0, 0, 0, 0, 0, 0, 0, 255, 255] : List Int)) (inner := [.int .u8 0, .int .u8 0, .int .u8 0, .int .u8 0, .int .u8 0, .int .u8 0, .int .u8 0, .int .u8 0, .int .u8 0, .int .u8 0, .int .u8 255, .int .u8 255]) (ok := fun _ => True) (okp := fun _ => True) ?hr ?hp (fun _ hk => hk) trivial (Below.refl _ _) (Nat.le_refl _) (by simp) ?_; (case hd => rfl); (case hg => rfl); (case hr => first | (go_simp; done) | (go_simp; rfl)); (case hp => exact (Reps.one (show Kd.M (Kd.int .u8) _ _ _ 0 [.int .u8 0] from rfl) (Reps.one (show Kd.M (Kd.int .u8) _ _ _ 0 [.int .u8 0] from rfl) (Reps.one (show Kd.M (Kd.int .u8) _ _ _ 0 [.int .u8 0] from rfl) (Reps.one (show Kd.M (Kd.int .u8) _ _ _ 0 [.int .u8 0] from rfl) (Reps.one (show Kd.M (Kd.int .u8) _ _ _ 0 [.int .u8 0] from rfl) (Reps.one (show Kd.M (Kd.int .u8) _ _ _ 0 [.int .u8 0] from rfl) (Reps.one (show Kd.M (Kd.int .u8) _ _ _ 0 [.int .u8 0] from rfl) (Reps.one (show Kd.M (Kd.int .u8) _ _ _ 0 [.int .u8 0] from rfl) (Reps.one (show Kd.M (Kd.int .u8) _ _ _ 0 [.int .u8 0] from rfl) (Reps.one (show Kd.M (Kd.int .u8) _ _ _ 0 [.int .u8 0] from rfl) (Reps.one (show Kd.M (Kd.int .u8) _ _ _ 255 [.int .u8 255] from rfl) (Reps.one (show Kd.M (Kd.int .u8) _ _ _ 255 [.int .u8 255] from rfl) (Reps.none _ _)))))))))))))); intro v251 w8 ho9 hb hg_ hnew_; clear hg_ hnew_; (first | rw [← Ny250.out] at ho9 | (simp only [Int.reduceToNat] at ho9; rw [← Ny250.out] at ho9)); have n0_ := Aside0.mk (Kd.R_lower ho9 (below_size bg_)); have n1_ := Aside0.mk (bb_ BK248 hb); have n2_ := Aside0.mk (bb_ BK249 hb); have n3_ := Aside0.mk (below_step bg_ hb); clear BK248; clear BK249; clear HB; have HO252 := n0_; have BK248 := n1_; have BK249 := n2_; have HB := n3_; clear n0_ n1_ n2_ n3_; clear hb ho9; obtain ⟨Ao10, co10, eo10⟩ := Kd.R_slice HO252.out; subst eo10; have hcz11_0 := cz_ BK249 0 (.bool true); have hcz11_1 := cz_ BK249 1 (.int .u8 a0_1); have hcz11_2 := cz_ BK249 2 (.int .u8 a0_2); have hcz11_3 := cz_ BK249 3 (.int .u8 a0_3); have hcz11_4 := cz_ BK249 4 (.int .u8 a0_4); have hcz11_5 := cz_ BK249 5 (.int .u8 a0_5); have hcz11_6 := cz_ BK249 6 (.int .u8 a0_6); have hcz11_7 := cz_ BK249 7 (.int .u8 a0_7); have hcz11_8 := cz_ BK249 8 (.int .u8 a0_8); have hcz11_9 := cz_ BK249 9 (.int .u8 a0_9); have hcz11_10 := cz_ BK249 10 (.int .u8 a0_10); have hcz11_11 := cz_ BK249 11 (.int .u8 a0_11); have hcz11_12 := cz_ BK249 12 (.int .u8 a0_12); have hcz11_13 := cz_ BK249 13 (.int .u8 a0_13); have hcz11_14 := cz_ BK249 14 (.int .u8 a0_14); have hcz11_15 := cz_ BK249 15 (.int .u8 a0_15); have hcz11_16 := cz_ BK249 16 (.int .u8 a0_16); have hfz11_0 := bf_ BK249 0; have hfz11_1 := bf_ BK249 1; have hfz11_2 := bf_ BK249 2; have hfz11_3 := bf_ BK249 3; have hfz11_4 := bf_ BK249 4; have hfz11_5 := bf_ BK249 5; have hfz11_6 := bf_ BK249 6; have hfz11_7 := bf_ BK249 7; have hfz11_8 := bf_ BK249 8; have hfz11_9 := bf_ BK249 9; have hfz11_10 := bf_ BK249 10; have hfz11_11 := bf_ BK249 11; have hfz11_12 := bf_ BK249 12; have hfz11_13 := bf_ BK249 13; have hfz11_14 := bf_ BK249 14; have hfz11_15 := bf_ BK249 15; have hfz11_16 := bf_ BK249 16) | ((with_reducible refine gate_dst (N := 8) rfl ?_); obtain ⟨vcp_, hcw_⟩ := copy_world (P := Tryd.prog) (dT := 70) (sT := 70) (ty := 3) (c := co10) Tryd.underlying70 (info_size info5) BK249.out .u8 [.bool true] [a0_1, a0_2, a0_3, a0_4, a0_5, a0_6, a0_7, a0_8, a0_9, a0_10, a0_11, a0_12, a0_13, a0_14, a0_15, a0_16] [] rfl 0 12 12 16 (by decide) (by decide) (by show 12 ≤ 16; decide) (by have h_ := HO252.out; first | exact (Kd.R_reads' h_).2.2 | exact (Kd.R_reads' (by (with_reducible repeat (first | apply Kd.R_alloc | apply Kd.R_drewN | apply Kd.R_drew)); exact HO252.out)).2.2) (q := 1) (Or.inl rfl); refine run_ev ?hg (N := 8) ?hd vcp_ (w1 := (w8.setCells gb249 1 ((cpyL 0 12 y250 0 [a0_1, a0_2, a0_3, a0_4, a0_5, a0_6, a0_7, a0_8, a0_9, a0_10, a0_11, a0_12, a0_13, a0_14, a0_15, a0_16]).map (Value.int .u8)))) ?hr ?_; (case hd => rfl); (case hg => rfl); (case hr => first | (go_simp; done) | (go_simp; rw [hcw_]; rfl)); clear hcw_; intro w12 hw; have n0_ : Aside0 (Kd.R (Kd.int .u8) 5 w12 w.heap.size (fun _ => True) (.slice Ao10 y250.length co10) y250) := ⟨(by rw [hw]; exact (by (with_reducible repeat (first | apply Kd.R_alloc | apply Kd.R_drewN | apply Kd.R_drew)); exact Kd.R_mono (R_farC (g := gb249) (fun _ hk => hk.2) (Kd.R_types HO252.out BK249.out (by decide)) ((cpyL 0 12 y250 0 [a0_1, a0_2, a0_3, a0_4, a0_5, a0_6, a0_7, a0_8, a0_9, a0_10, a0_11, a0_12, a0_13, a0_14, a0_15, a0_16]).map (Value.int .u8)) 1) (fun _ hk => trivial)))⟩; have n1_ : Aside0 (w12.heap[gb248]? = some (.cells #[.bool true, .int .u8 a0_1, .int .u8 a0_2, .int .u8 a0_3, .int .u8 a0_4, .int .u8 a0_5, .int .u8 a0_6, .int .u8 a0_7, .int .u8 a0_8, .int .u8 a0_9, .int .u8 a0_10, .int .u8 a0_11, .int .u8 a0_12, .int .u8 a0_13, .int .u8 a0_14, .int .u8 a0_15, .int .u8 a0_16] 24 (0, 0))) := ⟨(by rw [hw]; exact (by (with_reducible repeat (first | refine blk_drewN ?_ _ | refine blk_drew ?_ | refine blk_alloc ?_ _)); refine blk_farC NB248_249.out _ _ ?_; (with_reducible repeat (first | refine blk_drewN ?_ _ | refine blk_drew ?_ | refine blk_alloc ?_ _)); exact BK248.out))⟩; have n2_ : Aside0 (w12.heap[gb249]? = some (.cells #[.bool true, .int .u8 (cpy 0 12 0 y250 a0_1), .int .u8 (cpy 0 12 1 y250 a0_2), .int .u8 (cpy 0 12 2 y250 a0_3), .int .u8 (cpy 0 12 3 y250 a0_4), .int .u8 (cpy 0 12 4 y250 a0_5), .int .u8 (cpy 0 12 5 y250 a0_6), .int .u8 (cpy 0 12 6 y250 a0_7), .int .u8 (cpy 0 12 7 y250 a0_8), .int .u8 (cpy 0 12 8 y250 a0_9), .int .u8 (cpy 0 12 9 y250 a0_10), .int .u8 (cpy 0 12 10 y250 a0_11), .int .u8 (cpy 0 12 11 y250 a0_12), .int .u8 (cpy 0 12 12 y250 a0_13), .int .u8 (cpy 0 12 13 y250 a0_14), .int .u8 (cpy 0 12 14 y250 a0_15), .int .u8 (cpy 0 12 15 y250 a0_16)] 24 (0, 0))) := ⟨(by rw [hw]; exact (by (with_reducible repeat (first | refine blk_drewN ?_ _ | refine blk_drew ?_ | refine blk_alloc ?_ _)); refine blk_part ((cpyL 0 12 y250 0 [a0_1, a0_2, a0_3, a0_4, a0_5, a0_6, a0_7, a0_8, a0_9, a0_10, a0_11, a0_12, a0_13, a0_14, a0_15, a0_16]).map (Value.int .u8)) [.int .u8 a0_1, .int .u8 a0_2, .int .u8 a0_3, .int .u8 a0_4, .int .u8 a0_5, .int .u8 a0_6, .int .u8 a0_7, .int .u8 a0_8, .int .u8 a0_9, .int .u8 a0_10, .int .u8 a0_11, .int .u8 a0_12, .int .u8 a0_13, .int .u8 a0_14, .int .u8 a0_15, .int .u8 a0_16] [.bool true] [] (cs := #[.bool true, .int .u8 a0_1, .int .u8 a0_2, .int .u8 a0_3, .int .u8 a0_4, .int .u8 a0_5, .int .u8 a0_6, .int .u8 a0_7, .int .u8 a0_8, .int .u8 a0_9, .int .u8 a0_10, .int .u8 a0_11, .int .u8 a0_12, .int .u8 a0_13, .int .u8 a0_14, .int .u8 a0_15, .int .u8 a0_16]) ?_ rfl rfl rfl; (with_reducible repeat (first | refine blk_drewN ?_ _ | refine blk_drew ?_ | refine blk_alloc ?_ _)); exact BK249.out))⟩; have n3_ : Aside0 (Below w.heap.size w w12) := ⟨(by rw [hw]; exact (by repeat (first | (with_reducible first | exact HB.out | apply below_alloc | apply pw_below_drewN | apply below_drew1 | refine below_set ?_ GE248.out | refine below_set ?_ GE249.out | refine below_setC GE248.out _ _ ?_ | refine below_setC GE249.out _ _ ?_) | exact HB.out)))⟩; clear hw; clear HO252; clear BK248; clear BK249; clear HB; have HO252 := n0_; have BK248 := n1_; have BK249 := n2_; have HB := n3_; clear n0_ n1_ n2_ n3_; have hcz13_0 := cz_ BK248 0 (.bool true); have hcz13_1 := cz_ BK248 1 (.int .u8 a0_1); have hcz13_2 := cz_ BK248 2 (.int .u8 a0_2); have hcz13_3 := cz_ BK248 3 (.int .u8 a0_3); have hcz13_4 := cz_ BK248 4 (.int .u8 a0_4); have hcz13_5 := cz_ BK248 5 (.int .u8 a0_5); have hcz13_6 := cz_ BK248 6 (.int .u8 a0_6); have hcz13_7 := cz_ BK248 7 (.int .u8 a0_7); have hcz13_8 := cz_ BK248 8 (.int .u8 a0_8); have hcz13_9 := cz_ BK248 9 (.int .u8 a0_9); have hcz13_10 := cz_ BK248 10 (.int .u8 a0_10); have hcz13_11 := cz_ BK248 11 (.int .u8 a0_11); have hcz13_12 := cz_ BK248 12 (.int .u8 a0_12); have hcz13_13 := cz_ BK248 13 (.int .u8 a0_13); have hcz13_14 := cz_ BK248 14 (.int .u8 a0_14); have hcz13_15 := cz_ BK248 15 (.int .u8 a0_15); have hcz13_16 := cz_ BK248 16 (.int .u8 a0_16); have hfz13_0 := bf_ BK248 0; have hfz13_1 := bf_ BK248 1; have hfz13_2 := bf_ BK248 2; have hfz13_3 := bf_ BK248 3; have hfz13_4 := bf_ BK248 4; have hfz13_5 := bf_ BK248 5; have hfz13_6 := bf_ BK248 6; have hfz13_7 := bf_ BK248 7; have hfz13_8 := bf_ BK248 8; have hfz13_9 := bf_ BK248 9; have hfz13_10 := bf_ BK248 10; have hfz13_11 := bf_ BK248 11; have hfz13_12 := bf_ BK248 12; have hfz13_13 := bf_ BK248 13; have hfz13_14 := bf_ BK248 14; have hfz13_15 := bf_ BK248 15; have hfz13_16 := bf_ BK248 16) | ((with_reducible refine gate_dst (N := 12) rfl ?_); (try (refine gate_guard (by rfl) ?_; dsimp only)); refine load_box ?hg 24 (.tmp 1) rfl BK248.out [] [.bool true, .int .u8 a0_1, .int .u8 a0_2, .int .u8 a0_3, .int .u8 a0_4, .int .u8 a0_5, .int .u8 a0_6, .int .u8 a0_7, .int .u8 a0_8, .int .u8 a0_9, .int .u8 a0_10, .int .u8 a0_11, .int .u8 a0_12, .int .u8 a0_13, .int .u8 a0_14, .int .u8 a0_15, .int .u8 a0_16] [] rfl 0 rfl rfl Tryd.underlying24 rfl (by kernel_rfl) ?_; (case hg => rfl)) | ((with_reducible refine gate_dst (N := 13) rfl ?_); (try (refine gate_guard (by rfl) ?_; dsimp only)); refine load_box ?hg 24 (.tmp 3) rfl BK249.out [] [.bool true, .int .u8 (cpy 0 12 0 y250 a0_1), .int .u8 (cpy 0 12 1 y250 a0_2), .int .u8 (cpy 0 12 2 y250 a0_3), .int .u8 (cpy 0 12 3 y250 a0_4), .int .u8 (cpy 0 12 4 y250 a0_5), .int .u8 (cpy 0 12 5 y250 a0_6), .int .u8 (cpy 0 12 6 y250 a0_7), .int .u8 (cpy 0 12 7 y250 a0_8), .int .u8 (cpy 0 12 8 y250 a0_9), .int .u8 (cpy 0 12 9 y250 a0_10), .int .u8 (cpy 0 12 10 y250 a0_11), .int .u8 (cpy 0 12 11 y250 a0_12), .int .u8 (cpy 0 12 12 y250 a0_13), .int .u8 (cpy 0 12 13 y250 a0_14), .int .u8 (cpy 0 12 14 y250 a0_15), .int .u8 (cpy 0 12 15 y250 a0_16)] [] rfl 0 rfl rfl Tryd.underlying24 rfl (by kernel_rfl) ?_; (case hg => rfl)))
  go_ret
  exact ⟨rq_, bg_⟩
 ·replace c2 := Bool.eq_false_iff.mpr c2
  subst c2
  replace H := ifF_ H
  obtain rfl := Option.some.inj H
  go_enter Tryd.func41, Tryd.ntmps41
  go_wp2_with (first | ((with_reducible refine gate_dst (N := 1) rfl ?_); refine box_event ?hg (N := 1) ?hd (cs := #[.bool false, .int .u8 a0_1, .int .u8 a0_2, .int .u8 a0_3, .int .u8 a0_4, .int .u8 a0_5, .int .u8 a0_6, .int .u8 a0_7, .int .u8 a0_8, .int .u8 a0_9, .int .u8 a0_10, .int .u8 a0_11, .int .u8 a0_12, .int .u8 a0_13, .int .u8 a0_14, .int .u8 a0_15, .int .u8 a0_16]) (t := 24) ?hr ?_; (case hd => rfl); (case hg => rfl); (case hr => first | (go_simp; done) | (go_simp; rfl)); intro gb248 hg w14 hbox hb; have n0_ := Aside0.mk (below_step bq_ hb); have n1_ := Aside0.mk (hbox); have n2_ := Aside0.mk (show w.heap.size ≤ gb248 from ge_ hg); have n3_ := Aside0.mk (show w.heap.size ≤ gb248 from ge_ hg); clear HB; have HB := n0_; have BK248 := n1_; have GW248 := n2_; have GE248 := n3_; clear n0_ n1_ n2_ n3_; clear hb hbox hg) | ((with_reducible refine gate_dst (N := 4) rfl ?_); (try (refine gate_guard (by rfl) ?_; dsimp only)); refine load_box ?hg 24 (.tmp 1) rfl BK248.out [] [.bool false, .int .u8 a0_1, .int .u8 a0_2, .int .u8 a0_3, .int .u8 a0_4, .int .u8 a0_5, .int .u8 a0_6, .int .u8 a0_7, .int .u8 a0_8, .int .u8 a0_9, .int .u8 a0_10, .int .u8 a0_11, .int .u8 a0_12, .int .u8 a0_13, .int .u8 a0_14, .int .u8 a0_15, .int .u8 a0_16] [] rfl 0 rfl rfl Tryd.underlying24 rfl (by kernel_rfl) ?_; (case hg => rfl)) | ((with_reducible refine gate_dst (N := 3) rfl ?_); refine box_event ?hg (N := 3) ?hd (cs := #[.bool false, .int .u8 0, .int .u8 0, .int .u8 0, .int .u8 0, .int .u8 0, .int .u8 0, .int .u8 0, .int .u8 0, .int .u8 0, .int .u8 0, .int .u8 0, .int .u8 0, .int .u8 0, .int .u8 0, .int .u8 0, .int .u8 0]) (t := 24) ?hr ?_; (case hd => rfl); (case hg => rfl); (case hr => first | (go_simp; done) | (go_simp; rfl)); intro gb249 hg w15 hbox hb; have n0_ := Aside0.mk (bb_ BK248 hb); have n1_ := Aside0.mk (below_step bg_ hb); have n2_ := Aside0.mk (hbox); have n3_ := Aside0.mk (show w.heap.size ≤ gb249 from gg_ hg); have n4_ := Aside0.mk (show w.heap.size ≤ gb249 from gg_ hg); have n5_ := Aside0.mk (show gb248 ≠ gb249 from nl_ BK248 hg); have n6_ := Aside0.mk (show gb249 ≠ gb248 from ng_ BK248 hg); clear BK248; clear HB; have BK248 := n0_; have HB := n1_; have BK249 := n2_; have GW249 := n3_; have GE249 := n4_; have NB248_249 := n5_; have NB249_248 := n6_; clear n0_ n1_ n2_ n3_ n4_ n5_ n6_; clear hb hbox hg; have hnb16 := NB249_248.out; have hnc16 := NB248_249.out; have hcz17_0 := cz_ BK249 0 (.bool false); have hcz17_1 := cz_ BK249 1 (.int .u8 0); have hcz17_2 := cz_ BK249 2 (.int .u8 0); have hcz17_3 := cz_ BK249 3 (.int .u8 0); have hcz17_4 := cz_ BK249 4 (.int .u8 0); have hcz17_5 := cz_ BK249 5 (.int .u8 0); have hcz17_6 := cz_ BK249 6 (.int .u8 0); have hcz17_7 := cz_ BK249 7 (.int .u8 0); have hcz17_8 := cz_ BK249 8 (.int .u8 0); have hcz17_9 := cz_ BK249 9 (.int .u8 0); have hcz17_10 := cz_ BK249 10 (.int .u8 0); have hcz17_11 := cz_ BK249 11 (.int .u8 0); have hcz17_12 := cz_ BK249 12 (.int .u8 0); have hcz17_13 := cz_ BK249 13 (.int .u8 0); have hcz17_14 := cz_ BK249 14 (.int .u8 0); have hcz17_15 := cz_ BK249 15 (.int .u8 0); have hcz17_16 := cz_ BK249 16 (.int .u8 0); have hfz17_0 := bf_ BK249 0; have hfz17_1 := bf_ BK249 1; have hfz17_2 := bf_ BK249 2; have hfz17_3 := bf_ BK249 3; have hfz17_4 := bf_ BK249 4; have hfz17_5 := bf_ BK249 5; have hfz17_6 := bf_ BK249 6; have hfz17_7 := bf_ BK249 7; have hfz17_8 := bf_ BK249 8; have hfz17_9 := bf_ BK249 9; have hfz17_10 := bf_ BK249 10; have hfz17_11 := bf_ BK249 11; have hfz17_12 := bf_ BK249 12; have hfz17_13 := bf_ BK249 13; have hfz17_14 := bf_ BK249 14; have hfz17_15 := bf_ BK249 15; have hfz17_16 := bf_ BK249 16) | ((with_reducible refine gate_store (t := 24) (p := 3) rfl ?_); refine store_all ?hg 24 3 _ rfl rfl gb249 [.bool false, .int .u8 0, .int .u8 0, .int .u8 0, .int .u8 0, .int .u8 0, .int .u8 0, .int .u8 0, .int .u8 0, .int .u8 0, .int .u8 0, .int .u8 0, .int .u8 0, .int .u8 0, .int .u8 0, .int .u8 0, .int .u8 0] [.bool false, .int .u8 a0_1, .int .u8 a0_2, .int .u8 a0_3, .int .u8 a0_4, .int .u8 a0_5, .int .u8 a0_6, .int .u8 a0_7, .int .u8 a0_8, .int .u8 a0_9, .int .u8 a0_10, .int .u8 a0_11, .int .u8 a0_12, .int .u8 a0_13, .int .u8 a0_14, .int .u8 a0_15, .int .u8 a0_16] BK249.out rfl rfl rfl (by kernel_rfl) rfl ?_; (case hg => rfl); intro w18 hw; have n0_ : Aside0 (w18.heap[gb248]? = some (.cells #[.bool false, .int .u8 a0_1, .int .u8 a0_2, .int .u8 a0_3, .int .u8 a0_4, .int .u8 a0_5, .int .u8 a0_6, .int .u8 a0_7, .int .u8 a0_8, .int .u8 a0_9, .int .u8 a0_10, .int .u8 a0_11, .int .u8 a0_12, .int .u8 a0_13, .int .u8 a0_14, .int .u8 a0_15, .int .u8 a0_16] 24 (0, 0))) := ⟨(by rw [hw]; exact (by (with_reducible repeat (first | refine blk_drewN ?_ _ | refine blk_drew ?_ | refine blk_alloc ?_ _)); refine blk_farC NB248_249.out _ _ ?_; (with_reducible repeat (first | refine blk_drewN ?_ _ | refine blk_drew ?_ | refine blk_alloc ?_ _)); exact BK248.out))⟩; have n1_ : Aside0 (w18.heap[gb249]? = some (.cells #[.bool false, .int .u8 a0_1, .int .u8 a0_2, .int .u8 a0_3, .int .u8 a0_4, .int .u8 a0_5, .int .u8 a0_6, .int .u8 a0_7, .int .u8 a0_8, .int .u8 a0_9, .int .u8 a0_10, .int .u8 a0_11, .int .u8 a0_12, .int .u8 a0_13, .int .u8 a0_14, .int .u8 a0_15, .int .u8 a0_16] 24 (0, 0))) := ⟨(by rw [hw]; exact (by (with_reducible repeat (first | refine blk_drewN ?_ _ | refine blk_drew ?_ | refine blk_alloc ?_ _)); refine blk_part [.bool false, .int .u8 a0_1, .int .u8 a0_2, .int .u8 a0_3, .int .u8 a0_4, .int .u8 a0_5, .int .u8 a0_6, .int .u8 a0_7, .int .u8 a0_8, .int .u8 a0_9, .int .u8 a0_10, .int .u8 a0_11, .int .u8 a0_12, .int .u8 a0_13, .int .u8 a0_14, .int .u8 a0_15, .int .u8 a0_16] [.bool false, .int .u8 0, .int .u8 0, .int .u8 0, .int .u8 0, .int .u8 0, .int .u8 0, .int .u8 0, .int .u8 0, .int .u8 0, .int .u8 0, .int .u8 0, .int .u8 0, .int .u8 0, .int .u8 0, .int .u8 0, .int .u8 0] [] [] (cs := #[.bool false, .int .u8 0, .int .u8 0, .int .u8 0, .int .u8 0, .int .u8 0, .int .u8 0, .int .u8 0, .int .u8 0, .int .u8 0, .int .u8 0, .int .u8 0, .int .u8 0, .int .u8 0, .int .u8 0, .int .u8 0, .int .u8 0]) ?_ rfl rfl rfl; (with_reducible repeat (first | refine blk_drewN ?_ _ | refine blk_drew ?_ | refine blk_alloc ?_ _)); exact BK249.out))⟩; have n2_ : Aside0 (Below w.heap.size w w18) := ⟨(by rw [hw]; exact (by repeat (first | (with_reducible first | exact HB.out | apply below_alloc | apply pw_below_drewN | apply below_drew1 | refine below_set ?_ GE248.out | refine below_set ?_ GE249.out | refine below_setC GE248.out _ _ ?_ | refine below_setC GE249.out _ _ ?_) | exact HB.out)))⟩; clear hw; clear BK248; clear BK249; clear HB; have BK248 := n0_; have BK249 := n1_; have HB := n2_; clear n0_ n1_ n2_) | ((with_reducible refine gate_dst (N := 7) rfl ?_); refine Kd.R_lit (Kd.int .u8) _ 5 ?hg (N := 7) ?hd (xs := ([0, 0, 0, 0, 0, 0, 0, 0, 0, 0, 255, 255] : List Int)) (inner := [.int .u8 0, .int .u8 0, .int .u8 0, .int .u8 0, .int .u8 0, .int .u8 0, .int .u8 0, .int .u8 0, .int .u8 0, .int .u8 0, .int .u8 255, .int .u8 255]) (ok := fun _ => True) (okp := fun _ => True) ?hr ?hp (fun _ hk => hk) trivial (Below.refl _ _) (Nat.le_refl _) (by simp) ?_; (case hd => rfl); (case hg => rfl); (case hr => first | (go_simp; done) | (go_simp; rfl)); (case hp => exact (Reps.one (show Kd.M (Kd.int .u8) _ _ _ 0 [.int .u8 0] from rfl) (Reps.one (show Kd.M (Kd.int .u8) _ _ _ 0 [.int .u8 0] from rfl) (Reps.one (show Kd.M (Kd.int .u8) _ _ _ 0 [.int .u8 0] from rfl) (Reps.one (show Kd.M (Kd.int .u8) _ _ _ 0 [.int .u8 0] from rfl) (Reps.one (show Kd.M (Kd.int .u8) _ _ _ 0 [.int .u8 0] from rfl) (Reps.one (show Kd.M (Kd.int .u8) _ _ _ 0 [.int .u8 0] from rfl) (Reps.one (show Kd.M (Kd.int .u8) _ _ _ 0 [.int .u8 0] from rfl) (Reps.one (show Kd.M (Kd.int .u8) _ _ _ 0 [.int .u8 0] from rfl) (Reps.one (show Kd.M (Kd.int .u8) _ _ _ 0 [.int .u8 0] from rfl) (Reps.one (show Kd.M (Kd.int .u8) _ _ _ 0 [.int .u8 0] from rfl) (Reps.one (show Kd.M (Kd.int .u8) _ _ _ 255 [.int .u8 255] from rfl) (Reps.one (show Kd.M (Kd.int .u8) _ _ _ 255 [.int .u8 255] from rfl) (Reps.none _ _)))))))))))))); intro v251 w19 ho20 hb hg_ hnew_; clear hg_ hnew_; (first | rw [← Ny250.out] at ho20 | (simp only [Int.reduceToNat] at ho20; rw [← Ny250.out] at ho20)); have n0_ := Aside0.mk (Kd.R_lower ho20 (below_size bg_)); have n1_ := Aside0.mk (bb_ BK248 hb); have n2_ := Aside0.mk (bb_ BK249 hb); have n3_ := Aside0.mk (below_step bg_ hb); clear BK248; clear BK249; clear HB; have HO252 := n0_; have BK248 := n1_; have BK249 := n2_; have HB := n3_; clear n0_ n1_ n2_ n3_; clear hb ho20; obtain ⟨Ao21, co21, eo21⟩ := Kd.R_slice HO252.out; subst eo21; have hcz22_0 := cz_ BK249 0 (.bool false); have hcz22_1 := cz_ BK249 1 (.int .u8 a0_1); have hcz22_2 := cz_ BK249 2 (.int .u8 a0_2); have hcz22_3 := cz_ BK249 3 (.int .u8 a0_3); have hcz22_4 := cz_ BK249 4 (.int .u8 a0_4); have hcz22_5 := cz_ BK249 5 (.int .u8 a0_5); have hcz22_6 := cz_ BK249 6 (.int .u8 a0_6); have hcz22_7 := cz_ BK249 7 (.int .u8 a0_7); have hcz22_8 := cz_ BK249 8 (.int .u8 a0_8); have hcz22_9 := cz_ BK249 9 (.int .u8 a0_9); have hcz22_10 := cz_ BK249 10 (.int .u8 a0_10); have hcz22_11 := cz_ BK249 11 (.int .u8 a0_11); have hcz22_12 := cz_ BK249 12 (.int .u8 a0_12); have hcz22_13 := cz_ BK249 13 (.int .u8 a0_13); have hcz22_14 := cz_ BK249 14 (.int .u8 a0_14); have hcz22_15 := cz_ BK249 15 (.int .u8 a0_15); have hcz22_16 := cz_ BK249 16 (.int .u8 a0_16); have hfz22_0 := bf_ BK249 0; have hfz22_1 := bf_ BK249 1; have hfz22_2 := bf_ BK249 2; have hfz22_3 := bf_ BK249 3; have hfz22_4 := bf_ BK249 4; have hfz22_5 := bf_ BK249 5; have hfz22_6 := bf_ BK249 6; have hfz22_7 := bf_ BK249 7; have hfz22_8 := bf_ BK249 8; have hfz22_9 := bf_ BK249 9; have hfz22_10 := bf_ BK249 10; have hfz22_11 := bf_ BK249 11; have hfz22_12 := bf_ BK249 12; have hfz22_13 := bf_ BK249 13; have hfz22_14 := bf_ BK249 14; have hfz22_15 := bf_ BK249 15; have hfz22_16 := bf_ BK249 16) | ((with_reducible refine gate_dst (N := 8) rfl ?_); obtain ⟨vcp_, hcw_⟩ := copy_world (P := Tryd.prog) (dT := 70) (sT := 70) (ty := 3) (c := co21) Tryd.underlying70 (info_size info5) BK249.out .u8 [.bool false] [a0_1, a0_2, a0_3, a0_4, a0_5, a0_6, a0_7, a0_8, a0_9, a0_10, a0_11, a0_12, a0_13, a0_14, a0_15, a0_16] [] rfl 0 12 12 16 (by decide) (by decide) (by show 12 ≤ 16; decide) (by have h_ := HO252.out; first | exact (Kd.R_reads' h_).2.2 | exact (Kd.R_reads' (by (with_reducible repeat (first | apply Kd.R_alloc | apply Kd.R_drewN | apply Kd.R_drew)); exact HO252.out)).2.2) (q := 1) (Or.inl rfl); refine run_ev ?hg (N := 8) ?hd vcp_ (w1 := (w19.setCells gb249 1 ((cpyL 0 12 y250 0 [a0_1, a0_2, a0_3, a0_4, a0_5, a0_6, a0_7, a0_8, a0_9, a0_10, a0_11, a0_12, a0_13, a0_14, a0_15, a0_16]).map (Value.int .u8)))) ?hr ?_; (case hd => rfl); (case hg => rfl); (case hr => first | (go_simp; done) | (go_simp; rw [hcw_]; rfl)); clear hcw_; intro w23 hw; have n0_ : Aside0 (Kd.R (Kd.int .u8) 5 w23 w.heap.size (fun _ => True) (.slice Ao21 y250.length co21) y250) := ⟨(by rw [hw]; exact (by (with_reducible repeat (first | apply Kd.R_alloc | apply Kd.R_drewN | apply Kd.R_drew)); exact Kd.R_mono (R_farC (g := gb249) (fun _ hk => hk.2) (Kd.R_types HO252.out BK249.out (by decide)) ((cpyL 0 12 y250 0 [a0_1, a0_2, a0_3, a0_4, a0_5, a0_6, a0_7, a0_8, a0_9, a0_10, a0_11, a0_12, a0_13, a0_14, a0_15, a0_16]).map (Value.int .u8)) 1) (fun _ hk => trivial)))⟩; have n1_ : Aside0 (w23.heap[gb248]? = some (.cells #[.bool false, .int .u8 a0_1, .int .u8 a0_2, .int .u8 a0_3, .int .u8 a0_4, .int .u8 a0_5, .int .u8 a0_6, .int .u8 a0_7, .int .u8 a0_8, .int .u8 a0_9, .int .u8 a0_10, .int .u8 a0_11, .int .u8 a0_12, .int .u8 a0_13, .int .u8 a0_14, .int .u8 a0_15, .int .u8 a0_16] 24 (0, 0))) := ⟨(by rw [hw]; exact (by (with_reducible repeat (first | refine blk_drewN ?_ _ | refine blk_drew ?_ | refine blk_alloc ?_ _)); refine blk_farC NB248_249.out _ _ ?_; (with_reducible repeat (first | refine blk_drewN ?_ _ | refine blk_drew ?_ | refine blk_alloc ?_ _)); exact BK248.out))⟩; have n2_ : Aside0 (w23.heap[gb249]? = some (.cells #[.bool false, .int .u8 (cpy 0 12 0 y250 a0_1), .int .u8 (cpy 0 12 1 y250 a0_2), .int .u8 (cpy 0 12 2 y250 a0_3), .int .u8 (cpy 0 12 3 y250 a0_4), .int .u8 (cpy 0 12 4 y250 a0_5), .int .u8 (cpy 0 12 5 y250 a0_6), .int .u8 (cpy 0 12 6 y250 a0_7), .int .u8 (cpy 0 12 7 y250 a0_8), .int .u8 (cpy 0 12 8 y250 a0_9), .int .u8 (cpy 0 12 9 y250 a0_10), .int .u8 (cpy 0 12 10 y250 a0_11), .int .u8 (cpy 0 12 11 y250 a0_12), .int .u8 (cpy 0 12 12 y250 a0_13), .int .u8 (cpy 0 12 13 y250 a0_14), .int .u8 (cpy 0 12 14 y250 a0_15), .int .u8 (cpy 0 12 15 y250 a0_16)] 24 (0, 0))) := ⟨(by rw [hw]; exact (by (with_reducible repeat (first | refine blk_drewN ?_ _ | refine blk_drew ?_ | refine blk_alloc ?_ _)); refine blk_part ((cpyL 0 12 y250 0 [a0_1, a0_2, a0_3, a0_4, a0_5, a0_6, a0_7, a0_8, a0_9, a0_10, a0_11, a0_12, a0_13, a0_14, a0_15, a0_16]).map (Value.int .u8)) [.int .u8 a0_1, .int .u8 a0_2, .int .u8 a0_3, .int .u8 a0_4, .int .u8 a0_5, .int .u8 a0_6, .int .u8 a0_7, .int .u8 a0_8, .int .u8 a0_9, .int .u8 a0_10, .int .u8 a0_11, .int .u8 a0_12, .int .u8 a0_13, .int .u8 a0_14, .int .u8 a0_15, .int .u8 a0_16] [.bool false] [] (cs := #[.bool false, .int .u8 a0_1, .int .u8 a0_2, .int .u8 a0_3, .int .u8 a0_4, .int .u8 a0_5, .int .u8 a0_6, .int .u8 a0_7, .int .u8 a0_8, .int .u8 a0_9, .int .u8 a0_10, .int .u8 a0_11, .int .u8 a0_12, .int .u8 a0_13, .int .u8 a0_14, .int .u8 a0_15, .int .u8 a0_16]) ?_ rfl rfl rfl; (with_reducible repeat (first | refine blk_drewN ?_ _ | refine blk_drew ?_ | refine blk_alloc ?_ _)); exact BK249.out))⟩; have n3_ : Aside0 (Below w.heap.size w w23) := ⟨(by rw [hw]; exact (by repeat (first | (with_reducible first | exact HB.out | apply below_alloc | apply pw_below_drewN | apply below_drew1 | refine below_set ?_ GE248.out | refine below_set ?_ GE249.out | refine below_setC GE248.out _ _ ?_ | refine below_setC GE249.out _ _ ?_) | exact HB.out)))⟩; clear hw; clear HO252; clear BK248; clear BK249; clear HB; have HO252 := n0_; have BK248 := n1_; have BK249 := n2_; have HB := n3_; clear n0_ n1_ n2_ n3_; have hcz24_0 := cz_ BK248 0 (.bool false); have hcz24_1 := cz_ BK248 1 (.int .u8 a0_1); have hcz24_2 := cz_ BK248 2 (.int .u8 a0_2); have hcz24_3 := cz_ BK248 3 (.int .u8 a0_3); have hcz24_4 := cz_ BK248 4 (.int .u8 a0_4); have hcz24_5 := cz_ BK248 5 (.int .u8 a0_5); have hcz24_6 := cz_ BK248 6 (.int .u8 a0_6); have hcz24_7 := cz_ BK248 7 (.int .u8 a0_7); have hcz24_8 := cz_ BK248 8 (.int .u8 a0_8); have hcz24_9 := cz_ BK248 9 (.int .u8 a0_9); have hcz24_10 := cz_ BK248 10 (.int .u8 a0_10); have hcz24_11 := cz_ BK248 11 (.int .u8 a0_11); have hcz24_12 := cz_ BK248 12 (.int .u8 a0_12); have hcz24_13 := cz_ BK248 13 (.int .u8 a0_13); have hcz24_14 := cz_ BK248 14 (.int .u8 a0_14); have hcz24_15 := cz_ BK248 15 (.int .u8 a0_15); have hcz24_16 := cz_ BK248 16 (.int .u8 a0_16); have hfz24_0 := bf_ BK248 0; have hfz24_1 := bf_ BK248 1; have hfz24_2 := bf_ BK248 2; have hfz24_3 := bf_ BK248 3; have hfz24_4 := bf_ BK248 4; have hfz24_5 := bf_ BK248 5; have hfz24_6 := bf_ BK248 6; have hfz24_7 := bf_ BK248 7; have hfz24_8 := bf_ BK248 8; have hfz24_9 := bf_ BK248 9; have hfz24_10 := bf_ BK248 10; have hfz24_11 := bf_ BK248 11; have hfz24_12 := bf_ BK248 12; have hfz24_13 := bf_ BK248 13; have hfz24_14 := bf_ BK248 14; have hfz24_15 := bf_ BK248 15; have hfz24_16 := bf_ BK248 16))
  go_ret
  exact ⟨rq_, bg_⟩

def ip_last.f (l0 : List Int) : Option (Bool × Int × Int × Int × Int × Int × Int × Int × Int × Int × Int × Int × Int × Int × Int × Int × Int) := if 0 < (l0.length : Int) then (if 1 < (l0.length : Int) then (if 2 < (l0.length : Int) then (if 3 < (l0.length : Int) then ((ip_V4.f (rd l0 0) (rd l0 1) (rd l0 2) (rd l0 3)).bind fun bt258 => (some (bt258.1, bt258.2.1, bt258.2.2.1, bt258.2.2.2.1, bt258.2.2.2.2.1, bt258.2.2.2.2.2.1, bt258.2.2.2.2.2.2.1, bt258.2.2.2.2.2.2.2.1, bt258.2.2.2.2.2.2.2.2.1, bt258.2.2.2.2.2.2.2.2.2.1, bt258.2.2.2.2.2.2.2.2.2.2.1, bt258.2.2.2.2.2.2.2.2.2.2.2.1, bt258.2.2.2.2.2.2.2.2.2.2.2.2.1, bt258.2.2.2.2.2.2.2.2.2.2.2.2.2.1, bt258.2.2.2.2.2.2.2.2.2.2.2.2.2.2.1, bt258.2.2.2.2.2.2.2.2.2.2.2.2.2.2.2.1, bt258.2.2.2.2.2.2.2.2.2.2.2.2.2.2.2.2))) else (none)) else (none)) else (none)) else (none)
def ip_last.T1 : Bool × List (List Nat × List Nat) := (true, [([], []), ([0], [0]), ([1], [1]), ([], []), ([3], [3]), ([4], [4]), ([], []), ([6], [6]), ([7], [7]), ([], []), ([9], [9]), ([10], [10]), ([2, 5, 8, 11], [2, 5, 8, 11]), ([12, 12, 0, 1, 2, 3, 4, 5, 6, 7, 8, 9, 10, 11, 12], [12])])
def ip_last.B1 : List Nat := [0, 1, 3, 0, 8, 24, 0, 64, 192, 0, 512, 1536, 4095, 8191]
theorem ip_last.tab1 : rtab .any (opsOf Tryd.f42 1) = ip_last.T1 := by kernel_rfl
theorem ip_last.bits1 : waitsOk ip_last.T1.2 ip_last.B1 = true := by kernel_rfl
set_option maxHeartbeats 8000000 in
set_option maxRecDepth 100000 in
theorem ip_last.calls (A0 : Option Addr) (c0 : Nat) (l0 : List Int) (r1 : Bool) (r2 : Int) (r3 : Int) (r4 : Int) (r5 : Int) (r6 : Int) (r7 : Int) (r8 : Int) (r9 : Int) (r10 : Int) (r11 : Int) (r12 : Int) (r13 : Int) (r14 : Int) (r15 : Int) (r16 : Int) (r17 : Int) (w : World) (hLW : LW w) (hr0 : Kd.C (Kd.int .u8) w A0 l0.length l0) (hc0 : l0.length ≤ c0) (h : ip_last.f l0 = some (r1, r2, r3, r4, r5, r6, r7, r8, r9, r10, r11, r12, r13, r14, r15, r16, r17)) :
  Calls Tryd.prog 42 #[.slice A0 l0.length c0] w fun e w' => e = .returned (.agg #[.bool r1, .int .u8 r2, .int .u8 r3, .int .u8 r4, .int .u8 r5, .int .u8 r6, .int .u8 r7, .int .u8 r8, .int .u8 r9, .int .u8 r10, .int .u8 r11, .int .u8 r12, .int .u8 r13, .int .u8 r14, .int .u8 r15, .int .u8 r16, .int .u8 r17]) ∧ Below w.heap.size w w' := by
 have hu24 := Tryd.underlying24
 have HLW := Aside0.mk hLW
 clear hLW
 have HR0 := Aside0.mk hr0
 have HC0 := Aside0.mk hc0
 clear hr0 hc0
 have HB := Aside0.mk (Below.refl w.heap.size w)
 have H : (if 0 < (l0.length : Int) then (if 1 < (l0.length : Int) then (if 2 < (l0.length : Int) then (if 3 < (l0.length : Int) then ((ip_V4.f (rd l0 0) (rd l0 1) (rd l0 2) (rd l0 3)).bind fun bt258 => (some (bt258.1, bt258.2.1, bt258.2.2.1, bt258.2.2.2.1, bt258.2.2.2.2.1, bt258.2.2.2.2.2.1, bt258.2.2.2.2.2.2.1, bt258.2.2.2.2.2.2.2.1, bt258.2.2.2.2.2.2.2.2.1, bt258.2.2.2.2.2.2.2.2.2.1, bt258.2.2.2.2.2.2.2.2.2.2.1, bt258.2.2.2.2.2.2.2.2.2.2.2.1, bt258.2.2.2.2.2.2.2.2.2.2.2.2.1, bt258.2.2.2.2.2.2.2.2.2.2.2.2.2.1, bt258.2.2.2.2.2.2.2.2.2.2.2.2.2.2.1, bt258.2.2.2.2.2.2.2.2.2.2.2.2.2.2.2.1, bt258.2.2.2.2.2.2.2.2.2.2.2.2.2.2.2.2))) else (none)) else (none)) else (none)) else (none)) = some (r1, r2, r3, r4, r5, r6, r7, r8, r9, r10, r11, r12, r13, r14, r15, r16, r17) := h
 clear h
 by_cases c2 : 0 < (l0.length : Int)
 ·rw [if_pos c2] at H
  have c2b0 : decide (0 < (l0.length : Int)) = true := decide_eq_true c2
  have c2b1 : decide (0 < l0.length) = true := decide_eq_true (by omega)
  clear c2
  by_cases c3 : 1 < (l0.length : Int)
  ·rw [if_pos c3] at H
   have c3b0 : decide (1 < (l0.length : Int)) = true := decide_eq_true c3
   have c3b1 : decide (1 < l0.length) = true := decide_eq_true (by omega)
   clear c3
   by_cases c4 : 2 < (l0.length : Int)
   ·rw [if_pos c4] at H
    have c4b0 : decide (2 < (l0.length : Int)) = true := decide_eq_true c4
    have c4b1 : decide (2 < l0.length) = true := decide_eq_true (by omega)
    clear c4
    by_cases c5 : 3 < (l0.length : Int)
    ·rw [if_pos c5] at H
     have c5b0 : decide (3 < (l0.length : Int)) = true := decide_eq_true c5
     have c5b1 : decide (3 < l0.length) = true := decide_eq_true (by omega)
     clear c5
     replace H := Option.bind_eq_some_iff.mp H
     obtain ⟨⟨t258, t259, t260, t261, t262, t263, t264, t265, t266, t267, t268, t269, t270, t271, t272, t273, t274⟩, A60, H⟩ := H
     (try dsimp only at H)
     have A6 := Aside0.mk A60
     clear A60
     simp only [Option.some.injEq, Prod.mk.injEq] at H
     obtain ⟨rfl, rfl, rfl, rfl, rfl, rfl, rfl, rfl, rfl, rfl, rfl, rfl, rfl, rfl, rfl, rfl, rfl⟩ := H
     go_enter Tryd.func42, Tryd.ntmps42
     try go_wp2_with (first | ((with_reducible refine gate_dst (N := 2) rfl ?_); refine box_event ?hg (N := 2) ?hd (cs := #[.bool false, .int .u8 0, .int .u8 0, .int .u8 0, .int .u8 0, .int .u8 0, .int .u8 0, .int .u8 0, .int .u8 0, .int .u8 0, .int .u8 0, .int .u8 0, .int .u8 0, .int .u8 0, .int .u8 0, .int .u8 0, .int .u8 0]) (t := 24) ?hr ?_; (case hd => rfl); (case hg => rfl); (case hr => first | (go_simp; done) | (go_simp; rfl)); intro gb253 hg w7 hbox hb; have n0_ := Aside0.mk (below_step bq_ hb); have n1_ := Aside0.mk (hbox); have n2_ := Aside0.mk (show w.heap.size ≤ gb253 from ge_ hg); have n3_ := Aside0.mk (show w.heap.size ≤ gb253 from ge_ hg); clear HB; have HB := n0_; have BK253 := n1_; have GW253 := n2_; have GE253 := n3_; clear n0_ n1_ n2_ n3_; clear hb hbox hg))
     have n0_ := Aside0.mk (blk_drew BK253.out)
     have n1_ := Aside0.mk (below_drew1 HB.out)
     clear BK253
     clear HB
     have BK253 := n0_
     have HB := n1_
     clear n0_ n1_
     have p254 : 0 ≤ (0 : Int) := (by omega)
     have q254 : 0 < (l0.length : Int) := of_decide_eq_true as_
     obtain ⟨ad254, e254, hx254_0⟩ := Kd.at_int HR0.out 0 p254 q254
     have hw254_0 := hx254_0
     (try rw [show ((0 : Int)).toNat = 0 from rfl] at hw254_0)
     (try rw [show 0 * 1 = 0 from rfl] at hw254_0)
     (try rw [Addr.add_zero'] at hw254_0)
     cases e254
     have qi254 : (0 < l0.length) = True := eq_true (by omega)
     (try rw [show ((0 : Int)).toNat = 0 from rfl] at hx254_0)
     (try rw [Addr.add_zero'] at hx254_0)
     replace hx254_0 := (HB.out.cell (World.block_lt_of_cell? w _ hx254_0)).trans hx254_0
     replace p254 := eq_true p254
     replace q254 := eq_true q254
     have p255 : 0 ≤ (1 : Int) := (by omega)
     have q255 : 1 < (l0.length : Int) := of_decide_eq_true as_
     obtain ⟨ad255, e255, hx255_0⟩ := Kd.at_int HR0.out 1 p255 q255
     have hw255_0 := hx255_0
     (try rw [show ((1 : Int)).toNat = 1 from rfl] at hw255_0)
     (try rw [show 1 * 1 = 1 from rfl] at hw255_0)
     (try simp only [Nat.reduceMul, Nat.reduceEqDiff, Go.Addr.add, ↓reduceIte] at hw255_0)
     obtain rfl : ad254 = ad255 := (by injection e255)
     (try simp only [show (1 : Int).toNat = 1 from rfl, Nat.reduceMul, Nat.reduceEqDiff, Go.Addr.add, ↓reduceIte] at hx255_0)
     have qi255 : (1 < l0.length) = True := eq_true (by omega)
     (try rw [show ((1 : Int)).toNat = 1 from rfl] at hx255_0)
     replace hx255_0 := (HB.out.cell (World.block_lt_of_cell? w _ hx255_0)).trans hx255_0
     replace p255 := eq_true p255
     replace q255 := eq_true q255
     have p256 : 0 ≤ (2 : Int) := (by omega)
     have q256 : 2 < (l0.length : Int) := of_decide_eq_true as_
     obtain ⟨ad256, e256, hx256_0⟩ := Kd.at_int HR0.out 2 p256 q256
     have hw256_0 := hx256_0
     (try rw [show ((2 : Int)).toNat = 2 from rfl] at hw256_0)
     (try rw [show 2 * 1 = 2 from rfl] at hw256_0)
     (try simp only [Nat.reduceMul, Nat.reduceEqDiff, Go.Addr.add, ↓reduceIte] at hw256_0)
     obtain rfl : ad254 = ad256 := (by injection e256)
     (try simp only [show (2 : Int).toNat = 2 from rfl, Nat.reduceMul, Nat.reduceEqDiff, Go.Addr.add, ↓reduceIte] at hx256_0)
     have qi256 : (2 < l0.length) = True := eq_true (by omega)
     (try rw [show ((2 : Int)).toNat = 2 from rfl] at hx256_0)
     replace hx256_0 := (HB.out.cell (World.block_lt_of_cell? w _ hx256_0)).trans hx256_0
     replace p256 := eq_true p256
     replace q256 := eq_true q256
     have p257 : 0 ≤ (3 : Int) := (by omega)
     have q257 : 3 < (l0.length : Int) := of_decide_eq_true as_
     obtain ⟨ad257, e257, hx257_0⟩ := Kd.at_int HR0.out 3 p257 q257
     have hw257_0 := hx257_0
     (try rw [show ((3 : Int)).toNat = 3 from rfl] at hw257_0)
     (try rw [show 3 * 1 = 3 from rfl] at hw257_0)
     (try simp only [Nat.reduceMul, Nat.reduceEqDiff, Go.Addr.add, ↓reduceIte] at hw257_0)
     obtain rfl : ad254 = ad257 := (by injection e257)
     (try simp only [show (3 : Int).toNat = 3 from rfl, Nat.reduceMul, Nat.reduceEqDiff, Go.Addr.add, ↓reduceIte] at hx257_0)
     have qi257 : (3 < l0.length) = True := eq_true (by omega)
     (try rw [show ((3 : Int)).toNat = 3 from rfl] at hx257_0)
     replace hx257_0 := (HB.out.cell (World.block_lt_of_cell? w _ hx257_0)).trans hx257_0
     replace p257 := eq_true p257
     replace q257 := eq_true q257
     refine start_ (n := 14) (S := fun w' => w'.cell? ad254 = some (.int .u8 (rd l0 0)) ∧ w'.cell? ⟨ad254.block, ad254.off + 1, none⟩ = some (.int .u8 (rd l0 1)) ∧ w'.cell? ⟨ad254.block, ad254.off + 2, none⟩ = some (.int .u8 (rd l0 2)) ∧ w'.cell? ⟨ad254.block, ad254.off + 3, none⟩ = some (.int .u8 (rd l0 3))) (ds := []) (bv_ 0 14) (by kernel_rfl) rfl rfl ⟨((HB.out.cell (World.block_lt_of_cell? w _ hw254_0)).trans hw254_0), ((HB.out.cell (World.block_lt_of_cell? w _ hw255_0)).trans hw255_0), ((HB.out.cell (World.block_lt_of_cell? w _ hw256_0)).trans hw256_0), ((HB.out.cell (World.block_lt_of_cell? w _ hw257_0)).trans hw257_0)⟩ (fun hHeld => ?_); refine with_tabW ip_last.tab1 ip_last.bits1 (fun HT_ HW_ => ?_)
     generalize w7.drew = w8 at BK253 HB hx254_0 hx255_0 hx256_0 hx257_0 hHeld ⊢
     refine pure_ (i := 0) (N := some 3) (v := ?_) (a' := ?_) (bv_ 1 13) rfl rfl (any_of HT_.out (by kernel_rfl)) (fun _ _ _ h => h) (Or.inl ⟨by rfl, ?_⟩) ?_ ?_
     rotate_left
     ·intro w'
      go_simp
      with_reducible rfl
     rotate_left
     ·simp only [Act.put, sa_, s0_, s1_, i64_w, i32_w]
      rfl
     refine pure_ (i := 1) (N := some 4) (v := ?_) (a' := ?_) (bv_ 2 12) rfl rfl (any_of HT_.out (by kernel_rfl)) (fun _ _ _ h => h) (Or.inl ⟨by rfl, ?_⟩) ?_ ?_
     rotate_left
     ·intro w'
      go_simp
      with_reducible rfl
     rotate_left
     ·simp only [Act.put, sa_, s0_, s1_, i64_w, i32_w]
      rfl
     refine pure_ (i := 3) (N := some 6) (v := ?_) (a' := ?_) #[true, true, false, true, false, false, false, false, false, false, false, false, false, false] rfl rfl (any_of HT_.out (by kernel_rfl)) (fun _ _ _ h => h) (Or.inl ⟨by rfl, ?_⟩) ?_ ?_
     rotate_left
     ·intro w'
      go_simp
      with_reducible rfl
     rotate_left
     ·simp only [Act.put, sa_, s0_, s1_, i64_w, i32_w]
      rfl
     refine pure_ (i := 4) (N := some 7) (v := ?_) (a' := ?_) #[true, true, false, true, true, false, false, false, false, false, false, false, false, false] rfl rfl (any_of HT_.out (by kernel_rfl)) (fun _ _ _ h => h) (Or.inl ⟨by rfl, ?_⟩) ?_ ?_
     rotate_left
     ·intro w'
      go_simp
      with_reducible rfl
     rotate_left
     ·simp only [Act.put, sa_, s0_, s1_, i64_w, i32_w]
      rfl
     refine pure_ (i := 6) (N := some 9) (v := ?_) (a' := ?_) #[true, true, false, true, true, false, true, false, false, false, false, false, false, false] rfl rfl (any_of HT_.out (by kernel_rfl)) (fun _ _ _ h => h) (Or.inl ⟨by rfl, ?_⟩) ?_ ?_
     rotate_left
     ·intro w'
      go_simp
      with_reducible rfl
     rotate_left
     ·simp only [Act.put, sa_, s0_, s1_, i64_w, i32_w]
      rfl
     refine pure_ (i := 7) (N := some 10) (v := ?_) (a' := ?_) #[true, true, false, true, true, false, true, true, false, false, false, false, false, false] rfl rfl (any_of HT_.out (by kernel_rfl)) (fun _ _ _ h => h) (Or.inl ⟨by rfl, ?_⟩) ?_ ?_
     rotate_left
     ·intro w'
      go_simp
      with_reducible rfl
     rotate_left
     ·simp only [Act.put, sa_, s0_, s1_, i64_w, i32_w]
      rfl
     refine pure_ (i := 9) (N := some 12) (v := ?_) (a' := ?_) #[true, true, false, true, true, false, true, true, false, true, false, false, false, false] rfl rfl (any_of HT_.out (by kernel_rfl)) (fun _ _ _ h => h) (Or.inl ⟨by rfl, ?_⟩) ?_ ?_
     rotate_left
     ·intro w'
      go_simp
      with_reducible rfl
     rotate_left
     ·simp only [Act.put, sa_, s0_, s1_, i64_w, i32_w]
      rfl
     refine pure_ (i := 10) (N := some 13) (v := ?_) (a' := ?_) #[true, true, false, true, true, false, true, true, false, true, true, false, false, false] rfl rfl (any_of HT_.out (by kernel_rfl)) (fun _ _ _ h => h) (Or.inl ⟨by rfl, ?_⟩) ?_ ?_
     rotate_left
     ·intro w'
      go_simp
      with_reducible rfl
     rotate_left
     ·simp only [Act.put, sa_, s0_, s1_, i64_w, i32_w]
      rfl
     refine take_ (i := 2) (N := some 5) (v := ?_) (a' := ?_) #[true, true, true, true, true, false, true, true, false, true, true, false, false, false] rfl rfl (take_ofW HT_.out HW_.out (by kernel_rfl)) (fun _ _ _ h => h) (Or.inl ⟨by rfl, ?_⟩) hHeld ?_ ?_
     rotate_left
     ·rintro w' ⟨s0, s1, s2, s3⟩
      go_simp
      with_reducible rfl
     rotate_left
     ·simp only [Act.put, sa_, s0_, s1_, i64_w, i32_w]
      rfl
     refine take_ (i := 5) (N := some 8) (v := ?_) (a' := ?_) #[true, true, true, true, true, true, true, true, false, true, true, false, false, false] rfl rfl (take_ofW HT_.out HW_.out (by kernel_rfl)) (fun _ _ _ h => h) (Or.inl ⟨by rfl, ?_⟩) hHeld ?_ ?_
     rotate_left
     ·rintro w' ⟨s0, s1, s2, s3⟩
      go_simp
      with_reducible rfl
     rotate_left
     ·simp only [Act.put, sa_, s0_, s1_, i64_w, i32_w]
      rfl
     refine take_ (i := 8) (N := some 11) (v := ?_) (a' := ?_) (bv_ 11 3) rfl rfl (take_ofW HT_.out HW_.out (by kernel_rfl)) (fun _ _ _ h => h) (Or.inl ⟨by rfl, ?_⟩) hHeld ?_ ?_
     rotate_left
     ·rintro w' ⟨s0, s1, s2, s3⟩
      go_simp
      with_reducible rfl
     rotate_left
     ·simp only [Act.put, sa_, s0_, s1_, i64_w, i32_w]
      rfl
     refine take_ (i := 11) (N := some 14) (v := ?_) (a' := ?_) (bv_ 12 2) rfl rfl (take_ofW HT_.out HW_.out (by kernel_rfl)) (fun _ _ _ h => h) (Or.inl ⟨by rfl, ?_⟩) hHeld ?_ ?_
     rotate_left
     ·rintro w' ⟨s0, s1, s2, s3⟩
      go_simp
      with_reducible rfl
     rotate_left
     ·simp only [Act.put, sa_, s0_, s1_, i64_w, i32_w]
      rfl
     refine one_ (i := 12) (N := some 15) (bv_ 13 1) rfl rfl (one_of HT_.out (by kernel_rfl)) (by decide) (fun K hK => ?_)
     refine goes_ Tryd.func38 (by kernel_rfl) rfl #[.int .u8 (rd l0 0), .int .u8 (rd l0 1), .int .u8 (rd l0 2), .int .u8 (rd l0 3)] (by rfl) rfl rfl lq_ ?_
     with_reducible refine (ip_V4.calls (rd l0 0) (rd l0 1) (rd l0 2) (rd l0 3) t258 t259 t260 t261 t262 t263 t264 t265 t266 t267 t268 t269 t270 t271 t272 t273 t274 _ ?side1 A6.out).mono ?_
     (case side1 => exact lg_)
     rintro e w9 ⟨rfl, hb⟩
     refine ⟨_, rfl, ?_⟩
     have n0_ := Aside0.mk (bb_ BK253 hb)
     have n1_ := Aside0.mk (below_step bg_ hb)
     clear BK253
     clear HB
     have BK253 := n0_
     have HB := n1_
     clear n0_ n1_
     (try clear hb)
     (try clear hb2)
     (try clear hk)
     (try clear hi)
     refine hK.out _ _ ⟨((HB.out.cell (World.block_lt_of_cell? w _ hw254_0)).trans hw254_0), ((HB.out.cell (World.block_lt_of_cell? w _ hw255_0)).trans hw255_0), ((HB.out.cell (World.block_lt_of_cell? w _ hw256_0)).trans hw256_0), ((HB.out.cell (World.block_lt_of_cell? w _ hw257_0)).trans hw257_0)⟩ (fun hHeld => ?_)
     clear hK K
     refine norm_ (a' := ?_) ?_ ?_
     rotate_left
     ·show Act.put _ (some 15) _ = _
      simp only [Act.put, sa_, s0_, s1_, i64_w, i32_w]
      rfl
     refine one_ (i := 13) (N := none) (bv_ 14 0) rfl rfl (one_of HT_.out (by kernel_rfl)) (by decide) (fun K hK => ?_)
     have hs10 : w9.cell? ⟨gb253, 0, none⟩ = some (.bool false) := (blk_cell BK253.out 0).trans rfl
     have hfs10 := bf_ BK253 0
     have hs11 : w9.cell? ⟨gb253, 1, none⟩ = some (.int .u8 0) := (blk_cell BK253.out 1).trans rfl
     have hfs11 := bf_ BK253 1
     have hs12 : w9.cell? ⟨gb253, 2, none⟩ = some (.int .u8 0) := (blk_cell BK253.out 2).trans rfl
     have hfs12 := bf_ BK253 2
     have hs13 : w9.cell? ⟨gb253, 3, none⟩ = some (.int .u8 0) := (blk_cell BK253.out 3).trans rfl
     have hfs13 := bf_ BK253 3
     have hs14 : w9.cell? ⟨gb253, 4, none⟩ = some (.int .u8 0) := (blk_cell BK253.out 4).trans rfl
     have hfs14 := bf_ BK253 4
     have hs15 : w9.cell? ⟨gb253, 5, none⟩ = some (.int .u8 0) := (blk_cell BK253.out 5).trans rfl
     have hfs15 := bf_ BK253 5
     have hs16 : w9.cell? ⟨gb253, 6, none⟩ = some (.int .u8 0) := (blk_cell BK253.out 6).trans rfl
     have hfs16 := bf_ BK253 6
     have hs17 : w9.cell? ⟨gb253, 7, none⟩ = some (.int .u8 0) := (blk_cell BK253.out 7).trans rfl
     have hfs17 := bf_ BK253 7
     have hs18 : w9.cell? ⟨gb253, 8, none⟩ = some (.int .u8 0) := (blk_cell BK253.out 8).trans rfl
     have hfs18 := bf_ BK253 8
     have hs19 : w9.cell? ⟨gb253, 9, none⟩ = some (.int .u8 0) := (blk_cell BK253.out 9).trans rfl
     have hfs19 := bf_ BK253 9
     have hs20 : w9.cell? ⟨gb253, 10, none⟩ = some (.int .u8 0) := (blk_cell BK253.out 10).trans rfl
     have hfs20 := bf_ BK253 10
     have hs21 : w9.cell? ⟨gb253, 11, none⟩ = some (.int .u8 0) := (blk_cell BK253.out 11).trans rfl
     have hfs21 := bf_ BK253 11
     have hs22 : w9.cell? ⟨gb253, 12, none⟩ = some (.int .u8 0) := (blk_cell BK253.out 12).trans rfl
     have hfs22 := bf_ BK253 12
     have hs23 : w9.cell? ⟨gb253, 13, none⟩ = some (.int .u8 0) := (blk_cell BK253.out 13).trans rfl
     have hfs23 := bf_ BK253 13
     have hs24 : w9.cell? ⟨gb253, 14, none⟩ = some (.int .u8 0) := (blk_cell BK253.out 14).trans rfl
     have hfs24 := bf_ BK253 14
     have hs25 : w9.cell? ⟨gb253, 15, none⟩ = some (.int .u8 0) := (blk_cell BK253.out 15).trans rfl
     have hfs25 := bf_ BK253 15
     have hs26 : w9.cell? ⟨gb253, 16, none⟩ = some (.int .u8 0) := (blk_cell BK253.out 16).trans rfl
     have hfs26 := bf_ BK253 16
     refine skip_ (w1 := ?_) (by rfl) rfl ?_ ?_
     rotate_left
     ·go_simp
      rfl
     refine hK.out _ _ ⟨((cell_far (p := ⟨gb253, _, none⟩) (by exact nf_ hw254_0 GW253.out) _).trans (((cell_far (p := ⟨gb253, _, none⟩) (by exact nf_ hw254_0 GW253.out) _).trans (((cell_far (p := ⟨gb253, _, none⟩) (by exact nf_ hw254_0 GW253.out) _).trans (((cell_far (p := ⟨gb253, _, none⟩) (by exact nf_ hw254_0 GW253.out) _).trans (((cell_far (p := ⟨gb253, _, none⟩) (by exact nf_ hw254_0 GW253.out) _).trans (((cell_far (p := ⟨gb253, _, none⟩) (by exact nf_ hw254_0 GW253.out) _).trans (((cell_far (p := ⟨gb253, _, none⟩) (by exact nf_ hw254_0 GW253.out) _).trans (((cell_far (p := ⟨gb253, _, none⟩) (by exact nf_ hw254_0 GW253.out) _).trans (((cell_far (p := ⟨gb253, _, none⟩) (by exact nf_ hw254_0 GW253.out) _).trans (((cell_far (p := ⟨gb253, _, none⟩) (by exact nf_ hw254_0 GW253.out) _).trans (((cell_far (p := ⟨gb253, _, none⟩) (by exact nf_ hw254_0 GW253.out) _).trans (((cell_far (p := ⟨gb253, _, none⟩) (by exact nf_ hw254_0 GW253.out) _).trans (((cell_far (p := ⟨gb253, _, none⟩) (by exact nf_ hw254_0 GW253.out) _).trans (((cell_far (p := ⟨gb253, _, none⟩) (by exact nf_ hw254_0 GW253.out) _).trans (((cell_far (p := ⟨gb253, _, none⟩) (by exact nf_ hw254_0 GW253.out) _).trans (((cell_far (p := ⟨gb253, _, none⟩) (by exact nf_ hw254_0 GW253.out) _).trans (((cell_far (p := ⟨gb253, _, none⟩) (by exact nf_ hw254_0 GW253.out) _).trans (hHeld.1)))))))))))))))))))))))))))))))))), ((cell_far (p := ⟨gb253, _, none⟩) (by exact nf_ hw255_0 GW253.out) _).trans (((cell_far (p := ⟨gb253, _, none⟩) (by exact nf_ hw255_0 GW253.out) _).trans (((cell_far (p := ⟨gb253, _, none⟩) (by exact nf_ hw255_0 GW253.out) _).trans (((cell_far (p := ⟨gb253, _, none⟩) (by exact nf_ hw255_0 GW253.out) _).trans (((cell_far (p := ⟨gb253, _, none⟩) (by exact nf_ hw255_0 GW253.out) _).trans (((cell_far (p := ⟨gb253, _, none⟩) (by exact nf_ hw255_0 GW253.out) _).trans (((cell_far (p := ⟨gb253, _, none⟩) (by exact nf_ hw255_0 GW253.out) _).trans (((cell_far (p := ⟨gb253, _, none⟩) (by exact nf_ hw255_0 GW253.out) _).trans (((cell_far (p := ⟨gb253, _, none⟩) (by exact nf_ hw255_0 GW253.out) _).trans (((cell_far (p := ⟨gb253, _, none⟩) (by exact nf_ hw255_0 GW253.out) _).trans (((cell_far (p := ⟨gb253, _, none⟩) (by exact nf_ hw255_0 GW253.out) _).trans (((cell_far (p := ⟨gb253, _, none⟩) (by exact nf_ hw255_0 GW253.out) _).trans (((cell_far (p := ⟨gb253, _, none⟩) (by exact nf_ hw255_0 GW253.out) _).trans (((cell_far (p := ⟨gb253, _, none⟩) (by exact nf_ hw255_0 GW253.out) _).trans (((cell_far (p := ⟨gb253, _, none⟩) (by exact nf_ hw255_0 GW253.out) _).trans (((cell_far (p := ⟨gb253, _, none⟩) (by exact nf_ hw255_0 GW253.out) _).trans (((cell_far (p := ⟨gb253, _, none⟩) (by exact nf_ hw255_0 GW253.out) _).trans (hHeld.2.1)))))))))))))))))))))))))))))))))), ((cell_far (p := ⟨gb253, _, none⟩) (by exact nf_ hw256_0 GW253.out) _).trans (((cell_far (p := ⟨gb253, _, none⟩) (by exact nf_ hw256_0 GW253.out) _).trans (((cell_far (p := ⟨gb253, _, none⟩) (by exact nf_ hw256_0 GW253.out) _).trans (((cell_far (p := ⟨gb253, _, none⟩) (by exact nf_ hw256_0 GW253.out) _).trans (((cell_far (p := ⟨gb253, _, none⟩) (by exact nf_ hw256_0 GW253.out) _).trans (((cell_far (p := ⟨gb253, _, none⟩) (by exact nf_ hw256_0 GW253.out) _).trans (((cell_far (p := ⟨gb253, _, none⟩) (by exact nf_ hw256_0 GW253.out) _).trans (((cell_far (p := ⟨gb253, _, none⟩) (by exact nf_ hw256_0 GW253.out) _).trans (((cell_far (p := ⟨gb253, _, none⟩) (by exact nf_ hw256_0 GW253.out) _).trans (((cell_far (p := ⟨gb253, _, none⟩) (by exact nf_ hw256_0 GW253.out) _).trans (((cell_far (p := ⟨gb253, _, none⟩) (by exact nf_ hw256_0 GW253.out) _).trans (((cell_far (p := ⟨gb253, _, none⟩) (by exact nf_ hw256_0 GW253.out) _).trans (((cell_far (p := ⟨gb253, _, none⟩) (by exact nf_ hw256_0 GW253.out) _).trans (((cell_far (p := ⟨gb253, _, none⟩) (by exact nf_ hw256_0 GW253.out) _).trans (((cell_far (p := ⟨gb253, _, none⟩) (by exact nf_ hw256_0 GW253.out) _).trans (((cell_far (p := ⟨gb253, _, none⟩) (by exact nf_ hw256_0 GW253.out) _).trans (((cell_far (p := ⟨gb253, _, none⟩) (by exact nf_ hw256_0 GW253.out) _).trans (hHeld.2.2.1)))))))))))))))))))))))))))))))))), ((cell_far (p := ⟨gb253, _, none⟩) (by exact nf_ hw257_0 GW253.out) _).trans (((cell_far (p := ⟨gb253, _, none⟩) (by exact nf_ hw257_0 GW253.out) _).trans (((cell_far (p := ⟨gb253, _, none⟩) (by exact nf_ hw257_0 GW253.out) _).trans (((cell_far (p := ⟨gb253, _, none⟩) (by exact nf_ hw257_0 GW253.out) _).trans (((cell_far (p := ⟨gb253, _, none⟩) (by exact nf_ hw257_0 GW253.out) _).trans (((cell_far (p := ⟨gb253, _, none⟩) (by exact nf_ hw257_0 GW253.out) _).trans (((cell_far (p := ⟨gb253, _, none⟩) (by exact nf_ hw257_0 GW253.out) _).trans (((cell_far (p := ⟨gb253, _, none⟩) (by exact nf_ hw257_0 GW253.out) _).trans (((cell_far (p := ⟨gb253, _, none⟩) (by exact nf_ hw257_0 GW253.out) _).trans (((cell_far (p := ⟨gb253, _, none⟩) (by exact nf_ hw257_0 GW253.out) _).trans (((cell_far (p := ⟨gb253, _, none⟩) (by exact nf_ hw257_0 GW253.out) _).trans (((cell_far (p := ⟨gb253, _, none⟩) (by exact nf_ hw257_0 GW253.out) _).trans (((cell_far (p := ⟨gb253, _, none⟩) (by exact nf_ hw257_0 GW253.out) _).trans (((cell_far (p := ⟨gb253, _, none⟩) (by exact nf_ hw257_0 GW253.out) _).trans (((cell_far (p := ⟨gb253, _, none⟩) (by exact nf_ hw257_0 GW253.out) _).trans (((cell_far (p := ⟨gb253, _, none⟩) (by exact nf_ hw257_0 GW253.out) _).trans (((cell_far (p := ⟨gb253, _, none⟩) (by exact nf_ hw257_0 GW253.out) _).trans (hHeld.2.2.2))))))))))))))))))))))))))))))))))⟩ (fun hHeld => ?_)
     clear hK K
     refine done_ (done_of HT_.out (by kernel_rfl)) ?_
     try go_wp2
     refine bodyPost_ret (results_cell_row rfl _ _ gb253 24 #[.bool t258, .int .u8 t259, .int .u8 t260, .int .u8 t261, .int .u8 t262, .int .u8 t263, .int .u8 t264, .int .u8 t265, .int .u8 t266, .int .u8 t267, .int .u8 t268, .int .u8 t269, .int .u8 t270, .int .u8 t271, .int .u8 t272, .int .u8 t273, .int .u8 t274] (0, 0) _ rfl (by (with_reducible repeat (first | refine blk_drewN ?_ _ | refine blk_drew ?_ | refine blk_alloc ?_ _)); refine blk_put (cs := #[.bool t258, .int .u8 t259, .int .u8 t260, .int .u8 t261, .int .u8 t262, .int .u8 t263, .int .u8 t264, .int .u8 t265, .int .u8 t266, .int .u8 t267, .int .u8 t268, .int .u8 t269, .int .u8 t270, .int .u8 t271, .int .u8 t272, .int .u8 t273, .int .u8 0]) ?_ 16 _ rfl; (with_reducible repeat (first | refine blk_drewN ?_ _ | refine blk_drew ?_ | refine blk_alloc ?_ _)); refine blk_put (cs := #[.bool t258, .int .u8 t259, .int .u8 t260, .int .u8 t261, .int .u8 t262, .int .u8 t263, .int .u8 t264, .int .u8 t265, .int .u8 t266, .int .u8 t267, .int .u8 t268, .int .u8 t269, .int .u8 t270, .int .u8 t271, .int .u8 t272, .int .u8 0, .int .u8 0]) ?_ 15 _ rfl; (with_reducible repeat (first | refine blk_drewN ?_ _ | refine blk_drew ?_ | refine blk_alloc ?_ _)); refine blk_put (cs := #[.bool t258, .int .u8 t259, .int .u8 t260, .int .u8 t261, .int .u8 t262, .int .u8 t263, .int .u8 t264, .int .u8 t265, .int .u8 t266, .int .u8 t267, .int .u8 t268, .int .u8 t269, .int .u8 t270, .int .u8 t271, .int .u8 0, .int .u8 0, .int .u8 0]) ?_ 14 _ rfl; (with_reducible repeat (first | refine blk_drewN ?_ _ | refine blk_drew ?_ | refine blk_alloc ?_ _)); refine blk_put (cs := #[.bool t258, .int .u8 t259, .int .u8 t260, .int .u8 t261, .int .u8 t262, .int .u8 t263, .int .u8 t264, .int .u8 t265, .int .u8 t266, .int .u8 t267, .int .u8 t268, .int .u8 t269, .int .u8 t270, .int .u8 0, .int .u8 0, .int .u8 0, .int .u8 0]) ?_ 13 _ rfl; (with_reducible repeat (first | refine blk_drewN ?_ _ | refine blk_drew ?_ | refine blk_alloc ?_ _)); refine blk_put (cs := #[.bool t258, .int .u8 t259, .int .u8 t260, .int .u8 t261, .int .u8 t262, .int .u8 t263, .int .u8 t264, .int .u8 t265, .int .u8 t266, .int .u8 t267, .int .u8 t268, .int .u8 t269, .int .u8 0, .int .u8 0, .int .u8 0, .int .u8 0, .int .u8 0]) ?_ 12 _ rfl; (with_reducible repeat (first | refine blk_drewN ?_ _ | refine blk_drew ?_ | refine blk_alloc ?_ _)); refine blk_put (cs := #[.bool t258, .int .u8 t259, .int .u8 t260, .int .u8 t261, .int .u8 t262, .int .u8 t263, .int .u8 t264, .int .u8 t265, .int .u8 t266, .int .u8 t267, .int .u8 t268, .int .u8 0, .int .u8 0, .int .u8 0, .int .u8 0, .int .u8 0, .int .u8 0]) ?_ 11 _ rfl; (with_reducible repeat (first | refine blk_drewN ?_ _ | refine blk_drew ?_ | refine blk_alloc ?_ _)); refine blk_put (cs := #[.bool t258, .int .u8 t259, .int .u8 t260, .int .u8 t261, .int .u8 t262, .int .u8 t263, .int .u8 t264, .int .u8 t265, .int .u8 t266, .int .u8 t267, .int .u8 0, .int .u8 0, .int .u8 0, .int .u8 0, .int .u8 0, .int .u8 0, .int .u8 0]) ?_ 10 _ rfl; (with_reducible repeat (first | refine blk_drewN ?_ _ | refine blk_drew ?_ | refine blk_alloc ?_ _)); refine blk_put (cs := #[.bool t258, .int .u8 t259, .int .u8 t260, .int .u8 t261, .int .u8 t262, .int .u8 t263, .int .u8 t264, .int .u8 t265, .int .u8 t266, .int .u8 0, .int .u8 0, .int .u8 0, .int .u8 0, .int .u8 0, .int .u8 0, .int .u8 0, .int .u8 0]) ?_ 9 _ rfl; (with_reducible repeat (first | refine blk_drewN ?_ _ | refine blk_drew ?_ | refine blk_alloc ?_ _)); refine blk_put (cs := #[.bool t258, .int .u8 t259, .int .u8 t260, .int .u8 t261, .int .u8 t262, .int .u8 t263, .int .u8 t264, .int .u8 t265, .int .u8 0, .int .u8 0, .int .u8 0, .int .u8 0, .int .u8 0, .int .u8 0, .int .u8 0, .int .u8 0, .int .u8 0]) ?_ 8 _ rfl; (with_reducible repeat (first | refine blk_drewN ?_ _ | refine blk_drew ?_ | refine blk_alloc ?_ _)); refine blk_put (cs := #[.bool t258, .int .u8 t259, .int .u8 t260, .int .u8 t261, .int .u8 t262, .int .u8 t263, .int .u8 t264, .int .u8 0, .int .u8 0, .int .u8 0, .int .u8 0, .int .u8 0, .int .u8 0, .int .u8 0, .int .u8 0, .int .u8 0, .int .u8 0]) ?_ 7 _ rfl; (with_reducible repeat (first | refine blk_drewN ?_ _ | refine blk_drew ?_ | refine blk_alloc ?_ _)); refine blk_put (cs := #[.bool t258, .int .u8 t259, .int .u8 t260, .int .u8 t261, .int .u8 t262, .int .u8 t263, .int .u8 0, .int .u8 0, .int .u8 0, .int .u8 0, .int .u8 0, .int .u8 0, .int .u8 0, .int .u8 0, .int .u8 0, .int .u8 0, .int .u8 0]) ?_ 6 _ rfl; (with_reducible repeat (first | refine blk_drewN ?_ _ | refine blk_drew ?_ | refine blk_alloc ?_ _)); refine blk_put (cs := #[.bool t258, .int .u8 t259, .int .u8 t260, .int .u8 t261, .int .u8 t262, .int .u8 0, .int .u8 0, .int .u8 0, .int .u8 0, .int .u8 0, .int .u8 0, .int .u8 0, .int .u8 0, .int .u8 0, .int .u8 0, .int .u8 0, .int .u8 0]) ?_ 5 _ rfl; (with_reducible repeat (first | refine blk_drewN ?_ _ | refine blk_drew ?_ | refine blk_alloc ?_ _)); refine blk_put (cs := #[.bool t258, .int .u8 t259, .int .u8 t260, .int .u8 t261, .int .u8 0, .int .u8 0, .int .u8 0, .int .u8 0, .int .u8 0, .int .u8 0, .int .u8 0, .int .u8 0, .int .u8 0, .int .u8 0, .int .u8 0, .int .u8 0, .int .u8 0]) ?_ 4 _ rfl; (with_reducible repeat (first | refine blk_drewN ?_ _ | refine blk_drew ?_ | refine blk_alloc ?_ _)); refine blk_put (cs := #[.bool t258, .int .u8 t259, .int .u8 t260, .int .u8 0, .int .u8 0, .int .u8 0, .int .u8 0, .int .u8 0, .int .u8 0, .int .u8 0, .int .u8 0, .int .u8 0, .int .u8 0, .int .u8 0, .int .u8 0, .int .u8 0, .int .u8 0]) ?_ 3 _ rfl; (with_reducible repeat (first | refine blk_drewN ?_ _ | refine blk_drew ?_ | refine blk_alloc ?_ _)); refine blk_put (cs := #[.bool t258, .int .u8 t259, .int .u8 0, .int .u8 0, .int .u8 0, .int .u8 0, .int .u8 0, .int .u8 0, .int .u8 0, .int .u8 0, .int .u8 0, .int .u8 0, .int .u8 0, .int .u8 0, .int .u8 0, .int .u8 0, .int .u8 0]) ?_ 2 _ rfl; (with_reducible repeat (first | refine blk_drewN ?_ _ | refine blk_drew ?_ | refine blk_alloc ?_ _)); refine blk_put (cs := #[.bool t258, .int .u8 0, .int .u8 0, .int .u8 0, .int .u8 0, .int .u8 0, .int .u8 0, .int .u8 0, .int .u8 0, .int .u8 0, .int .u8 0, .int .u8 0, .int .u8 0, .int .u8 0, .int .u8 0, .int .u8 0, .int .u8 0]) ?_ 1 _ rfl; (with_reducible repeat (first | refine blk_drewN ?_ _ | refine blk_drew ?_ | refine blk_alloc ?_ _)); refine blk_put (cs := #[.bool false, .int .u8 0, .int .u8 0, .int .u8 0, .int .u8 0, .int .u8 0, .int .u8 0, .int .u8 0, .int .u8 0, .int .u8 0, .int .u8 0, .int .u8 0, .int .u8 0, .int .u8 0, .int .u8 0, .int .u8 0, .int .u8 0]) ?_ 0 _ rfl; (with_reducible repeat (first | refine blk_drewN ?_ _ | refine blk_drew ?_ | refine blk_alloc ?_ _)); exact BK253.out) Tryd.underlying24 rfl (by kernel_rfl)) rfl ?_
     exact ⟨rq_, bg_⟩
    ·rw [if_neg c5] at H
     exact absurd H (by simp)
   ·rw [if_neg c4] at H
    exact absurd H (by simp)
  ·rw [if_neg c3] at H
   exact absurd H (by simp)
 ·rw [if_neg c2] at H
  exact absurd H (by simp)

def ip_Unmap.f (a0_0 : Bool) (a0_1 : Int) (a0_2 : Int) (a0_3 : Int) (a0_4 : Int) (a0_5 : Int) (a0_6 : Int) (a0_7 : Int) (a0_8 : Int) (a0_9 : Int) (a0_10 : Int) (a0_11 : Int) (a0_12 : Int) (a0_13 : Int) (a0_14 : Int) (a0_15 : Int) (a0_16 : Int) : Option (Bool × Int × Int × Int × Int × Int × Int × Int × Int × Int × Int × Int × Int × Int × Int × Int × Int) := (ip_mapped.f a0_0 a0_1 a0_2 a0_3 a0_4 a0_5 a0_6 a0_7 a0_8 a0_9 a0_10 a0_11 a0_12 a0_13 a0_14 a0_15 a0_16).bind fun t277 => (if t277 = true then ((ip_last.f ([a0_13, a0_14, a0_15, a0_16] : List Int)).bind fun bt279 => (some (bt279.1, bt279.2.1, bt279.2.2.1, bt279.2.2.2.1, bt279.2.2.2.2.1, bt279.2.2.2.2.2.1, bt279.2.2.2.2.2.2.1, bt279.2.2.2.2.2.2.2.1, bt279.2.2.2.2.2.2.2.2.1, bt279.2.2.2.2.2.2.2.2.2.1, bt279.2.2.2.2.2.2.2.2.2.2.1, bt279.2.2.2.2.2.2.2.2.2.2.2.1, bt279.2.2.2.2.2.2.2.2.2.2.2.2.1, bt279.2.2.2.2.2.2.2.2.2.2.2.2.2.1, bt279.2.2.2.2.2.2.2.2.2.2.2.2.2.2.1, bt279.2.2.2.2.2.2.2.2.2.2.2.2.2.2.2.1, bt279.2.2.2.2.2.2.2.2.2.2.2.2.2.2.2.2))) else (some (a0_0, a0_1, a0_2, a0_3, a0_4, a0_5, a0_6, a0_7, a0_8, a0_9, a0_10, a0_11, a0_12, a0_13, a0_14, a0_15, a0_16)))
set_option maxHeartbeats 8000000 in
set_option maxRecDepth 100000 in
theorem ip_Unmap.calls (a0_0 : Bool) (a0_1 : Int) (a0_2 : Int) (a0_3 : Int) (a0_4 : Int) (a0_5 : Int) (a0_6 : Int) (a0_7 : Int) (a0_8 : Int) (a0_9 : Int) (a0_10 : Int) (a0_11 : Int) (a0_12 : Int) (a0_13 : Int) (a0_14 : Int) (a0_15 : Int) (a0_16 : Int) (r1 : Bool) (r2 : Int) (r3 : Int) (r4 : Int) (r5 : Int) (r6 : Int) (r7 : Int) (r8 : Int) (r9 : Int) (r10 : Int) (r11 : Int) (r12 : Int) (r13 : Int) (r14 : Int) (r15 : Int) (r16 : Int) (r17 : Int) (w : World) (hLW : LW w) (h : ip_Unmap.f a0_0 a0_1 a0_2 a0_3 a0_4 a0_5 a0_6 a0_7 a0_8 a0_9 a0_10 a0_11 a0_12 a0_13 a0_14 a0_15 a0_16 = some (r1, r2, r3, r4, r5, r6, r7, r8, r9, r10, r11, r12, r13, r14, r15, r16, r17)) :
  Calls Tryd.prog 23 #[.agg #[.bool a0_0, .int .u8 a0_1, .int .u8 a0_2, .int .u8 a0_3, .int .u8 a0_4, .int .u8 a0_5, .int .u8 a0_6, .int .u8 a0_7, .int .u8 a0_8, .int .u8 a0_9, .int .u8 a0_10, .int .u8 a0_11, .int .u8 a0_12, .int .u8 a0_13, .int .u8 a0_14, .int .u8 a0_15, .int .u8 a0_16]] w fun e w' => e = .returned (.agg #[.bool r1, .int .u8 r2, .int .u8 r3, .int .u8 r4, .int .u8 r5, .int .u8 r6, .int .u8 r7, .int .u8 r8, .int .u8 r9, .int .u8 r10, .int .u8 r11, .int .u8 r12, .int .u8 r13, .int .u8 r14, .int .u8 r15, .int .u8 r16, .int .u8 r17]) ∧ Below w.heap.size w w' := by
 have hu24 := Tryd.underlying24
 have HLW := Aside0.mk hLW
 clear hLW
 have HB := Aside0.mk (Below.refl w.heap.size w)
 have H : ((ip_mapped.f a0_0 a0_1 a0_2 a0_3 a0_4 a0_5 a0_6 a0_7 a0_8 a0_9 a0_10 a0_11 a0_12 a0_13 a0_14 a0_15 a0_16).bind fun t277 => (if t277 = true then ((ip_last.f ([a0_13, a0_14, a0_15, a0_16] : List Int)).bind fun bt279 => (some (bt279.1, bt279.2.1, bt279.2.2.1, bt279.2.2.2.1, bt279.2.2.2.2.1, bt279.2.2.2.2.2.1, bt279.2.2.2.2.2.2.1, bt279.2.2.2.2.2.2.2.1, bt279.2.2.2.2.2.2.2.2.1, bt279.2.2.2.2.2.2.2.2.2.1, bt279.2.2.2.2.2.2.2.2.2.2.1, bt279.2.2.2.2.2.2.2.2.2.2.2.1, bt279.2.2.2.2.2.2.2.2.2.2.2.2.1, bt279.2.2.2.2.2.2.2.2.2.2.2.2.2.1, bt279.2.2.2.2.2.2.2.2.2.2.2.2.2.2.1, bt279.2.2.2.2.2.2.2.2.2.2.2.2.2.2.2.1, bt279.2.2.2.2.2.2.2.2.2.2.2.2.2.2.2.2))) else (some (a0_0, a0_1, a0_2, a0_3, a0_4, a0_5, a0_6, a0_7, a0_8, a0_9, a0_10, a0_11, a0_12, a0_13, a0_14, a0_15, a0_16)))) = some (r1, r2, r3, r4, r5, r6, r7, r8, r9, r10, r11, r12, r13, r14, r15, r16, r17) := h
 clear h
 replace H := Option.bind_eq_some_iff.mp H
 obtain ⟨t277, A20, H⟩ := H
 (try dsimp only at H)
 have A2 := Aside0.mk A20
 clear A20
 by_cases c3 : t277 = true
 ·subst c3
  replace H := ifT_ H
  replace H := Option.bind_eq_some_iff.mp H
  obtain ⟨⟨t279, t280, t281, t282, t283, t284, t285, t286, t287, t288, t289, t290, t291, t292, t293, t294, t295⟩, A40, H⟩ := H
  (try dsimp only at H)
  have A4 := Aside0.mk A40
  clear A40
  simp only [Option.some.injEq, Prod.mk.injEq] at H
  obtain ⟨rfl, rfl, rfl, rfl, rfl, rfl, rfl, rfl, rfl, rfl, rfl, rfl, rfl, rfl, rfl, rfl, rfl⟩ := H
  go_enter Tryd.func23, Tryd.ntmps23
  go_wp2_with (first | ((with_reducible refine gate_dst (N := 1) rfl ?_); refine box_event ?hg (N := 1) ?hd (cs := #[.bool a0_0, .int .u8 a0_1, .int .u8 a0_2, .int .u8 a0_3, .int .u8 a0_4, .int .u8 a0_5, .int .u8 a0_6, .int .u8 a0_7, .int .u8 a0_8, .int .u8 a0_9, .int .u8 a0_10, .int .u8 a0_11, .int .u8 a0_12, .int .u8 a0_13, .int .u8 a0_14, .int .u8 a0_15, .int .u8 a0_16]) (t := 24) ?hr ?_; (case hd => rfl); (case hg => rfl); (case hr => first | (go_simp; done) | (go_simp; rfl)); intro gb275 hg w5 hbox hb; have n0_ := Aside0.mk (below_step bq_ hb); have n1_ := Aside0.mk (hbox); have n2_ := Aside0.mk (show w.heap.size ≤ gb275 from ge_ hg); have n3_ := Aside0.mk (show w.heap.size ≤ gb275 from ge_ hg); clear HB; have HB := n0_; have BK275 := n1_; have GW275 := n2_; have GE275 := n3_; clear n0_ n1_ n2_ n3_; clear hb hbox hg) | ((with_reducible refine gate_dst (N := 2) rfl ?_); refine box_event ?hg (N := 2) ?hd (cs := #[.bool false, .int .u8 0, .int .u8 0, .int .u8 0, .int .u8 0, .int .u8 0, .int .u8 0, .int .u8 0, .int .u8 0, .int .u8 0, .int .u8 0, .int .u8 0, .int .u8 0, .int .u8 0, .int .u8 0, .int .u8 0, .int .u8 0]) (t := 24) ?hr ?_; (case hd => rfl); (case hg => rfl); (case hr => first | (go_simp; done) | (go_simp; rfl)); intro gb276 hg w6 hbox hb; have n0_ := Aside0.mk (bb_ BK275 hb); have n1_ := Aside0.mk (below_step bg_ hb); have n2_ := Aside0.mk (hbox); have n3_ := Aside0.mk (show w.heap.size ≤ gb276 from gg_ hg); have n4_ := Aside0.mk (show w.heap.size ≤ gb276 from gg_ hg); have n5_ := Aside0.mk (show gb275 ≠ gb276 from nl_ BK275 hg); have n6_ := Aside0.mk (show gb276 ≠ gb275 from ng_ BK275 hg); clear BK275; clear HB; have BK275 := n0_; have HB := n1_; have BK276 := n2_; have GW276 := n3_; have GE276 := n4_; have NB275_276 := n5_; have NB276_275 := n6_; clear n0_ n1_ n2_ n3_ n4_ n5_ n6_; clear hb hbox hg) | ((with_reducible refine gate_dst (N := 3) rfl ?_); (try (refine gate_guard (by rfl) ?_; dsimp only)); refine load_box ?hg 24 (.tmp 1) rfl BK275.out [] [.bool a0_0, .int .u8 a0_1, .int .u8 a0_2, .int .u8 a0_3, .int .u8 a0_4, .int .u8 a0_5, .int .u8 a0_6, .int .u8 a0_7, .int .u8 a0_8, .int .u8 a0_9, .int .u8 a0_10, .int .u8 a0_11, .int .u8 a0_12, .int .u8 a0_13, .int .u8 a0_14, .int .u8 a0_15, .int .u8 a0_16] [] rfl 0 rfl rfl Tryd.underlying24 rfl (by kernel_rfl) ?_; (case hg => rfl)) | ((with_reducible refine gate_callee (f := 41) rfl ?_); refine goesL_ (some 4) rfl rfl Tryd.func41 (by kernel_rfl) rfl #[.agg #[.bool a0_0, .int .u8 a0_1, .int .u8 a0_2, .int .u8 a0_3, .int .u8 a0_4, .int .u8 a0_5, .int .u8 a0_6, .int .u8 a0_7, .int .u8 a0_8, .int .u8 a0_9, .int .u8 a0_10, .int .u8 a0_11, .int .u8 a0_12, .int .u8 a0_13, .int .u8 a0_14, .int .u8 a0_15, .int .u8 a0_16]] rfl lq_ ?_; (with_reducible refine (ip_mapped.calls a0_0 a0_1 a0_2 a0_3 a0_4 a0_5 a0_6 a0_7 a0_8 a0_9 a0_10 a0_11 a0_12 a0_13 a0_14 a0_15 a0_16 true _ ?side1 A2.out).mono ?_); (case side1 => exact lg_); rintro e w7 ⟨rfl, hb⟩; refine ⟨_, rfl, ?_⟩; have n0_ := Aside0.mk (bb_ BK275 hb); have n1_ := Aside0.mk (bb_ BK276 hb); have n2_ := Aside0.mk (below_step bg_ hb); clear BK275; clear BK276; clear HB; have BK275 := n0_; have BK276 := n1_; have HB := n2_; clear n0_ n1_ n2_; (try clear hb); (try clear hb2); (try clear hk); (try clear hi); have HR278 := Aside0.mk (C_arr BK275.out .u8 [.bool a0_0, .int .u8 a0_1, .int .u8 a0_2, .int .u8 a0_3, .int .u8 a0_4, .int .u8 a0_5, .int .u8 a0_6, .int .u8 a0_7, .int .u8 a0_8, .int .u8 a0_9, .int .u8 a0_10, .int .u8 a0_11, .int .u8 a0_12] [a0_13, a0_14, a0_15, a0_16] [] rfl (q := 13) rfl (by show 4 ≤ 9223372036854775807; decide)); have HC278 := Aside0.mk (show ([a0_13, a0_14, a0_15, a0_16] : List Int).length ≤ 4 from by show 4 ≤ 4; decide); have hl278 : ([a0_13, a0_14, a0_15, a0_16] : List Int).length = 4 := rfl) | ((with_reducible refine gate_callee (f := 42) rfl ?_); refine goesL_ (some 7) rfl rfl Tryd.func42 (by kernel_rfl) rfl #[.slice (some ⟨gb275, 13, none⟩) ([a0_13, a0_14, a0_15, a0_16] : List Int).length 4] rfl (by (try simp only [List.map_toArray, List.map_cons, List.map_nil]); first | done | (rw [show ([a0_13, a0_14, a0_15, a0_16] : List Int).length = 4 from rfl] <;> rfl) | rfl | (simp only [List.length_drop, List.length_take]; rfl)) ?_; (with_reducible refine (ip_last.calls _ _ ([a0_13, a0_14, a0_15, a0_16] : List Int) t279 t280 t281 t282 t283 t284 t285 t286 t287 t288 t289 t290 t291 t292 t293 t294 t295 _ ?side3 ?side1 ?side2 A4.out).mono ?_); (case side1 => repeat (first | exact (by repeat (first | (with_reducible exact HR278.out) | (with_reducible refine Kd.C_alloc ?_ _) | (with_reducible refine Kd.C_drewN ?_ _) | (with_reducible refine Kd.C_drew ?_) | exact HR278.out)) | (with_reducible refine Kd.C_alloc ?_ _) | (with_reducible refine Kd.C_drewN ?_ _) | (with_reducible refine Kd.C_drew ?_))); (case side2 => exact HC278.out); (case side3 => exact lg_); rintro e w8 ⟨rfl, hb⟩; refine ⟨_, rfl, ?_⟩; have n0_ := Aside0.mk (bb_ BK275 hb); have n1_ := Aside0.mk (bb_ BK276 hb); have n2_ := Aside0.mk (Kd.C_below (by repeat (first | (with_reducible exact HR278.out) | (with_reducible refine Kd.C_alloc ?_ _) | (with_reducible refine Kd.C_drewN ?_ _) | (with_reducible refine Kd.C_drew ?_) | exact HR278.out)) hb); have n3_ := Aside0.mk (below_step bg_ hb); clear BK275; clear BK276; clear HR278; clear HB; have BK275 := n0_; have BK276 := n1_; have HR278 := n2_; have HB := n3_; clear n0_ n1_ n2_ n3_; (try clear hb); (try clear hb2); (try clear hk); (try clear hi); have hnb9 := NB276_275.out; have hnc9 := NB275_276.out; have hcz10_0 := cz_ BK276 0 (.bool false); have hcz10_1 := cz_ BK276 1 (.int .u8 0); have hcz10_2 := cz_ BK276 2 (.int .u8 0); have hcz10_3 := cz_ BK276 3 (.int .u8 0); have hcz10_4 := cz_ BK276 4 (.int .u8 0); have hcz10_5 := cz_ BK276 5 (.int .u8 0); have hcz10_6 := cz_ BK276 6 (.int .u8 0); have hcz10_7 := cz_ BK276 7 (.int .u8 0); have hcz10_8 := cz_ BK276 8 (.int .u8 0); have hcz10_9 := cz_ BK276 9 (.int .u8 0); have hcz10_10 := cz_ BK276 10 (.int .u8 0); have hcz10_11 := cz_ BK276 11 (.int .u8 0); have hcz10_12 := cz_ BK276 12 (.int .u8 0); have hcz10_13 := cz_ BK276 13 (.int .u8 0); have hcz10_14 := cz_ BK276 14 (.int .u8 0); have hcz10_15 := cz_ BK276 15 (.int .u8 0); have hcz10_16 := cz_ BK276 16 (.int .u8 0); have hfz10_0 := bf_ BK276 0; have hfz10_1 := bf_ BK276 1; have hfz10_2 := bf_ BK276 2; have hfz10_3 := bf_ BK276 3; have hfz10_4 := bf_ BK276 4; have hfz10_5 := bf_ BK276 5; have hfz10_6 := bf_ BK276 6; have hfz10_7 := bf_ BK276 7; have hfz10_8 := bf_ BK276 8; have hfz10_9 := bf_ BK276 9; have hfz10_10 := bf_ BK276 10; have hfz10_11 := bf_ BK276 11; have hfz10_12 := bf_ BK276 12; have hfz10_13 := bf_ BK276 13; have hfz10_14 := bf_ BK276 14; have hfz10_15 := bf_ BK276 15; have hfz10_16 := bf_ BK276 16) | ((with_reducible refine gate_store (t := 24) (p := 2) rfl ?_); refine store_all ?hg 24 2 _ rfl rfl gb276 [.bool false, .int .u8 0, .int .u8 0, .int .u8 0, .int .u8 0, .int .u8 0, .int .u8 0, .int .u8 0, .int .u8 0, .int .u8 0, .int .u8 0, .int .u8 0, .int .u8 0, .int .u8 0, .int .u8 0, .int .u8 0, .int .u8 0] [.bool t279, .int .u8 t280, .int .u8 t281, .int .u8 t282, .int .u8 t283, .int .u8 t284, .int .u8 t285, .int .u8 t286, .int .u8 t287, .int .u8 t288, .int .u8 t289, .int .u8 t290, .int .u8 t291, .int .u8 t292, .int .u8 t293, .int .u8 t294, .int .u8 t295] BK276.out rfl rfl rfl (by kernel_rfl) rfl ?_; (case hg => rfl); intro w11 hw; have n0_ : Aside0 (w11.heap[gb275]? = some (.cells #[.bool a0_0, .int .u8 a0_1, .int .u8 a0_2, .int .u8 a0_3, .int .u8 a0_4, .int .u8 a0_5, .int .u8 a0_6, .int .u8 a0_7, .int .u8 a0_8, .int .u8 a0_9, .int .u8 a0_10, .int .u8 a0_11, .int .u8 a0_12, .int .u8 a0_13, .int .u8 a0_14, .int .u8 a0_15, .int .u8 a0_16] 24 (0, 0))) := ⟨(by rw [hw]; exact (by (with_reducible repeat (first | refine blk_drewN ?_ _ | refine blk_drew ?_ | refine blk_alloc ?_ _)); refine blk_farC NB275_276.out _ _ ?_; (with_reducible repeat (first | refine blk_drewN ?_ _ | refine blk_drew ?_ | refine blk_alloc ?_ _)); exact BK275.out))⟩; have n1_ : Aside0 (w11.heap[gb276]? = some (.cells #[.bool t279, .int .u8 t280, .int .u8 t281, .int .u8 t282, .int .u8 t283, .int .u8 t284, .int .u8 t285, .int .u8 t286, .int .u8 t287, .int .u8 t288, .int .u8 t289, .int .u8 t290, .int .u8 t291, .int .u8 t292, .int .u8 t293, .int .u8 t294, .int .u8 t295] 24 (0, 0))) := ⟨(by rw [hw]; exact (by (with_reducible repeat (first | refine blk_drewN ?_ _ | refine blk_drew ?_ | refine blk_alloc ?_ _)); refine blk_part [.bool t279, .int .u8 t280, .int .u8 t281, .int .u8 t282, .int .u8 t283, .int .u8 t284, .int .u8 t285, .int .u8 t286, .int .u8 t287, .int .u8 t288, .int .u8 t289, .int .u8 t290, .int .u8 t291, .int .u8 t292, .int .u8 t293, .int .u8 t294, .int .u8 t295] [.bool false, .int .u8 0, .int .u8 0, .int .u8 0, .int .u8 0, .int .u8 0, .int .u8 0, .int .u8 0, .int .u8 0, .int .u8 0, .int .u8 0, .int .u8 0, .int .u8 0, .int .u8 0, .int .u8 0, .int .u8 0, .int .u8 0] [] [] (cs := #[.bool false, .int .u8 0, .int .u8 0, .int .u8 0, .int .u8 0, .int .u8 0, .int .u8 0, .int .u8 0, .int .u8 0, .int .u8 0, .int .u8 0, .int .u8 0, .int .u8 0, .int .u8 0, .int .u8 0, .int .u8 0, .int .u8 0]) ?_ rfl rfl rfl; (with_reducible repeat (first | refine blk_drewN ?_ _ | refine blk_drew ?_ | refine blk_alloc ?_ _)); exact BK276.out))⟩; have n2_ : Aside0 (Below w.heap.size w w11) := ⟨(by rw [hw]; exact (by repeat (first | (with_reducible first | exact HB.out | apply below_alloc | apply pw_below_drewN | apply below_drew1 | refine below_set ?_ GE275.out | refine below_set ?_ GE276.out | refine below_setC GE275.out _ _ ?_ | refine below_setC GE276.out _ _ ?_) | exact HB.out)))⟩; clear hw; clear BK275; clear BK276; clear HB; have BK275 := n0_; have BK276 := n1_; have HB := n2_; clear n0_ n1_ n2_))
  refine bodyPost_ret (results_cell_row rfl _ _ gb276 24 #[.bool t279, .int .u8 t280, .int .u8 t281, .int .u8 t282, .int .u8 t283, .int .u8 t284, .int .u8 t285, .int .u8 t286, .int .u8 t287, .int .u8 t288, .int .u8 t289, .int .u8 t290, .int .u8 t291, .int .u8 t292, .int .u8 t293, .int .u8 t294, .int .u8 t295] (0, 0) _ rfl bk_ Tryd.underlying24 rfl (by kernel_rfl)) rfl ?_
  exact ⟨rq_, bg_⟩
 ·replace c3 := Bool.eq_false_iff.mpr c3
  subst c3
  replace H := ifF_ H
  simp only [Option.some.injEq, Prod.mk.injEq] at H
  obtain ⟨rfl, rfl, rfl, rfl, rfl, rfl, rfl, rfl, rfl, rfl, rfl, rfl, rfl, rfl, rfl, rfl, rfl⟩ := H
  go_enter Tryd.func23, Tryd.ntmps23
  go_wp2_with (first | ((with_reducible refine gate_dst (N := 1) rfl ?_); refine box_event ?hg (N := 1) ?hd (cs := #[.bool a0_0, .int .u8 a0_1, .int .u8 a0_2, .int .u8 a0_3, .int .u8 a0_4, .int .u8 a0_5, .int .u8 a0_6, .int .u8 a0_7, .int .u8 a0_8, .int .u8 a0_9, .int .u8 a0_10, .int .u8 a0_11, .int .u8 a0_12, .int .u8 a0_13, .int .u8 a0_14, .int .u8 a0_15, .int .u8 a0_16]) (t := 24) ?hr ?_; (case hd => rfl); (case hg => rfl); (case hr => first | (go_simp; done) | (go_simp; rfl)); intro gb275 hg w12 hbox hb; have n0_ := Aside0.mk (below_step bq_ hb); have n1_ := Aside0.mk (hbox); have n2_ := Aside0.mk (show w.heap.size ≤ gb275 from ge_ hg); have n3_ := Aside0.mk (show w.heap.size ≤ gb275 from ge_ hg); clear HB; have HB := n0_; have BK275 := n1_; have GW275 := n2_; have GE275 := n3_; clear n0_ n1_ n2_ n3_; clear hb hbox hg) | ((with_reducible refine gate_dst (N := 2) rfl ?_); refine box_event ?hg (N := 2) ?hd (cs := #[.bool false, .int .u8 0, .int .u8 0, .int .u8 0, .int .u8 0, .int .u8 0, .int .u8 0, .int .u8 0, .int .u8 0, .int .u8 0, .int .u8 0, .int .u8 0, .int .u8 0, .int .u8 0, .int .u8 0, .int .u8 0, .int .u8 0]) (t := 24) ?hr ?_; (case hd => rfl); (case hg => rfl); (case hr => first | (go_simp; done) | (go_simp; rfl)); intro gb276 hg w13 hbox hb; have n0_ := Aside0.mk (bb_ BK275 hb); have n1_ := Aside0.mk (below_step bg_ hb); have n2_ := Aside0.mk (hbox); have n3_ := Aside0.mk (show w.heap.size ≤ gb276 from gg_ hg); have n4_ := Aside0.mk (show w.heap.size ≤ gb276 from gg_ hg); have n5_ := Aside0.mk (show gb275 ≠ gb276 from nl_ BK275 hg); have n6_ := Aside0.mk (show gb276 ≠ gb275 from ng_ BK275 hg); clear BK275; clear HB; have BK275 := n0_; have HB := n1_; have BK276 := n2_; have GW276 := n3_; have GE276 := n4_; have NB275_276 := n5_; have NB276_275 := n6_; clear n0_ n1_ n2_ n3_ n4_ n5_ n6_; clear hb hbox hg) | ((with_reducible refine gate_dst (N := 3) rfl ?_); (try (refine gate_guard (by rfl) ?_; dsimp only)); refine load_box ?hg 24 (.tmp 1) rfl BK275.out [] [.bool a0_0, .int .u8 a0_1, .int .u8 a0_2, .int .u8 a0_3, .int .u8 a0_4, .int .u8 a0_5, .int .u8 a0_6, .int .u8 a0_7, .int .u8 a0_8, .int .u8 a0_9, .int .u8 a0_10, .int .u8 a0_11, .int .u8 a0_12, .int .u8 a0_13, .int .u8 a0_14, .int .u8 a0_15, .int .u8 a0_16] [] rfl 0 rfl rfl Tryd.underlying24 rfl (by kernel_rfl) ?_; (case hg => rfl)) | ((with_reducible refine gate_callee (f := 41) rfl ?_); refine goesL_ (some 4) rfl rfl Tryd.func41 (by kernel_rfl) rfl #[.agg #[.bool a0_0, .int .u8 a0_1, .int .u8 a0_2, .int .u8 a0_3, .int .u8 a0_4, .int .u8 a0_5, .int .u8 a0_6, .int .u8 a0_7, .int .u8 a0_8, .int .u8 a0_9, .int .u8 a0_10, .int .u8 a0_11, .int .u8 a0_12, .int .u8 a0_13, .int .u8 a0_14, .int .u8 a0_15, .int .u8 a0_16]] rfl lq_ ?_; (with_reducible refine (ip_mapped.calls a0_0 a0_1 a0_2 a0_3 a0_4 a0_5 a0_6 a0_7 a0_8 a0_9 a0_10 a0_11 a0_12 a0_13 a0_14 a0_15 a0_16 false _ ?side1 A2.out).mono ?_); (case side1 => exact lg_); rintro e w14 ⟨rfl, hb⟩; refine ⟨_, rfl, ?_⟩; have n0_ := Aside0.mk (bb_ BK275 hb); have n1_ := Aside0.mk (bb_ BK276 hb); have n2_ := Aside0.mk (below_step bg_ hb); clear BK275; clear BK276; clear HB; have BK275 := n0_; have BK276 := n1_; have HB := n2_; clear n0_ n1_ n2_; (try clear hb); (try clear hb2); (try clear hk); (try clear hi); have hnb15 := NB276_275.out; have hnc15 := NB275_276.out; have hcz16_0 := cz_ BK276 0 (.bool false); have hcz16_1 := cz_ BK276 1 (.int .u8 0); have hcz16_2 := cz_ BK276 2 (.int .u8 0); have hcz16_3 := cz_ BK276 3 (.int .u8 0); have hcz16_4 := cz_ BK276 4 (.int .u8 0); have hcz16_5 := cz_ BK276 5 (.int .u8 0); have hcz16_6 := cz_ BK276 6 (.int .u8 0); have hcz16_7 := cz_ BK276 7 (.int .u8 0); have hcz16_8 := cz_ BK276 8 (.int .u8 0); have hcz16_9 := cz_ BK276 9 (.int .u8 0); have hcz16_10 := cz_ BK276 10 (.int .u8 0); have hcz16_11 := cz_ BK276 11 (.int .u8 0); have hcz16_12 := cz_ BK276 12 (.int .u8 0); have hcz16_13 := cz_ BK276 13 (.int .u8 0); have hcz16_14 := cz_ BK276 14 (.int .u8 0); have hcz16_15 := cz_ BK276 15 (.int .u8 0); have hcz16_16 := cz_ BK276 16 (.int .u8 0); have hfz16_0 := bf_ BK276 0; have hfz16_1 := bf_ BK276 1; have hfz16_2 := bf_ BK276 2; have hfz16_3 := bf_ BK276 3; have hfz16_4 := bf_ BK276 4; have hfz16_5 := bf_ BK276 5; have hfz16_6 := bf_ BK276 6; have hfz16_7 := bf_ BK276 7; have hfz16_8 := bf_ BK276 8; have hfz16_9 := bf_ BK276 9; have hfz16_10 := bf_ BK276 10; have hfz16_11 := bf_ BK276 11; have hfz16_12 := bf_ BK276 12; have hfz16_13 := bf_ BK276 13; have hfz16_14 := bf_ BK276 14; have hfz16_15 := bf_ BK276 15; have hfz16_16 := bf_ BK276 16) | ((with_reducible refine gate_dst (N := 8) rfl ?_); (try (refine gate_guard (by rfl) ?_; dsimp only)); refine load_box ?hg 24 (.tmp 1) rfl BK275.out [] [.bool a0_0, .int .u8 a0_1, .int .u8 a0_2, .int .u8 a0_3, .int .u8 a0_4, .int .u8 a0_5, .int .u8 a0_6, .int .u8 a0_7, .int .u8 a0_8, .int .u8 a0_9, .int .u8 a0_10, .int .u8 a0_11, .int .u8 a0_12, .int .u8 a0_13, .int .u8 a0_14, .int .u8 a0_15, .int .u8 a0_16] [] rfl 0 rfl rfl Tryd.underlying24 rfl (by kernel_rfl) ?_; (case hg => rfl)) | ((with_reducible refine gate_store (t := 24) (p := 2) rfl ?_); refine store_all ?hg 24 2 _ rfl rfl gb276 [.bool false, .int .u8 0, .int .u8 0, .int .u8 0, .int .u8 0, .int .u8 0, .int .u8 0, .int .u8 0, .int .u8 0, .int .u8 0, .int .u8 0, .int .u8 0, .int .u8 0, .int .u8 0, .int .u8 0, .int .u8 0, .int .u8 0] [.bool a0_0, .int .u8 a0_1, .int .u8 a0_2, .int .u8 a0_3, .int .u8 a0_4, .int .u8 a0_5, .int .u8 a0_6, .int .u8 a0_7, .int .u8 a0_8, .int .u8 a0_9, .int .u8 a0_10, .int .u8 a0_11, .int .u8 a0_12, .int .u8 a0_13, .int .u8 a0_14, .int .u8 a0_15, .int .u8 a0_16] BK276.out rfl rfl rfl (by kernel_rfl) rfl ?_; (case hg => rfl); intro w17 hw; have n0_ : Aside0 (w17.heap[gb275]? = some (.cells #[.bool a0_0, .int .u8 a0_1, .int .u8 a0_2, .int .u8 a0_3, .int .u8 a0_4, .int .u8 a0_5, .int .u8 a0_6, .int .u8 a0_7, .int .u8 a0_8, .int .u8 a0_9, .int .u8 a0_10, .int .u8 a0_11, .int .u8 a0_12, .int .u8 a0_13, .int .u8 a0_14, .int .u8 a0_15, .int .u8 a0_16] 24 (0, 0))) := ⟨(by rw [hw]; exact (by (with_reducible repeat (first | refine blk_drewN ?_ _ | refine blk_drew ?_ | refine blk_alloc ?_ _)); refine blk_farC NB275_276.out _ _ ?_; (with_reducible repeat (first | refine blk_drewN ?_ _ | refine blk_drew ?_ | refine blk_alloc ?_ _)); exact BK275.out))⟩; have n1_ : Aside0 (w17.heap[gb276]? = some (.cells #[.bool a0_0, .int .u8 a0_1, .int .u8 a0_2, .int .u8 a0_3, .int .u8 a0_4, .int .u8 a0_5, .int .u8 a0_6, .int .u8 a0_7, .int .u8 a0_8, .int .u8 a0_9, .int .u8 a0_10, .int .u8 a0_11, .int .u8 a0_12, .int .u8 a0_13, .int .u8 a0_14, .int .u8 a0_15, .int .u8 a0_16] 24 (0, 0))) := ⟨(by rw [hw]; exact (by (with_reducible repeat (first | refine blk_drewN ?_ _ | refine blk_drew ?_ | refine blk_alloc ?_ _)); refine blk_part [.bool a0_0, .int .u8 a0_1, .int .u8 a0_2, .int .u8 a0_3, .int .u8 a0_4, .int .u8 a0_5, .int .u8 a0_6, .int .u8 a0_7, .int .u8 a0_8, .int .u8 a0_9, .int .u8 a0_10, .int .u8 a0_11, .int .u8 a0_12, .int .u8 a0_13, .int .u8 a0_14, .int .u8 a0_15, .int .u8 a0_16] [.bool false, .int .u8 0, .int .u8 0, .int .u8 0, .int .u8 0, .int .u8 0, .int .u8 0, .int .u8 0, .int .u8 0, .int .u8 0, .int .u8 0, .int .u8 0, .int .u8 0, .int .u8 0, .int .u8 0, .int .u8 0, .int .u8 0] [] [] (cs := #[.bool false, .int .u8 0, .int .u8 0, .int .u8 0, .int .u8 0, .int .u8 0, .int .u8 0, .int .u8 0, .int .u8 0, .int .u8 0, .int .u8 0, .int .u8 0, .int .u8 0, .int .u8 0, .int .u8 0, .int .u8 0, .int .u8 0]) ?_ rfl rfl rfl; (with_reducible repeat (first | refine blk_drewN ?_ _ | refine blk_drew ?_ | refine blk_alloc ?_ _)); exact BK276.out))⟩; have n2_ : Aside0 (Below w.heap.size w w17) := ⟨(by rw [hw]; exact (by repeat (first | (with_reducible first | exact HB.out | apply below_alloc | apply pw_below_drewN | apply below_drew1 | refine below_set ?_ GE275.out | refine below_set ?_ GE276.out | refine below_setC GE275.out _ _ ?_ | refine below_setC GE276.out _ _ ?_) | exact HB.out)))⟩; clear hw; clear BK275; clear BK276; clear HB; have BK275 := n0_; have BK276 := n1_; have HB := n2_; clear n0_ n1_ n2_))
  refine bodyPost_ret (results_cell_row rfl _ _ gb276 24 #[.bool a0_0, .int .u8 a0_1, .int .u8 a0_2, .int .u8 a0_3, .int .u8 a0_4, .int .u8 a0_5, .int .u8 a0_6, .int .u8 a0_7, .int .u8 a0_8, .int .u8 a0_9, .int .u8 a0_10, .int .u8 a0_11, .int .u8 a0_12, .int .u8 a0_13, .int .u8 a0_14, .int .u8 a0_15, .int .u8 a0_16] (0, 0) _ rfl bk_ Tryd.underlying24 rfl (by kernel_rfl)) rfl ?_
  exact ⟨rq_, bg_⟩

def ip_Embeds.f (a0_0 : Bool) (a0_1 : Int) (a0_2 : Int) (a0_3 : Int) (a0_4 : Int) (a0_5 : Int) (a0_6 : Int) (a0_7 : Int) (a0_8 : Int) (a0_9 : Int) (a0_10 : Int) (a0_11 : Int) (a0_12 : Int) (a0_13 : Int) (a0_14 : Int) (a0_15 : Int) (a0_16 : Int) : Option (Bool × Int × Int × Int × Int × Int × Int × Int × Int × Int × Int × Int × Int × Int × Int × Int × Int × Bool) := if a0_0 = true then (none) else (some (false, 0, 0, 0, 0, 0, 0, 0, 0, 0, 0, 0, 0, 0, 0, 0, 0, false))
set_option maxHeartbeats 8000000 in
set_option maxRecDepth 100000 in
theorem ip_Embeds.calls (a0_0 : Bool) (a0_1 : Int) (a0_2 : Int) (a0_3 : Int) (a0_4 : Int) (a0_5 : Int) (a0_6 : Int) (a0_7 : Int) (a0_8 : Int) (a0_9 : Int) (a0_10 : Int) (a0_11 : Int) (a0_12 : Int) (a0_13 : Int) (a0_14 : Int) (a0_15 : Int) (a0_16 : Int) (r1 : Bool) (r2 : Int) (r3 : Int) (r4 : Int) (r5 : Int) (r6 : Int) (r7 : Int) (r8 : Int) (r9 : Int) (r10 : Int) (r11 : Int) (r12 : Int) (r13 : Int) (r14 : Int) (r15 : Int) (r16 : Int) (r17 : Int) (r18 : Bool) (w : World) (hLW : LW w) (h : ip_Embeds.f a0_0 a0_1 a0_2 a0_3 a0_4 a0_5 a0_6 a0_7 a0_8 a0_9 a0_10 a0_11 a0_12 a0_13 a0_14 a0_15 a0_16 = some (r1, r2, r3, r4, r5, r6, r7, r8, r9, r10, r11, r12, r13, r14, r15, r16, r17, r18)) :
  Calls Tryd.prog 25 #[.agg #[.bool a0_0, .int .u8 a0_1, .int .u8 a0_2, .int .u8 a0_3, .int .u8 a0_4, .int .u8 a0_5, .int .u8 a0_6, .int .u8 a0_7, .int .u8 a0_8, .int .u8 a0_9, .int .u8 a0_10, .int .u8 a0_11, .int .u8 a0_12, .int .u8 a0_13, .int .u8 a0_14, .int .u8 a0_15, .int .u8 a0_16]] w fun e w' => e = .returned (.tuple #[.agg #[.bool r1, .int .u8 r2, .int .u8 r3, .int .u8 r4, .int .u8 r5, .int .u8 r6, .int .u8 r7, .int .u8 r8, .int .u8 r9, .int .u8 r10, .int .u8 r11, .int .u8 r12, .int .u8 r13, .int .u8 r14, .int .u8 r15, .int .u8 r16, .int .u8 r17], .bool r18]) ∧ Below w.heap.size w w' := by
 have hu24 := Tryd.underlying24
 have HLW := Aside0.mk hLW
 clear hLW
 have HB := Aside0.mk (Below.refl w.heap.size w)
 have H : (if a0_0 = true then (none) else (some (false, 0, 0, 0, 0, 0, 0, 0, 0, 0, 0, 0, 0, 0, 0, 0, 0, false))) = some (r1, r2, r3, r4, r5, r6, r7, r8, r9, r10, r11, r12, r13, r14, r15, r16, r17, r18) := h
 clear h
 by_cases c2 : a0_0 = true
 ·subst c2
  replace H := ifT_ H
  exact absurd H (by simp)
 ·replace c2 := Bool.eq_false_iff.mpr c2
  subst c2
  replace H := ifF_ H
  simp only [Option.some.injEq, Prod.mk.injEq] at H
  obtain ⟨rfl, rfl, rfl, rfl, rfl, rfl, rfl, rfl, rfl, rfl, rfl, rfl, rfl, rfl, rfl, rfl, rfl, rfl⟩ := H
  go_enter Tryd.func25, Tryd.ntmps25
  go_wp2_with (first | ((with_reducible refine gate_dst (N := 1) rfl ?_); refine box_event ?hg (N := 1) ?hd (cs := #[.bool false, .int .u8 a0_1, .int .u8 a0_2, .int .u8 a0_3, .int .u8 a0_4, .int .u8 a0_5, .int .u8 a0_6, .int .u8 a0_7, .int .u8 a0_8, .int .u8 a0_9, .int .u8 a0_10, .int .u8 a0_11, .int .u8 a0_12, .int .u8 a0_13, .int .u8 a0_14, .int .u8 a0_15, .int .u8 a0_16]) (t := 24) ?hr ?_; (case hd => rfl); (case hg => rfl); (case hr => first | (go_simp; done) | (go_simp; rfl)); intro gb296 hg w3 hbox hb; have n0_ := Aside0.mk (below_step bq_ hb); have n1_ := Aside0.mk (hbox); have n2_ := Aside0.mk (show w.heap.size ≤ gb296 from ge_ hg); have n3_ := Aside0.mk (show w.heap.size ≤ gb296 from ge_ hg); clear HB; have HB := n0_; have BK296 := n1_; have GW296 := n2_; have GE296 := n3_; clear n0_ n1_ n2_ n3_; clear hb hbox hg) | ((with_reducible refine gate_dst (N := 2) rfl ?_); refine box_event ?hg (N := 2) ?hd (cs := #[.bool false, .int .u8 0, .int .u8 0, .int .u8 0, .int .u8 0, .int .u8 0, .int .u8 0, .int .u8 0, .int .u8 0, .int .u8 0, .int .u8 0, .int .u8 0, .int .u8 0, .int .u8 0, .int .u8 0, .int .u8 0, .int .u8 0]) (t := 24) ?hr ?_; (case hd => rfl); (case hg => rfl); (case hr => first | (go_simp; done) | (go_simp; rfl)); intro gb297 hg w4 hbox hb; have n0_ := Aside0.mk (bb_ BK296 hb); have n1_ := Aside0.mk (below_step bg_ hb); have n2_ := Aside0.mk (hbox); have n3_ := Aside0.mk (show w.heap.size ≤ gb297 from gg_ hg); have n4_ := Aside0.mk (show w.heap.size ≤ gb297 from gg_ hg); have n5_ := Aside0.mk (show gb296 ≠ gb297 from nl_ BK296 hg); have n6_ := Aside0.mk (show gb297 ≠ gb296 from ng_ BK296 hg); clear BK296; clear HB; have BK296 := n0_; have HB := n1_; have BK297 := n2_; have GW297 := n3_; have GE297 := n4_; have NB296_297 := n5_; have NB297_296 := n6_; clear n0_ n1_ n2_ n3_ n4_ n5_ n6_; clear hb hbox hg; have HR298 := Aside0.mk (C_arr BK296.out .u8 [.bool false] [a0_1, a0_2, a0_3, a0_4, a0_5, a0_6, a0_7, a0_8, a0_9, a0_10, a0_11, a0_12] [.int .u8 a0_13, .int .u8 a0_14, .int .u8 a0_15, .int .u8 a0_16] rfl (q := 1) rfl (by show 12 ≤ 9223372036854775807; decide)); have HC298 := Aside0.mk (show ([a0_1, a0_2, a0_3, a0_4, a0_5, a0_6, a0_7, a0_8, a0_9, a0_10, a0_11, a0_12] : List Int).length ≤ 16 from by show 12 ≤ 16; decide); have hl298 : ([a0_1, a0_2, a0_3, a0_4, a0_5, a0_6, a0_7, a0_8, a0_9, a0_10, a0_11, a0_12] : List Int).length = 12 := rfl; have hcv5 := Kd.C_string (P := Tryd.prog) (A := (some ⟨gb296, 1, none⟩)) (c := 16) Tryd.underlying70 Tryd.underlying5 Tryd.underlying9 (by repeat (first | (with_reducible exact HR298.out) | (with_reducible refine Kd.C_alloc ?_ _) | (with_reducible refine Kd.C_drewN ?_ _) | (with_reducible refine Kd.C_drew ?_) | exact HR298.out)); have hcv5b := hcv5; rw [show ([a0_1, a0_2, a0_3, a0_4, a0_5, a0_6, a0_7, a0_8, a0_9, a0_10, a0_11, a0_12] : List Int).length = 12 from rfl] at hcv5b; have hnb6 := NB296_297.out; have hnc6 := NB297_296.out; have hcz7_0 := cz_ BK296 0 (.bool false); have hcz7_1 := cz_ BK296 1 (.int .u8 a0_1); have hcz7_2 := cz_ BK296 2 (.int .u8 a0_2); have hcz7_3 := cz_ BK296 3 (.int .u8 a0_3); have hcz7_4 := cz_ BK296 4 (.int .u8 a0_4); have hcz7_5 := cz_ BK296 5 (.int .u8 a0_5); have hcz7_6 := cz_ BK296 6 (.int .u8 a0_6); have hcz7_7 := cz_ BK296 7 (.int .u8 a0_7); have hcz7_8 := cz_ BK296 8 (.int .u8 a0_8); have hcz7_9 := cz_ BK296 9 (.int .u8 a0_9); have hcz7_10 := cz_ BK296 10 (.int .u8 a0_10); have hcz7_11 := cz_ BK296 11 (.int .u8 a0_11); have hcz7_12 := cz_ BK296 12 (.int .u8 a0_12); have hcz7_13 := cz_ BK296 13 (.int .u8 a0_13); have hcz7_14 := cz_ BK296 14 (.int .u8 a0_14); have hcz7_15 := cz_ BK296 15 (.int .u8 a0_15); have hcz7_16 := cz_ BK296 16 (.int .u8 a0_16); have hfz7_0 := bf_ BK296 0; have hfz7_1 := bf_ BK296 1; have hfz7_2 := bf_ BK296 2; have hfz7_3 := bf_ BK296 3; have hfz7_4 := bf_ BK296 4; have hfz7_5 := bf_ BK296 5; have hfz7_6 := bf_ BK296 6; have hfz7_7 := bf_ BK296 7; have hfz7_8 := bf_ BK296 8; have hfz7_9 := bf_ BK296 9; have hfz7_10 := bf_ BK296 10; have hfz7_11 := bf_ BK296 11; have hfz7_12 := bf_ BK296 12; have hfz7_13 := bf_ BK296 13; have hfz7_14 := bf_ BK296 14; have hfz7_15 := bf_ BK296 15; have hfz7_16 := bf_ BK296 16; have hcz8_0 := cz_ BK297 0 (.bool false); have hcz8_1 := cz_ BK297 1 (.int .u8 0); have hcz8_2 := cz_ BK297 2 (.int .u8 0); have hcz8_3 := cz_ BK297 3 (.int .u8 0); have hcz8_4 := cz_ BK297 4 (.int .u8 0); have hcz8_5 := cz_ BK297 5 (.int .u8 0); have hcz8_6 := cz_ BK297 6 (.int .u8 0); have hcz8_7 := cz_ BK297 7 (.int .u8 0); have hcz8_8 := cz_ BK297 8 (.int .u8 0); have hcz8_9 := cz_ BK297 9 (.int .u8 0); have hcz8_10 := cz_ BK297 10 (.int .u8 0); have hcz8_11 := cz_ BK297 11 (.int .u8 0); have hcz8_12 := cz_ BK297 12 (.int .u8 0); have hcz8_13 := cz_ BK297 13 (.int .u8 0); have hcz8_14 := cz_ BK297 14 (.int .u8 0); have hcz8_15 := cz_ BK297 15 (.int .u8 0); have hcz8_16 := cz_ BK297 16 (.int .u8 0); have hfz8_0 := bf_ BK297 0; have hfz8_1 := bf_ BK297 1; have hfz8_2 := bf_ BK297 2; have hfz8_3 := bf_ BK297 3; have hfz8_4 := bf_ BK297 4; have hfz8_5 := bf_ BK297 5; have hfz8_6 := bf_ BK297 6; have hfz8_7 := bf_ BK297 7; have hfz8_8 := bf_ BK297 8; have hfz8_9 := bf_ BK297 9; have hfz8_10 := bf_ BK297 10; have hfz8_11 := bf_ BK297 11; have hfz8_12 := bf_ BK297 12; have hfz8_13 := bf_ BK297 13; have hfz8_14 := bf_ BK297 14; have hfz8_15 := bf_ BK297 15; have hfz8_16 := bf_ BK297 16) | ((with_reducible refine gate_store (t := 24) (p := 2) rfl ?_); refine store_all ?hg 24 2 _ rfl rfl gb297 [.bool false, .int .u8 0, .int .u8 0, .int .u8 0, .int .u8 0, .int .u8 0, .int .u8 0, .int .u8 0, .int .u8 0, .int .u8 0, .int .u8 0, .int .u8 0, .int .u8 0, .int .u8 0, .int .u8 0, .int .u8 0, .int .u8 0] [.bool false, .int .u8 0, .int .u8 0, .int .u8 0, .int .u8 0, .int .u8 0, .int .u8 0, .int .u8 0, .int .u8 0, .int .u8 0, .int .u8 0, .int .u8 0, .int .u8 0, .int .u8 0, .int .u8 0, .int .u8 0, .int .u8 0] BK297.out rfl rfl rfl (by kernel_rfl) rfl ?_; (case hg => rfl); intro w9 hw; have n0_ : Aside0 (w9.heap[gb296]? = some (.cells #[.bool false, .int .u8 a0_1, .int .u8 a0_2, .int .u8 a0_3, .int .u8 a0_4, .int .u8 a0_5, .int .u8 a0_6, .int .u8 a0_7, .int .u8 a0_8, .int .u8 a0_9, .int .u8 a0_10, .int .u8 a0_11, .int .u8 a0_12, .int .u8 a0_13, .int .u8 a0_14, .int .u8 a0_15, .int .u8 a0_16] 24 (0, 0))) := ⟨(by rw [hw]; exact (by (with_reducible repeat (first | refine blk_drewN ?_ _ | refine blk_drew ?_ | refine blk_alloc ?_ _)); refine blk_farC NB296_297.out _ _ ?_; (with_reducible repeat (first | refine blk_drewN ?_ _ | refine blk_drew ?_ | refine blk_alloc ?_ _)); exact BK296.out))⟩; have n1_ : Aside0 (w9.heap[gb297]? = some (.cells #[.bool false, .int .u8 0, .int .u8 0, .int .u8 0, .int .u8 0, .int .u8 0, .int .u8 0, .int .u8 0, .int .u8 0, .int .u8 0, .int .u8 0, .int .u8 0, .int .u8 0, .int .u8 0, .int .u8 0, .int .u8 0, .int .u8 0] 24 (0, 0))) := ⟨(by rw [hw]; exact (by (with_reducible repeat (first | refine blk_drewN ?_ _ | refine blk_drew ?_ | refine blk_alloc ?_ _)); refine blk_part [.bool false, .int .u8 0, .int .u8 0, .int .u8 0, .int .u8 0, .int .u8 0, .int .u8 0, .int .u8 0, .int .u8 0, .int .u8 0, .int .u8 0, .int .u8 0, .int .u8 0, .int .u8 0, .int .u8 0, .int .u8 0, .int .u8 0] [.bool false, .int .u8 0, .int .u8 0, .int .u8 0, .int .u8 0, .int .u8 0, .int .u8 0, .int .u8 0, .int .u8 0, .int .u8 0, .int .u8 0, .int .u8 0, .int .u8 0, .int .u8 0, .int .u8 0, .int .u8 0, .int .u8 0] [] [] (cs := #[.bool false, .int .u8 0, .int .u8 0, .int .u8 0, .int .u8 0, .int .u8 0, .int .u8 0, .int .u8 0, .int .u8 0, .int .u8 0, .int .u8 0, .int .u8 0, .int .u8 0, .int .u8 0, .int .u8 0, .int .u8 0, .int .u8 0]) ?_ rfl rfl rfl; (with_reducible repeat (first | refine blk_drewN ?_ _ | refine blk_drew ?_ | refine blk_alloc ?_ _)); exact BK297.out))⟩; have n2_ : Aside0 (Below w.heap.size w w9) := ⟨(by rw [hw]; exact (by repeat (first | (with_reducible first | exact HB.out | apply below_alloc | apply pw_below_drewN | apply below_drew1 | refine below_set ?_ GE296.out | refine below_set ?_ GE297.out | refine below_setC GE296.out _ _ ?_ | refine below_setC GE297.out _ _ ?_) | exact HB.out)))⟩; clear hw; clear BK296; clear BK297; clear HB; have BK296 := n0_; have BK297 := n1_; have HB := n2_; clear n0_ n1_ n2_))
  refine bodyPost_ret (results_ct rfl _ _ gb297 24 #[.bool false, .int .u8 0, .int .u8 0, .int .u8 0, .int .u8 0, .int .u8 0, .int .u8 0, .int .u8 0, .int .u8 0, .int .u8 0, .int .u8 0, .int .u8 0, .int .u8 0, .int .u8 0, .int .u8 0, .int .u8 0, .int .u8 0] (0, 0) _ rfl bk_ Tryd.underlying24 rfl (by kernel_rfl)) rfl ?_
  exact ⟨rq_, bg_⟩

-- NOT PRINTED: function 7 (cidr_Allow)

def lanternref05_V4.l0 : Nat → Int → Int → Bool → Int → Int → Int → Int → Int → Int → Int → Int → Int → Int → Int → Int → Int → Int → Int → Int → Option (Bool × Int × Int × Int × Int × Int × Int × Int × Int × Int × Int × Int × Int × Int × Int × Int × Int)
 | 0, _, _, _, _, _, _, _, _, _, _, _, _, _, _, _, _, _, _, _ => none
 | k + 1, x0, x4, x303000, x303001, x303002, x303003, x303004, x303005, x303006, x303007, x303008, x303009, x303010, x303011, x303012, x303013, x303014, x303015, x303016 => if x4 ≥ 12 then (if 0 ≤ x4 then (if x4 < 16 then (lanternref05_V4.l0 k (IntKind.u64.wrap (Int.tdiv x0 256)) (wrap64 (x4 - 1)) x303000 (upd x4 0 ((Int.tmod x0 256) % 256) x303001) (upd x4 1 ((Int.tmod x0 256) % 256) x303002) (upd x4 2 ((Int.tmod x0 256) % 256) x303003) (upd x4 3 ((Int.tmod x0 256) % 256) x303004) (upd x4 4 ((Int.tmod x0 256) % 256) x303005) (upd x4 5 ((Int.tmod x0 256) % 256) x303006) (upd x4 6 ((Int.tmod x0 256) % 256) x303007) (upd x4 7 ((Int.tmod x0 256) % 256) x303008) (upd x4 8 ((Int.tmod x0 256) % 256) x303009) (upd x4 9 ((Int.tmod x0 256) % 256) x303010) (upd x4 10 ((Int.tmod x0 256) % 256) x303011) (upd x4 11 ((Int.tmod x0 256) % 256) x303012) (upd x4 12 ((Int.tmod x0 256) % 256) x303013) (upd x4 13 ((Int.tmod x0 256) % 256) x303014) (upd x4 14 ((Int.tmod x0 256) % 256) x303015) (upd x4 15 ((Int.tmod x0 256) % 256) x303016)) else (none)) else (none)) else (some (x303000, x303001, x303002, x303003, x303004, x303005, x303006, x303007, x303008, x303009, x303010, x303011, x303012, x303013, x303014, x303015, x303016))
def lanternref05_V4.f (k : Nat) (a0 : Int) : Option (Bool × Int × Int × Int × Int × Int × Int × Int × Int × Int × Int × Int × Int × Int × Int × Int × Int) := lanternref05_V4.l0 k a0 15 false 0 0 0 0 0 0 0 0 0 0 0 0 0 0 0 0
theorem lanternref05_V4.mono_l : ∀ k, (∀ y0 y1 y2 y3 y4 y5 y6 y7 y8 y9 y10 y11 y12 y13 y14 y15 y16 y17 y18, LeO (lanternref05_V4.l0 k y0 y1 y2 y3 y4 y5 y6 y7 y8 y9 y10 y11 y12 y13 y14 y15 y16 y17 y18) (lanternref05_V4.l0 (k + 1) y0 y1 y2 y3 y4 y5 y6 y7 y8 y9 y10 y11 y12 y13 y14 y15 y16 y17 y18))
 | 0 => fun _ _ _ _ _ _ _ _ _ _ _ _ _ _ _ _ _ _ _ r h => by simp [lanternref05_V4.l0] at h
 | k + 1 => by
  have ih0 := lanternref05_V4.mono_l k
  ·intro y0 y1 y2 y3 y4 y5 y6 y7 y8 y9 y10 y11 y12 y13 y14 y15 y16 y17 y18
   unfold lanternref05_V4.l0
   repeat' first
   | (with_reducible exact ih0 _ _ _ _ _ _ _ _ _ _ _ _ _ _ _ _ _ _ _)
   | (with_reducible exact LeO.refl _)
   | (with_reducible exact LeO.none _)
   | (with_reducible refine LeO.ite ?_ ?_)
   | (with_reducible refine LeO.bind ?_ (fun _ => ?_))
   | exact ih0 _ _ _ _ _ _ _ _ _ _ _ _ _ _ _ _ _ _ _
   | exact LeO.none _
   | refine LeO.ite ?_ ?_
   | refine LeO.bind ?_ (fun _ => ?_)
theorem lanternref05_V4.mono : ∀ a0 k, LeO (lanternref05_V4.f k a0) (lanternref05_V4.f (k + 1) a0) := by
 intro a0 k
 have ih0 := lanternref05_V4.mono_l k
 unfold lanternref05_V4.f
 repeat' first
   | (with_reducible exact ih0 _ _ _ _ _ _ _ _ _ _ _ _ _ _ _ _ _ _ _)
   | (with_reducible exact LeO.refl _)
   | (with_reducible exact LeO.none _)
   | (with_reducible refine LeO.ite ?_ ?_)
   | (with_reducible refine LeO.bind ?_ (fun _ => ?_))
   | exact ih0 _ _ _ _ _ _ _ _ _ _ _ _ _ _ _ _ _ _ _
   | exact LeO.none _
   | refine LeO.ite ?_ ?_
   | refine LeO.bind ?_ (fun _ => ?_)
set_option maxHeartbeats 8000000 in
set_option maxRecDepth 100000 in
theorem lanternref05_V4.calls (k : Nat) (a0 : Int) (r1 : Bool) (r2 : Int) (r3 : Int) (r4 : Int) (r5 : Int) (r6 : Int) (r7 : Int) (r8 : Int) (r9 : Int) (r10 : Int) (r11 : Int) (r12 : Int) (r13 : Int) (r14 : Int) (r15 : Int) (r16 : Int) (r17 : Int) (w : World) (hLW : LW w) (h : lanternref05_V4.f k a0 = some (r1, r2, r3, r4, r5, r6, r7, r8, r9, r10, r11, r12, r13, r14, r15, r16, r17)) :
  Calls Tryd.prog 31 #[.int .u64 a0] w fun e w' => e = .returned (.agg #[.bool r1, .int .u8 r2, .int .u8 r3, .int .u8 r4, .int .u8 r5, .int .u8 r6, .int .u8 r7, .int .u8 r8, .int .u8 r9, .int .u8 r10, .int .u8 r11, .int .u8 r12, .int .u8 r13, .int .u8 r14, .int .u8 r15, .int .u8 r16, .int .u8 r17]) ∧ Below w.heap.size w w' := by
 have hu24 := Tryd.underlying24
 have HLW := Aside0.mk hLW
 clear hLW
 have HB := Aside0.mk (Below.refl w.heap.size w)
 have H : (lanternref05_V4.l0 k a0 15 false 0 0 0 0 0 0 0 0 0 0 0 0 0 0 0 0) = some (r1, r2, r3, r4, r5, r6, r7, r8, r9, r10, r11, r12, r13, r14, r15, r16, r17) := h
 clear h
 have H' := Aside0.mk H
 clear H
 go_enter Tryd.func31, Tryd.ntmps31
 go_wp2_with (first | ((with_reducible refine gate_dst (N := 2) rfl ?_); refine box_event ?hg (N := 2) ?hd (cs := #[.bool false, .int .u8 0, .int .u8 0, .int .u8 0, .int .u8 0, .int .u8 0, .int .u8 0, .int .u8 0, .int .u8 0, .int .u8 0, .int .u8 0, .int .u8 0, .int .u8 0, .int .u8 0, .int .u8 0, .int .u8 0, .int .u8 0]) (t := 24) ?hr ?_; (case hd => rfl); (case hg => rfl); (case hr => first | (go_simp; done) | (go_simp; rfl)); intro gb301 hg w2 hbox hb; have n0_ := Aside0.mk (below_step bq_ hb); have n1_ := Aside0.mk (hbox); have n2_ := Aside0.mk (show w.heap.size ≤ gb301 from ge_ hg); have n3_ := Aside0.mk (show w.heap.size ≤ gb301 from ge_ hg); clear HB; have HB := n0_; have BK301 := n1_; have GW301 := n2_; have GE301 := n3_; clear n0_ n1_ n2_ n3_; clear hb hbox hg) | ((with_reducible refine gate_dst (N := 3) rfl ?_); refine box_event ?hg (N := 3) ?hd (cs := #[.bool false, .int .u8 0, .int .u8 0, .int .u8 0, .int .u8 0, .int .u8 0, .int .u8 0, .int .u8 0, .int .u8 0, .int .u8 0, .int .u8 0, .int .u8 0, .int .u8 0, .int .u8 0, .int .u8 0, .int .u8 0, .int .u8 0]) (t := 24) ?hr ?_; (case hd => rfl); (case hg => rfl); (case hr => first | (go_simp; done) | (go_simp; rfl)); intro gb302 hg w3 hbox hb; have n0_ := Aside0.mk (bb_ BK301 hb); have n1_ := Aside0.mk (below_step bg_ hb); have n2_ := Aside0.mk (hbox); have n3_ := Aside0.mk (show w.heap.size ≤ gb302 from gg_ hg); have n4_ := Aside0.mk (show w.heap.size ≤ gb302 from gg_ hg); have n5_ := Aside0.mk (show gb301 ≠ gb302 from nl_ BK301 hg); have n6_ := Aside0.mk (show gb302 ≠ gb301 from ng_ BK301 hg); clear BK301; clear HB; have BK301 := n0_; have HB := n1_; have BK302 := n2_; have GW302 := n3_; have GE302 := n4_; have NB301_302 := n5_; have NB302_301 := n6_; clear n0_ n1_ n2_ n3_ n4_ n5_ n6_; clear hb hbox hg; have hnb4 := NB302_301.out; have hnc4 := NB301_302.out; have hcz5_0 := cz_ BK302 0 (.bool false); have hcz5_1 := cz_ BK302 1 (.int .u8 0); have hcz5_2 := cz_ BK302 2 (.int .u8 0); have hcz5_3 := cz_ BK302 3 (.int .u8 0); have hcz5_4 := cz_ BK302 4 (.int .u8 0); have hcz5_5 := cz_ BK302 5 (.int .u8 0); have hcz5_6 := cz_ BK302 6 (.int .u8 0); have hcz5_7 := cz_ BK302 7 (.int .u8 0); have hcz5_8 := cz_ BK302 8 (.int .u8 0); have hcz5_9 := cz_ BK302 9 (.int .u8 0); have hcz5_10 := cz_ BK302 10 (.int .u8 0); have hcz5_11 := cz_ BK302 11 (.int .u8 0); have hcz5_12 := cz_ BK302 12 (.int .u8 0); have hcz5_13 := cz_ BK302 13 (.int .u8 0); have hcz5_14 := cz_ BK302 14 (.int .u8 0); have hcz5_15 := cz_ BK302 15 (.int .u8 0); have hcz5_16 := cz_ BK302 16 (.int .u8 0); have hfz5_0 := bf_ BK302 0; have hfz5_1 := bf_ BK302 1; have hfz5_2 := bf_ BK302 2; have hfz5_3 := bf_ BK302 3; have hfz5_4 := bf_ BK302 4; have hfz5_5 := bf_ BK302 5; have hfz5_6 := bf_ BK302 6; have hfz5_7 := bf_ BK302 7; have hfz5_8 := bf_ BK302 8; have hfz5_9 := bf_ BK302 9; have hfz5_10 := bf_ BK302 10; have hfz5_11 := bf_ BK302 11; have hfz5_12 := bf_ BK302 12; have hfz5_13 := bf_ BK302 13; have hfz5_14 := bf_ BK302 14; have hfz5_15 := bf_ BK302 15; have hfz5_16 := bf_ BK302 16) | ((with_reducible refine gate_store (t := 24) (p := 3) rfl ?_); refine store_all ?hg 24 3 _ rfl rfl gb302 [.bool false, .int .u8 0, .int .u8 0, .int .u8 0, .int .u8 0, .int .u8 0, .int .u8 0, .int .u8 0, .int .u8 0, .int .u8 0, .int .u8 0, .int .u8 0, .int .u8 0, .int .u8 0, .int .u8 0, .int .u8 0, .int .u8 0] [.bool false, .int .u8 0, .int .u8 0, .int .u8 0, .int .u8 0, .int .u8 0, .int .u8 0, .int .u8 0, .int .u8 0, .int .u8 0, .int .u8 0, .int .u8 0, .int .u8 0, .int .u8 0, .int .u8 0, .int .u8 0, .int .u8 0] BK302.out rfl rfl rfl (by kernel_rfl) rfl ?_; (case hg => rfl); intro w6 hw; have n0_ : Aside0 (w6.heap[gb301]? = some (.cells #[.bool false, .int .u8 0, .int .u8 0, .int .u8 0, .int .u8 0, .int .u8 0, .int .u8 0, .int .u8 0, .int .u8 0, .int .u8 0, .int .u8 0, .int .u8 0, .int .u8 0, .int .u8 0, .int .u8 0, .int .u8 0, .int .u8 0] 24 (0, 0))) := ⟨(by rw [hw]; exact (by (with_reducible repeat (first | refine blk_drewN ?_ _ | refine blk_drew ?_ | refine blk_alloc ?_ _)); refine blk_farC NB301_302.out _ _ ?_; (with_reducible repeat (first | refine blk_drewN ?_ _ | refine blk_drew ?_ | refine blk_alloc ?_ _)); exact BK301.out))⟩; have n1_ : Aside0 (w6.heap[gb302]? = some (.cells #[.bool false, .int .u8 0, .int .u8 0, .int .u8 0, .int .u8 0, .int .u8 0, .int .u8 0, .int .u8 0, .int .u8 0, .int .u8 0, .int .u8 0, .int .u8 0, .int .u8 0, .int .u8 0, .int .u8 0, .int .u8 0, .int .u8 0] 24 (0, 0))) := ⟨(by rw [hw]; exact (by (with_reducible repeat (first | refine blk_drewN ?_ _ | refine blk_drew ?_ | refine blk_alloc ?_ _)); refine blk_part [.bool false, .int .u8 0, .int .u8 0, .int .u8 0, .int .u8 0, .int .u8 0, .int .u8 0, .int .u8 0, .int .u8 0, .int .u8 0, .int .u8 0, .int .u8 0, .int .u8 0, .int .u8 0, .int .u8 0, .int .u8 0, .int .u8 0] [.bool false, .int .u8 0, .int .u8 0, .int .u8 0, .int .u8 0, .int .u8 0, .int .u8 0, .int .u8 0, .int .u8 0, .int .u8 0, .int .u8 0, .int .u8 0, .int .u8 0, .int .u8 0, .int .u8 0, .int .u8 0, .int .u8 0] [] [] (cs := #[.bool false, .int .u8 0, .int .u8 0, .int .u8 0, .int .u8 0, .int .u8 0, .int .u8 0, .int .u8 0, .int .u8 0, .int .u8 0, .int .u8 0, .int .u8 0, .int .u8 0, .int .u8 0, .int .u8 0, .int .u8 0, .int .u8 0]) ?_ rfl rfl rfl; (with_reducible repeat (first | refine blk_drewN ?_ _ | refine blk_drew ?_ | refine blk_alloc ?_ _)); exact BK302.out))⟩; have n2_ : Aside0 (Below w.heap.size w w6) := ⟨(by rw [hw]; exact (by repeat (first | (with_reducible first | exact HB.out | apply below_alloc | apply pw_below_drewN | apply below_drew1 | refine below_set ?_ GE301.out | refine below_set ?_ GE302.out | refine below_setC GE301.out _ _ ?_ | refine below_setC GE302.out _ _ ?_) | exact HB.out)))⟩; clear hw; clear BK301; clear BK302; clear HB; have BK301 := n0_; have BK302 := n1_; have HB := n2_; clear n0_ n1_ n2_))
 go_loopg [0, 4] k (fun kq v0 v4 w' => ∃ (x0_1 : Int) (x4_1 : Int) (x303001_1 : Int) (x303002_1 : Int) (x303003_1 : Int) (x303004_1 : Int) (x303005_1 : Int) (x303006_1 : Int) (x303007_1 : Int) (x303008_1 : Int) (x303009_1 : Int) (x303010_1 : Int) (x303011_1 : Int) (x303012_1 : Int) (x303013_1 : Int) (x303014_1 : Int) (x303015_1 : Int) (x303016_1 : Int), v0 = .int .u64 x0_1 ∧ v4 = .int .i64 x4_1 ∧ Aside0 (lanternref05_V4.l0 kq x0_1 x4_1 false x303001_1 x303002_1 x303003_1 x303004_1 x303005_1 x303006_1 x303007_1 x303008_1 x303009_1 x303010_1 x303011_1 x303012_1 x303013_1 x303014_1 x303015_1 x303016_1 = some (r1, r2, r3, r4, r5, r6, r7, r8, r9, r10, r11, r12, r13, r14, r15, r16, r17)) ∧ Aside0 (kq ≤ k) ∧ Aside0 (w'.heap[gb301]? = some (.cells #[.bool false, .int .u8 0, .int .u8 0, .int .u8 0, .int .u8 0, .int .u8 0, .int .u8 0, .int .u8 0, .int .u8 0, .int .u8 0, .int .u8 0, .int .u8 0, .int .u8 0, .int .u8 0, .int .u8 0, .int .u8 0, .int .u8 0] 24 (0, 0))) ∧ Aside0 (w'.heap[gb302]? = some (.cells #[.bool false, .int .u8 x303001_1, .int .u8 x303002_1, .int .u8 x303003_1, .int .u8 x303004_1, .int .u8 x303005_1, .int .u8 x303006_1, .int .u8 x303007_1, .int .u8 x303008_1, .int .u8 x303009_1, .int .u8 x303010_1, .int .u8 x303011_1, .int .u8 x303012_1, .int .u8 x303013_1, .int .u8 x303014_1, .int .u8 x303015_1, .int .u8 x303016_1] 24 (0, 0))) ∧ Aside0 (Below w.heap.size w w'))
 case atStart => exact ⟨(a0), (15), (0), (0), (0), (0), (0), (0), (0), (0), (0), (0), (0), (0), (0), (0), (0), (0), sq_, sq_, H', ⟨Nat.le_refl _⟩, ⟨by (with_reducible repeat (first | refine blk_drewN ?_ _ | refine blk_drew ?_ | refine blk_alloc ?_ _)); exact BK301.out⟩, ⟨by (with_reducible repeat (first | refine blk_drewN ?_ _ | refine blk_drew ?_ | refine blk_alloc ?_ _)); exact BK302.out⟩, ⟨bg_⟩⟩
 case round =>
  clear H'
  try clear p2
  try clear c3
  try clear c4
  try clear hcz5_0
  try clear hcz5_1
  try clear hcz5_10
  try clear hcz5_11
  try clear hcz5_12
  try clear hcz5_13
  try clear hcz5_14
  try clear hcz5_15
  try clear hcz5_16
  try clear hcz5_2
  try clear hcz5_3
  try clear hcz5_4
  try clear hcz5_5
  try clear hcz5_6
  try clear hcz5_7
  try clear hcz5_8
  try clear hcz5_9
  try clear hfz5_0
  try clear hfz5_1
  try clear hfz5_10
  try clear hfz5_11
  try clear hfz5_12
  try clear hfz5_13
  try clear hfz5_14
  try clear hfz5_15
  try clear hfz5_16
  try clear hfz5_2
  try clear hfz5_3
  try clear hfz5_4
  try clear hfz5_5
  try clear hfz5_6
  try clear hfz5_7
  try clear hfz5_8
  try clear hfz5_9
  obtain ⟨x0_1, x4_1, x303001_1, x303002_1, x303003_1, x303004_1, x303005_1, x303006_1, x303007_1, x303008_1, x303009_1, x303010_1, x303011_1, x303012_1, x303013_1, x303014_1, x303015_1, x303016_1, rfl, rfl, HA, HK1, BK301, BK302, HB⟩ := hrel
  cases gk with
  | zero => exact absurd HA.out (by simp [lanternref05_V4.l0])
  | succ k1 =>
   have H := HA.out
   clear HA
   simp only [lanternref05_V4.l0] at H
   by_cases c7 : x4_1 ≥ 12
   ·rw [if_pos c7] at H
    have c7b0 : decide (12 ≤ x4_1) = true := decide_eq_true c7
    clear c7
    by_cases c8 : 0 ≤ x4_1
    ·rw [if_pos c8] at H
     have c8b0 : decide (0 ≤ x4_1) = true := decide_eq_true c8
     clear c8
     by_cases c9 : x4_1 < 16
     ·rw [if_pos c9] at H
      have c9b0 : decide (x4_1 < 16) = true := decide_eq_true c9
      clear c9
      have H' := Aside0.mk H
      clear H
      have par10 : (0 ≤ x4_1) = True := eq_true (of_decide_eq_true as_)
      have qar10 : (x4_1 < 16) = True := eq_true (of_decide_eq_true as_)
      have hnb11 := NB302_301.out
      have hnc11 := NB301_302.out
      have hcz12_0 := cz_ BK302 0 (.bool false)
      have hcz12_1 := cz_ BK302 1 (.int .u8 x303001_1)
      have hcz12_2 := cz_ BK302 2 (.int .u8 x303002_1)
      have hcz12_3 := cz_ BK302 3 (.int .u8 x303003_1)
      have hcz12_4 := cz_ BK302 4 (.int .u8 x303004_1)
      have hcz12_5 := cz_ BK302 5 (.int .u8 x303005_1)
      have hcz12_6 := cz_ BK302 6 (.int .u8 x303006_1)
      have hcz12_7 := cz_ BK302 7 (.int .u8 x303007_1)
      have hcz12_8 := cz_ BK302 8 (.int .u8 x303008_1)
      have hcz12_9 := cz_ BK302 9 (.int .u8 x303009_1)
      have hcz12_10 := cz_ BK302 10 (.int .u8 x303010_1)
      have hcz12_11 := cz_ BK302 11 (.int .u8 x303011_1)
      have hcz12_12 := cz_ BK302 12 (.int .u8 x303012_1)
      have hcz12_13 := cz_ BK302 13 (.int .u8 x303013_1)
      have hcz12_14 := cz_ BK302 14 (.int .u8 x303014_1)
      have hcz12_15 := cz_ BK302 15 (.int .u8 x303015_1)
      have hcz12_16 := cz_ BK302 16 (.int .u8 x303016_1)
      have hfz12_0 := bf_ BK302 0
      have hfz12_1 := bf_ BK302 1
      have hfz12_2 := bf_ BK302 2
      have hfz12_3 := bf_ BK302 3
      have hfz12_4 := bf_ BK302 4
      have hfz12_5 := bf_ BK302 5
      have hfz12_6 := bf_ BK302 6
      have hfz12_7 := bf_ BK302 7
      have hfz12_8 := bf_ BK302 8
      have hfz12_9 := bf_ BK302 9
      have hfz12_10 := bf_ BK302 10
      have hfz12_11 := bf_ BK302 11
      have hfz12_12 := bf_ BK302 12
      have hfz12_13 := bf_ BK302 13
      have hfz12_14 := bf_ BK302 14
      have hfz12_15 := bf_ BK302 15
      have hfz12_16 := bf_ BK302 16
      have hxar10 : wr.cell? ⟨gb302, 1 + (x4_1).toNat, none⟩ = some (.int .u8 (rd [x303001_1, x303002_1, x303003_1, x303004_1, x303005_1, x303006_1, x303007_1, x303008_1, x303009_1, x303010_1, x303011_1, x303012_1, x303013_1, x303014_1, x303015_1, x303016_1] x4_1)) := (blk_idx BK302.out .u8 [.bool false] [x303001_1, x303002_1, x303003_1, x303004_1, x303005_1, x303006_1, x303007_1, x303008_1, x303009_1, x303010_1, x303011_1, x303012_1, x303013_1, x303014_1, x303015_1, x303016_1] [] rfl x4_1 (of_decide_eq_true as_) (of_decide_eq_true as_) rfl)
      have hfar10 := bf_ BK302 (1 + (x4_1).toNat)
      go_wp2_with (first | ((with_reducible refine gate_store (t := 5) (p := 15) rfl ?_); refine store_event (t := 5) (p := 15) (v := ?vo_w13) (w1 := (wr.setCell ⟨gb302, 1 + (x4_1).toNat, none⟩ (.int .u8 ((Int.tmod x0_1 256) % 256)))) ?hg ?ho ?hn ?hr ?_; (case ho => rfl); (case hg => rfl); (case hn => rfl); (case hr => first | (go_simp; done) | (go_simp; rfl)); intro w13 hw; have n0_ : Aside0 (w13.heap[gb301]? = some (.cells #[.bool false, .int .u8 0, .int .u8 0, .int .u8 0, .int .u8 0, .int .u8 0, .int .u8 0, .int .u8 0, .int .u8 0, .int .u8 0, .int .u8 0, .int .u8 0, .int .u8 0, .int .u8 0, .int .u8 0, .int .u8 0, .int .u8 0] 24 (0, 0))) := ⟨(by rw [hw]; exact (by (with_reducible repeat (first | refine blk_drewN ?_ _ | refine blk_drew ?_ | refine blk_alloc ?_ _)); refine blk_far ?_ NB301_302.out _; (with_reducible repeat (first | refine blk_drewN ?_ _ | refine blk_drew ?_ | refine blk_alloc ?_ _)); exact BK301.out))⟩; have n1_ : Aside0 (w13.heap[gb302]? = some (.cells #[.bool false, .int .u8 (upd x4_1 0 ((Int.tmod x0_1 256) % 256) x303001_1), .int .u8 (upd x4_1 1 ((Int.tmod x0_1 256) % 256) x303002_1), .int .u8 (upd x4_1 2 ((Int.tmod x0_1 256) % 256) x303003_1), .int .u8 (upd x4_1 3 ((Int.tmod x0_1 256) % 256) x303004_1), .int .u8 (upd x4_1 4 ((Int.tmod x0_1 256) % 256) x303005_1), .int .u8 (upd x4_1 5 ((Int.tmod x0_1 256) % 256) x303006_1), .int .u8 (upd x4_1 6 ((Int.tmod x0_1 256) % 256) x303007_1), .int .u8 (upd x4_1 7 ((Int.tmod x0_1 256) % 256) x303008_1), .int .u8 (upd x4_1 8 ((Int.tmod x0_1 256) % 256) x303009_1), .int .u8 (upd x4_1 9 ((Int.tmod x0_1 256) % 256) x303010_1), .int .u8 (upd x4_1 10 ((Int.tmod x0_1 256) % 256) x303011_1), .int .u8 (upd x4_1 11 ((Int.tmod x0_1 256) % 256) x303012_1), .int .u8 (upd x4_1 12 ((Int.tmod x0_1 256) % 256) x303013_1), .int .u8 (upd x4_1 13 ((Int.tmod x0_1 256) % 256) x303014_1), .int .u8 (upd x4_1 14 ((Int.tmod x0_1 256) % 256) x303015_1), .int .u8 (upd x4_1 15 ((Int.tmod x0_1 256) % 256) x303016_1)] 24 (0, 0))) := ⟨(by rw [hw]; exact (by (with_reducible repeat (first | refine blk_drewN ?_ _ | refine blk_drew ?_ | refine blk_alloc ?_ _)); refine blk_put (cs := #[.bool false, .int .u8 x303001_1, .int .u8 x303002_1, .int .u8 x303003_1, .int .u8 x303004_1, .int .u8 x303005_1, .int .u8 x303006_1, .int .u8 x303007_1, .int .u8 x303008_1, .int .u8 x303009_1, .int .u8 x303010_1, .int .u8 x303011_1, .int .u8 x303012_1, .int .u8 x303013_1, .int .u8 x303014_1, .int .u8 x303015_1, .int .u8 x303016_1]) ?_ (1 + (x4_1).toNat) _ (upd_set .u8 [.bool false] [x303001_1, x303002_1, x303003_1, x303004_1, x303005_1, x303006_1, x303007_1, x303008_1, x303009_1, x303010_1, x303011_1, x303012_1, x303013_1, x303014_1, x303015_1, x303016_1] [] rfl x4_1 (of_decide_eq_true as_) (of_decide_eq_true as_) rfl _ rfl); (with_reducible repeat (first | refine blk_drewN ?_ _ | refine blk_drew ?_ | refine blk_alloc ?_ _)); exact BK302.out))⟩; have n2_ : Aside0 (Below w.heap.size w w13) := ⟨(by rw [hw]; exact bg_)⟩; clear hw; clear BK301; clear BK302; clear HB; have BK301 := n0_; have BK302 := n1_; have HB := n2_; clear n0_ n1_ n2_))
      go_roundg k1
      case measure => have := HK1.out; omega
      case rel => exact ⟨(IntKind.u64.wrap (Int.tdiv x0_1 256)), (wrap64 (x4_1 - 1)), (upd x4_1 0 ((Int.tmod x0_1 256) % 256) x303001_1), (upd x4_1 1 ((Int.tmod x0_1 256) % 256) x303002_1), (upd x4_1 2 ((Int.tmod x0_1 256) % 256) x303003_1), (upd x4_1 3 ((Int.tmod x0_1 256) % 256) x303004_1), (upd x4_1 4 ((Int.tmod x0_1 256) % 256) x303005_1), (upd x4_1 5 ((Int.tmod x0_1 256) % 256) x303006_1), (upd x4_1 6 ((Int.tmod x0_1 256) % 256) x303007_1), (upd x4_1 7 ((Int.tmod x0_1 256) % 256) x303008_1), (upd x4_1 8 ((Int.tmod x0_1 256) % 256) x303009_1), (upd x4_1 9 ((Int.tmod x0_1 256) % 256) x303010_1), (upd x4_1 10 ((Int.tmod x0_1 256) % 256) x303011_1), (upd x4_1 11 ((Int.tmod x0_1 256) % 256) x303012_1), (upd x4_1 12 ((Int.tmod x0_1 256) % 256) x303013_1), (upd x4_1 13 ((Int.tmod x0_1 256) % 256) x303014_1), (upd x4_1 14 ((Int.tmod x0_1 256) % 256) x303015_1), (upd x4_1 15 ((Int.tmod x0_1 256) % 256) x303016_1), sq_, sq_, H', ⟨by have := HK1.out; omega⟩, ⟨by (with_reducible repeat (first | refine blk_drewN ?_ _ | refine blk_drew ?_ | refine blk_alloc ?_ _)); exact BK301.out⟩, ⟨by (with_reducible repeat (first | refine blk_drewN ?_ _ | refine blk_drew ?_ | refine blk_alloc ?_ _)); exact BK302.out⟩, ⟨bg_⟩⟩
     ·rw [if_neg c9] at H
      exact absurd H (by simp)
    ·rw [if_neg c8] at H
     exact absurd H (by simp)
   ·rw [if_neg c7] at H
    have c7b0 : decide (12 ≤ x4_1) = false := decide_eq_false c7
    clear c7
    simp only [Option.some.injEq, Prod.mk.injEq] at H
    obtain ⟨rfl, rfl, rfl, rfl, rfl, rfl, rfl, rfl, rfl, rfl, rfl, rfl, rfl, rfl, rfl, rfl, rfl⟩ := H
    have hnb14 := NB301_302.out
    have hnc14 := NB302_301.out
    have hcz15_0 := cz_ BK301 0 (.bool false)
    have hcz15_1 := cz_ BK301 1 (.int .u8 0)
    have hcz15_2 := cz_ BK301 2 (.int .u8 0)
    have hcz15_3 := cz_ BK301 3 (.int .u8 0)
    have hcz15_4 := cz_ BK301 4 (.int .u8 0)
    have hcz15_5 := cz_ BK301 5 (.int .u8 0)
    have hcz15_6 := cz_ BK301 6 (.int .u8 0)
    have hcz15_7 := cz_ BK301 7 (.int .u8 0)
    have hcz15_8 := cz_ BK301 8 (.int .u8 0)
    have hcz15_9 := cz_ BK301 9 (.int .u8 0)
    have hcz15_10 := cz_ BK301 10 (.int .u8 0)
    have hcz15_11 := cz_ BK301 11 (.int .u8 0)
    have hcz15_12 := cz_ BK301 12 (.int .u8 0)
    have hcz15_13 := cz_ BK301 13 (.int .u8 0)
    have hcz15_14 := cz_ BK301 14 (.int .u8 0)
    have hcz15_15 := cz_ BK301 15 (.int .u8 0)
    have hcz15_16 := cz_ BK301 16 (.int .u8 0)
    have hfz15_0 := bf_ BK301 0
    have hfz15_1 := bf_ BK301 1
    have hfz15_2 := bf_ BK301 2
    have hfz15_3 := bf_ BK301 3
    have hfz15_4 := bf_ BK301 4
    have hfz15_5 := bf_ BK301 5
    have hfz15_6 := bf_ BK301 6
    have hfz15_7 := bf_ BK301 7
    have hfz15_8 := bf_ BK301 8
    have hfz15_9 := bf_ BK301 9
    have hfz15_10 := bf_ BK301 10
    have hfz15_11 := bf_ BK301 11
    have hfz15_12 := bf_ BK301 12
    have hfz15_13 := bf_ BK301 13
    have hfz15_14 := bf_ BK301 14
    have hfz15_15 := bf_ BK301 15
    have hfz15_16 := bf_ BK301 16
    go_wp2_with (first | ((with_reducible refine gate_dst (N := 18) rfl ?_); (try (refine gate_guard (by rfl) ?_; dsimp only)); refine load_box ?hg 24 (.tmp 3) rfl BK302.out [] [.bool false, .int .u8 x303001_1, .int .u8 x303002_1, .int .u8 x303003_1, .int .u8 x303004_1, .int .u8 x303005_1, .int .u8 x303006_1, .int .u8 x303007_1, .int .u8 x303008_1, .int .u8 x303009_1, .int .u8 x303010_1, .int .u8 x303011_1, .int .u8 x303012_1, .int .u8 x303013_1, .int .u8 x303014_1, .int .u8 x303015_1, .int .u8 x303016_1] [] rfl 0 rfl rfl Tryd.underlying24 rfl (by kernel_rfl) ?_; (case hg => rfl)) | ((with_reducible refine gate_store (t := 24) (p := 2) rfl ?_); refine store_all ?hg 24 2 _ rfl rfl gb301 [.bool false, .int .u8 0, .int .u8 0, .int .u8 0, .int .u8 0, .int .u8 0, .int .u8 0, .int .u8 0, .int .u8 0, .int .u8 0, .int .u8 0, .int .u8 0, .int .u8 0, .int .u8 0, .int .u8 0, .int .u8 0, .int .u8 0] [.bool false, .int .u8 x303001_1, .int .u8 x303002_1, .int .u8 x303003_1, .int .u8 x303004_1, .int .u8 x303005_1, .int .u8 x303006_1, .int .u8 x303007_1, .int .u8 x303008_1, .int .u8 x303009_1, .int .u8 x303010_1, .int .u8 x303011_1, .int .u8 x303012_1, .int .u8 x303013_1, .int .u8 x303014_1, .int .u8 x303015_1, .int .u8 x303016_1] BK301.out rfl rfl rfl (by kernel_rfl) rfl ?_; (case hg => rfl); intro w16 hw; have n0_ : Aside0 (w16.heap[gb301]? = some (.cells #[.bool false, .int .u8 x303001_1, .int .u8 x303002_1, .int .u8 x303003_1, .int .u8 x303004_1, .int .u8 x303005_1, .int .u8 x303006_1, .int .u8 x303007_1, .int .u8 x303008_1, .int .u8 x303009_1, .int .u8 x303010_1, .int .u8 x303011_1, .int .u8 x303012_1, .int .u8 x303013_1, .int .u8 x303014_1, .int .u8 x303015_1, .int .u8 x303016_1] 24 (0, 0))) := ⟨(by rw [hw]; exact (by (with_reducible repeat (first | refine blk_drewN ?_ _ | refine blk_drew ?_ | refine blk_alloc ?_ _)); refine blk_part [.bool false, .int .u8 x303001_1, .int .u8 x303002_1, .int .u8 x303003_1, .int .u8 x303004_1, .int .u8 x303005_1, .int .u8 x303006_1, .int .u8 x303007_1, .int .u8 x303008_1, .int .u8 x303009_1, .int .u8 x303010_1, .int .u8 x303011_1, .int .u8 x303012_1, .int .u8 x303013_1, .int .u8 x303014_1, .int .u8 x303015_1, .int .u8 x303016_1] [.bool false, .int .u8 0, .int .u8 0, .int .u8 0, .int .u8 0, .int .u8 0, .int .u8 0, .int .u8 0, .int .u8 0, .int .u8 0, .int .u8 0, .int .u8 0, .int .u8 0, .int .u8 0, .int .u8 0, .int .u8 0, .int .u8 0] [] [] (cs := #[.bool false, .int .u8 0, .int .u8 0, .int .u8 0, .int .u8 0, .int .u8 0, .int .u8 0, .int .u8 0, .int .u8 0, .int .u8 0, .int .u8 0, .int .u8 0, .int .u8 0, .int .u8 0, .int .u8 0, .int .u8 0, .int .u8 0]) ?_ rfl rfl rfl; (with_reducible repeat (first | refine blk_drewN ?_ _ | refine blk_drew ?_ | refine blk_alloc ?_ _)); exact BK301.out))⟩; have n1_ : Aside0 (w16.heap[gb302]? = some (.cells #[.bool false, .int .u8 x303001_1, .int .u8 x303002_1, .int .u8 x303003_1, .int .u8 x303004_1, .int .u8 x303005_1, .int .u8 x303006_1, .int .u8 x303007_1, .int .u8 x303008_1, .int .u8 x303009_1, .int .u8 x303010_1, .int .u8 x303011_1, .int .u8 x303012_1, .int .u8 x303013_1, .int .u8 x303014_1, .int .u8 x303015_1, .int .u8 x303016_1] 24 (0, 0))) := ⟨(by rw [hw]; exact (by (with_reducible repeat (first | refine blk_drewN ?_ _ | refine blk_drew ?_ | refine blk_alloc ?_ _)); refine blk_farC NB302_301.out _ _ ?_; (with_reducible repeat (first | refine blk_drewN ?_ _ | refine blk_drew ?_ | refine blk_alloc ?_ _)); exact BK302.out))⟩; have n2_ : Aside0 (Below w.heap.size w w16) := ⟨(by rw [hw]; exact (by repeat (first | (with_reducible first | exact HB.out | apply below_alloc | apply pw_below_drewN | apply below_drew1 | refine below_set ?_ GE301.out | refine below_set ?_ GE302.out | refine below_setC GE301.out _ _ ?_ | refine below_setC GE302.out _ _ ?_) | exact HB.out)))⟩; clear hw; clear BK301; clear BK302; clear HB; have BK301 := n0_; have BK302 := n1_; have HB := n2_; clear n0_ n1_ n2_))
    refine bodyPost_ret (results_cell_row rfl _ _ gb301 24 #[.bool false, .int .u8 x303001_1, .int .u8 x303002_1, .int .u8 x303003_1, .int .u8 x303004_1, .int .u8 x303005_1, .int .u8 x303006_1, .int .u8 x303007_1, .int .u8 x303008_1, .int .u8 x303009_1, .int .u8 x303010_1, .int .u8 x303011_1, .int .u8 x303012_1, .int .u8 x303013_1, .int .u8 x303014_1, .int .u8 x303015_1, .int .u8 x303016_1] (0, 0) _ rfl bk_ Tryd.underlying24 rfl (by kernel_rfl)) rfl ?_
    exact ⟨rq_, bg_⟩

def lanternref05_cut.l0 : Nat → ByteArray → Int → List ByteArray → Int → Int → Option (List ByteArray)
 | 0, _, _, _, _, _ => none
 | k + 1, x0, x1, x5, x6, x7 => if x7 ≤ (x0.size : Int) then (if x7 = (x0.size : Int) then (if 0 ≤ x6 then (if x6 ≤ x7 then (if x5.length < 8796093022208 then (lanternref05_cut.l0 k x0 x1 (x5 ++ [x0.extract (x6 : Int).toNat (x7 : Int).toNat]) (wrap64 (x7 + 1)) (wrap64 (x7 + 1))) else (none)) else (none)) else (none)) else (if 0 ≤ x7 then (if x7 < (x0.size : Int) then (if (bt x0 x7) = x1 then (if 0 ≤ x6 then (if x6 ≤ x7 then (if x5.length < 8796093022208 then (lanternref05_cut.l0 k x0 x1 (x5 ++ [x0.extract (x6 : Int).toNat (x7 : Int).toNat]) (wrap64 (x7 + 1)) (wrap64 (x7 + 1))) else (none)) else (none)) else (none)) else (lanternref05_cut.l0 k x0 x1 x5 x6 (wrap64 (x7 + 1)))) else (none)) else (none))) else (some x5)
def lanternref05_cut.f (k : Nat) (a0 : ByteArray) (a1 : Int) : Option (List ByteArray) := lanternref05_cut.l0 k a0 a1 (([] : List ByteArray)) 0 0
theorem lanternref05_cut.mono_l : ∀ k, (∀ y0 y1 y2 y3 y4, LeO (lanternref05_cut.l0 k y0 y1 y2 y3 y4) (lanternref05_cut.l0 (k + 1) y0 y1 y2 y3 y4))
 | 0 => fun _ _ _ _ _ r h => by simp [lanternref05_cut.l0] at h
 | k + 1 => by
  have ih0 := lanternref05_cut.mono_l k
  ·intro y0 y1 y2 y3 y4
   unfold lanternref05_cut.l0
   repeat' first
   | (with_reducible exact ih0 _ _ _ _ _)
   | (with_reducible exact LeO.refl _)
   | (with_reducible exact LeO.none _)
   | (with_reducible refine LeO.ite ?_ ?_)
   | (with_reducible refine LeO.bind ?_ (fun _ => ?_))
   | exact ih0 _ _ _ _ _
   | exact LeO.none _
   | refine LeO.ite ?_ ?_
   | refine LeO.bind ?_ (fun _ => ?_)
theorem lanternref05_cut.mono : ∀ a0 a1 k, LeO (lanternref05_cut.f k a0 a1) (lanternref05_cut.f (k + 1) a0 a1) := by
 intro a0 a1 k
 have ih0 := lanternref05_cut.mono_l k
 unfold lanternref05_cut.f
 repeat' first
   | (with_reducible exact ih0 _ _ _ _ _)
   | (with_reducible exact LeO.refl _)
   | (with_reducible exact LeO.none _)
   | (with_reducible refine LeO.ite ?_ ?_)
   | (with_reducible refine LeO.bind ?_ (fun _ => ?_))
   | exact ih0 _ _ _ _ _
   | exact LeO.none _
   | refine LeO.ite ?_ ?_
   | refine LeO.bind ?_ (fun _ => ?_)
set_option maxHeartbeats 8000000 in
set_option maxRecDepth 100000 in
theorem lanternref05_cut.calls (k : Nat) (a0 : ByteArray) (a1 : Int) (r : List ByteArray) (w : World) (hLW : LW w) (h : lanternref05_cut.f k a0 a1 = some r) :
  Calls Tryd.prog 37 #[.string a0, .int .u8 a1] w fun e w' => ∃ v0_ : Value, e = .returned (v0_) ∧ Kd.R Kd.string 9 w' w.heap.size (fun _ => True) v0_ r ∧ Below w.heap.size w w' := by
 have HLW := Aside0.mk hLW
 clear hLW
 have HB := Aside0.mk (Below.refl w.heap.size w)
 have H : (lanternref05_cut.l0 k a0 a1 (([] : List ByteArray)) 0 0) = some r := h
 clear h
 obtain ⟨y304, hy304⟩ : ∃ y_ : List ByteArray, y_ = (([] : List ByteArray)) := ⟨_, rfl⟩
 replace H : (lanternref05_cut.l0 k a0 a1 y304 0 0) = some r := by first | (rw [hy304]; with_reducible exact H) | (have H2_ := (Option.bind_some _ _).symm.trans H; rw [hy304]; with_reducible exact H2_) | (have H2_ := (Option.bind_some _ _).symm.trans H; with_reducible exact H2_) | with_reducible exact H | (rw [hy304]; exact H) | exact H
 have Ny304 := Aside0.mk hy304
 clear hy304
 have H' := Aside0.mk H
 clear H
 go_enter Tryd.func37, Tryd.ntmps37
 go_wp2_with (first | ((with_reducible refine gate_dst (N := 8) rfl ?_); refine Kd.R_lit Kd.string _ 9 ?hg (N := 8) ?hd (xs := ([] : List ByteArray)) (inner := []) (ok := fun _ => True) (okp := fun _ => True) ?hr ?hp (fun _ hk => hk) trivial (Below.refl _ _) (Nat.le_refl _) (by simp) ?_; (case hd => rfl); (case hg => rfl); (case hr => first | (go_simp; done) | (go_simp; rfl)); (case hp => exact (Reps.none _ _)); intro v305 w3 ho4 hb hg_ hnew_; clear hg_ hnew_; (first | rw [← Ny304.out] at ho4 | (simp only [Int.reduceToNat] at ho4; rw [← Ny304.out] at ho4)); have n0_ := Aside0.mk (Kd.R_lower ho4 (below_size bq_)); have n1_ := Aside0.mk (below_step bq_ hb); clear HB; have HO306 := n0_; have HB := n1_; clear n0_ n1_; clear hb ho4))
 go_loopg [5, 6, 7] k (fun kq v5 v6 v7 w' => ∃ (x5_1 : List ByteArray) (x6_1 : Int) (x7_1 : Int), v6 = .int .i64 x6_1 ∧ v7 = .int .i64 x7_1 ∧ Aside0 (lanternref05_cut.l0 kq a0 a1 x5_1 x6_1 x7_1 = some r) ∧ Aside0 (kq ≤ k) ∧ Aside0 (Kd.R Kd.string 9 w' w.heap.size (fun _ => True) v5 x5_1) ∧ Aside0 (Below w.heap.size w w'))
 case atStart => exact ⟨(y304), (0), (0), sq_, sq_, H', ⟨Nat.le_refl _⟩, ⟨by (with_reducible repeat (first | apply Kd.R_alloc | apply Kd.R_drewN | apply Kd.R_drew)); exact HO306.out⟩, ⟨bq_⟩⟩
 case round =>
  clear H'
  try clear p2
  try clear c3
  obtain ⟨x5_1, x6_1, x7_1, rfl, rfl, HA, HK1, HO_5, HB⟩ := hrel
  cases gk with
  | zero => exact absurd HA.out (by simp [lanternref05_cut.l0])
  | succ k1 =>
   have H := HA.out
   clear HA
   simp only [lanternref05_cut.l0] at H
   by_cases c5 : x7_1 ≤ (a0.size : Int)
   ·rw [if_pos c5] at H
    have c5b0 : decide (x7_1 ≤ (a0.size : Int)) = true := decide_eq_true c5
    clear c5
    by_cases c6 : x7_1 = (a0.size : Int)
    ·rw [if_pos c6] at H
     have c6b0 : (x7_1 == (a0.size : Int)) = true := beq_iff_eq.mpr c6
     have c6b1 : (x7_1 != (a0.size : Int)) = false := bne_eq_false_iff_eq.mpr c6
     clear c6
     by_cases c7 : 0 ≤ x6_1
     ·rw [if_pos c7] at H
      have c7b0 := eq_true c7
      have c7b1 : decide (0 ≤ x6_1) = true := decide_eq_true c7
      clear c7
      by_cases c8 : x6_1 ≤ x7_1
      ·rw [if_pos c8] at H
       have c8b0 := eq_true c8
       have c8b1 : decide (x6_1 ≤ x7_1) = true := decide_eq_true c8
       clear c8
       have c9b0 := eq_true (of_decide_eq_true as_ : x7_1 ≤ (a0.size : Int))
       by_cases c10 : x5_1.length < 8796093022208
       ·rw [if_pos c10] at H
        have LMc10 := Aside0.mk c10
        clear c10
        obtain ⟨y307, hy307⟩ : ∃ y_ : List ByteArray, y_ = (x5_1 ++ [a0.extract (x6_1 : Int).toNat (x7_1 : Int).toNat]) := ⟨_, rfl⟩
        replace H : (lanternref05_cut.l0 k1 a0 a1 y307 (wrap64 (x7_1 + 1)) (wrap64 (x7_1 + 1))) = some r := by first | (rw [hy307]; with_reducible exact H) | (have H2_ := (Option.bind_some _ _).symm.trans H; rw [hy307]; with_reducible exact H2_) | (have H2_ := (Option.bind_some _ _).symm.trans H; with_reducible exact H2_) | with_reducible exact H | (rw [hy307]; exact H) | exact H
        have Ny307 := Aside0.mk hy307
        clear hy307
        have H' := Aside0.mk H
        clear H
        go_wp2_with (first | ((with_reducible refine gate_builtin (b := .append) (xs := #[.tmp 26, .tmp 31]) rfl ?_); at_builtin; refine Kd.R_append Kd.string (w0 := w) w.heap.size rfl (.tmp 26) (.tmp 31) 48 9 (.string ⟨#[]⟩) 16 rfl Tryd.underlying48 info9 rfl (by decide) (by omega) u5 x5_1 (a0.extract (x6_1 : Int).toNat (x7_1 : Int).toNat) [.string (a0.extract (x6_1 : Int).toNat (x7_1 : Int).toNat)] (fun _ => True) (fun _ => False) rfl rfl ?aP (fun _ hk => hk.elim) ?aF ?aO ?aB ?aS ?aL ?_; (case aP => exact rfl); (case aB => exact bq_); (case aF => exact (fun _ _ => trivial)); (case aO => exact (by (with_reducible repeat (first | apply Kd.R_alloc | apply Kd.R_drewN | apply Kd.R_drew)); exact HO_5.out)); (case aS => exact (below_size bq_)); (case aL => have := LMc10.out; omega); intro v308 w11 ho hb hg hat; rw [← Ny307.out] at ho; have n0_ := Aside0.mk (hb); have n1_ := Aside0.mk (ho); clear HB; clear HO_5; have HB := n0_; have HO309 := n1_; clear n0_ n1_; clear ho hb hg hat))
        go_roundg k1
        case measure => have := HK1.out; omega
        case rel => exact ⟨(y307), (wrap64 (x7_1 + 1)), (wrap64 (x7_1 + 1)), sq_, sq_, H', ⟨by have := HK1.out; omega⟩, ⟨by (with_reducible repeat (first | apply Kd.R_alloc | apply Kd.R_drewN | apply Kd.R_drew)); exact HO309.out⟩, ⟨bq_⟩⟩
       ·rw [if_neg c10] at H
        exact absurd H (by simp)
      ·rw [if_neg c8] at H
       exact absurd H (by simp)
     ·rw [if_neg c7] at H
      exact absurd H (by simp)
    ·rw [if_neg c6] at H
     have c6b0 : (x7_1 == (a0.size : Int)) = false := beq_eq_false_iff_ne.mpr c6
     have c6b1 : (x7_1 != (a0.size : Int)) = true := bne_iff_ne.mpr c6
     by_cases c12 : 0 ≤ x7_1
     ·rw [if_pos c12] at H
      have c12b0 : decide (0 ≤ x7_1) = true := decide_eq_true c12
      clear c12
      by_cases c13 : x7_1 < (a0.size : Int)
      ·rw [if_pos c13] at H
       have c13b0 : decide (x7_1 < (a0.size : Int)) = true := decide_eq_true c13
       clear c13
       by_cases c15 : (bt a0 x7_1) = a1
       ·rw [if_pos c15] at H
        have c15b0 : ((bt a0 x7_1) == a1) = true := beq_iff_eq.mpr c15
        have c15b1 : ((bt a0 x7_1) != a1) = false := bne_eq_false_iff_eq.mpr c15
        clear c15
        by_cases c16 : 0 ≤ x6_1
        ·rw [if_pos c16] at H
         have c16b0 := eq_true c16
         have c16b1 : decide (0 ≤ x6_1) = true := decide_eq_true c16
         clear c16
         by_cases c17 : x6_1 ≤ x7_1
         ·rw [if_pos c17] at H
          have c17b0 := eq_true c17
          have c17b1 : decide (x6_1 ≤ x7_1) = true := decide_eq_true c17
          clear c17
          have c18b0 := eq_true (of_decide_eq_true as_ : x7_1 ≤ (a0.size : Int))
          by_cases c19 : x5_1.length < 8796093022208
          ·rw [if_pos c19] at H
           have LMc19 := Aside0.mk c19
           clear c19
           obtain ⟨y310, hy310⟩ : ∃ y_ : List ByteArray, y_ = (x5_1 ++ [a0.extract (x6_1 : Int).toNat (x7_1 : Int).toNat]) := ⟨_, rfl⟩
           replace H : (lanternref05_cut.l0 k1 a0 a1 y310 (wrap64 (x7_1 + 1)) (wrap64 (x7_1 + 1))) = some r := by first | (rw [hy310]; with_reducible exact H) | (have H2_ := (Option.bind_some _ _).symm.trans H; rw [hy310]; with_reducible exact H2_) | (have H2_ := (Option.bind_some _ _).symm.trans H; with_reducible exact H2_) | with_reducible exact H | (rw [hy310]; exact H) | exact H
           have Ny310 := Aside0.mk hy310
           clear hy310
           have H' := Aside0.mk H
           clear H
           have p14 : 0 ≤ (x7_1 : Int) := of_decide_eq_true as_
           have q14 : x7_1 < (a0.size : Int) := of_decide_eq_true as_
           have hx14 := bt_at a0 x7_1
           replace p14 := eq_true p14
           replace q14 := eq_true q14
           go_wp2_with (first | ((with_reducible refine gate_builtin (b := .append) (xs := #[.tmp 26, .tmp 31]) rfl ?_); at_builtin; refine Kd.R_append Kd.string (w0 := w) w.heap.size rfl (.tmp 26) (.tmp 31) 48 9 (.string ⟨#[]⟩) 16 rfl Tryd.underlying48 info9 rfl (by decide) (by omega) u5 x5_1 (a0.extract (x6_1 : Int).toNat (x7_1 : Int).toNat) [.string (a0.extract (x6_1 : Int).toNat (x7_1 : Int).toNat)] (fun _ => True) (fun _ => False) rfl rfl ?aP (fun _ hk => hk.elim) ?aF ?aO ?aB ?aS ?aL ?_; (case aP => exact rfl); (case aB => exact bq_); (case aF => exact (fun _ _ => trivial)); (case aO => exact (by (with_reducible repeat (first | apply Kd.R_alloc | apply Kd.R_drewN | apply Kd.R_drew)); exact HO_5.out)); (case aS => exact (below_size bq_)); (case aL => have := LMc19.out; omega); intro v311 w20 ho hb hg hat; rw [← Ny310.out] at ho; have n0_ := Aside0.mk (hb); have n1_ := Aside0.mk (ho); clear HB; clear HO_5; have HB := n0_; have HO312 := n1_; clear n0_ n1_; clear ho hb hg hat))
           go_roundg k1
           case measure => have := HK1.out; omega
           case rel => exact ⟨(y310), (wrap64 (x7_1 + 1)), (wrap64 (x7_1 + 1)), sq_, sq_, H', ⟨by have := HK1.out; omega⟩, ⟨by (with_reducible repeat (first | apply Kd.R_alloc | apply Kd.R_drewN | apply Kd.R_drew)); exact HO312.out⟩, ⟨bq_⟩⟩
          ·rw [if_neg c19] at H
           exact absurd H (by simp)
         ·rw [if_neg c17] at H
          exact absurd H (by simp)
        ·rw [if_neg c16] at H
         exact absurd H (by simp)
       ·rw [if_neg c15] at H
        have c15b0 : ((bt a0 x7_1) == a1) = false := beq_eq_false_iff_ne.mpr c15
        have c15b1 : ((bt a0 x7_1) != a1) = true := bne_iff_ne.mpr c15
        have H' := Aside0.mk H
        clear H
        have p14 : 0 ≤ (x7_1 : Int) := of_decide_eq_true as_
        have q14 : x7_1 < (a0.size : Int) := of_decide_eq_true as_
        have hx14 := bt_at a0 x7_1
        replace p14 := eq_true p14
        replace q14 := eq_true q14
        go_wp2
        go_roundg k1
        case measure => have := HK1.out; omega
        case rel => exact ⟨(x5_1), (x6_1), (wrap64 (x7_1 + 1)), sq_, sq_, H', ⟨by have := HK1.out; omega⟩, ⟨by (with_reducible repeat (first | apply Kd.R_alloc | apply Kd.R_drewN | apply Kd.R_drew)); exact HO_5.out⟩, ⟨bq_⟩⟩
      ·rw [if_neg c13] at H
       exact absurd H (by simp)
     ·rw [if_neg c12] at H
      exact absurd H (by simp)
   ·rw [if_neg c5] at H
    have c5b0 : decide (x7_1 ≤ (a0.size : Int)) = false := decide_eq_false c5
    clear c5
    obtain rfl := Option.some.inj H
    go_wp2
    go_ret
    exact ⟨_, rq_, by (with_reducible repeat (first | apply Kd.R_alloc | apply Kd.R_drewN | apply Kd.R_drew)); exact HO_5.out, bq_⟩

end Go.Proofs.YtdopafhppaalfaaDoor.P
