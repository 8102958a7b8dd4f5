-- Written by a program of this session (wip/gen/lprint.py over the kit's print.py) out of the translation. Lean checks it.
import Derived.Test.YtdopafhppaalfaaDoorP0
import Derived.Test.YtdopafhppaalfaaDoorP1
import Derived.Test.YtdopafhppaalfaaDoorP2
import Derived.Test.YtdopafhppaalfaaDoorP3
import Derived.Test.YtdopafhppaalfaaDoorZ
namespace Go.Proofs.YtdopafhppaalfaaDoor.P
open Go.Proofs.YtdopafhppaalfaaDoorZ
open Go.Proofs.YtdopafhppaalfaaDoor.E Go.Proofs.YtdopafhppaalfaaDoorV
open Go.RowKit Go.Proofs.YtdopafhppaalfaaDoorW.PrintWords Go.Proofs.YtdopafhppaalfaaDoorW.PrintLast Go.Proofs.YtdopafhppaalfaaDoorW.PrintMore
attribute [local go_sem] max2_int min2_int max_two min_two max_three min_three max_four min_four   -- for this text's walks alone
set_option linter.unusedVariables false
set_option linter.unusedSimpArgs false

attribute [local go_sem high] eqA24
def ip_Parse.f (k : Nat) (a0 : ByteArray) : Option (Bool × Int × Int × Int × Int × Int × Int × Int × Int × Int × Int × Int × Int × Int × Int × Int × Int × Int) := if (a0.size : Int) > 64 then (none) else ((ip_four.f k a0).bind fun bt174 => (if bt174.2.2.2.2 = true then ((ip_V4.f bt174.1 bt174.2.1 bt174.2.2.1 bt174.2.2.2.1).bind fun bt180 => (some (bt180.1, bt180.2.1, bt180.2.2.1, bt180.2.2.2.1, bt180.2.2.2.2.1, bt180.2.2.2.2.2.1, bt180.2.2.2.2.2.2.1, bt180.2.2.2.2.2.2.2.1, bt180.2.2.2.2.2.2.2.2.1, bt180.2.2.2.2.2.2.2.2.2.1, bt180.2.2.2.2.2.2.2.2.2.2.1, bt180.2.2.2.2.2.2.2.2.2.2.2.1, bt180.2.2.2.2.2.2.2.2.2.2.2.2.1, bt180.2.2.2.2.2.2.2.2.2.2.2.2.2.1, bt180.2.2.2.2.2.2.2.2.2.2.2.2.2.2.1, bt180.2.2.2.2.2.2.2.2.2.2.2.2.2.2.2.1, bt180.2.2.2.2.2.2.2.2.2.2.2.2.2.2.2.2, 0))) else ((ip_six.f k a0).bind fun bt197 => (if bt197.2.2.2.2.2.2.2.2.2.2.2.2.2.2.2.2 = true then ((strings_Contains.f a0 (⟨#[58]⟩ : ByteArray)).bind fun t215 => (if t215 = true then (some (true, bt197.1, bt197.2.1, bt197.2.2.1, bt197.2.2.2.1, bt197.2.2.2.2.1, bt197.2.2.2.2.2.1, bt197.2.2.2.2.2.2.1, bt197.2.2.2.2.2.2.2.1, bt197.2.2.2.2.2.2.2.2.1, bt197.2.2.2.2.2.2.2.2.2.1, bt197.2.2.2.2.2.2.2.2.2.2.1, bt197.2.2.2.2.2.2.2.2.2.2.2.1, bt197.2.2.2.2.2.2.2.2.2.2.2.2.1, bt197.2.2.2.2.2.2.2.2.2.2.2.2.2.1, bt197.2.2.2.2.2.2.2.2.2.2.2.2.2.2.1, bt197.2.2.2.2.2.2.2.2.2.2.2.2.2.2.2.1, 0)) else (none))) else (none)))))
theorem ip_Parse.mono : ∀ a0 k, LeO (ip_Parse.f k a0) (ip_Parse.f (k + 1) a0) := by
 intro a0 k
 unfold ip_Parse.f
 repeat' first
   | (with_reducible exact ip_four.mono _ _)
   | (with_reducible exact ip_six.mono _ _)
   | (with_reducible exact LeO.refl _)
   | (with_reducible exact LeO.none _)
   | (with_reducible refine LeO.ite ?_ ?_)
   | (with_reducible refine LeO.bind ?_ (fun _ => ?_))
   | exact ip_four.mono _ _
   | exact ip_six.mono _ _
   | exact LeO.none _
   | refine LeO.ite ?_ ?_
   | refine LeO.bind ?_ (fun _ => ?_)
set_option maxHeartbeats 8000000 in
set_option maxRecDepth 100000 in
theorem ip_Parse.calls (k : Nat) (a0 : ByteArray) (r1 : Bool) (r2 : Int) (r3 : Int) (r4 : Int) (r5 : Int) (r6 : Int) (r7 : Int) (r8 : Int) (r9 : Int) (r10 : Int) (r11 : Int) (r12 : Int) (r13 : Int) (r14 : Int) (r15 : Int) (r16 : Int) (r17 : Int) (r18 : Int) (w : World) (hLW : LW w) (h : ip_Parse.f k a0 = some (r1, r2, r3, r4, r5, r6, r7, r8, r9, r10, r11, r12, r13, r14, r15, r16, r17, r18)) :
  Calls Tryd.prog 45 #[.string a0] w fun e w' => e = .returned (.tuple #[.agg (ag_ r1 r2 r3 r4 r5 r6 r7 r8 r9 r10 r11 r12 r13 r14 r15 r16 r17), .int .i64 r18]) ∧ Below w.heap.size w w' := by
 have hu24 := Tryd.underlying24
 have hu85 := Tryd.underlying85
 have hu22 := Tryd.underlying22
 have HLW := Aside0.mk hLW
 clear hLW
 have HB := Aside0.mk (Below.refl w.heap.size w)
 have H := h
 unfold ip_Parse.f at H
 clear h
 by_cases c2 : (a0.size : Int) > 64
 ·rw [if_pos c2] at H
  exact absurd H (by simp)
 ·rw [if_neg c2] at H
  have c2b0 := decide_eq_false c2
  have c2b1 : decide (64 < a0.size) = false := decide_eq_false (by omega)
  clear c2
  replace H := Option.bind_eq_some_iff.mp H
  obtain ⟨⟨t174, t175, t176, t177, t178⟩, A30, H⟩ := H
  (try dsimp only at H)
  have A3 := Aside0.mk A30
  clear A30
  by_cases c4 : t178 = true
  ·subst c4
   replace H := ifT_ H
   replace H := Option.bind_eq_some_iff.mp H
   obtain ⟨⟨t180, t181, t182, t183, t184, t185, t186, t187, t188, t189, t190, t191, t192, t193, t194, t195, t196⟩, A50, H⟩ := H
   (try dsimp only at H)
   have A5 := Aside0.mk A50
   clear A50
   simp only [Option.some.injEq, Prod.mk.injEq] at H
   obtain ⟨rfl, rfl, rfl, rfl, rfl, rfl, rfl, rfl, rfl, rfl, rfl, rfl, rfl, rfl, rfl, rfl, rfl, rfl⟩ := H
   go_enter Tryd.func45, Tryd.ntmps45
   go_wp2_with (first | ((with_reducible refine gate_dst (N := 2) rfl ?_); refine bx_ 2 az_ 24 ?_; intro gb173 hg w6 hbox hb; have BK173 := Aside0.mk (hbox); have GW173 := Aside0.mk (ge_ (w := w) hg); have GE173 := Aside0.mk (ge_ (w := w) hg); replace HB := Aside0.mk (below_step bq_ hb); clear hb hbox hg) | ((with_reducible refine gate_callee (f := 53) rfl ?_); refine goesL_ (some 14) rfl rfl Tryd.func53 (by kernel_rfl) rfl #[.string a0] rfl lq_ ?_; (with_reducible refine (ip_four.calls k a0 t174 t175 t176 t177 true _ ?side1 A3.out).mono ?_); (case side1 => exact lg_); rintro e w7 ⟨rfl, hb⟩; refine ⟨_, rfl, ?_⟩; replace BK173 := Aside0.mk (bb_ BK173 hb); replace HB := Aside0.mk (below_step bg_ hb); (try clear hb); (try clear hb2); (try clear hk); (try clear hi)) | ((with_reducible refine gate_dst (N := 4) rfl ?_); refine bx_ 4 #[.int .u8 0, .int .u8 0, .int .u8 0, .int .u8 0] 85 ?_; intro gb179 hg w8 hbox hb; have n0_ := Aside0.mk (bb_ BK173 hb); have n1_ := Aside0.mk (below_step bg_ hb); have n2_ := Aside0.mk (hbox); have n3_ := Aside0.mk (gg_ (w := w) hg); have n4_ := Aside0.mk (gg_ (w := w) hg); have n5_ := Aside0.mk (nl_ BK173 hg); have n6_ := Aside0.mk (ng_ BK173 hg); clear BK173; clear HB; have BK173 := n0_; have HB := n1_; have BK179 := n2_; have GW179 := n3_; have GE179 := n4_; have NB173_179 := n5_; have NB179_173 := n6_; clear n0_ n1_ n2_ n3_ n4_ n5_ n6_; clear hb hbox hg; have hnb9 := NB179_173.out; have hnc9 := NB173_179.out; have hcz10_0 := cz_ BK179 0 (.int .u8 0); have hcz10_1 := cz_ BK179 1 (.int .u8 0); have hcz10_2 := cz_ BK179 2 (.int .u8 0); have hcz10_3 := cz_ BK179 3 (.int .u8 0); have hfz10_0 := bf_ BK179 0; have hfz10_1 := bf_ BK179 1; have hfz10_2 := bf_ BK179 2; have hfz10_3 := bf_ BK179 3) | ((with_reducible refine gate_callee (f := 38) rfl ?_); refine goesL_ (some 26) rfl rfl Tryd.func38 (by kernel_rfl) rfl #[.int .u8 t174, .int .u8 t175, .int .u8 t176, .int .u8 t177] rfl lq_ ?_; (with_reducible refine (ip_V4.calls t174 t175 t176 t177 t180 t181 t182 t183 t184 t185 t186 t187 t188 t189 t190 t191 t192 t193 t194 t195 t196 _ ?side1 A5.out).mono ?_); (case side1 => exact lg_); rintro e w11 ⟨rfl, hb⟩; refine ⟨_, rfl, ?_⟩; replace BK173 := Aside0.mk (blk_below (g := gb173) (o := .cells az_ 24 (0, 0)) (by (with_reducible repeat (first | refine blk_drewN ?_ _ | refine blk_drew ?_ | refine blk_alloc ?_ _)); refine blk_far ?_ NB173_179.out _; (with_reducible repeat (first | refine blk_drewN ?_ _ | refine blk_drew ?_ | refine blk_alloc ?_ _)); refine blk_far ?_ NB173_179.out _; (with_reducible repeat (first | refine blk_drewN ?_ _ | refine blk_drew ?_ | refine blk_alloc ?_ _)); refine blk_far ?_ NB173_179.out _; (with_reducible repeat (first | refine blk_drewN ?_ _ | refine blk_drew ?_ | refine blk_alloc ?_ _)); refine blk_far ?_ NB173_179.out _; (with_reducible repeat (first | refine blk_drewN ?_ _ | refine blk_drew ?_ | refine blk_alloc ?_ _)); exact BK173.out) hb); replace BK179 := Aside0.mk (blk_below (g := gb179) (o := .cells #[.int .u8 t174, .int .u8 t175, .int .u8 t176, .int .u8 t177] 85 (0, 0)) (by (with_reducible repeat (first | refine blk_drewN ?_ _ | refine blk_drew ?_ | refine blk_alloc ?_ _)); refine blk_put (cs := #[.int .u8 t174, .int .u8 t175, .int .u8 t176, .int .u8 0]) ?_ 3 _ rfl; (with_reducible repeat (first | refine blk_drewN ?_ _ | refine blk_drew ?_ | refine blk_alloc ?_ _)); refine blk_put (cs := #[.int .u8 t174, .int .u8 t175, .int .u8 0, .int .u8 0]) ?_ 2 _ rfl; (with_reducible repeat (first | refine blk_drewN ?_ _ | refine blk_drew ?_ | refine blk_alloc ?_ _)); refine blk_put (cs := #[.int .u8 t174, .int .u8 0, .int .u8 0, .int .u8 0]) ?_ 1 _ rfl; (with_reducible repeat (first | refine blk_drewN ?_ _ | refine blk_drew ?_ | refine blk_alloc ?_ _)); refine blk_put (cs := #[.int .u8 0, .int .u8 0, .int .u8 0, .int .u8 0]) ?_ 0 _ rfl; (with_reducible repeat (first | refine blk_drewN ?_ _ | refine blk_drew ?_ | refine blk_alloc ?_ _)); exact BK179.out) hb); replace HB := Aside0.mk (below_step bg_ hb); (try clear hb); (try clear hb2); (try clear hk); (try clear hi); obtain ⟨hcz12_0, hcz12_1, hcz12_2, hcz12_3, hcz12_4, hcz12_5, hcz12_6, hcz12_7, hcz12_8, hcz12_9, hcz12_10, hcz12_11, hcz12_12, hcz12_13, hcz12_14, hcz12_15, hcz12_16⟩ := c17_ BK173; obtain ⟨hfz12_0, hfz12_1, hfz12_2, hfz12_3, hfz12_4, hfz12_5, hfz12_6, hfz12_7, hfz12_8, hfz12_9, hfz12_10, hfz12_11, hfz12_12, hfz12_13, hfz12_14, hfz12_15, hfz12_16⟩ := f17_ BK173) | ((with_reducible refine gate_store (t := 24) (p := 2) rfl ?_); refine store_all ?hg 24 2 _ rfl rfl gb173 ay_ (al_ t180 t181 t182 t183 t184 t185 t186 t187 t188 t189 t190 t191 t192 t193 t194 t195 t196) BK173.out rfl rfl rfl (by kernel_rfl) rfl ?_; (case hg => rfl); intro w13 hw; replace BK173 := Aside0.mk (show w13.heap[gb173]? = some (.cells (ag_ t180 t181 t182 t183 t184 t185 t186 t187 t188 t189 t190 t191 t192 t193 t194 t195 t196) 24 (0, 0)) from ss_ BK173 hw); replace BK179 := Aside0.mk (sf_ BK179 NB179_173 hw); replace HB := Aside0.mk (sb_ hw); clear hw))
   refine bodyPost_ret (results_ct rfl _ _ gb173 24 (ag_ t180 t181 t182 t183 t184 t185 t186 t187 t188 t189 t190 t191 t192 t193 t194 t195 t196) (0, 0) _ rfl bk_ Tryd.underlying24 rfl (by kernel_rfl)) rfl ?_
   exact ⟨rq_, bg_⟩
  ·replace c4 := Bool.eq_false_iff.mpr c4
   subst c4
   replace H := ifF_ H
   replace H := Option.bind_eq_some_iff.mp H
   obtain ⟨⟨t197, t198, t199, t200, t201, t202, t203, t204, t205, t206, t207, t208, t209, t210, t211, t212, t213⟩, A140, H⟩ := H
   (try dsimp only at H)
   have A14 := Aside0.mk A140
   clear A140
   by_cases c15 : t213 = true
   ·subst c15
    replace H := ifT_ H
    replace H := Option.bind_eq_some_iff.mp H
    obtain ⟨t215, A160, H⟩ := H
    (try dsimp only at H)
    have A16 := Aside0.mk A160
    clear A160
    by_cases c17 : t215 = true
    ·subst c17
     replace H := ifT_ H
     simp only [Option.some.injEq, Prod.mk.injEq] at H
     obtain ⟨rfl, rfl, rfl, rfl, rfl, rfl, rfl, rfl, rfl, rfl, rfl, rfl, rfl, rfl, rfl, rfl, rfl, rfl⟩ := H
     go_enter Tryd.func45, Tryd.ntmps45
     go_wp2_with (first | ((with_reducible refine gate_dst (N := 2) rfl ?_); refine bx_ 2 az_ 24 ?_; intro gb173 hg w18 hbox hb; have BK173 := Aside0.mk (hbox); have GW173 := Aside0.mk (ge_ (w := w) hg); have GE173 := Aside0.mk (ge_ (w := w) hg); replace HB := Aside0.mk (below_step bq_ hb); clear hb hbox hg) | ((with_reducible refine gate_callee (f := 53) rfl ?_); refine goesL_ (some 14) rfl rfl Tryd.func53 (by kernel_rfl) rfl #[.string a0] rfl lq_ ?_; (with_reducible refine (ip_four.calls k a0 t174 t175 t176 t177 false _ ?side1 A3.out).mono ?_); (case side1 => exact lg_); rintro e w19 ⟨rfl, hb⟩; refine ⟨_, rfl, ?_⟩; replace BK173 := Aside0.mk (bb_ BK173 hb); replace HB := Aside0.mk (below_step bg_ hb); (try clear hb); (try clear hb2); (try clear hk); (try clear hi)) | ((with_reducible refine gate_dst (N := 4) rfl ?_); refine bx_ 4 #[.int .u8 0, .int .u8 0, .int .u8 0, .int .u8 0] 85 ?_; intro gb179 hg w20 hbox hb; have n0_ := Aside0.mk (bb_ BK173 hb); have n1_ := Aside0.mk (below_step bg_ hb); have n2_ := Aside0.mk (hbox); have n3_ := Aside0.mk (gg_ (w := w) hg); have n4_ := Aside0.mk (gg_ (w := w) hg); have n5_ := Aside0.mk (nl_ BK173 hg); have n6_ := Aside0.mk (ng_ BK173 hg); clear BK173; clear HB; have BK173 := n0_; have HB := n1_; have BK179 := n2_; have GW179 := n3_; have GE179 := n4_; have NB173_179 := n5_; have NB179_173 := n6_; clear n0_ n1_ n2_ n3_ n4_ n5_ n6_; clear hb hbox hg; have hnb21 := NB179_173.out; have hnc21 := NB173_179.out; have hcz22_0 := cz_ BK179 0 (.int .u8 0); have hcz22_1 := cz_ BK179 1 (.int .u8 0); have hcz22_2 := cz_ BK179 2 (.int .u8 0); have hcz22_3 := cz_ BK179 3 (.int .u8 0); have hfz22_0 := bf_ BK179 0; have hfz22_1 := bf_ BK179 1; have hfz22_2 := bf_ BK179 2; have hfz22_3 := bf_ BK179 3) | ((with_reducible refine gate_callee (f := 54) rfl ?_); refine goesL_ (some 29) rfl rfl Tryd.func54 (by kernel_rfl) rfl #[.string a0] rfl lq_ ?_; (with_reducible refine (ip_six.calls k a0 t197 t198 t199 t200 t201 t202 t203 t204 t205 t206 t207 t208 t209 t210 t211 t212 true _ ?side1 A14.out).mono ?_); (case side1 => exact lg_); rintro e w23 ⟨rfl, hb⟩; refine ⟨_, rfl, ?_⟩; replace BK173 := Aside0.mk (blk_below (g := gb173) (o := .cells az_ 24 (0, 0)) (by (with_reducible repeat (first | refine blk_drewN ?_ _ | refine blk_drew ?_ | refine blk_alloc ?_ _)); refine blk_far ?_ NB173_179.out _; (with_reducible repeat (first | refine blk_drewN ?_ _ | refine blk_drew ?_ | refine blk_alloc ?_ _)); refine blk_far ?_ NB173_179.out _; (with_reducible repeat (first | refine blk_drewN ?_ _ | refine blk_drew ?_ | refine blk_alloc ?_ _)); refine blk_far ?_ NB173_179.out _; (with_reducible repeat (first | refine blk_drewN ?_ _ | refine blk_drew ?_ | refine blk_alloc ?_ _)); refine blk_far ?_ NB173_179.out _; (with_reducible repeat (first | refine blk_drewN ?_ _ | refine blk_drew ?_ | refine blk_alloc ?_ _)); exact BK173.out) hb); replace BK179 := Aside0.mk (blk_below (g := gb179) (o := .cells #[.int .u8 t174, .int .u8 t175, .int .u8 t176, .int .u8 t177] 85 (0, 0)) (by (with_reducible repeat (first | refine blk_drewN ?_ _ | refine blk_drew ?_ | refine blk_alloc ?_ _)); refine blk_put (cs := #[.int .u8 t174, .int .u8 t175, .int .u8 t176, .int .u8 0]) ?_ 3 _ rfl; (with_reducible repeat (first | refine blk_drewN ?_ _ | refine blk_drew ?_ | refine blk_alloc ?_ _)); refine blk_put (cs := #[.int .u8 t174, .int .u8 t175, .int .u8 0, .int .u8 0]) ?_ 2 _ rfl; (with_reducible repeat (first | refine blk_drewN ?_ _ | refine blk_drew ?_ | refine blk_alloc ?_ _)); refine blk_put (cs := #[.int .u8 t174, .int .u8 0, .int .u8 0, .int .u8 0]) ?_ 1 _ rfl; (with_reducible repeat (first | refine blk_drewN ?_ _ | refine blk_drew ?_ | refine blk_alloc ?_ _)); refine blk_put (cs := #[.int .u8 0, .int .u8 0, .int .u8 0, .int .u8 0]) ?_ 0 _ rfl; (with_reducible repeat (first | refine blk_drewN ?_ _ | refine blk_drew ?_ | refine blk_alloc ?_ _)); exact BK179.out) hb); replace HB := Aside0.mk (below_step bg_ hb); (try clear hb); (try clear hb2); (try clear hk); (try clear hi)) | ((with_reducible refine gate_dst (N := 6) rfl ?_); refine bx_ 6 #[.int .u8 0, .int .u8 0, .int .u8 0, .int .u8 0, .int .u8 0, .int .u8 0, .int .u8 0, .int .u8 0, .int .u8 0, .int .u8 0, .int .u8 0, .int .u8 0, .int .u8 0, .int .u8 0, .int .u8 0, .int .u8 0] 22 ?_; intro gb214 hg w24 hbox hb; have n0_ := Aside0.mk (bb_ BK173 hb); have n1_ := Aside0.mk (bb_ BK179 hb); have n2_ := Aside0.mk (below_step bg_ hb); have n3_ := Aside0.mk (hbox); have n4_ := Aside0.mk (gg_ (w := w) hg); have n5_ := Aside0.mk (gg_ (w := w) hg); have n6_ := Aside0.mk (nl_ BK173 hg); have n7_ := Aside0.mk (ng_ BK173 hg); have n8_ := Aside0.mk (nl_ BK179 hg); have n9_ := Aside0.mk (ng_ BK179 hg); clear BK173; clear BK179; clear HB; have BK173 := n0_; have BK179 := n1_; have HB := n2_; have BK214 := n3_; have GW214 := n4_; have GE214 := n5_; have NB173_214 := n6_; have NB214_173 := n7_; have NB179_214 := n8_; have NB214_179 := n9_; clear n0_ n1_ n2_ n3_ n4_ n5_ n6_ n7_ n8_ n9_; clear hb hbox hg; have hnb25 := NB214_173.out; have hnc25 := NB173_214.out; have hnb26 := NB214_179.out; have hnc26 := NB179_214.out; have hcz27_0 := cz_ BK214 0 (.int .u8 0); have hcz27_1 := cz_ BK214 1 (.int .u8 0); have hcz27_2 := cz_ BK214 2 (.int .u8 0); have hcz27_3 := cz_ BK214 3 (.int .u8 0); have hcz27_4 := cz_ BK214 4 (.int .u8 0); have hcz27_5 := cz_ BK214 5 (.int .u8 0); have hcz27_6 := cz_ BK214 6 (.int .u8 0); have hcz27_7 := cz_ BK214 7 (.int .u8 0); have hcz27_8 := cz_ BK214 8 (.int .u8 0); have hcz27_9 := cz_ BK214 9 (.int .u8 0); have hcz27_10 := cz_ BK214 10 (.int .u8 0); have hcz27_11 := cz_ BK214 11 (.int .u8 0); have hcz27_12 := cz_ BK214 12 (.int .u8 0); have hcz27_13 := cz_ BK214 13 (.int .u8 0); have hcz27_14 := cz_ BK214 14 (.int .u8 0); have hcz27_15 := cz_ BK214 15 (.int .u8 0); have hfz27_0 := bf_ BK214 0; have hfz27_1 := bf_ BK214 1; have hfz27_2 := bf_ BK214 2; have hfz27_3 := bf_ BK214 3; have hfz27_4 := bf_ BK214 4; have hfz27_5 := bf_ BK214 5; have hfz27_6 := bf_ BK214 6; have hfz27_7 := bf_ BK214 7; have hfz27_8 := bf_ BK214 8; have hfz27_9 := bf_ BK214 9; have hfz27_10 := bf_ BK214 10; have hfz27_11 := bf_ BK214 11; have hfz27_12 := bf_ BK214 12; have hfz27_13 := bf_ BK214 13; have hfz27_14 := bf_ BK214 14; have hfz27_15 := bf_ BK214 15) | ((with_reducible refine gate_store (t := 22) (p := 6) rfl ?_); refine store_all ?hg 22 6 _ rfl rfl gb214 [.int .u8 0, .int .u8 0, .int .u8 0, .int .u8 0, .int .u8 0, .int .u8 0, .int .u8 0, .int .u8 0, .int .u8 0, .int .u8 0, .int .u8 0, .int .u8 0, .int .u8 0, .int .u8 0, .int .u8 0, .int .u8 0] [.int .u8 t197, .int .u8 t198, .int .u8 t199, .int .u8 t200, .int .u8 t201, .int .u8 t202, .int .u8 t203, .int .u8 t204, .int .u8 t205, .int .u8 t206, .int .u8 t207, .int .u8 t208, .int .u8 t209, .int .u8 t210, .int .u8 t211, .int .u8 t212] BK214.out rfl rfl rfl (by kernel_rfl) rfl ?_; (case hg => rfl); intro w28 hw; replace BK173 := Aside0.mk (sf_ BK173 NB173_214 hw); replace BK179 := Aside0.mk (sf_ BK179 NB179_214 hw); replace BK214 := Aside0.mk (show w28.heap[gb214]? = some (.cells #[.int .u8 t197, .int .u8 t198, .int .u8 t199, .int .u8 t200, .int .u8 t201, .int .u8 t202, .int .u8 t203, .int .u8 t204, .int .u8 t205, .int .u8 t206, .int .u8 t207, .int .u8 t208, .int .u8 t209, .int .u8 t210, .int .u8 t211, .int .u8 t212] 22 (0, 0)) from ss_ BK214 hw); replace HB := Aside0.mk (sb_ hw); clear hw) | (go_at_call 55; (with_reducible refine (strings_Contains.calls a0 (⟨#[58]⟩ : ByteArray) true _ ?side1 A16.out).mono ?_); (case side1 => exact lg_); rintro e w29 ⟨rfl, hb⟩; replace BK173 := Aside0.mk (bb_ BK173 hb); replace BK179 := Aside0.mk (bb_ BK179 hb); replace BK214 := Aside0.mk (bb_ BK214 hb); replace HB := Aside0.mk (below_step bg_ hb); (try clear hb); (try clear hb2); (try clear hk); (try clear hi); obtain ⟨hcz30_0, hcz30_1, hcz30_2, hcz30_3, hcz30_4, hcz30_5, hcz30_6, hcz30_7, hcz30_8, hcz30_9, hcz30_10, hcz30_11, hcz30_12, hcz30_13, hcz30_14, hcz30_15, hcz30_16⟩ := c17_ BK173; obtain ⟨hfz30_0, hfz30_1, hfz30_2, hfz30_3, hfz30_4, hfz30_5, hfz30_6, hfz30_7, hfz30_8, hfz30_9, hfz30_10, hfz30_11, hfz30_12, hfz30_13, hfz30_14, hfz30_15, hfz30_16⟩ := f17_ BK173) | ((with_reducible refine gate_dst (N := 37) rfl ?_); (try (refine gate_guard (by rfl) ?_; dsimp only)); refine load_box ?hg 22 (.tmp 6) rfl BK214.out [] [.int .u8 t197, .int .u8 t198, .int .u8 t199, .int .u8 t200, .int .u8 t201, .int .u8 t202, .int .u8 t203, .int .u8 t204, .int .u8 t205, .int .u8 t206, .int .u8 t207, .int .u8 t208, .int .u8 t209, .int .u8 t210, .int .u8 t211, .int .u8 t212] [] rfl 0 rfl rfl Tryd.underlying22 rfl (by kernel_rfl) ?_; (case hg => rfl)) | ((with_reducible refine gate_store (t := 24) (p := 2) rfl ?_); refine store_all ?hg 24 2 _ rfl rfl gb173 ay_ (al_ true t197 t198 t199 t200 t201 t202 t203 t204 t205 t206 t207 t208 t209 t210 t211 t212) BK173.out rfl rfl rfl (by kernel_rfl) rfl ?_; (case hg => rfl); intro w31 hw; replace BK173 := Aside0.mk (show w31.heap[gb173]? = some (.cells (ag_ true t197 t198 t199 t200 t201 t202 t203 t204 t205 t206 t207 t208 t209 t210 t211 t212) 24 (0, 0)) from ss_ BK173 hw); replace BK179 := Aside0.mk (sf_ BK179 NB179_173 hw); replace BK214 := Aside0.mk (sf_ BK214 NB214_173 hw); replace HB := Aside0.mk (sb_ hw); clear hw))
     refine bodyPost_ret (results_ct rfl _ _ gb173 24 (ag_ true t197 t198 t199 t200 t201 t202 t203 t204 t205 t206 t207 t208 t209 t210 t211 t212) (0, 0) _ rfl bk_ Tryd.underlying24 rfl (by kernel_rfl)) rfl ?_
     exact ⟨rq_, bg_⟩
    ·replace c17 := Bool.eq_false_iff.mpr c17
     subst c17
     replace H := ifF_ H
     exact absurd H (by simp)
   ·replace c15 := Bool.eq_false_iff.mpr c15
    subst c15
    replace H := ifF_ H
    exact absurd H (by simp)

-- NOT PRINTED: function 30 (cidr_Parse)

-- NOT PRINTED: function 10 (cidr_Forbidden)

-- NOT PRINTED: function 39 (api_Net_39)

-- NOT PRINTED: function 20 (api_Net_20)

def ip_mapped.f (z0 : Bool) (z1 : Int) (z2 : Int) (z3 : Int) (z4 : Int) (z5 : Int) (z6 : Int) (z7 : Int) (z8 : Int) (z9 : Int) (za : Int) (zb : Int) (zc : Int) (zd : Int) (ze : Int) (zf : Int) (zg : Int) : Option (Bool) := (some (([0, 0, 0, 0, 0, 0, 0, 0, 0, 0, 255, 255] : List Int) : List Int)).bind fun y250 => (if z0 = true then (some ((z1 == (cpy 0 12 0 y250 z1) && (z2 == (cpy 0 12 1 y250 z2) && (z3 == (cpy 0 12 2 y250 z3) && (z4 == (cpy 0 12 3 y250 z4) && (z5 == (cpy 0 12 4 y250 z5) && (z6 == (cpy 0 12 5 y250 z6) && (z7 == (cpy 0 12 6 y250 z7) && (z8 == (cpy 0 12 7 y250 z8) && (z9 == (cpy 0 12 8 y250 z9) && (za == (cpy 0 12 9 y250 za) && (zb == (cpy 0 12 10 y250 zb) && (zc == (cpy 0 12 11 y250 zc) && (zd == (cpy 0 12 12 y250 zd) && (ze == (cpy 0 12 13 y250 ze) && (zf == (cpy 0 12 14 y250 zf) && (zg == (cpy 0 12 15 y250 zg))))))))))))))))))) else (some false))
set_option maxHeartbeats 8000000 in
set_option maxRecDepth 100000 in
theorem ip_mapped.calls (z0 : Bool) (z1 : Int) (z2 : Int) (z3 : Int) (z4 : Int) (z5 : Int) (z6 : Int) (z7 : Int) (z8 : Int) (z9 : Int) (za : Int) (zb : Int) (zc : Int) (zd : Int) (ze : Int) (zf : Int) (zg : Int) (r : Bool) (w : World) (hLW : LW w) (h : ip_mapped.f z0 z1 z2 z3 z4 z5 z6 z7 z8 z9 za zb zc zd ze zf zg = some r) :
  Calls Tryd.prog 41 #[.agg (ag_ z0 z1 z2 z3 z4 z5 z6 z7 z8 z9 za zb zc zd ze zf zg)] w fun e w' => e = .returned (.bool r) ∧ Below w.heap.size w w' := by
 have hu24 := Tryd.underlying24
 have HLW := Aside0.mk hLW
 clear hLW
 have HB := Aside0.mk (Below.refl w.heap.size w)
 have H := h
 unfold ip_mapped.f at H
 clear h
 obtain ⟨y250, hy250⟩ : ∃ y_ : List Int, y_ = (([0, 0, 0, 0, 0, 0, 0, 0, 0, 0, 255, 255] : List Int)) := ⟨_, rfl⟩
 replace H : (if z0 = true then (some ((z1 == (cpy 0 12 0 y250 z1) && (z2 == (cpy 0 12 1 y250 z2) && (z3 == (cpy 0 12 2 y250 z3) && (z4 == (cpy 0 12 3 y250 z4) && (z5 == (cpy 0 12 4 y250 z5) && (z6 == (cpy 0 12 5 y250 z6) && (z7 == (cpy 0 12 6 y250 z7) && (z8 == (cpy 0 12 7 y250 z8) && (z9 == (cpy 0 12 8 y250 z9) && (za == (cpy 0 12 9 y250 za) && (zb == (cpy 0 12 10 y250 zb) && (zc == (cpy 0 12 11 y250 zc) && (zd == (cpy 0 12 12 y250 zd) && (ze == (cpy 0 12 13 y250 ze) && (zf == (cpy 0 12 14 y250 zf) && (zg == (cpy 0 12 15 y250 zg))))))))))))))))))) else (some false)) = some r := by first | (rw [hy250]; with_reducible exact H) | (have H2_ := (Option.bind_some _ _).symm.trans H; rw [hy250]; with_reducible exact H2_) | (have H2_ := (Option.bind_some _ _).symm.trans H; with_reducible exact H2_) | with_reducible exact H | (rw [hy250]; exact H) | exact H
 have Ny250 := Aside0.mk hy250
 clear hy250
 by_cases c2 : z0 = true
 ·subst c2
  replace H := ifT_ H
  obtain rfl := Option.some.inj H
  go_enter Tryd.func41, Tryd.ntmps41
  go_wp2_with (first | ((with_reducible refine gate_dst (N := 1) rfl ?_); refine bx_ 1 (ag_ true z1 z2 z3 z4 z5 z6 z7 z8 z9 za zb zc zd ze zf zg) 24 ?_; intro gb248 hg w3 hbox hb; have BK248 := Aside0.mk (hbox); have GW248 := Aside0.mk (ge_ (w := w) hg); have GE248 := Aside0.mk (ge_ (w := w) hg); replace HB := Aside0.mk (below_step bq_ hb); clear hb hbox hg) | ((with_reducible refine gate_dst (N := 4) rfl ?_); (try (refine gate_guard (by rfl) ?_; dsimp only)); refine load_box ?hg 24 (.tmp 1) rfl BK248.out [] (al_ true z1 z2 z3 z4 z5 z6 z7 z8 z9 za zb zc zd ze zf zg) [] rfl 0 rfl rfl Tryd.underlying24 rfl (by kernel_rfl) ?_; (case hg => rfl)) | ((with_reducible refine gate_dst (N := 3) rfl ?_); refine bx_ 3 az_ 24 ?_; intro gb249 hg w4 hbox hb; have n0_ := Aside0.mk (bb_ BK248 hb); have n1_ := Aside0.mk (below_step bg_ hb); have n2_ := Aside0.mk (hbox); have n3_ := Aside0.mk (gg_ (w := w) hg); have n4_ := Aside0.mk (gg_ (w := w) hg); have n5_ := Aside0.mk (nl_ BK248 hg); have n6_ := Aside0.mk (ng_ BK248 hg); clear BK248; clear HB; have BK248 := n0_; have HB := n1_; have BK249 := n2_; have GW249 := n3_; have GE249 := n4_; have NB248_249 := n5_; have NB249_248 := n6_; clear n0_ n1_ n2_ n3_ n4_ n5_ n6_; clear hb hbox hg; have hnb5 := NB249_248.out; have hnc5 := NB248_249.out; obtain ⟨hcz6_0, hcz6_1, hcz6_2, hcz6_3, hcz6_4, hcz6_5, hcz6_6, hcz6_7, hcz6_8, hcz6_9, hcz6_10, hcz6_11, hcz6_12, hcz6_13, hcz6_14, hcz6_15, hcz6_16⟩ := c17_ BK249; obtain ⟨hfz6_0, hfz6_1, hfz6_2, hfz6_3, hfz6_4, hfz6_5, hfz6_6, hfz6_7, hfz6_8, hfz6_9, hfz6_10, hfz6_11, hfz6_12, hfz6_13, hfz6_14, hfz6_15, hfz6_16⟩ := f17_ BK249) | ((with_reducible refine gate_store (t := 24) (p := 3) rfl ?_); refine store_all ?hg 24 3 _ rfl rfl gb249 ay_ (al_ true z1 z2 z3 z4 z5 z6 z7 z8 z9 za zb zc zd ze zf zg) BK249.out rfl rfl rfl (by kernel_rfl) rfl ?_; (case hg => rfl); intro w7 hw; replace BK248 := Aside0.mk (sf_ BK248 NB248_249 hw); replace BK249 := Aside0.mk (show w7.heap[gb249]? = some (.cells (ag_ true z1 z2 z3 z4 z5 z6 z7 z8 z9 za zb zc zd ze zf zg) 24 (0, 0)) from ss_ BK249 hw); replace HB := Aside0.mk (sb_ hw); clear hw) | ((with_reducible refine gate_dst (N := 7) rfl ?_); refine Kd.R_lit (Kd.int .u8) _ 5 ?hg (N := 7) ?hd (xs := ([0, 0, 0, 0, 0, 0, 0, 0, 0, 0, 255, 255] : List Int)) (inner := [.int .u8 0, .int .u8 0, .int .u8 0, .int .u8 0, .int .u8 0, .int .u8 0, .int .u8 0, .int .u8 0, .int .u8 0, .int .u8 0, .int .u8 255, .int .u8 255]) (ok := fun _ => True) (okp := fun _ => True) ?hr ?hp (fun _ hk => hk) trivial (Below.refl _ _) (Nat.le_refl _) (by simp) ?_; (case hd => rfl); (case hg => rfl); (case hr => first | (go_simp; done) | (go_simp; rfl)); (case hp => exact (Reps.one (show Kd.M (Kd.int .u8) _ _ _ 0 [.int .u8 0] from rfl) (Reps.one (show Kd.M (Kd.int .u8) _ _ _ 0 [.int .u8 0] from rfl) (Reps.one (show Kd.M (Kd.int .u8) _ _ _ 0 [.int .u8 0] from rfl) (Reps.one (show Kd.M (Kd.int .u8) _ _ _ 0 [.int .u8 0] from rfl) (Reps.one (show Kd.M (Kd.int .u8) _ _ _ 0 [.int .u8 0] from rfl) (Reps.one (show Kd.M (Kd.int .u8) _ _ _ 0 [.int .u8 0] from rfl) (Reps.one (show Kd.M (Kd.int .u8) _ _ _ 0 [.int .u8 0] from rfl) (Reps.one (show Kd.M (Kd.int .u8) _ _ _ 0 [.int .u8 0] from rfl) (Reps.one (show Kd.M (Kd.int .u8) _ _ _ 0 [.int .u8 0] from rfl) (Reps.one (show Kd.M (Kd.int .u8) _ _ _ 0 [.int .u8 0] from rfl) (Reps.one (show Kd.M (Kd.int .u8) _ _ _ 255 [.int .u8 255] from rfl) (Reps.one (show Kd.M (Kd.int .u8) _ _ _ 255 [.int .u8 255] from rfl) (Reps.none _ _)))))))))))))); intro v251 w8 ho9 hb hg_ hnew_; clear hg_ hnew_; (first | rw [← Ny250.out] at ho9 | (simp only [Int.reduceToNat] at ho9; rw [← Ny250.out] at ho9)); have HO252 := Aside0.mk (Kd.R_lower ho9 (below_size bg_)); replace BK248 := Aside0.mk (bb_ BK248 hb); replace BK249 := Aside0.mk (bb_ BK249 hb); replace HB := Aside0.mk (below_step bg_ hb); clear hb ho9; obtain ⟨Ao10, co10, eo10⟩ := Kd.R_slice HO252.out; subst eo10; obtain ⟨hcz11_0, hcz11_1, hcz11_2, hcz11_3, hcz11_4, hcz11_5, hcz11_6, hcz11_7, hcz11_8, hcz11_9, hcz11_10, hcz11_11, hcz11_12, hcz11_13, hcz11_14, hcz11_15, hcz11_16⟩ := c17_ BK249; obtain ⟨hfz11_0, hfz11_1, hfz11_2, hfz11_3, hfz11_4, hfz11_5, hfz11_6, hfz11_7, hfz11_8, hfz11_9, hfz11_10, hfz11_11, hfz11_12, hfz11_13, hfz11_14, hfz11_15, hfz11_16⟩ := f17_ BK249) | ((with_reducible refine gate_dst (N := 8) rfl ?_); obtain ⟨vcp_, hcw_⟩ := copy_world (P := Tryd.prog) (dT := 70) (sT := 70) (ty := 3) (c := co10) Tryd.underlying70 (info_size info5) BK249.out .u8 [.bool true] [z1, z2, z3, z4, z5, z6, z7, z8, z9, za, zb, zc, zd, ze, zf, zg] [] rfl 0 12 12 16 (by decide) (by decide) (by show 12 ≤ 16; decide) (by have h_ := HO252.out; first | exact (Kd.R_reads' h_).2.2 | exact (Kd.R_reads' (by (with_reducible repeat (first | apply Kd.R_alloc | apply Kd.R_drewN | apply Kd.R_drew)); exact HO252.out)).2.2) (q := 1) (Or.inl rfl); refine run_ev ?hg (N := 8) ?hd vcp_ (w1 := (w8.setCells gb249 1 ((cpyL 0 12 y250 0 [z1, z2, z3, z4, z5, z6, z7, z8, z9, za, zb, zc, zd, ze, zf, zg]).map (Value.int .u8)))) ?hr ?_; (case hd => rfl); (case hg => rfl); (case hr => first | (go_simp; done) | (go_simp; rw [hcw_]; rfl)); clear hcw_; intro w12 hw; have n0_ : Aside0 (Kd.R (Kd.int .u8) 5 w12 w.heap.size (fun _ => True) (.slice Ao10 y250.length co10) y250) := ⟨(by rw [hw]; exact (by (with_reducible repeat (first | apply Kd.R_alloc | apply Kd.R_drewN | apply Kd.R_drew)); exact Kd.R_mono (R_farC (g := gb249) (fun _ hk => hk.2) (Kd.R_types HO252.out BK249.out (by decide)) ((cpyL 0 12 y250 0 [z1, z2, z3, z4, z5, z6, z7, z8, z9, za, zb, zc, zd, ze, zf, zg]).map (Value.int .u8)) 1) (fun _ hk => trivial)))⟩; have n1_ := Aside0.mk (sf_ BK248 NB248_249 hw); have n2_ : Aside0 (w12.heap[gb249]? = some (.cells (ag_ true (cpy 0 12 0 y250 z1) (cpy 0 12 1 y250 z2) (cpy 0 12 2 y250 z3) (cpy 0 12 3 y250 z4) (cpy 0 12 4 y250 z5) (cpy 0 12 5 y250 z6) (cpy 0 12 6 y250 z7) (cpy 0 12 7 y250 z8) (cpy 0 12 8 y250 z9) (cpy 0 12 9 y250 za) (cpy 0 12 10 y250 zb) (cpy 0 12 11 y250 zc) (cpy 0 12 12 y250 zd) (cpy 0 12 13 y250 ze) (cpy 0 12 14 y250 zf) (cpy 0 12 15 y250 zg)) 24 (0, 0))) := ⟨(by rw [hw]; exact (by (with_reducible repeat (first | refine blk_drewN ?_ _ | refine blk_drew ?_ | refine blk_alloc ?_ _)); refine blk_part ((cpyL 0 12 y250 0 [z1, z2, z3, z4, z5, z6, z7, z8, z9, za, zb, zc, zd, ze, zf, zg]).map (Value.int .u8)) [.int .u8 z1, .int .u8 z2, .int .u8 z3, .int .u8 z4, .int .u8 z5, .int .u8 z6, .int .u8 z7, .int .u8 z8, .int .u8 z9, .int .u8 za, .int .u8 zb, .int .u8 zc, .int .u8 zd, .int .u8 ze, .int .u8 zf, .int .u8 zg] [.bool true] [] (cs := (ag_ true z1 z2 z3 z4 z5 z6 z7 z8 z9 za zb zc zd ze zf zg)) ?_ rfl rfl rfl; (with_reducible repeat (first | refine blk_drewN ?_ _ | refine blk_drew ?_ | refine blk_alloc ?_ _)); exact BK249.out))⟩; have n3_ := Aside0.mk (sb_ hw); clear hw; clear HO252; clear BK248; clear BK249; clear HB; have HO252 := n0_; have BK248 := n1_; have BK249 := n2_; have HB := n3_; clear n0_ n1_ n2_ n3_; obtain ⟨hcz13_0, hcz13_1, hcz13_2, hcz13_3, hcz13_4, hcz13_5, hcz13_6, hcz13_7, hcz13_8, hcz13_9, hcz13_10, hcz13_11, hcz13_12, hcz13_13, hcz13_14, hcz13_15, hcz13_16⟩ := c17_ BK248; obtain ⟨hfz13_0, hfz13_1, hfz13_2, hfz13_3, hfz13_4, hfz13_5, hfz13_6, hfz13_7, hfz13_8, hfz13_9, hfz13_10, hfz13_11, hfz13_12, hfz13_13, hfz13_14, hfz13_15, hfz13_16⟩ := f17_ BK248) | ((with_reducible refine gate_dst (N := 12) rfl ?_); (try (refine gate_guard (by rfl) ?_; dsimp only)); refine load_box ?hg 24 (.tmp 1) rfl BK248.out [] (al_ true z1 z2 z3 z4 z5 z6 z7 z8 z9 za zb zc zd ze zf zg) [] rfl 0 rfl rfl Tryd.underlying24 rfl (by kernel_rfl) ?_; (case hg => rfl)) | ((with_reducible refine gate_dst (N := 13) rfl ?_); (try (refine gate_guard (by rfl) ?_; dsimp only)); refine load_box ?hg 24 (.tmp 3) rfl BK249.out [] (al_ true (cpy 0 12 0 y250 z1) (cpy 0 12 1 y250 z2) (cpy 0 12 2 y250 z3) (cpy 0 12 3 y250 z4) (cpy 0 12 4 y250 z5) (cpy 0 12 5 y250 z6) (cpy 0 12 6 y250 z7) (cpy 0 12 7 y250 z8) (cpy 0 12 8 y250 z9) (cpy 0 12 9 y250 za) (cpy 0 12 10 y250 zb) (cpy 0 12 11 y250 zc) (cpy 0 12 12 y250 zd) (cpy 0 12 13 y250 ze) (cpy 0 12 14 y250 zf) (cpy 0 12 15 y250 zg)) [] rfl 0 rfl rfl Tryd.underlying24 rfl (by kernel_rfl) ?_; (case hg => rfl)))
  go_ret
  exact ⟨rq_, bg_⟩
 ·replace c2 := Bool.eq_false_iff.mpr c2
  subst c2
  replace H := ifF_ H
  obtain rfl := Option.some.inj H
  go_enter Tryd.func41, Tryd.ntmps41
  go_wp2_with (first | ((with_reducible refine gate_dst (N := 1) rfl ?_); refine bx_ 1 (ag_ false z1 z2 z3 z4 z5 z6 z7 z8 z9 za zb zc zd ze zf zg) 24 ?_; intro gb248 hg w14 hbox hb; have BK248 := Aside0.mk (hbox); have GW248 := Aside0.mk (ge_ (w := w) hg); have GE248 := Aside0.mk (ge_ (w := w) hg); replace HB := Aside0.mk (below_step bq_ hb); clear hb hbox hg) | ((with_reducible refine gate_dst (N := 4) rfl ?_); (try (refine gate_guard (by rfl) ?_; dsimp only)); refine load_box ?hg 24 (.tmp 1) rfl BK248.out [] (al_ false z1 z2 z3 z4 z5 z6 z7 z8 z9 za zb zc zd ze zf zg) [] rfl 0 rfl rfl Tryd.underlying24 rfl (by kernel_rfl) ?_; (case hg => rfl)) | ((with_reducible refine gate_dst (N := 3) rfl ?_); refine bx_ 3 az_ 24 ?_; intro gb249 hg w15 hbox hb; have n0_ := Aside0.mk (bb_ BK248 hb); have n1_ := Aside0.mk (below_step bg_ hb); have n2_ := Aside0.mk (hbox); have n3_ := Aside0.mk (gg_ (w := w) hg); have n4_ := Aside0.mk (gg_ (w := w) hg); have n5_ := Aside0.mk (nl_ BK248 hg); have n6_ := Aside0.mk (ng_ BK248 hg); clear BK248; clear HB; have BK248 := n0_; have HB := n1_; have BK249 := n2_; have GW249 := n3_; have GE249 := n4_; have NB248_249 := n5_; have NB249_248 := n6_; clear n0_ n1_ n2_ n3_ n4_ n5_ n6_; clear hb hbox hg; have hnb16 := NB249_248.out; have hnc16 := NB248_249.out; obtain ⟨hcz17_0, hcz17_1, hcz17_2, hcz17_3, hcz17_4, hcz17_5, hcz17_6, hcz17_7, hcz17_8, hcz17_9, hcz17_10, hcz17_11, hcz17_12, hcz17_13, hcz17_14, hcz17_15, hcz17_16⟩ := c17_ BK249; obtain ⟨hfz17_0, hfz17_1, hfz17_2, hfz17_3, hfz17_4, hfz17_5, hfz17_6, hfz17_7, hfz17_8, hfz17_9, hfz17_10, hfz17_11, hfz17_12, hfz17_13, hfz17_14, hfz17_15, hfz17_16⟩ := f17_ BK249) | ((with_reducible refine gate_store (t := 24) (p := 3) rfl ?_); refine store_all ?hg 24 3 _ rfl rfl gb249 ay_ (al_ false z1 z2 z3 z4 z5 z6 z7 z8 z9 za zb zc zd ze zf zg) BK249.out rfl rfl rfl (by kernel_rfl) rfl ?_; (case hg => rfl); intro w18 hw; replace BK248 := Aside0.mk (sf_ BK248 NB248_249 hw); replace BK249 := Aside0.mk (show w18.heap[gb249]? = some (.cells (ag_ false z1 z2 z3 z4 z5 z6 z7 z8 z9 za zb zc zd ze zf zg) 24 (0, 0)) from ss_ BK249 hw); replace HB := Aside0.mk (sb_ hw); clear hw) | ((with_reducible refine gate_dst (N := 7) rfl ?_); refine Kd.R_lit (Kd.int .u8) _ 5 ?hg (N := 7) ?hd (xs := ([0, 0, 0, 0, 0, 0, 0, 0, 0, 0, 255, 255] : List Int)) (inner := [.int .u8 0, .int .u8 0, .int .u8 0, .int .u8 0, .int .u8 0, .int .u8 0, .int .u8 0, .int .u8 0, .int .u8 0, .int .u8 0, .int .u8 255, .int .u8 255]) (ok := fun _ => True) (okp := fun _ => True) ?hr ?hp (fun _ hk => hk) trivial (Below.refl _ _) (Nat.le_refl _) (by simp) ?_; (case hd => rfl); (case hg => rfl); (case hr => first | (go_simp; done) | (go_simp; rfl)); (case hp => exact (Reps.one (show Kd.M (Kd.int .u8) _ _ _ 0 [.int .u8 0] from rfl) (Reps.one (show Kd.M (Kd.int .u8) _ _ _ 0 [.int .u8 0] from rfl) (Reps.one (show Kd.M (Kd.int .u8) _ _ _ 0 [.int .u8 0] from rfl) (Reps.one (show Kd.M (Kd.int .u8) _ _ _ 0 [.int .u8 0] from rfl) (Reps.one (show Kd.M (Kd.int .u8) _ _ _ 0 [.int .u8 0] from rfl) (Reps.one (show Kd.M (Kd.int .u8) _ _ _ 0 [.int .u8 0] from rfl) (Reps.one (show Kd.M (Kd.int .u8) _ _ _ 0 [.int .u8 0] from rfl) (Reps.one (show Kd.M (Kd.int .u8) _ _ _ 0 [.int .u8 0] from rfl) (Reps.one (show Kd.M (Kd.int .u8) _ _ _ 0 [.int .u8 0] from rfl) (Reps.one (show Kd.M (Kd.int .u8) _ _ _ 0 [.int .u8 0] from rfl) (Reps.one (show Kd.M (Kd.int .u8) _ _ _ 255 [.int .u8 255] from rfl) (Reps.one (show Kd.M (Kd.int .u8) _ _ _ 255 [.int .u8 255] from rfl) (Reps.none _ _)))))))))))))); intro v251 w19 ho20 hb hg_ hnew_; clear hg_ hnew_; (first | rw [← Ny250.out] at ho20 | (simp only [Int.reduceToNat] at ho20; rw [← Ny250.out] at ho20)); have HO252 := Aside0.mk (Kd.R_lower ho20 (below_size bg_)); replace BK248 := Aside0.mk (bb_ BK248 hb); replace BK249 := Aside0.mk (bb_ BK249 hb); replace HB := Aside0.mk (below_step bg_ hb); clear hb ho20; obtain ⟨Ao21, co21, eo21⟩ := Kd.R_slice HO252.out; subst eo21; obtain ⟨hcz22_0, hcz22_1, hcz22_2, hcz22_3, hcz22_4, hcz22_5, hcz22_6, hcz22_7, hcz22_8, hcz22_9, hcz22_10, hcz22_11, hcz22_12, hcz22_13, hcz22_14, hcz22_15, hcz22_16⟩ := c17_ BK249; obtain ⟨hfz22_0, hfz22_1, hfz22_2, hfz22_3, hfz22_4, hfz22_5, hfz22_6, hfz22_7, hfz22_8, hfz22_9, hfz22_10, hfz22_11, hfz22_12, hfz22_13, hfz22_14, hfz22_15, hfz22_16⟩ := f17_ BK249) | ((with_reducible refine gate_dst (N := 8) rfl ?_); obtain ⟨vcp_, hcw_⟩ := copy_world (P := Tryd.prog) (dT := 70) (sT := 70) (ty := 3) (c := co21) Tryd.underlying70 (info_size info5) BK249.out .u8 [.bool false] [z1, z2, z3, z4, z5, z6, z7, z8, z9, za, zb, zc, zd, ze, zf, zg] [] rfl 0 12 12 16 (by decide) (by decide) (by show 12 ≤ 16; decide) (by have h_ := HO252.out; first | exact (Kd.R_reads' h_).2.2 | exact (Kd.R_reads' (by (with_reducible repeat (first | apply Kd.R_alloc | apply Kd.R_drewN | apply Kd.R_drew)); exact HO252.out)).2.2) (q := 1) (Or.inl rfl); refine run_ev ?hg (N := 8) ?hd vcp_ (w1 := (w19.setCells gb249 1 ((cpyL 0 12 y250 0 [z1, z2, z3, z4, z5, z6, z7, z8, z9, za, zb, zc, zd, ze, zf, zg]).map (Value.int .u8)))) ?hr ?_; (case hd => rfl); (case hg => rfl); (case hr => first | (go_simp; done) | (go_simp; rw [hcw_]; rfl)); clear hcw_; intro w23 hw; have n0_ : Aside0 (Kd.R (Kd.int .u8) 5 w23 w.heap.size (fun _ => True) (.slice Ao21 y250.length co21) y250) := ⟨(by rw [hw]; exact (by (with_reducible repeat (first | apply Kd.R_alloc | apply Kd.R_drewN | apply Kd.R_drew)); exact Kd.R_mono (R_farC (g := gb249) (fun _ hk => hk.2) (Kd.R_types HO252.out BK249.out (by decide)) ((cpyL 0 12 y250 0 [z1, z2, z3, z4, z5, z6, z7, z8, z9, za, zb, zc, zd, ze, zf, zg]).map (Value.int .u8)) 1) (fun _ hk => trivial)))⟩; have n1_ := Aside0.mk (sf_ BK248 NB248_249 hw); have n2_ : Aside0 (w23.heap[gb249]? = some (.cells (ag_ false (cpy 0 12 0 y250 z1) (cpy 0 12 1 y250 z2) (cpy 0 12 2 y250 z3) (cpy 0 12 3 y250 z4) (cpy 0 12 4 y250 z5) (cpy 0 12 5 y250 z6) (cpy 0 12 6 y250 z7) (cpy 0 12 7 y250 z8) (cpy 0 12 8 y250 z9) (cpy 0 12 9 y250 za) (cpy 0 12 10 y250 zb) (cpy 0 12 11 y250 zc) (cpy 0 12 12 y250 zd) (cpy 0 12 13 y250 ze) (cpy 0 12 14 y250 zf) (cpy 0 12 15 y250 zg)) 24 (0, 0))) := ⟨(by rw [hw]; exact (by (with_reducible repeat (first | refine blk_drewN ?_ _ | refine blk_drew ?_ | refine blk_alloc ?_ _)); refine blk_part ((cpyL 0 12 y250 0 [z1, z2, z3, z4, z5, z6, z7, z8, z9, za, zb, zc, zd, ze, zf, zg]).map (Value.int .u8)) [.int .u8 z1, .int .u8 z2, .int .u8 z3, .int .u8 z4, .int .u8 z5, .int .u8 z6, .int .u8 z7, .int .u8 z8, .int .u8 z9, .int .u8 za, .int .u8 zb, .int .u8 zc, .int .u8 zd, .int .u8 ze, .int .u8 zf, .int .u8 zg] [.bool false] [] (cs := (ag_ false z1 z2 z3 z4 z5 z6 z7 z8 z9 za zb zc zd ze zf zg)) ?_ rfl rfl rfl; (with_reducible repeat (first | refine blk_drewN ?_ _ | refine blk_drew ?_ | refine blk_alloc ?_ _)); exact BK249.out))⟩; have n3_ := Aside0.mk (sb_ hw); clear hw; clear HO252; clear BK248; clear BK249; clear HB; have HO252 := n0_; have BK248 := n1_; have BK249 := n2_; have HB := n3_; clear n0_ n1_ n2_ n3_; obtain ⟨hcz24_0, hcz24_1, hcz24_2, hcz24_3, hcz24_4, hcz24_5, hcz24_6, hcz24_7, hcz24_8, hcz24_9, hcz24_10, hcz24_11, hcz24_12, hcz24_13, hcz24_14, hcz24_15, hcz24_16⟩ := c17_ BK248; obtain ⟨hfz24_0, hfz24_1, hfz24_2, hfz24_3, hfz24_4, hfz24_5, hfz24_6, hfz24_7, hfz24_8, hfz24_9, hfz24_10, hfz24_11, hfz24_12, hfz24_13, hfz24_14, hfz24_15, hfz24_16⟩ := f17_ BK248))
  go_ret
  exact ⟨rq_, bg_⟩

def ip_last.f (l0 : List Int) : Option (Bool × Int × Int × Int × Int × Int × Int × Int × Int × Int × Int × Int × Int × Int × Int × Int × Int) := if 0 < (l0.length : Int) then (if 1 < (l0.length : Int) then (if 2 < (l0.length : Int) then (if 3 < (l0.length : Int) then ((ip_V4.f (rd l0 0) (rd l0 1) (rd l0 2) (rd l0 3)).bind fun bt258 => (some (bt258.1, bt258.2.1, bt258.2.2.1, bt258.2.2.2.1, bt258.2.2.2.2.1, bt258.2.2.2.2.2.1, bt258.2.2.2.2.2.2.1, bt258.2.2.2.2.2.2.2.1, bt258.2.2.2.2.2.2.2.2.1, bt258.2.2.2.2.2.2.2.2.2.1, bt258.2.2.2.2.2.2.2.2.2.2.1, bt258.2.2.2.2.2.2.2.2.2.2.2.1, bt258.2.2.2.2.2.2.2.2.2.2.2.2.1, bt258.2.2.2.2.2.2.2.2.2.2.2.2.2.1, bt258.2.2.2.2.2.2.2.2.2.2.2.2.2.2.1, bt258.2.2.2.2.2.2.2.2.2.2.2.2.2.2.2.1, bt258.2.2.2.2.2.2.2.2.2.2.2.2.2.2.2.2))) else (none)) else (none)) else (none)) else (none)
def ip_last.T1 : Bool × List (List Nat × List Nat) := (true, [([], []), ([0], [0]), ([1], [1]), ([], []), ([3], [3]), ([4], [4]), ([], []), ([6], [6]), ([7], [7]), ([], []), ([9], [9]), ([10], [10]), ([2, 5, 8, 11], [2, 5, 8, 11]), ([12, 12, 0, 1, 2, 3, 4, 5, 6, 7, 8, 9, 10, 11, 12], [12])])
def ip_last.B1 : List Nat := [0, 1, 3, 0, 8, 24, 0, 64, 192, 0, 512, 1536, 4095, 8191]
theorem ip_last.tab1 : rtab .any (opsOf Tryd.f42 1) = ip_last.T1 := by kernel_rfl
theorem ip_last.bits1 : waitsOk ip_last.T1.2 ip_last.B1 = true := by kernel_rfl
set_option maxHeartbeats 8000000 in
set_option maxRecDepth 100000 in
theorem ip_last.calls (A0 : Option Addr) (c0 : Nat) (l0 : List Int) (r1 : Bool) (r2 : Int) (r3 : Int) (r4 : Int) (r5 : Int) (r6 : Int) (r7 : Int) (r8 : Int) (r9 : Int) (r10 : Int) (r11 : Int) (r12 : Int) (r13 : Int) (r14 : Int) (r15 : Int) (r16 : Int) (r17 : Int) (w : World) (hLW : LW w) (hr0 : Kd.C (Kd.int .u8) w A0 l0.length l0) (hc0 : l0.length ≤ c0) (h : ip_last.f l0 = some (r1, r2, r3, r4, r5, r6, r7, r8, r9, r10, r11, r12, r13, r14, r15, r16, r17)) :
  Calls Tryd.prog 42 #[.slice A0 l0.length c0] w fun e w' => e = .returned (.agg (ag_ r1 r2 r3 r4 r5 r6 r7 r8 r9 r10 r11 r12 r13 r14 r15 r16 r17)) ∧ Below w.heap.size w w' := by
 have hu24 := Tryd.underlying24
 have HLW := Aside0.mk hLW
 clear hLW
 have HR0 := Aside0.mk hr0
 have HC0 := Aside0.mk hc0
 clear hr0 hc0
 have HB := Aside0.mk (Below.refl w.heap.size w)
 have H := h
 unfold ip_last.f at H
 clear h
 by_cases c2 : 0 < (l0.length : Int)
 ·rw [if_pos c2] at H
  have c2b0 := decide_eq_true c2
  have c2b1 : decide (0 < l0.length) = true := decide_eq_true (by omega)
  clear c2
  by_cases c3 : 1 < (l0.length : Int)
  ·rw [if_pos c3] at H
   have c3b0 := decide_eq_true c3
   have c3b1 : decide (1 < l0.length) = true := decide_eq_true (by omega)
   clear c3
   by_cases c4 : 2 < (l0.length : Int)
   ·rw [if_pos c4] at H
    have c4b0 := decide_eq_true c4
    have c4b1 : decide (2 < l0.length) = true := decide_eq_true (by omega)
    clear c4
    by_cases c5 : 3 < (l0.length : Int)
    ·rw [if_pos c5] at H
     have c5b0 := decide_eq_true c5
     have c5b1 : decide (3 < l0.length) = true := decide_eq_true (by omega)
     clear c5
     replace H := Option.bind_eq_some_iff.mp H
     obtain ⟨⟨t258, t259, t260, t261, t262, t263, t264, t265, t266, t267, t268, t269, t270, t271, t272, t273, t274⟩, A60, H⟩ := H
     (try dsimp only at H)
     have A6 := Aside0.mk A60
     clear A60
     simp only [Option.some.injEq, Prod.mk.injEq] at H
     obtain ⟨rfl, rfl, rfl, rfl, rfl, rfl, rfl, rfl, rfl, rfl, rfl, rfl, rfl, rfl, rfl, rfl, rfl⟩ := H
     go_enter Tryd.func42, Tryd.ntmps42
     try go_wp2_with (first | ((with_reducible refine gate_dst (N := 2) rfl ?_); refine bx_ 2 az_ 24 ?_; intro gb253 hg w7 hbox hb; have BK253 := Aside0.mk (hbox); have GW253 := Aside0.mk (ge_ (w := w) hg); have GE253 := Aside0.mk (ge_ (w := w) hg); replace HB := Aside0.mk (below_step bq_ hb); clear hb hbox hg))
     replace BK253 := Aside0.mk (blk_drew BK253.out)
     replace HB := Aside0.mk (below_drew1 HB.out)
     have p254 : 0 ≤ (0 : Int) := (by omega)
     have q254 : 0 < (l0.length : Int) := of_decide_eq_true as_
     obtain ⟨ad254, e254, hx254_0⟩ := Kd.at_int HR0.out 0 p254 q254
     have hw254_0 := hx254_0
     (try rw [show ((0 : Int)).toNat = 0 from rfl] at hw254_0)
     (try rw [show 0 * 1 = 0 from rfl] at hw254_0)
     (try rw [Addr.add_zero'] at hw254_0)
     cases e254
     have qi254 : (0 < l0.length) = True := eq_true (by omega)
     (try rw [show ((0 : Int)).toNat = 0 from rfl] at hx254_0)
     (try rw [Addr.add_zero'] at hx254_0)
     replace hx254_0 := (HB.out.cell (World.block_lt_of_cell? w _ hx254_0)).trans hx254_0
     replace p254 := eq_true p254
     replace q254 := eq_true q254
     have p255 : 0 ≤ (1 : Int) := (by omega)
     have q255 : 1 < (l0.length : Int) := of_decide_eq_true as_
     obtain ⟨ad255, e255, hx255_0⟩ := Kd.at_int HR0.out 1 p255 q255
     have hw255_0 := hx255_0
     (try rw [show ((1 : Int)).toNat = 1 from rfl] at hw255_0)
     (try rw [show 1 * 1 = 1 from rfl] at hw255_0)
     (try simp only [Nat.reduceMul, Nat.reduceEqDiff, Go.Addr.add, ↓reduceIte] at hw255_0)
     obtain rfl : ad254 = ad255 := (by injection e255)
     (try simp only [show (1 : Int).toNat = 1 from rfl, Nat.reduceMul, Nat.reduceEqDiff, Go.Addr.add, ↓reduceIte] at hx255_0)
     have qi255 : (1 < l0.length) = True := eq_true (by omega)
     (try rw [show ((1 : Int)).toNat = 1 from rfl] at hx255_0)
     replace hx255_0 := (HB.out.cell (World.block_lt_of_cell? w _ hx255_0)).trans hx255_0
     replace p255 := eq_true p255
     replace q255 := eq_true q255
     have p256 : 0 ≤ (2 : Int) := (by omega)
     have q256 : 2 < (l0.length : Int) := of_decide_eq_true as_
     obtain ⟨ad256, e256, hx256_0⟩ := Kd.at_int HR0.out 2 p256 q256
     have hw256_0 := hx256_0
     (try rw [show ((2 : Int)).toNat = 2 from rfl] at hw256_0)
     (try rw [show 2 * 1 = 2 from rfl] at hw256_0)
     (try simp only [Nat.reduceMul, Nat.reduceEqDiff, Go.Addr.add, ↓reduceIte] at hw256_0)
     obtain rfl : ad254 = ad256 := (by injection e256)
     (try simp only [show (2 : Int).toNat = 2 from rfl, Nat.reduceMul, Nat.reduceEqDiff, Go.Addr.add, ↓reduceIte] at hx256_0)
     have qi256 : (2 < l0.length) = True := eq_true (by omega)
     (try rw [show ((2 : Int)).toNat = 2 from rfl] at hx256_0)
     replace hx256_0 := (HB.out.cell (World.block_lt_of_cell? w _ hx256_0)).trans hx256_0
     replace p256 := eq_true p256
     replace q256 := eq_true q256
     have p257 : 0 ≤ (3 : Int) := (by omega)
     have q257 : 3 < (l0.length : Int) := of_decide_eq_true as_
     obtain ⟨ad257, e257, hx257_0⟩ := Kd.at_int HR0.out 3 p257 q257
     have hw257_0 := hx257_0
     (try rw [show ((3 : Int)).toNat = 3 from rfl] at hw257_0)
     (try rw [show 3 * 1 = 3 from rfl] at hw257_0)
     (try simp only [Nat.reduceMul, Nat.reduceEqDiff, Go.Addr.add, ↓reduceIte] at hw257_0)
     obtain rfl : ad254 = ad257 := (by injection e257)
     (try simp only [show (3 : Int).toNat = 3 from rfl, Nat.reduceMul, Nat.reduceEqDiff, Go.Addr.add, ↓reduceIte] at hx257_0)
     have qi257 : (3 < l0.length) = True := eq_true (by omega)
     (try rw [show ((3 : Int)).toNat = 3 from rfl] at hx257_0)
     replace hx257_0 := (HB.out.cell (World.block_lt_of_cell? w _ hx257_0)).trans hx257_0
     replace p257 := eq_true p257
     replace q257 := eq_true q257
     refine start_ (n := 14) (S := fun w' => w'.cell? ad254 = some (.int .u8 (rd l0 0)) ∧ w'.cell? ⟨ad254.block, ad254.off + 1, none⟩ = some (.int .u8 (rd l0 1)) ∧ w'.cell? ⟨ad254.block, ad254.off + 2, none⟩ = some (.int .u8 (rd l0 2)) ∧ w'.cell? ⟨ad254.block, ad254.off + 3, none⟩ = some (.int .u8 (rd l0 3))) (ds := []) (bv_ 0 14) (by kernel_rfl) rfl rfl ⟨((HB.out.cell (World.block_lt_of_cell? w _ hw254_0)).trans hw254_0), ((HB.out.cell (World.block_lt_of_cell? w _ hw255_0)).trans hw255_0), ((HB.out.cell (World.block_lt_of_cell? w _ hw256_0)).trans hw256_0), ((HB.out.cell (World.block_lt_of_cell? w _ hw257_0)).trans hw257_0)⟩ (fun hHeld => ?_); refine with_tabW ip_last.tab1 ip_last.bits1 (fun HT_ HW_ => ?_)
     generalize w7.drew = w8 at BK253 HB hx254_0 hx255_0 hx256_0 hx257_0 hHeld ⊢
     refine pl_ 0 3 ?_ 1 13 HT_ ?_ ?_ ?_ ?_
     rotate_left
     ·intro w'
      go_simp
      with_reducible rfl
     rotate_left
     ·simp only [Act.put, sa_, s0_, s1_, i64_w, i32_w]
      rfl
     refine pl_ 1 4 ?_ 2 12 HT_ ?_ ?_ ?_ ?_
     rotate_left
     ·intro w'
      go_simp
      with_reducible rfl
     rotate_left
     ·simp only [Act.put, sa_, s0_, s1_, i64_w, i32_w]
      rfl
     refine pure_ (i := 3) (N := some 6) (v := ?_) (a' := ?_) #[true, true, false, true, false, false, false, false, false, false, false, false, false, false] rfl rfl (any_of HT_.out (by kernel_rfl)) (fun _ _ _ h => h) (Or.inl ⟨by rfl, ?_⟩) ?_ ?_
     rotate_left
     ·intro w'
      go_simp
      with_reducible rfl
     rotate_left
     ·simp only [Act.put, sa_, s0_, s1_, i64_w, i32_w]
      rfl
     refine pure_ (i := 4) (N := some 7) (v := ?_) (a' := ?_) #[true, true, false, true, true, false, false, false, false, false, false, false, false, false] rfl rfl (any_of HT_.out (by kernel_rfl)) (fun _ _ _ h => h) (Or.inl ⟨by rfl, ?_⟩) ?_ ?_
     rotate_left
     ·intro w'
      go_simp
      with_reducible rfl
     rotate_left
     ·simp only [Act.put, sa_, s0_, s1_, i64_w, i32_w]
      rfl
     refine pure_ (i := 6) (N := some 9) (v := ?_) (a' := ?_) #[true, true, false, true, true, false, true, false, false, false, false, false, false, false] rfl rfl (any_of HT_.out (by kernel_rfl)) (fun _ _ _ h => h) (Or.inl ⟨by rfl, ?_⟩) ?_ ?_
     rotate_left
     ·intro w'
      go_simp
      with_reducible rfl
     rotate_left
     ·simp only [Act.put, sa_, s0_, s1_, i64_w, i32_w]
      rfl
     refine pure_ (i := 7) (N := some 10) (v := ?_) (a' := ?_) #[true, true, false, true, true, false, true, true, false, false, false, false, false, false] rfl rfl (any_of HT_.out (by kernel_rfl)) (fun _ _ _ h => h) (Or.inl ⟨by rfl, ?_⟩) ?_ ?_
     rotate_left
     ·intro w'
      go_simp
      with_reducible rfl
     rotate_left
     ·simp only [Act.put, sa_, s0_, s1_, i64_w, i32_w]
      rfl
     refine pure_ (i := 9) (N := some 12) (v := ?_) (a' := ?_) #[true, true, false, true, true, false, true, true, false, true, false, false, false, false] rfl rfl (any_of HT_.out (by kernel_rfl)) (fun _ _ _ h => h) (Or.inl ⟨by rfl, ?_⟩) ?_ ?_
     rotate_left
     ·intro w'
      go_simp
      with_reducible rfl
     rotate_left
     ·simp only [Act.put, sa_, s0_, s1_, i64_w, i32_w]
      rfl
     refine pure_ (i := 10) (N := some 13) (v := ?_) (a' := ?_) #[true, true, false, true, true, false, true, true, false, true, true, false, false, false] rfl rfl (any_of HT_.out (by kernel_rfl)) (fun _ _ _ h => h) (Or.inl ⟨by rfl, ?_⟩) ?_ ?_
     rotate_left
     ·intro w'
      go_simp
      with_reducible rfl
     rotate_left
     ·simp only [Act.put, sa_, s0_, s1_, i64_w, i32_w]
      rfl
     refine take_ (i := 2) (N := some 5) (v := ?_) (a' := ?_) #[true, true, true, true, true, false, true, true, false, true, true, false, false, false] rfl rfl (take_ofW HT_.out HW_.out (by kernel_rfl)) (fun _ _ _ h => h) (Or.inl ⟨by rfl, ?_⟩) hHeld ?_ ?_
     rotate_left
     ·rintro w' ⟨s0, s1, s2, s3⟩
      go_simp
      with_reducible rfl
     rotate_left
     ·simp only [Act.put, sa_, s0_, s1_, i64_w, i32_w]
      rfl
     refine take_ (i := 5) (N := some 8) (v := ?_) (a' := ?_) #[true, true, true, true, true, true, true, true, false, true, true, false, false, false] rfl rfl (take_ofW HT_.out HW_.out (by kernel_rfl)) (fun _ _ _ h => h) (Or.inl ⟨by rfl, ?_⟩) hHeld ?_ ?_
     rotate_left
     ·rintro w' ⟨s0, s1, s2, s3⟩
      go_simp
      with_reducible rfl
     rotate_left
     ·simp only [Act.put, sa_, s0_, s1_, i64_w, i32_w]
      rfl
     refine tl_ 8 11 ?_ 11 3 HT_ HW_ ?_ hHeld ?_ ?_ ?_
     rotate_left
     ·rintro w' ⟨s0, s1, s2, s3⟩
      go_simp
      with_reducible rfl
     rotate_left
     ·simp only [Act.put, sa_, s0_, s1_, i64_w, i32_w]
      rfl
     refine tl_ 11 14 ?_ 12 2 HT_ HW_ ?_ hHeld ?_ ?_ ?_
     rotate_left
     ·rintro w' ⟨s0, s1, s2, s3⟩
      go_simp
      with_reducible rfl
     rotate_left
     ·simp only [Act.put, sa_, s0_, s1_, i64_w, i32_w]
      rfl
     refine one_ (i := 12) (N := some 15) (bv_ 13 1) rfl rfl (one_of HT_.out (by kernel_rfl)) (by decide) (fun K hK => ?_)
     refine goes_ Tryd.func38 (by kernel_rfl) rfl #[.int .u8 (rd l0 0), .int .u8 (rd l0 1), .int .u8 (rd l0 2), .int .u8 (rd l0 3)] (by rfl) rfl rfl lq_ ?_
     with_reducible refine (ip_V4.calls (rd l0 0) (rd l0 1) (rd l0 2) (rd l0 3) t258 t259 t260 t261 t262 t263 t264 t265 t266 t267 t268 t269 t270 t271 t272 t273 t274 _ ?side1 A6.out).mono ?_
     (case side1 => exact lg_)
     rintro e w9 ⟨rfl, hb⟩
     refine ⟨_, rfl, ?_⟩
     replace BK253 := Aside0.mk (bb_ BK253 hb)
     replace HB := Aside0.mk (below_step bg_ hb)
     (try clear hb)
     (try clear hb2)
     (try clear hk)
     (try clear hi)
     refine hK.out _ _ ⟨((HB.out.cell (World.block_lt_of_cell? w _ hw254_0)).trans hw254_0), ((HB.out.cell (World.block_lt_of_cell? w _ hw255_0)).trans hw255_0), ((HB.out.cell (World.block_lt_of_cell? w _ hw256_0)).trans hw256_0), ((HB.out.cell (World.block_lt_of_cell? w _ hw257_0)).trans hw257_0)⟩ (fun hHeld => ?_)
     clear hK K
     refine norm_ (a' := ?_) ?_ ?_
     rotate_left
     ·show Act.put _ (some 15) _ = _
      simp only [Act.put, sa_, s0_, s1_, i64_w, i32_w]
      rfl
     refine one_ (i := 13) (N := none) (bv_ 14 0) rfl rfl (one_of HT_.out (by kernel_rfl)) (by decide) (fun K hK => ?_)
     have hs10 : w9.cell? ⟨gb253, 0, none⟩ = some (.bool false) := (blk_cell BK253.out 0).trans rfl
     have hfs10 := bf_ BK253 0
     have hs11 : w9.cell? ⟨gb253, 1, none⟩ = some (.int .u8 0) := (blk_cell BK253.out 1).trans rfl
     have hfs11 := bf_ BK253 1
     have hs12 : w9.cell? ⟨gb253, 2, none⟩ = some (.int .u8 0) := (blk_cell BK253.out 2).trans rfl
     have hfs12 := bf_ BK253 2
     have hs13 : w9.cell? ⟨gb253, 3, none⟩ = some (.int .u8 0) := (blk_cell BK253.out 3).trans rfl
     have hfs13 := bf_ BK253 3
     have hs14 : w9.cell? ⟨gb253, 4, none⟩ = some (.int .u8 0) := (blk_cell BK253.out 4).trans rfl
     have hfs14 := bf_ BK253 4
     have hs15 : w9.cell? ⟨gb253, 5, none⟩ = some (.int .u8 0) := (blk_cell BK253.out 5).trans rfl
     have hfs15 := bf_ BK253 5
     have hs16 : w9.cell? ⟨gb253, 6, none⟩ = some (.int .u8 0) := (blk_cell BK253.out 6).trans rfl
     have hfs16 := bf_ BK253 6
     have hs17 : w9.cell? ⟨gb253, 7, none⟩ = some (.int .u8 0) := (blk_cell BK253.out 7).trans rfl
     have hfs17 := bf_ BK253 7
     have hs18 : w9.cell? ⟨gb253, 8, none⟩ = some (.int .u8 0) := (blk_cell BK253.out 8).trans rfl
     have hfs18 := bf_ BK253 8
     have hs19 : w9.cell? ⟨gb253, 9, none⟩ = some (.int .u8 0) := (blk_cell BK253.out 9).trans rfl
     have hfs19 := bf_ BK253 9
     have hs20 : w9.cell? ⟨gb253, 10, none⟩ = some (.int .u8 0) := (blk_cell BK253.out 10).trans rfl
     have hfs20 := bf_ BK253 10
     have hs21 : w9.cell? ⟨gb253, 11, none⟩ = some (.int .u8 0) := (blk_cell BK253.out 11).trans rfl
     have hfs21 := bf_ BK253 11
     have hs22 : w9.cell? ⟨gb253, 12, none⟩ = some (.int .u8 0) := (blk_cell BK253.out 12).trans rfl
     have hfs22 := bf_ BK253 12
     have hs23 : w9.cell? ⟨gb253, 13, none⟩ = some (.int .u8 0) := (blk_cell BK253.out 13).trans rfl
     have hfs23 := bf_ BK253 13
     have hs24 : w9.cell? ⟨gb253, 14, none⟩ = some (.int .u8 0) := (blk_cell BK253.out 14).trans rfl
     have hfs24 := bf_ BK253 14
     have hs25 : w9.cell? ⟨gb253, 15, none⟩ = some (.int .u8 0) := (blk_cell BK253.out 15).trans rfl
     have hfs25 := bf_ BK253 15
     have hs26 : w9.cell? ⟨gb253, 16, none⟩ = some (.int .u8 0) := (blk_cell BK253.out 16).trans rfl
     have hfs26 := bf_ BK253 16
     refine skip_ (w1 := ?_) (by rfl) rfl ?_ ?_
     rotate_left
     ·go_simp
      rfl
     refine hK.out _ _ ⟨((cell_far (p := ⟨gb253, _, none⟩) (by exact nf_ hw254_0 GW253.out) _).trans (((cell_far (p := ⟨gb253, _, none⟩) (by exact nf_ hw254_0 GW253.out) _).trans (((cell_far (p := ⟨gb253, _, none⟩) (by exact nf_ hw254_0 GW253.out) _).trans (((cell_far (p := ⟨gb253, _, none⟩) (by exact nf_ hw254_0 GW253.out) _).trans (((cell_far (p := ⟨gb253, _, none⟩) (by exact nf_ hw254_0 GW253.out) _).trans (((cell_far (p := ⟨gb253, _, none⟩) (by exact nf_ hw254_0 GW253.out) _).trans (((cell_far (p := ⟨gb253, _, none⟩) (by exact nf_ hw254_0 GW253.out) _).trans (((cell_far (p := ⟨gb253, _, none⟩) (by exact nf_ hw254_0 GW253.out) _).trans (((cell_far (p := ⟨gb253, _, none⟩) (by exact nf_ hw254_0 GW253.out) _).trans (((cell_far (p := ⟨gb253, _, none⟩) (by exact nf_ hw254_0 GW253.out) _).trans (((cell_far (p := ⟨gb253, _, none⟩) (by exact nf_ hw254_0 GW253.out) _).trans (((cell_far (p := ⟨gb253, _, none⟩) (by exact nf_ hw254_0 GW253.out) _).trans (((cell_far (p := ⟨gb253, _, none⟩) (by exact nf_ hw254_0 GW253.out) _).trans (((cell_far (p := ⟨gb253, _, none⟩) (by exact nf_ hw254_0 GW253.out) _).trans (((cell_far (p := ⟨gb253, _, none⟩) (by exact nf_ hw254_0 GW253.out) _).trans (((cell_far (p := ⟨gb253, _, none⟩) (by exact nf_ hw254_0 GW253.out) _).trans (((cell_far (p := ⟨gb253, _, none⟩) (by exact nf_ hw254_0 GW253.out) _).trans (hHeld.1)))))))))))))))))))))))))))))))))), ((cell_far (p := ⟨gb253, _, none⟩) (by exact nf_ hw255_0 GW253.out) _).trans (((cell_far (p := ⟨gb253, _, none⟩) (by exact nf_ hw255_0 GW253.out) _).trans (((cell_far (p := ⟨gb253, _, none⟩) (by exact nf_ hw255_0 GW253.out) _).trans (((cell_far (p := ⟨gb253, _, none⟩) (by exact nf_ hw255_0 GW253.out) _).trans (((cell_far (p := ⟨gb253, _, none⟩) (by exact nf_ hw255_0 GW253.out) _).trans (((cell_far (p := ⟨gb253, _, none⟩) (by exact nf_ hw255_0 GW253.out) _).trans (((cell_far (p := ⟨gb253, _, none⟩) (by exact nf_ hw255_0 GW253.out) _).trans (((cell_far (p := ⟨gb253, _, none⟩) (by exact nf_ hw255_0 GW253.out) _).trans (((cell_far (p := ⟨gb253, _, none⟩) (by exact nf_ hw255_0 GW253.out) _).trans (((cell_far (p := ⟨gb253, _, none⟩) (by exact nf_ hw255_0 GW253.out) _).trans (((cell_far (p := ⟨gb253, _, none⟩) (by exact nf_ hw255_0 GW253.out) _).trans (((cell_far (p := ⟨gb253, _, none⟩) (by exact nf_ hw255_0 GW253.out) _).trans (((cell_far (p := ⟨gb253, _, none⟩) (by exact nf_ hw255_0 GW253.out) _).trans (((cell_far (p := ⟨gb253, _, none⟩) (by exact nf_ hw255_0 GW253.out) _).trans (((cell_far (p := ⟨gb253, _, none⟩) (by exact nf_ hw255_0 GW253.out) _).trans (((cell_far (p := ⟨gb253, _, none⟩) (by exact nf_ hw255_0 GW253.out) _).trans (((cell_far (p := ⟨gb253, _, none⟩) (by exact nf_ hw255_0 GW253.out) _).trans (hHeld.2.1)))))))))))))))))))))))))))))))))), ((cell_far (p := ⟨gb253, _, none⟩) (by exact nf_ hw256_0 GW253.out) _).trans (((cell_far (p := ⟨gb253, _, none⟩) (by exact nf_ hw256_0 GW253.out) _).trans (((cell_far (p := ⟨gb253, _, none⟩) (by exact nf_ hw256_0 GW253.out) _).trans (((cell_far (p := ⟨gb253, _, none⟩) (by exact nf_ hw256_0 GW253.out) _).trans (((cell_far (p := ⟨gb253, _, none⟩) (by exact nf_ hw256_0 GW253.out) _).trans (((cell_far (p := ⟨gb253, _, none⟩) (by exact nf_ hw256_0 GW253.out) _).trans (((cell_far (p := ⟨gb253, _, none⟩) (by exact nf_ hw256_0 GW253.out) _).trans (((cell_far (p := ⟨gb253, _, none⟩) (by exact nf_ hw256_0 GW253.out) _).trans (((cell_far (p := ⟨gb253, _, none⟩) (by exact nf_ hw256_0 GW253.out) _).trans (((cell_far (p := ⟨gb253, _, none⟩) (by exact nf_ hw256_0 GW253.out) _).trans (((cell_far (p := ⟨gb253, _, none⟩) (by exact nf_ hw256_0 GW253.out) _).trans (((cell_far (p := ⟨gb253, _, none⟩) (by exact nf_ hw256_0 GW253.out) _).trans (((cell_far (p := ⟨gb253, _, none⟩) (by exact nf_ hw256_0 GW253.out) _).trans (((cell_far (p := ⟨gb253, _, none⟩) (by exact nf_ hw256_0 GW253.out) _).trans (((cell_far (p := ⟨gb253, _, none⟩) (by exact nf_ hw256_0 GW253.out) _).trans (((cell_far (p := ⟨gb253, _, none⟩) (by exact nf_ hw256_0 GW253.out) _).trans (((cell_far (p := ⟨gb253, _, none⟩) (by exact nf_ hw256_0 GW253.out) _).trans (hHeld.2.2.1)))))))))))))))))))))))))))))))))), ((cell_far (p := ⟨gb253, _, none⟩) (by exact nf_ hw257_0 GW253.out) _).trans (((cell_far (p := ⟨gb253, _, none⟩) (by exact nf_ hw257_0 GW253.out) _).trans (((cell_far (p := ⟨gb253, _, none⟩) (by exact nf_ hw257_0 GW253.out) _).trans (((cell_far (p := ⟨gb253, _, none⟩) (by exact nf_ hw257_0 GW253.out) _).trans (((cell_far (p := ⟨gb253, _, none⟩) (by exact nf_ hw257_0 GW253.out) _).trans (((cell_far (p := ⟨gb253, _, none⟩) (by exact nf_ hw257_0 GW253.out) _).trans (((cell_far (p := ⟨gb253, _, none⟩) (by exact nf_ hw257_0 GW253.out) _).trans (((cell_far (p := ⟨gb253, _, none⟩) (by exact nf_ hw257_0 GW253.out) _).trans (((cell_far (p := ⟨gb253, _, none⟩) (by exact nf_ hw257_0 GW253.out) _).trans (((cell_far (p := ⟨gb253, _, none⟩) (by exact nf_ hw257_0 GW253.out) _).trans (((cell_far (p := ⟨gb253, _, none⟩) (by exact nf_ hw257_0 GW253.out) _).trans (((cell_far (p := ⟨gb253, _, none⟩) (by exact nf_ hw257_0 GW253.out) _).trans (((cell_far (p := ⟨gb253, _, none⟩) (by exact nf_ hw257_0 GW253.out) _).trans (((cell_far (p := ⟨gb253, _, none⟩) (by exact nf_ hw257_0 GW253.out) _).trans (((cell_far (p := ⟨gb253, _, none⟩) (by exact nf_ hw257_0 GW253.out) _).trans (((cell_far (p := ⟨gb253, _, none⟩) (by exact nf_ hw257_0 GW253.out) _).trans (((cell_far (p := ⟨gb253, _, none⟩) (by exact nf_ hw257_0 GW253.out) _).trans (hHeld.2.2.2))))))))))))))))))))))))))))))))))⟩ (fun hHeld => ?_)
     clear hK K
     refine done_ (done_of HT_.out (by kernel_rfl)) ?_
     try go_wp2
     refine bodyPost_ret (results_cell_row rfl _ _ gb253 24 (ag_ t258 t259 t260 t261 t262 t263 t264 t265 t266 t267 t268 t269 t270 t271 t272 t273 t274) (0, 0) _ rfl (by (with_reducible repeat (first | refine blk_drewN ?_ _ | refine blk_drew ?_ | refine blk_alloc ?_ _)); refine blk_put (cs := (ag_ t258 t259 t260 t261 t262 t263 t264 t265 t266 t267 t268 t269 t270 t271 t272 t273 0)) ?_ 16 _ rfl; (with_reducible repeat (first | refine blk_drewN ?_ _ | refine blk_drew ?_ | refine blk_alloc ?_ _)); refine blk_put (cs := (ag_ t258 t259 t260 t261 t262 t263 t264 t265 t266 t267 t268 t269 t270 t271 t272 0 0)) ?_ 15 _ rfl; (with_reducible repeat (first | refine blk_drewN ?_ _ | refine blk_drew ?_ | refine blk_alloc ?_ _)); refine blk_put (cs := (ag_ t258 t259 t260 t261 t262 t263 t264 t265 t266 t267 t268 t269 t270 t271 0 0 0)) ?_ 14 _ rfl; (with_reducible repeat (first | refine blk_drewN ?_ _ | refine blk_drew ?_ | refine blk_alloc ?_ _)); refine blk_put (cs := (ag_ t258 t259 t260 t261 t262 t263 t264 t265 t266 t267 t268 t269 t270 0 0 0 0)) ?_ 13 _ rfl; (with_reducible repeat (first | refine blk_drewN ?_ _ | refine blk_drew ?_ | refine blk_alloc ?_ _)); refine blk_put (cs := (ag_ t258 t259 t260 t261 t262 t263 t264 t265 t266 t267 t268 t269 0 0 0 0 0)) ?_ 12 _ rfl; (with_reducible repeat (first | refine blk_drewN ?_ _ | refine blk_drew ?_ | refine blk_alloc ?_ _)); refine blk_put (cs := (ag_ t258 t259 t260 t261 t262 t263 t264 t265 t266 t267 t268 0 0 0 0 0 0)) ?_ 11 _ rfl; (with_reducible repeat (first | refine blk_drewN ?_ _ | refine blk_drew ?_ | refine blk_alloc ?_ _)); refine blk_put (cs := (ag_ t258 t259 t260 t261 t262 t263 t264 t265 t266 t267 0 0 0 0 0 0 0)) ?_ 10 _ rfl; (with_reducible repeat (first | refine blk_drewN ?_ _ | refine blk_drew ?_ | refine blk_alloc ?_ _)); refine blk_put (cs := (ag_ t258 t259 t260 t261 t262 t263 t264 t265 t266 0 0 0 0 0 0 0 0)) ?_ 9 _ rfl; (with_reducible repeat (first | refine blk_drewN ?_ _ | refine blk_drew ?_ | refine blk_alloc ?_ _)); refine blk_put (cs := (ag_ t258 t259 t260 t261 t262 t263 t264 t265 0 0 0 0 0 0 0 0 0)) ?_ 8 _ rfl; (with_reducible repeat (first | refine blk_drewN ?_ _ | refine blk_drew ?_ | refine blk_alloc ?_ _)); refine blk_put (cs := (ag_ t258 t259 t260 t261 t262 t263 t264 0 0 0 0 0 0 0 0 0 0)) ?_ 7 _ rfl; (with_reducible repeat (first | refine blk_drewN ?_ _ | refine blk_drew ?_ | refine blk_alloc ?_ _)); refine blk_put (cs := (ag_ t258 t259 t260 t261 t262 t263 0 0 0 0 0 0 0 0 0 0 0)) ?_ 6 _ rfl; (with_reducible repeat (first | refine blk_drewN ?_ _ | refine blk_drew ?_ | refine blk_alloc ?_ _)); refine blk_put (cs := (ag_ t258 t259 t260 t261 t262 0 0 0 0 0 0 0 0 0 0 0 0)) ?_ 5 _ rfl; (with_reducible repeat (first | refine blk_drewN ?_ _ | refine blk_drew ?_ | refine blk_alloc ?_ _)); refine blk_put (cs := (ag_ t258 t259 t260 t261 0 0 0 0 0 0 0 0 0 0 0 0 0)) ?_ 4 _ rfl; (with_reducible repeat (first | refine blk_drewN ?_ _ | refine blk_drew ?_ | refine blk_alloc ?_ _)); refine blk_put (cs := (ag_ t258 t259 t260 0 0 0 0 0 0 0 0 0 0 0 0 0 0)) ?_ 3 _ rfl; (with_reducible repeat (first | refine blk_drewN ?_ _ | refine blk_drew ?_ | refine blk_alloc ?_ _)); refine blk_put (cs := (ag_ t258 t259 0 0 0 0 0 0 0 0 0 0 0 0 0 0 0)) ?_ 2 _ rfl; (with_reducible repeat (first | refine blk_drewN ?_ _ | refine blk_drew ?_ | refine blk_alloc ?_ _)); refine blk_put (cs := (ag_ t258 0 0 0 0 0 0 0 0 0 0 0 0 0 0 0 0)) ?_ 1 _ rfl; (with_reducible repeat (first | refine blk_drewN ?_ _ | refine blk_drew ?_ | refine blk_alloc ?_ _)); refine blk_put (cs := az_) ?_ 0 _ rfl; (with_reducible repeat (first | refine blk_drewN ?_ _ | refine blk_drew ?_ | refine blk_alloc ?_ _)); exact BK253.out) Tryd.underlying24 rfl (by kernel_rfl)) rfl ?_
     exact ⟨rq_, bg_⟩
    ·rw [if_neg c5] at H
     exact absurd H (by simp)
   ·rw [if_neg c4] at H
    exact absurd H (by simp)
  ·rw [if_neg c3] at H
   exact absurd H (by simp)
 ·rw [if_neg c2] at H
  exact absurd H (by simp)

def ip_Unmap.f (z0 : Bool) (z1 : Int) (z2 : Int) (z3 : Int) (z4 : Int) (z5 : Int) (z6 : Int) (z7 : Int) (z8 : Int) (z9 : Int) (za : Int) (zb : Int) (zc : Int) (zd : Int) (ze : Int) (zf : Int) (zg : Int) : Option (Bool × Int × Int × Int × Int × Int × Int × Int × Int × Int × Int × Int × Int × Int × Int × Int × Int) := (ip_mapped.f z0 z1 z2 z3 z4 z5 z6 z7 z8 z9 za zb zc zd ze zf zg).bind fun t277 => (if t277 = true then ((ip_last.f ([zd, ze, zf, zg] : List Int)).bind fun bt279 => (some (bt279.1, bt279.2.1, bt279.2.2.1, bt279.2.2.2.1, bt279.2.2.2.2.1, bt279.2.2.2.2.2.1, bt279.2.2.2.2.2.2.1, bt279.2.2.2.2.2.2.2.1, bt279.2.2.2.2.2.2.2.2.1, bt279.2.2.2.2.2.2.2.2.2.1, bt279.2.2.2.2.2.2.2.2.2.2.1, bt279.2.2.2.2.2.2.2.2.2.2.2.1, bt279.2.2.2.2.2.2.2.2.2.2.2.2.1, bt279.2.2.2.2.2.2.2.2.2.2.2.2.2.1, bt279.2.2.2.2.2.2.2.2.2.2.2.2.2.2.1, bt279.2.2.2.2.2.2.2.2.2.2.2.2.2.2.2.1, bt279.2.2.2.2.2.2.2.2.2.2.2.2.2.2.2.2))) else (some (z0, z1, z2, z3, z4, z5, z6, z7, z8, z9, za, zb, zc, zd, ze, zf, zg)))
set_option maxHeartbeats 8000000 in
set_option maxRecDepth 100000 in
theorem ip_Unmap.calls (z0 : Bool) (z1 : Int) (z2 : Int) (z3 : Int) (z4 : Int) (z5 : Int) (z6 : Int) (z7 : Int) (z8 : Int) (z9 : Int) (za : Int) (zb : Int) (zc : Int) (zd : Int) (ze : Int) (zf : Int) (zg : Int) (r1 : Bool) (r2 : Int) (r3 : Int) (r4 : Int) (r5 : Int) (r6 : Int) (r7 : Int) (r8 : Int) (r9 : Int) (r10 : Int) (r11 : Int) (r12 : Int) (r13 : Int) (r14 : Int) (r15 : Int) (r16 : Int) (r17 : Int) (w : World) (hLW : LW w) (h : ip_Unmap.f z0 z1 z2 z3 z4 z5 z6 z7 z8 z9 za zb zc zd ze zf zg = some (r1, r2, r3, r4, r5, r6, r7, r8, r9, r10, r11, r12, r13, r14, r15, r16, r17)) :
  Calls Tryd.prog 23 #[.agg (ag_ z0 z1 z2 z3 z4 z5 z6 z7 z8 z9 za zb zc zd ze zf zg)] w fun e w' => e = .returned (.agg (ag_ r1 r2 r3 r4 r5 r6 r7 r8 r9 r10 r11 r12 r13 r14 r15 r16 r17)) ∧ Below w.heap.size w w' := by
 have hu24 := Tryd.underlying24
 have HLW := Aside0.mk hLW
 clear hLW
 have HB := Aside0.mk (Below.refl w.heap.size w)
 have H := h
 unfold ip_Unmap.f at H
 clear h
 replace H := Option.bind_eq_some_iff.mp H
 obtain ⟨t277, A20, H⟩ := H
 (try dsimp only at H)
 have A2 := Aside0.mk A20
 clear A20
 by_cases c3 : t277 = true
 ·subst c3
  replace H := ifT_ H
  replace H := Option.bind_eq_some_iff.mp H
  obtain ⟨⟨t279, t280, t281, t282, t283, t284, t285, t286, t287, t288, t289, t290, t291, t292, t293, t294, t295⟩, A40, H⟩ := H
  (try dsimp only at H)
  have A4 := Aside0.mk A40
  clear A40
  simp only [Option.some.injEq, Prod.mk.injEq] at H
  obtain ⟨rfl, rfl, rfl, rfl, rfl, rfl, rfl, rfl, rfl, rfl, rfl, rfl, rfl, rfl, rfl, rfl, rfl⟩ := H
  go_enter Tryd.func23, Tryd.ntmps23
  go_wp2_with (first | ((with_reducible refine gate_dst (N := 1) rfl ?_); refine bx_ 1 (ag_ z0 z1 z2 z3 z4 z5 z6 z7 z8 z9 za zb zc zd ze zf zg) 24 ?_; intro gb275 hg w5 hbox hb; have BK275 := Aside0.mk (hbox); have GW275 := Aside0.mk (ge_ (w := w) hg); have GE275 := Aside0.mk (ge_ (w := w) hg); replace HB := Aside0.mk (below_step bq_ hb); clear hb hbox hg) | ((with_reducible refine gate_dst (N := 2) rfl ?_); refine bx_ 2 az_ 24 ?_; intro gb276 hg w6 hbox hb; have n0_ := Aside0.mk (bb_ BK275 hb); have n1_ := Aside0.mk (below_step bg_ hb); have n2_ := Aside0.mk (hbox); have n3_ := Aside0.mk (gg_ (w := w) hg); have n4_ := Aside0.mk (gg_ (w := w) hg); have n5_ := Aside0.mk (nl_ BK275 hg); have n6_ := Aside0.mk (ng_ BK275 hg); clear BK275; clear HB; have BK275 := n0_; have HB := n1_; have BK276 := n2_; have GW276 := n3_; have GE276 := n4_; have NB275_276 := n5_; have NB276_275 := n6_; clear n0_ n1_ n2_ n3_ n4_ n5_ n6_; clear hb hbox hg) | ((with_reducible refine gate_dst (N := 3) rfl ?_); (try (refine gate_guard (by rfl) ?_; dsimp only)); refine load_box ?hg 24 (.tmp 1) rfl BK275.out [] (al_ z0 z1 z2 z3 z4 z5 z6 z7 z8 z9 za zb zc zd ze zf zg) [] rfl 0 rfl rfl Tryd.underlying24 rfl (by kernel_rfl) ?_; (case hg => rfl)) | ((with_reducible refine gate_callee (f := 41) rfl ?_); refine goesL_ (some 4) rfl rfl Tryd.func41 (by kernel_rfl) rfl #[.agg (ag_ z0 z1 z2 z3 z4 z5 z6 z7 z8 z9 za zb zc zd ze zf zg)] rfl lq_ ?_; (with_reducible refine (ip_mapped.calls z0 z1 z2 z3 z4 z5 z6 z7 z8 z9 za zb zc zd ze zf zg true _ ?side1 A2.out).mono ?_); (case side1 => exact lg_); rintro e w7 ⟨rfl, hb⟩; refine ⟨_, rfl, ?_⟩; replace BK275 := Aside0.mk (bb_ BK275 hb); replace BK276 := Aside0.mk (bb_ BK276 hb); replace HB := Aside0.mk (below_step bg_ hb); (try clear hb); (try clear hb2); (try clear hk); (try clear hi); have HR278 := Aside0.mk (C_arr BK275.out .u8 [.bool z0, .int .u8 z1, .int .u8 z2, .int .u8 z3, .int .u8 z4, .int .u8 z5, .int .u8 z6, .int .u8 z7, .int .u8 z8, .int .u8 z9, .int .u8 za, .int .u8 zb, .int .u8 zc] [zd, ze, zf, zg] [] rfl (q := 13) rfl (by show 4 ≤ 9223372036854775807; decide)); have HC278 := Aside0.mk (show ([zd, ze, zf, zg] : List Int).length ≤ 4 from by show 4 ≤ 4; decide); have hl278 : ([zd, ze, zf, zg] : List Int).length = 4 := rfl) | ((with_reducible refine gate_callee (f := 42) rfl ?_); refine goesL_ (some 7) rfl rfl Tryd.func42 (by kernel_rfl) rfl #[.slice (some ⟨gb275, 13, none⟩) ([zd, ze, zf, zg] : List Int).length 4] rfl (by (try simp only [List.map_toArray, List.map_cons, List.map_nil]); first | done | (rw [show ([zd, ze, zf, zg] : List Int).length = 4 from rfl] <;> rfl) | rfl | (simp only [List.length_drop, List.length_take]; rfl)) ?_; (with_reducible refine (ip_last.calls _ _ ([zd, ze, zf, zg] : List Int) t279 t280 t281 t282 t283 t284 t285 t286 t287 t288 t289 t290 t291 t292 t293 t294 t295 _ ?side3 ?side1 ?side2 A4.out).mono ?_); (case side1 => repeat (first | exact (by repeat (first | (with_reducible exact HR278.out) | (with_reducible refine Kd.C_alloc ?_ _) | (with_reducible refine Kd.C_drewN ?_ _) | (with_reducible refine Kd.C_drew ?_) | exact HR278.out)) | (with_reducible refine Kd.C_alloc ?_ _) | (with_reducible refine Kd.C_drewN ?_ _) | (with_reducible refine Kd.C_drew ?_))); (case side2 => exact HC278.out); (case side3 => exact lg_); rintro e w8 ⟨rfl, hb⟩; refine ⟨_, rfl, ?_⟩; replace BK275 := Aside0.mk (bb_ BK275 hb); replace BK276 := Aside0.mk (bb_ BK276 hb); replace HR278 := Aside0.mk (cb_ HR278 hb); replace HB := Aside0.mk (below_step bg_ hb); (try clear hb); (try clear hb2); (try clear hk); (try clear hi); have hnb9 := NB276_275.out; have hnc9 := NB275_276.out; obtain ⟨hcz10_0, hcz10_1, hcz10_2, hcz10_3, hcz10_4, hcz10_5, hcz10_6, hcz10_7, hcz10_8, hcz10_9, hcz10_10, hcz10_11, hcz10_12, hcz10_13, hcz10_14, hcz10_15, hcz10_16⟩ := c17_ BK276; obtain ⟨hfz10_0, hfz10_1, hfz10_2, hfz10_3, hfz10_4, hfz10_5, hfz10_6, hfz10_7, hfz10_8, hfz10_9, hfz10_10, hfz10_11, hfz10_12, hfz10_13, hfz10_14, hfz10_15, hfz10_16⟩ := f17_ BK276) | ((with_reducible refine gate_store (t := 24) (p := 2) rfl ?_); refine store_all ?hg 24 2 _ rfl rfl gb276 ay_ (al_ t279 t280 t281 t282 t283 t284 t285 t286 t287 t288 t289 t290 t291 t292 t293 t294 t295) BK276.out rfl rfl rfl (by kernel_rfl) rfl ?_; (case hg => rfl); intro w11 hw; replace BK275 := Aside0.mk (sf_ BK275 NB275_276 hw); replace BK276 := Aside0.mk (show w11.heap[gb276]? = some (.cells (ag_ t279 t280 t281 t282 t283 t284 t285 t286 t287 t288 t289 t290 t291 t292 t293 t294 t295) 24 (0, 0)) from ss_ BK276 hw); replace HB := Aside0.mk (sb_ hw); clear hw))
  refine bodyPost_ret (results_cell_row rfl _ _ gb276 24 (ag_ t279 t280 t281 t282 t283 t284 t285 t286 t287 t288 t289 t290 t291 t292 t293 t294 t295) (0, 0) _ rfl bk_ Tryd.underlying24 rfl (by kernel_rfl)) rfl ?_
  exact ⟨rq_, bg_⟩
 ·replace c3 := Bool.eq_false_iff.mpr c3
  subst c3
  replace H := ifF_ H
  simp only [Option.some.injEq, Prod.mk.injEq] at H
  obtain ⟨rfl, rfl, rfl, rfl, rfl, rfl, rfl, rfl, rfl, rfl, rfl, rfl, rfl, rfl, rfl, rfl, rfl⟩ := H
  go_enter Tryd.func23, Tryd.ntmps23
  go_wp2_with (first | ((with_reducible refine gate_dst (N := 1) rfl ?_); refine bx_ 1 (ag_ z0 z1 z2 z3 z4 z5 z6 z7 z8 z9 za zb zc zd ze zf zg) 24 ?_; intro gb275 hg w12 hbox hb; have BK275 := Aside0.mk (hbox); have GW275 := Aside0.mk (ge_ (w := w) hg); have GE275 := Aside0.mk (ge_ (w := w) hg); replace HB := Aside0.mk (below_step bq_ hb); clear hb hbox hg) | ((with_reducible refine gate_dst (N := 2) rfl ?_); refine bx_ 2 az_ 24 ?_; intro gb276 hg w13 hbox hb; have n0_ := Aside0.mk (bb_ BK275 hb); have n1_ := Aside0.mk (below_step bg_ hb); have n2_ := Aside0.mk (hbox); have n3_ := Aside0.mk (gg_ (w := w) hg); have n4_ := Aside0.mk (gg_ (w := w) hg); have n5_ := Aside0.mk (nl_ BK275 hg); have n6_ := Aside0.mk (ng_ BK275 hg); clear BK275; clear HB; have BK275 := n0_; have HB := n1_; have BK276 := n2_; have GW276 := n3_; have GE276 := n4_; have NB275_276 := n5_; have NB276_275 := n6_; clear n0_ n1_ n2_ n3_ n4_ n5_ n6_; clear hb hbox hg) | ((with_reducible refine gate_dst (N := 3) rfl ?_); (try (refine gate_guard (by rfl) ?_; dsimp only)); refine load_box ?hg 24 (.tmp 1) rfl BK275.out [] (al_ z0 z1 z2 z3 z4 z5 z6 z7 z8 z9 za zb zc zd ze zf zg) [] rfl 0 rfl rfl Tryd.underlying24 rfl (by kernel_rfl) ?_; (case hg => rfl)) | ((with_reducible refine gate_callee (f := 41) rfl ?_); refine goesL_ (some 4) rfl rfl Tryd.func41 (by kernel_rfl) rfl #[.agg (ag_ z0 z1 z2 z3 z4 z5 z6 z7 z8 z9 za zb zc zd ze zf zg)] rfl lq_ ?_; (with_reducible refine (ip_mapped.calls z0 z1 z2 z3 z4 z5 z6 z7 z8 z9 za zb zc zd ze zf zg false _ ?side1 A2.out).mono ?_); (case side1 => exact lg_); rintro e w14 ⟨rfl, hb⟩; refine ⟨_, rfl, ?_⟩; replace BK275 := Aside0.mk (bb_ BK275 hb); replace BK276 := Aside0.mk (bb_ BK276 hb); replace HB := Aside0.mk (below_step bg_ hb); (try clear hb); (try clear hb2); (try clear hk); (try clear hi); have hnb15 := NB276_275.out; have hnc15 := NB275_276.out; obtain ⟨hcz16_0, hcz16_1, hcz16_2, hcz16_3, hcz16_4, hcz16_5, hcz16_6, hcz16_7, hcz16_8, hcz16_9, hcz16_10, hcz16_11, hcz16_12, hcz16_13, hcz16_14, hcz16_15, hcz16_16⟩ := c17_ BK276; obtain ⟨hfz16_0, hfz16_1, hfz16_2, hfz16_3, hfz16_4, hfz16_5, hfz16_6, hfz16_7, hfz16_8, hfz16_9, hfz16_10, hfz16_11, hfz16_12, hfz16_13, hfz16_14, hfz16_15, hfz16_16⟩ := f17_ BK276) | ((with_reducible refine gate_dst (N := 8) rfl ?_); (try (refine gate_guard (by rfl) ?_; dsimp only)); refine load_box ?hg 24 (.tmp 1) rfl BK275.out [] (al_ z0 z1 z2 z3 z4 z5 z6 z7 z8 z9 za zb zc zd ze zf zg) [] rfl 0 rfl rfl Tryd.underlying24 rfl (by kernel_rfl) ?_; (case hg => rfl)) | ((with_reducible refine gate_store (t := 24) (p := 2) rfl ?_); refine store_all ?hg 24 2 _ rfl rfl gb276 ay_ (al_ z0 z1 z2 z3 z4 z5 z6 z7 z8 z9 za zb zc zd ze zf zg) BK276.out rfl rfl rfl (by kernel_rfl) rfl ?_; (case hg => rfl); intro w17 hw; replace BK275 := Aside0.mk (sf_ BK275 NB275_276 hw); replace BK276 := Aside0.mk (show w17.heap[gb276]? = some (.cells (ag_ z0 z1 z2 z3 z4 z5 z6 z7 z8 z9 za zb zc zd ze zf zg) 24 (0, 0)) from ss_ BK276 hw); replace HB := Aside0.mk (sb_ hw); clear hw))
  refine bodyPost_ret (results_cell_row rfl _ _ gb276 24 (ag_ z0 z1 z2 z3 z4 z5 z6 z7 z8 z9 za zb zc zd ze zf zg) (0, 0) _ rfl bk_ Tryd.underlying24 rfl (by kernel_rfl)) rfl ?_
  exact ⟨rq_, bg_⟩

end Go.Proofs.YtdopafhppaalfaaDoor.P
