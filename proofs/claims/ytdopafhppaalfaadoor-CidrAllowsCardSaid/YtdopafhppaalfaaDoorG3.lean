-- Written by a program of this session (wip/gen/lprint.py over the kit's print.py) out of the translation. Lean checks it.
import Derived.Test.YtdopafhppaalfaaDoorG0
import Derived.Test.YtdopafhppaalfaaDoorG2
import Derived.Test.YtdopafhppaalfaaDoorZ
namespace Go.Proofs.YtdopafhppaalfaaDoor.G
open Go.Proofs.YtdopafhppaalfaaDoorZ
open Go.Proofs.YtdopafhppaalfaaDoor.E Go.Proofs.YtdopafhppaalfaaDoorV
open Go.Proofs.YtdopafhppaalfaaDoor.P
open Go.RowKit Go.Proofs.YtdopafhppaalfaaDoorW.PrintWords Go.Proofs.YtdopafhppaalfaaDoorW.PrintLast Go.Proofs.YtdopafhppaalfaaDoorW.PrintMore
attribute [local go_sem] max2_int min2_int max_two min_two max_three min_three max_four min_four   -- for this text's walks alone
set_option linter.unusedVariables false
set_option linter.unusedSimpArgs false

def cidr_Parse.f (k : Nat) (a0 : ByteArray) : Option (Bool × Int × Int × Int × Int × Int × Int × Int × Int × Int × Int × Int × Int × Int × Int × Int × Int × Int × Int) := (strings_Cut.f a0 (⟨#[47]⟩ : ByteArray)).bind fun bt123 => ((ip_Parse.f k bt123.1).bind fun bt126 => ((strconv_Atoi.f bt123.2.1).bind fun bt145 => (if bt123.2.2 = true then (if bt126.2.2.2.2.2.2.2.2.2.2.2.2.2.2.2.2.2 = 0 then (if bt145.2.isNone = true then ((strconv_Itoa.f bt145.1).bind fun t149 => (if t149.toList = bt123.2.1.toList then ((cidr_Check.f bt126.1 bt126.2.1 bt126.2.2.1 bt126.2.2.2.1 bt126.2.2.2.2.1 bt126.2.2.2.2.2.1 bt126.2.2.2.2.2.2.1 bt126.2.2.2.2.2.2.2.1 bt126.2.2.2.2.2.2.2.2.1 bt126.2.2.2.2.2.2.2.2.2.1 bt126.2.2.2.2.2.2.2.2.2.2.1 bt126.2.2.2.2.2.2.2.2.2.2.2.1 bt126.2.2.2.2.2.2.2.2.2.2.2.2.1 bt126.2.2.2.2.2.2.2.2.2.2.2.2.2.1 bt126.2.2.2.2.2.2.2.2.2.2.2.2.2.2.1 bt126.2.2.2.2.2.2.2.2.2.2.2.2.2.2.2.1 bt126.2.2.2.2.2.2.2.2.2.2.2.2.2.2.2.2.1 bt145.1).bind fun t150 => (if t150 = 0 then (some (bt126.1, bt126.2.1, bt126.2.2.1, bt126.2.2.2.1, bt126.2.2.2.2.1, bt126.2.2.2.2.2.1, bt126.2.2.2.2.2.2.1, bt126.2.2.2.2.2.2.2.1, bt126.2.2.2.2.2.2.2.2.1, bt126.2.2.2.2.2.2.2.2.2.1, bt126.2.2.2.2.2.2.2.2.2.2.1, bt126.2.2.2.2.2.2.2.2.2.2.2.1, bt126.2.2.2.2.2.2.2.2.2.2.2.2.1, bt126.2.2.2.2.2.2.2.2.2.2.2.2.2.1, bt126.2.2.2.2.2.2.2.2.2.2.2.2.2.2.1, bt126.2.2.2.2.2.2.2.2.2.2.2.2.2.2.2.1, bt126.2.2.2.2.2.2.2.2.2.2.2.2.2.2.2.2.1, bt145.1, 0)) else (none))) else (none))) else (some (false, 0, 0, 0, 0, 0, 0, 0, 0, 0, 0, 0, 0, 0, 0, 0, 0, 0, 5))) else (none)) else (none))))
theorem cidr_Parse.mono : ∀ a0 k, LeO (cidr_Parse.f k a0) (cidr_Parse.f (k + 1) a0) := by
 intro a0 k
 unfold cidr_Parse.f
 repeat' first
   | (with_reducible exact ip_Parse.mono _ _)
   | (with_reducible exact LeO.refl _)
   | (with_reducible exact LeO.none _)
   | (with_reducible refine LeO.ite ?_ ?_)
   | (with_reducible refine LeO.bind ?_ (fun _ => ?_))
   | exact ip_Parse.mono _ _
   | exact LeO.none _
   | refine LeO.ite ?_ ?_
   | refine LeO.bind ?_ (fun _ => ?_)
set_option maxHeartbeats 8000000 in
set_option maxRecDepth 100000 in
theorem cidr_Parse.calls (k : Nat) (a0 : ByteArray) (r1 : Bool) (r2 : Int) (r3 : Int) (r4 : Int) (r5 : Int) (r6 : Int) (r7 : Int) (r8 : Int) (r9 : Int) (r10 : Int) (r11 : Int) (r12 : Int) (r13 : Int) (r14 : Int) (r15 : Int) (r16 : Int) (r17 : Int) (r18 : Int) (r19 : Int) (w : World) (hLW : LW w) (h : cidr_Parse.f k a0 = some (r1, r2, r3, r4, r5, r6, r7, r8, r9, r10, r11, r12, r13, r14, r15, r16, r17, r18, r19)) :
  Calls Tryd.prog 30 #[.string a0] w fun e w' => e = .returned (.tuple #[.agg (nr_ r1 r2 r3 r4 r5 r6 r7 r8 r9 r10 r11 r12 r13 r14 r15 r16 r17 r18), .int .i64 r19]) ∧ Below w.heap.size w w' := by
 have hu34 := Tryd.underlying34
 have hu24 := Tryd.underlying24
 have hu77 := Tryd.underlying77
 have HLW := Aside0.mk hLW
 clear hLW
 have HB := Aside0.mk (Below.refl w.heap.size w)
 have H := h
 unfold cidr_Parse.f at H
 clear h
 replace H := Option.bind_eq_some_iff.mp H
 obtain ⟨⟨t123, t124, t125⟩, A20, H⟩ := H
 (try dsimp only at H)
 have A2 := Aside0.mk A20
 clear A20
 replace H := Option.bind_eq_some_iff.mp H
 obtain ⟨⟨t126, t127, t128, t129, t130, t131, t132, t133, t134, t135, t136, t137, t138, t139, t140, t141, t142, t143⟩, A30, H⟩ := H
 (try dsimp only at H)
 have A3 := Aside0.mk A30
 clear A30
 replace H := Option.bind_eq_some_iff.mp H
 obtain ⟨⟨t145, t146⟩, A40, H⟩ := H
 (try dsimp only at H)
 have A4 := Aside0.mk A40
 clear A40
 by_cases c5 : t125 = true
 ·subst c5
  replace H := ifT_ H
  by_cases c6 : t143 = 0
  ·rw [if_pos c6] at H
   have c6b0 := beq_iff_eq.mpr c6
   have c6b1 := bne_eq_false_iff_eq.mpr c6
   clear c6
   rcases t146 with _ | q148
   ·have H1 : ((strconv_Itoa.f t145).bind fun t149 => (if t149.toList = t124.toList then ((cidr_Check.f t126 t127 t128 t129 t130 t131 t132 t133 t134 t135 t136 t137 t138 t139 t140 t141 t142 t145).bind fun t150 => (if t150 = 0 then (some (t126, t127, t128, t129, t130, t131, t132, t133, t134, t135, t136, t137, t138, t139, t140, t141, t142, t145, 0)) else (none))) else (none))) = some (r1, r2, r3, r4, r5, r6, r7, r8, r9, r10, r11, r12, r13, r14, r15, r16, r17, r18, r19) := by rw [if_pos (show (none : Option Int).isNone = true by rfl)] at H; exact H
    clear H
    have H := H1
    clear H1
    try simp only [errW_none, errW_some]
    replace H := Option.bind_eq_some_iff.mp H
    obtain ⟨t149, A70, H⟩ := H
    (try dsimp only at H)
    have A7 := Aside0.mk A70
    clear A70
    by_cases c8 : t149.toList = t124.toList
    ·rw [if_pos c8] at H
     have c8b0 := beq_iff_eq.mpr c8
     have c8b1 := bne_eq_false_iff_eq.mpr c8
     clear c8
     replace H := Option.bind_eq_some_iff.mp H
     obtain ⟨t150, A90, H⟩ := H
     (try dsimp only at H)
     have A9 := Aside0.mk A90
     clear A90
     by_cases c10 : t150 = 0
     ·rw [if_pos c10] at H
      have c10b0 := beq_iff_eq.mpr c10
      have c10b1 := bne_eq_false_iff_eq.mpr c10
      clear c10
      simp only [Option.some.injEq, Prod.mk.injEq] at H
      obtain ⟨rfl, rfl, rfl, rfl, rfl, rfl, rfl, rfl, rfl, rfl, rfl, rfl, rfl, rfl, rfl, rfl, rfl, rfl, rfl⟩ := H
      go_enter Tryd.func30, Tryd.ntmps30
      go_wp2_with (first | ((with_reducible refine gate_dst (N := 2) rfl ?_); refine bx_ 2 (nr_ false 0 0 0 0 0 0 0 0 0 0 0 0 0 0 0 0 0) 34 ?_; intro gb122 hg w11 hbox hb; have BK122 := Aside0.mk (hbox); have GW122 := Aside0.mk (ge_ (w := w) hg); have GE122 := Aside0.mk (ge_ (w := w) hg); replace HB := Aside0.mk (below_step bq_ hb); clear hb hbox hg) | ((with_reducible refine gate_callee (f := 44) rfl ?_); refine goesL_ (some 14) rfl rfl Tryd.func44 (by kernel_rfl) rfl #[.string a0, .string (⟨#[47]⟩ : ByteArray)] rfl lq_ ?_; (with_reducible refine (strings_Cut.calls a0 (⟨#[47]⟩ : ByteArray) t123 t124 true _ ?side1 A2.out).mono ?_); (case side1 => exact lg_); rintro e w12 ⟨rfl, hb⟩; refine ⟨_, rfl, ?_⟩; replace BK122 := Aside0.mk (bb_ BK122 hb); replace HB := Aside0.mk (below_step bg_ hb); (try clear hb); (try clear hb2); (try clear hk); (try clear hi)) | ((with_reducible refine gate_callee (f := 45) rfl ?_); refine goesL_ (some 20) rfl rfl Tryd.func45 (by kernel_rfl) rfl #[.string t123] rfl lq_ ?_; (with_reducible refine (ip_Parse.calls k t123 t126 t127 t128 t129 t130 t131 t132 t133 t134 t135 t136 t137 t138 t139 t140 t141 t142 t143 _ ?side1 A3.out).mono ?_); (case side1 => exact lg_); rintro e w13 ⟨rfl, hb⟩; refine ⟨_, rfl, ?_⟩; replace BK122 := Aside0.mk (bb_ BK122 hb); replace HB := Aside0.mk (below_step bg_ hb); (try clear hb); (try clear hb2); (try clear hk); (try clear hi)) | ((with_reducible refine gate_dst (N := 7) rfl ?_); refine bx_ 7 az_ 24 ?_; intro gb144 hg w14 hbox hb; have n0_ := Aside0.mk (bb_ BK122 hb); have n1_ := Aside0.mk (below_step bg_ hb); have n2_ := Aside0.mk (hbox); have n3_ := Aside0.mk (gg_ (w := w) hg); have n4_ := Aside0.mk (gg_ (w := w) hg); have n5_ := Aside0.mk (nl_ BK122 hg); have n6_ := Aside0.mk (ng_ BK122 hg); clear BK122; clear HB; have BK122 := n0_; have HB := n1_; have BK144 := n2_; have GW144 := n3_; have GE144 := n4_; have NB122_144 := n5_; have NB144_122 := n6_; clear n0_ n1_ n2_ n3_ n4_ n5_ n6_; clear hb hbox hg; have hnb15 := NB144_122.out; have hnc15 := NB122_144.out; obtain ⟨hfz16_0, hfz16_1, hfz16_2, hfz16_3, hfz16_4, hfz16_5, hfz16_6, hfz16_7, hfz16_8, hfz16_9, hfz16_10, hfz16_11, hfz16_12, hfz16_13, hfz16_14, hfz16_15, hfz16_16⟩ := f17_ BK144) | ((with_reducible refine gate_store (t := 24) (p := 7) rfl ?_); refine store_all ?hg 24 7 _ rfl rfl gb144 ay_ (al_ t126 t127 t128 t129 t130 t131 t132 t133 t134 t135 t136 t137 t138 t139 t140 t141 t142) BK144.out rfl rfl rfl (by kernel_rfl) rfl ?_; (case hg => rfl); intro w17 hw; replace BK122 := Aside0.mk (sf_ BK122 NB122_144 hw); replace BK144 := Aside0.mk (show w17.heap[gb144]? = some (.cells (ag_ t126 t127 t128 t129 t130 t131 t132 t133 t134 t135 t136 t137 t138 t139 t140 t141 t142) 24 (0, 0)) from ss_ BK144 hw); replace HB := Aside0.mk (sb_ hw); clear hw) | ((with_reducible refine gate_callee (f := 46) rfl ?_); refine goesL_ (some 25) rfl rfl Tryd.func46 (by kernel_rfl) rfl #[.string t124] rfl lq_ ?_; (with_reducible refine (strconv_Atoi.calls t124 t145 none _ ?side1 A4.out).mono ?_); (case side1 => exact lg_); rintro e w18 ⟨rfl, hb⟩; refine ⟨_, rfl, ?_⟩; replace BK122 := Aside0.mk (bb_ BK122 hb); replace BK144 := Aside0.mk (bb_ BK144 hb); replace HB := Aside0.mk (below_step bg_ hb); (try clear hb); (try clear hb2); (try clear hk); (try clear hi); (try simp only [errW_none, errW_some])) | ((with_reducible refine gate_dst (N := 28) rfl ?_); (try (refine gate_guard (by rfl) ?_; dsimp only)); refine load_box ?hg 24 (.tmp 7) rfl BK144.out [] (al_ t126 t127 t128 t129 t130 t131 t132 t133 t134 t135 t136 t137 t138 t139 t140 t141 t142) [] rfl 0 rfl rfl Tryd.underlying24 rfl (by kernel_rfl) ?_; (case hg => rfl)) | ((with_reducible refine gate_dst (N := 11) rfl ?_); refine bx_ 11 (nr_ false 0 0 0 0 0 0 0 0 0 0 0 0 0 0 0 0 0) 34 ?_; intro gb147 hg w19 hbox hb; have n0_ := Aside0.mk (bb_ BK122 hb); have n1_ := Aside0.mk (bb_ BK144 hb); have n2_ := Aside0.mk (below_step bg_ hb); have n3_ := Aside0.mk (hbox); have n4_ := Aside0.mk (gg_ (w := w) hg); have n5_ := Aside0.mk (gg_ (w := w) hg); have n6_ := Aside0.mk (nl_ BK122 hg); have n7_ := Aside0.mk (ng_ BK122 hg); have n8_ := Aside0.mk (nl_ BK144 hg); have n9_ := Aside0.mk (ng_ BK144 hg); clear BK122; clear BK144; clear HB; have BK122 := n0_; have BK144 := n1_; have HB := n2_; have BK147 := n3_; have GW147 := n4_; have GE147 := n5_; have NB122_147 := n6_; have NB147_122 := n7_; have NB144_147 := n8_; have NB147_144 := n9_; clear n0_ n1_ n2_ n3_ n4_ n5_ n6_ n7_ n8_ n9_; clear hb hbox hg; have hnb20 := NB147_122.out; have hnc20 := NB122_147.out; have hnb21 := NB147_144.out; have hnc21 := NB144_147.out; have hfz22_0 := bf_ BK147 0; have hfz22_1 := bf_ BK147 1; have hfz22_2 := bf_ BK147 2; have hfz22_3 := bf_ BK147 3; have hfz22_4 := bf_ BK147 4; have hfz22_5 := bf_ BK147 5; have hfz22_6 := bf_ BK147 6; have hfz22_7 := bf_ BK147 7; have hfz22_8 := bf_ BK147 8; have hfz22_9 := bf_ BK147 9; have hfz22_10 := bf_ BK147 10; have hfz22_11 := bf_ BK147 11; have hfz22_12 := bf_ BK147 12; have hfz22_13 := bf_ BK147 13; have hfz22_14 := bf_ BK147 14; have hfz22_15 := bf_ BK147 15; have hfz22_16 := bf_ BK147 16; have hfz22_17 := bf_ BK147 17) | ((with_reducible refine gate_store (t := 34) (p := 11) rfl ?_); refine store_all ?hg 34 11 _ rfl rfl gb147 (nt_ false 0 0 0 0 0 0 0 0 0 0 0 0 0 0 0 0 0) (nt_ t126 t127 t128 t129 t130 t131 t132 t133 t134 t135 t136 t137 t138 t139 t140 t141 t142 t145) BK147.out rfl rfl rfl (by kernel_rfl) rfl ?_; (case hg => rfl); intro w23 hw; replace BK122 := Aside0.mk (sf_ BK122 NB122_147 hw); replace BK144 := Aside0.mk (sf_ BK144 NB144_147 hw); replace BK147 := Aside0.mk (show w23.heap[gb147]? = some (.cells (nr_ t126 t127 t128 t129 t130 t131 t132 t133 t134 t135 t136 t137 t138 t139 t140 t141 t142 t145) 34 (0, 0)) from ss_ BK147 hw); replace HB := Aside0.mk (sb_ hw); clear hw) | (go_at_call 47; (with_reducible refine (strconv_Itoa.calls t145 t149 _ ?side1 A7.out).mono ?_); (case side1 => exact lg_); rintro e w24 ⟨rfl, hb⟩; replace BK122 := Aside0.mk (bb_ BK122 hb); replace BK144 := Aside0.mk (bb_ BK144 hb); replace BK147 := Aside0.mk (bb_ BK147 hb); replace HB := Aside0.mk (below_step bg_ hb); (try clear hb); (try clear hb2); (try clear hk); (try clear hi)) | ((with_reducible refine gate_dst (N := 48) rfl ?_); (try (refine gate_guard (by rfl) ?_; dsimp only)); refine load_box ?hg 34 (.tmp 11) rfl BK147.out [] (nt_ t126 t127 t128 t129 t130 t131 t132 t133 t134 t135 t136 t137 t138 t139 t140 t141 t142 t145) [] rfl 0 rfl rfl Tryd.underlying34 rfl (by kernel_rfl) ?_; (case hg => rfl)) | (go_at_call 22; (with_reducible refine (cidr_Check.calls t126 t127 t128 t129 t130 t131 t132 t133 t134 t135 t136 t137 t138 t139 t140 t141 t142 t145 t150 _ ?side1 A9.out).mono ?_); (case side1 => exact lg_); rintro e w25 ⟨rfl, hb⟩; replace BK122 := Aside0.mk (bb_ BK122 hb); replace BK144 := Aside0.mk (bb_ BK144 hb); replace BK147 := Aside0.mk (bb_ BK147 hb); replace HB := Aside0.mk (below_step bg_ hb); (try clear hb); (try clear hb2); (try clear hk); (try clear hi); have hfz26_0 := bf_ BK122 0; have hfz26_1 := bf_ BK122 1; have hfz26_2 := bf_ BK122 2; have hfz26_3 := bf_ BK122 3; have hfz26_4 := bf_ BK122 4; have hfz26_5 := bf_ BK122 5; have hfz26_6 := bf_ BK122 6; have hfz26_7 := bf_ BK122 7; have hfz26_8 := bf_ BK122 8; have hfz26_9 := bf_ BK122 9; have hfz26_10 := bf_ BK122 10; have hfz26_11 := bf_ BK122 11; have hfz26_12 := bf_ BK122 12; have hfz26_13 := bf_ BK122 13; have hfz26_14 := bf_ BK122 14; have hfz26_15 := bf_ BK122 15; have hfz26_16 := bf_ BK122 16; have hfz26_17 := bf_ BK122 17) | ((with_reducible refine gate_dst (N := 53) rfl ?_); (try (refine gate_guard (by rfl) ?_; dsimp only)); refine load_box ?hg 34 (.tmp 11) rfl BK147.out [] (nt_ t126 t127 t128 t129 t130 t131 t132 t133 t134 t135 t136 t137 t138 t139 t140 t141 t142 t145) [] rfl 0 rfl rfl Tryd.underlying34 rfl (by kernel_rfl) ?_; (case hg => rfl)) | ((with_reducible refine gate_store (t := 34) (p := 2) rfl ?_); refine store_all ?hg 34 2 _ rfl rfl gb122 (nt_ false 0 0 0 0 0 0 0 0 0 0 0 0 0 0 0 0 0) (nt_ t126 t127 t128 t129 t130 t131 t132 t133 t134 t135 t136 t137 t138 t139 t140 t141 t142 t145) BK122.out rfl rfl rfl (by kernel_rfl) rfl ?_; (case hg => rfl); intro w27 hw; replace BK122 := Aside0.mk (show w27.heap[gb122]? = some (.cells (nr_ t126 t127 t128 t129 t130 t131 t132 t133 t134 t135 t136 t137 t138 t139 t140 t141 t142 t145) 34 (0, 0)) from ss_ BK122 hw); replace BK144 := Aside0.mk (sf_ BK144 NB144_122 hw); replace BK147 := Aside0.mk (sf_ BK147 NB147_122 hw); replace HB := Aside0.mk (sb_ hw); clear hw))
      refine bodyPost_ret (results_ct rfl _ _ gb122 34 (nr_ t126 t127 t128 t129 t130 t131 t132 t133 t134 t135 t136 t137 t138 t139 t140 t141 t142 t145) (0, 0) _ rfl bk_ Tryd.underlying34 rfl (by kernel_rfl)) rfl ?_
      exact ⟨rq_, bg_⟩
     ·rw [if_neg c10] at H
      exact absurd H (by simp)
    ·rw [if_neg c8] at H
     exact absurd H (by simp)
   ·have H1 : (some (false, 0, 0, 0, 0, 0, 0, 0, 0, 0, 0, 0, 0, 0, 0, 0, 0, 0, 5)) = some (r1, r2, r3, r4, r5, r6, r7, r8, r9, r10, r11, r12, r13, r14, r15, r16, r17, r18, r19) := by rw [if_neg (show ¬ (some q148).isNone = true by simp)] at H; exact H
    clear H
    have H := H1
    clear H1
    try simp only [errW_none, errW_some]
    simp only [Option.some.injEq, Prod.mk.injEq] at H
    obtain ⟨rfl, rfl, rfl, rfl, rfl, rfl, rfl, rfl, rfl, rfl, rfl, rfl, rfl, rfl, rfl, rfl, rfl, rfl, rfl⟩ := H
    go_enter Tryd.func30, Tryd.ntmps30
    go_wp2_with (first | ((with_reducible refine gate_dst (N := 2) rfl ?_); refine bx_ 2 (nr_ false 0 0 0 0 0 0 0 0 0 0 0 0 0 0 0 0 0) 34 ?_; intro gb122 hg w28 hbox hb; have BK122 := Aside0.mk (hbox); have GW122 := Aside0.mk (ge_ (w := w) hg); have GE122 := Aside0.mk (ge_ (w := w) hg); replace HB := Aside0.mk (below_step bq_ hb); clear hb hbox hg) | ((with_reducible refine gate_callee (f := 44) rfl ?_); refine goesL_ (some 14) rfl rfl Tryd.func44 (by kernel_rfl) rfl #[.string a0, .string (⟨#[47]⟩ : ByteArray)] rfl lq_ ?_; (with_reducible refine (strings_Cut.calls a0 (⟨#[47]⟩ : ByteArray) t123 t124 true _ ?side1 A2.out).mono ?_); (case side1 => exact lg_); rintro e w29 ⟨rfl, hb⟩; refine ⟨_, rfl, ?_⟩; replace BK122 := Aside0.mk (bb_ BK122 hb); replace HB := Aside0.mk (below_step bg_ hb); (try clear hb); (try clear hb2); (try clear hk); (try clear hi)) | ((with_reducible refine gate_callee (f := 45) rfl ?_); refine goesL_ (some 20) rfl rfl Tryd.func45 (by kernel_rfl) rfl #[.string t123] rfl lq_ ?_; (with_reducible refine (ip_Parse.calls k t123 t126 t127 t128 t129 t130 t131 t132 t133 t134 t135 t136 t137 t138 t139 t140 t141 t142 t143 _ ?side1 A3.out).mono ?_); (case side1 => exact lg_); rintro e w30 ⟨rfl, hb⟩; refine ⟨_, rfl, ?_⟩; replace BK122 := Aside0.mk (bb_ BK122 hb); replace HB := Aside0.mk (below_step bg_ hb); (try clear hb); (try clear hb2); (try clear hk); (try clear hi)) | ((with_reducible refine gate_dst (N := 7) rfl ?_); refine bx_ 7 az_ 24 ?_; intro gb144 hg w31 hbox hb; have n0_ := Aside0.mk (bb_ BK122 hb); have n1_ := Aside0.mk (below_step bg_ hb); have n2_ := Aside0.mk (hbox); have n3_ := Aside0.mk (gg_ (w := w) hg); have n4_ := Aside0.mk (gg_ (w := w) hg); have n5_ := Aside0.mk (nl_ BK122 hg); have n6_ := Aside0.mk (ng_ BK122 hg); clear BK122; clear HB; have BK122 := n0_; have HB := n1_; have BK144 := n2_; have GW144 := n3_; have GE144 := n4_; have NB122_144 := n5_; have NB144_122 := n6_; clear n0_ n1_ n2_ n3_ n4_ n5_ n6_; clear hb hbox hg; have hnb32 := NB144_122.out; have hnc32 := NB122_144.out; obtain ⟨hfz33_0, hfz33_1, hfz33_2, hfz33_3, hfz33_4, hfz33_5, hfz33_6, hfz33_7, hfz33_8, hfz33_9, hfz33_10, hfz33_11, hfz33_12, hfz33_13, hfz33_14, hfz33_15, hfz33_16⟩ := f17_ BK144) | ((with_reducible refine gate_store (t := 24) (p := 7) rfl ?_); refine store_all ?hg 24 7 _ rfl rfl gb144 ay_ (al_ t126 t127 t128 t129 t130 t131 t132 t133 t134 t135 t136 t137 t138 t139 t140 t141 t142) BK144.out rfl rfl rfl (by kernel_rfl) rfl ?_; (case hg => rfl); intro w34 hw; replace BK122 := Aside0.mk (sf_ BK122 NB122_144 hw); replace BK144 := Aside0.mk (show w34.heap[gb144]? = some (.cells (ag_ t126 t127 t128 t129 t130 t131 t132 t133 t134 t135 t136 t137 t138 t139 t140 t141 t142) 24 (0, 0)) from ss_ BK144 hw); replace HB := Aside0.mk (sb_ hw); clear hw) | ((with_reducible refine gate_callee (f := 46) rfl ?_); refine goesL_ (some 25) rfl rfl Tryd.func46 (by kernel_rfl) rfl #[.string t124] rfl lq_ ?_; (with_reducible refine (strconv_Atoi.calls t124 t145 (some q148) _ ?side1 A4.out).mono ?_); (case side1 => exact lg_); rintro e w35 ⟨rfl, hb⟩; refine ⟨_, rfl, ?_⟩; replace BK122 := Aside0.mk (bb_ BK122 hb); replace BK144 := Aside0.mk (bb_ BK144 hb); replace HB := Aside0.mk (below_step bg_ hb); (try clear hb); (try clear hb2); (try clear hk); (try clear hi); (try simp only [errW_none, errW_some])) | ((with_reducible refine gate_dst (N := 28) rfl ?_); (try (refine gate_guard (by rfl) ?_; dsimp only)); refine load_box ?hg 24 (.tmp 7) rfl BK144.out [] (al_ t126 t127 t128 t129 t130 t131 t132 t133 t134 t135 t136 t137 t138 t139 t140 t141 t142) [] rfl 0 rfl rfl Tryd.underlying24 rfl (by kernel_rfl) ?_; (case hg => rfl)) | ((with_reducible refine gate_dst (N := 11) rfl ?_); refine bx_ 11 (nr_ false 0 0 0 0 0 0 0 0 0 0 0 0 0 0 0 0 0) 34 ?_; intro gb147 hg w36 hbox hb; have n0_ := Aside0.mk (bb_ BK122 hb); have n1_ := Aside0.mk (bb_ BK144 hb); have n2_ := Aside0.mk (below_step bg_ hb); have n3_ := Aside0.mk (hbox); have n4_ := Aside0.mk (gg_ (w := w) hg); have n5_ := Aside0.mk (gg_ (w := w) hg); have n6_ := Aside0.mk (nl_ BK122 hg); have n7_ := Aside0.mk (ng_ BK122 hg); have n8_ := Aside0.mk (nl_ BK144 hg); have n9_ := Aside0.mk (ng_ BK144 hg); clear BK122; clear BK144; clear HB; have BK122 := n0_; have BK144 := n1_; have HB := n2_; have BK147 := n3_; have GW147 := n4_; have GE147 := n5_; have NB122_147 := n6_; have NB147_122 := n7_; have NB144_147 := n8_; have NB147_144 := n9_; clear n0_ n1_ n2_ n3_ n4_ n5_ n6_ n7_ n8_ n9_; clear hb hbox hg; have hnb37 := NB147_122.out; have hnc37 := NB122_147.out; have hnb38 := NB147_144.out; have hnc38 := NB144_147.out; have hfz39_0 := bf_ BK147 0; have hfz39_1 := bf_ BK147 1; have hfz39_2 := bf_ BK147 2; have hfz39_3 := bf_ BK147 3; have hfz39_4 := bf_ BK147 4; have hfz39_5 := bf_ BK147 5; have hfz39_6 := bf_ BK147 6; have hfz39_7 := bf_ BK147 7; have hfz39_8 := bf_ BK147 8; have hfz39_9 := bf_ BK147 9; have hfz39_10 := bf_ BK147 10; have hfz39_11 := bf_ BK147 11; have hfz39_12 := bf_ BK147 12; have hfz39_13 := bf_ BK147 13; have hfz39_14 := bf_ BK147 14; have hfz39_15 := bf_ BK147 15; have hfz39_16 := bf_ BK147 16; have hfz39_17 := bf_ BK147 17) | ((with_reducible refine gate_store (t := 34) (p := 11) rfl ?_); refine store_all ?hg 34 11 _ rfl rfl gb147 (nt_ false 0 0 0 0 0 0 0 0 0 0 0 0 0 0 0 0 0) (nt_ t126 t127 t128 t129 t130 t131 t132 t133 t134 t135 t136 t137 t138 t139 t140 t141 t142 t145) BK147.out rfl rfl rfl (by kernel_rfl) rfl ?_; (case hg => rfl); intro w40 hw; replace BK122 := Aside0.mk (sf_ BK122 NB122_147 hw); replace BK144 := Aside0.mk (sf_ BK144 NB144_147 hw); replace BK147 := Aside0.mk (show w40.heap[gb147]? = some (.cells (nr_ t126 t127 t128 t129 t130 t131 t132 t133 t134 t135 t136 t137 t138 t139 t140 t141 t142 t145) 34 (0, 0)) from ss_ BK147 hw); replace HB := Aside0.mk (sb_ hw); clear hw; have hfz41_0 := bf_ BK122 0; have hfz41_1 := bf_ BK122 1; have hfz41_2 := bf_ BK122 2; have hfz41_3 := bf_ BK122 3; have hfz41_4 := bf_ BK122 4; have hfz41_5 := bf_ BK122 5; have hfz41_6 := bf_ BK122 6; have hfz41_7 := bf_ BK122 7; have hfz41_8 := bf_ BK122 8; have hfz41_9 := bf_ BK122 9; have hfz41_10 := bf_ BK122 10; have hfz41_11 := bf_ BK122 11; have hfz41_12 := bf_ BK122 12; have hfz41_13 := bf_ BK122 13; have hfz41_14 := bf_ BK122 14; have hfz41_15 := bf_ BK122 15; have hfz41_16 := bf_ BK122 16; have hfz41_17 := bf_ BK122 17) | ((with_reducible refine gate_store (t := 34) (p := 2) rfl ?_); refine store_all ?hg 34 2 _ rfl rfl gb122 (nt_ false 0 0 0 0 0 0 0 0 0 0 0 0 0 0 0 0 0) (nt_ false 0 0 0 0 0 0 0 0 0 0 0 0 0 0 0 0 0) BK122.out rfl rfl rfl (by kernel_rfl) rfl ?_; (case hg => rfl); intro w42 hw; replace BK122 := Aside0.mk (show w42.heap[gb122]? = some (.cells (nr_ false 0 0 0 0 0 0 0 0 0 0 0 0 0 0 0 0 0) 34 (0, 0)) from ss_ BK122 hw); replace BK144 := Aside0.mk (sf_ BK144 NB144_122 hw); replace BK147 := Aside0.mk (sf_ BK147 NB147_122 hw); replace HB := Aside0.mk (sb_ hw); clear hw))
    refine bodyPost_ret (results_ct rfl _ _ gb122 34 (nr_ false 0 0 0 0 0 0 0 0 0 0 0 0 0 0 0 0 0) (0, 0) _ rfl bk_ Tryd.underlying34 rfl (by kernel_rfl)) rfl ?_
    exact ⟨rq_, bg_⟩
  ·rw [if_neg c6] at H
   exact absurd H (by simp)
 ·replace c5 := Bool.eq_false_iff.mpr c5
  subst c5
  replace H := ifF_ H
  exact absurd H (by simp)

def cidr_Forbidden.l0 : Nat → List (S34) → List ByteArray → Int → Int → Option ((List (S34)))
 | 0, _, _, _, _ => none
 | k + 1, x1, x6, x7, x8 => if x8 < x7 then (if 0 ≤ x8 then (if x8 < (x6.length : Int) then ((cidr_Parse.f k (rdOf ByteArray.empty x6 x8)).bind fun bt155 => (if x1.length < 4398046511104 then (cidr_Forbidden.l0 k (x1 ++ [(⟨(⟨bt155.1, (⟨bt155.2.1, bt155.2.2.1, bt155.2.2.2.1, bt155.2.2.2.2.1, bt155.2.2.2.2.2.1, bt155.2.2.2.2.2.2.1, bt155.2.2.2.2.2.2.2.1, bt155.2.2.2.2.2.2.2.2.1, bt155.2.2.2.2.2.2.2.2.2.1, bt155.2.2.2.2.2.2.2.2.2.2.1, bt155.2.2.2.2.2.2.2.2.2.2.2.1, bt155.2.2.2.2.2.2.2.2.2.2.2.2.1, bt155.2.2.2.2.2.2.2.2.2.2.2.2.2.1, bt155.2.2.2.2.2.2.2.2.2.2.2.2.2.2.1, bt155.2.2.2.2.2.2.2.2.2.2.2.2.2.2.2.1, bt155.2.2.2.2.2.2.2.2.2.2.2.2.2.2.2.2.1⟩ : S22)⟩ : S24), bt155.2.2.2.2.2.2.2.2.2.2.2.2.2.2.2.2.2.1⟩ : S34)]) x6 x7 (wrap64 (x8 + 1))) else (none))) else (none)) else (none)) else (some x1)
def cidr_Forbidden.f (k : Nat)  : Option ((List (S34))) := (strings_Split.f (⟨#[48, 46, 48, 46, 48, 46, 48, 47, 56, 32, 49, 48, 46, 48, 46, 48, 46, 48, 47, 56, 32, 49, 48, 48, 46, 54, 52, 46, 48, 46, 48, 47, 49, 48, 32, 49, 50, 55, 46, 48, 46, 48, 46, 48, 47, 56, 32, 49, 54, 57, 46, 50, 53, 52, 46, 48, 46, 48, 47, 49, 54, 32, 49, 55, 50, 46, 49, 54, 46, 48, 46, 48, 47, 49, 50, 32, 49, 57, 50, 46, 48, 46, 48, 46, 48, 47, 50, 52, 32, 49, 57, 50, 46, 48, 46, 50, 46, 48, 47, 50, 52, 32, 49, 57, 50, 46, 56, 56, 46, 57, 57, 46, 48, 47, 50, 52, 32, 49, 57, 50, 46, 49, 54, 56, 46, 48, 46, 48, 47, 49, 54, 32, 49, 57, 56, 46, 49, 56, 46, 48, 46, 48, 47, 49, 53, 32, 49, 57, 56, 46, 53, 49, 46, 49, 48, 48, 46, 48, 47, 50, 52, 32, 50, 48, 51, 46, 48, 46, 49, 49, 51, 46, 48, 47, 50, 52, 32, 50, 50, 52, 46, 48, 46, 48, 46, 48, 47, 52, 32, 50, 52, 48, 46, 48, 46, 48, 46, 48, 47, 52, 32, 58, 58, 47, 49, 50, 56, 32, 58, 58, 49, 47, 49, 50, 56, 32, 54, 52, 58, 102, 102, 57, 98, 58, 49, 58, 58, 47, 52, 56, 32, 49, 48, 48, 58, 58, 47, 54, 52, 32, 50, 48, 48, 49, 58, 58, 47, 50, 51, 32, 50, 48, 48, 49, 58, 100, 98, 56, 58, 58, 47, 51, 50, 32, 51, 102, 102, 102, 58, 58, 47, 50, 48, 32, 53, 102, 48, 48, 58, 58, 47, 49, 54, 32, 102, 99, 48, 48, 58, 58, 47, 55, 32, 102, 101, 56, 48, 58, 58, 47, 49, 48, 32, 102, 102, 48, 48, 58, 58, 47, 56]⟩ : ByteArray) (⟨#[32]⟩ : ByteArray)).bind fun t151 => (cidr_Forbidden.l0 k ([] : List (S34)) t151 (t151.length : Int) 0)
theorem cidr_Forbidden.mono_l : ∀ k, (∀ y0 y1 y2 y3, LeO (cidr_Forbidden.l0 k y0 y1 y2 y3) (cidr_Forbidden.l0 (k + 1) y0 y1 y2 y3))
 | 0 => fun _ _ _ _ r h => by simp [cidr_Forbidden.l0] at h
 | k + 1 => by
  have ih0 := cidr_Forbidden.mono_l k
  ·intro y0 y1 y2 y3
   unfold cidr_Forbidden.l0
   repeat' first
   | (with_reducible exact ih0 _ _ _ _)
   | (with_reducible exact cidr_Parse.mono _ _)
   | (with_reducible exact LeO.refl _)
   | (with_reducible exact LeO.none _)
   | (with_reducible refine LeO.ite ?_ ?_)
   | (with_reducible refine LeO.bind ?_ (fun _ => ?_))
   | exact ih0 _ _ _ _
   | exact cidr_Parse.mono _ _
   | exact LeO.none _
   | refine LeO.ite ?_ ?_
   | refine LeO.bind ?_ (fun _ => ?_)
theorem cidr_Forbidden.mono : ∀ k, LeO (cidr_Forbidden.f k ) (cidr_Forbidden.f (k + 1) ) := by
 intro  k
 have ih0 := cidr_Forbidden.mono_l k
 unfold cidr_Forbidden.f
 repeat' first
   | (with_reducible exact ih0 _ _ _ _)
   | (with_reducible exact cidr_Parse.mono _ _)
   | (with_reducible exact LeO.refl _)
   | (with_reducible exact LeO.none _)
   | (with_reducible refine LeO.ite ?_ ?_)
   | (with_reducible refine LeO.bind ?_ (fun _ => ?_))
   | exact ih0 _ _ _ _
   | exact cidr_Parse.mono _ _
   | exact LeO.none _
   | refine LeO.ite ?_ ?_
   | refine LeO.bind ?_ (fun _ => ?_)
set_option maxHeartbeats 8000000 in
set_option maxRecDepth 100000 in
theorem cidr_Forbidden.calls (k : Nat)  (r : List (S34)) (w : World) (hLW : LW w) (h : cidr_Forbidden.f k  = some r) :
  Calls Tryd.prog 10 #[] w fun e w' => ∃ v0_ : Value, e = .returned (v0_) ∧ Kd.R k34 34 w' w.heap.size (fun _ => True) v0_ r ∧ Below w.heap.size w w' := by
 have hu34 := Tryd.underlying34
 have HLW := Aside0.mk hLW
 clear hLW
 have HB := Aside0.mk (Below.refl w.heap.size w)
 have H := h
 unfold cidr_Forbidden.f at H
 clear h
 replace H := Option.bind_eq_some_iff.mp H
 obtain ⟨t151, A10, H⟩ := H
 (try dsimp only at H)
 have A1 := Aside0.mk A10
 clear A10
 have H' := Aside0.mk H
 clear H
 go_enter Tryd.func10, Tryd.ntmps10
 go_wp2_with (first | ((with_reducible refine gate_callee (f := 29) rfl ?_); refine goesL_ (some 6) rfl rfl Tryd.func29 (by kernel_rfl) rfl #[.string (⟨#[48, 46, 48, 46, 48, 46, 48, 47, 56, 32, 49, 48, 46, 48, 46, 48, 46, 48, 47, 56, 32, 49, 48, 48, 46, 54, 52, 46, 48, 46, 48, 47, 49, 48, 32, 49, 50, 55, 46, 48, 46, 48, 46, 48, 47, 56, 32, 49, 54, 57, 46, 50, 53, 52, 46, 48, 46, 48, 47, 49, 54, 32, 49, 55, 50, 46, 49, 54, 46, 48, 46, 48, 47, 49, 50, 32, 49, 57, 50, 46, 48, 46, 48, 46, 48, 47, 50, 52, 32, 49, 57, 50, 46, 48, 46, 50, 46, 48, 47, 50, 52, 32, 49, 57, 50, 46, 56, 56, 46, 57, 57, 46, 48, 47, 50, 52, 32, 49, 57, 50, 46, 49, 54, 56, 46, 48, 46, 48, 47, 49, 54, 32, 49, 57, 56, 46, 49, 56, 46, 48, 46, 48, 47, 49, 53, 32, 49, 57, 56, 46, 53, 49, 46, 49, 48, 48, 46, 48, 47, 50, 52, 32, 50, 48, 51, 46, 48, 46, 49, 49, 51, 46, 48, 47, 50, 52, 32, 50, 50, 52, 46, 48, 46, 48, 46, 48, 47, 52, 32, 50, 52, 48, 46, 48, 46, 48, 46, 48, 47, 52, 32, 58, 58, 47, 49, 50, 56, 32, 58, 58, 49, 47, 49, 50, 56, 32, 54, 52, 58, 102, 102, 57, 98, 58, 49, 58, 58, 47, 52, 56, 32, 49, 48, 48, 58, 58, 47, 54, 52, 32, 50, 48, 48, 49, 58, 58, 47, 50, 51, 32, 50, 48, 48, 49, 58, 100, 98, 56, 58, 58, 47, 51, 50, 32, 51, 102, 102, 102, 58, 58, 47, 50, 48, 32, 53, 102, 48, 48, 58, 58, 47, 49, 54, 32, 102, 99, 48, 48, 58, 58, 47, 55, 32, 102, 101, 56, 48, 58, 58, 47, 49, 48, 32, 102, 102, 48, 48, 58, 58, 47, 56]⟩ : ByteArray), .string (⟨#[32]⟩ : ByteArray)] rfl lq_ ?_; (with_reducible refine (strings_Split.calls (⟨#[48, 46, 48, 46, 48, 46, 48, 47, 56, 32, 49, 48, 46, 48, 46, 48, 46, 48, 47, 56, 32, 49, 48, 48, 46, 54, 52, 46, 48, 46, 48, 47, 49, 48, 32, 49, 50, 55, 46, 48, 46, 48, 46, 48, 47, 56, 32, 49, 54, 57, 46, 50, 53, 52, 46, 48, 46, 48, 47, 49, 54, 32, 49, 55, 50, 46, 49, 54, 46, 48, 46, 48, 47, 49, 50, 32, 49, 57, 50, 46, 48, 46, 48, 46, 48, 47, 50, 52, 32, 49, 57, 50, 46, 48, 46, 50, 46, 48, 47, 50, 52, 32, 49, 57, 50, 46, 56, 56, 46, 57, 57, 46, 48, 47, 50, 52, 32, 49, 57, 50, 46, 49, 54, 56, 46, 48, 46, 48, 47, 49, 54, 32, 49, 57, 56, 46, 49, 56, 46, 48, 46, 48, 47, 49, 53, 32, 49, 57, 56, 46, 53, 49, 46, 49, 48, 48, 46, 48, 47, 50, 52, 32, 50, 48, 51, 46, 48, 46, 49, 49, 51, 46, 48, 47, 50, 52, 32, 50, 50, 52, 46, 48, 46, 48, 46, 48, 47, 52, 32, 50, 52, 48, 46, 48, 46, 48, 46, 48, 47, 52, 32, 58, 58, 47, 49, 50, 56, 32, 58, 58, 49, 47, 49, 50, 56, 32, 54, 52, 58, 102, 102, 57, 98, 58, 49, 58, 58, 47, 52, 56, 32, 49, 48, 48, 58, 58, 47, 54, 52, 32, 50, 48, 48, 49, 58, 58, 47, 50, 51, 32, 50, 48, 48, 49, 58, 100, 98, 56, 58, 58, 47, 51, 50, 32, 51, 102, 102, 102, 58, 58, 47, 50, 48, 32, 53, 102, 48, 48, 58, 58, 47, 49, 54, 32, 102, 99, 48, 48, 58, 58, 47, 55, 32, 102, 101, 56, 48, 58, 58, 47, 49, 48, 32, 102, 102, 48, 48, 58, 58, 47, 56]⟩ : ByteArray) (⟨#[32]⟩ : ByteArray) t151 _ ?side1 A1.out).mono ?_); (case side1 => exact lw_); rintro e w2 ⟨v152, rfl, ho0, hb⟩; refine ⟨_, rfl, ?_⟩; have HO153 := Aside0.mk (Kd.R_lower ho0 (below_size bq_)); replace HB := Aside0.mk (below_step bq_ hb); (try clear hb); (try clear hb2); (try clear hk); (try clear hi); (try clear ho0); obtain ⟨Ao3, co3, eo3⟩ := Kd.R_slice HO153.out; subst eo3))
 go_loopg [1, 8] k (fun kq v1 v8 w' => ∃ (x1_1 : List (S34)) (x8_1 : Int), v8 = .int .i64 x8_1 ∧ Aside0 (cidr_Forbidden.l0 kq x1_1 t151 (t151.length : Int) x8_1 = some r) ∧ Aside0 (kq ≤ k) ∧ Aside0 (Kd.R k34 34 w' w.heap.size (fun _ => True) v1 x1_1) ∧ Aside0 (Kd.R Kd.string 9 w' w.heap.size (fun _ => True) (.slice Ao3 t151.length co3) t151) ∧ Aside0 (Below w.heap.size w w'))
 case atStart => exact ⟨(([] : List (S34))), (0), sq_, H', ⟨Nat.le_refl _⟩, ⟨by first | exact Kd.R_nil _ _ _ _ _ | exact Kd.N_nil _ _ _ _ _ | exact Kd.V_nil _ _ _ _ _ | exact Kd.Q_nil _ _ _ _ _ | exact Kd.S_nil _ _ _ _ _⟩, ⟨by (with_reducible repeat (first | apply Kd.R_alloc | apply Kd.R_drewN | apply Kd.R_drew)); exact HO153.out⟩, ⟨bq_⟩⟩
 case round =>
  clear H'
  try clear c1
  try clear c2
  try clear p2
  obtain ⟨x1_1, x8_1, rfl, HA, HK1, HO_1, HO_6, HB⟩ := hrel
  cases gk with
  | zero => exact absurd HA.out (by simp [cidr_Forbidden.l0])
  | succ k1 =>
   have H := HA.out
   clear HA
   simp only [cidr_Forbidden.l0] at H
   by_cases c4 : x8_1 < (t151.length : Int)
   ·rw [if_pos c4] at H
    have c4b0 := decide_eq_true c4
    clear c4
    by_cases c5 : 0 ≤ x8_1
    ·rw [if_pos c5] at H
     have c5b0 := decide_eq_true c5
     clear c5
     by_cases c6 : x8_1 < (t151.length : Int)
     ·rw [if_pos c6] at H
      have c6b0 := decide_eq_true c6
      clear c6
      replace H := Option.bind_eq_some_iff.mp H
      obtain ⟨⟨t155, t156, t157, t158, t159, t160, t161, t162, t163, t164, t165, t166, t167, t168, t169, t170, t171, t172, t173⟩, A70, H⟩ := H
      (try dsimp only at H)
      have A7 := Aside0.mk A70
      clear A70
      by_cases c8 : x1_1.length < 4398046511104
      ·rw [if_pos c8] at H
       have LMc8 := Aside0.mk c8
       clear c8
       obtain ⟨y175, hy175⟩ : ∃ y_ : List (S34), y_ = (x1_1 ++ [(⟨(⟨t155, (⟨t156, t157, t158, t159, t160, t161, t162, t163, t164, t165, t166, t167, t168, t169, t170, t171⟩ : S22)⟩ : S24), t172⟩ : S34)]) := ⟨_, rfl⟩
       replace H : (cidr_Forbidden.l0 k1 y175 t151 (t151.length : Int) (wrap64 (x8_1 + 1))) = some r := by first | (rw [hy175]; with_reducible exact H) | (have H2_ := (Option.bind_some _ _).symm.trans H; rw [hy175]; with_reducible exact H2_) | (have H2_ := (Option.bind_some _ _).symm.trans H; with_reducible exact H2_) | with_reducible exact H | (rw [hy175]; exact H) | exact H
       have Ny175 := Aside0.mk hy175
       clear hy175
       have H' := Aside0.mk H
       clear H
       have p154 : 0 ≤ (x8_1 : Int) := of_decide_eq_true as_
       have q154 : x8_1 < (t151.length : Int) := of_decide_eq_true as_
       obtain ⟨ad154, e154, hx154_0⟩ := Kd.at_string (Kd.R_reads' HO_6.out).2.2 x8_1 p154 q154
       cases e154
       replace p154 := eq_true p154
       replace q154 := eq_true q154
       go_wp2_with (first | ((with_reducible refine gate_callee (f := 30) rfl ?_); refine goesL_ (some 14) rfl rfl Tryd.func30 (by kernel_rfl) rfl #[.string (rdOf ByteArray.empty t151 x8_1)] rfl lq_ ?_; (with_reducible refine (cidr_Parse.calls k1 (rdOf ByteArray.empty t151 x8_1) t155 t156 t157 t158 t159 t160 t161 t162 t163 t164 t165 t166 t167 t168 t169 t170 t171 t172 t173 _ ?side1 A7.out).mono ?_); (case side1 => exact lw_); rintro e w9 ⟨rfl, hb⟩; refine ⟨_, rfl, ?_⟩; replace HO_1 := Aside0.mk (Kd.R_below (by (with_reducible repeat (first | apply Kd.R_alloc | apply Kd.R_drewN | apply Kd.R_drew)); exact HO_1.out) hb); replace HO_6 := Aside0.mk (Kd.R_below (by (with_reducible repeat (first | apply Kd.R_alloc | apply Kd.R_drewN | apply Kd.R_drew)); exact HO_6.out) hb); replace HB := Aside0.mk (below_step bq_ hb); (try clear hb); (try clear hb2); (try clear hk); (try clear hi)) | ((with_reducible refine gate_dst (N := 4) rfl ?_); refine bx_ 4 (nr_ false 0 0 0 0 0 0 0 0 0 0 0 0 0 0 0 0 0) 34 ?_; intro gb174 hg w10 hbox hb; replace HO_1 := Aside0.mk (Kd.R_below (Kd.R_elderB (by (with_reducible repeat (first | apply Kd.R_alloc | apply Kd.R_drewN | apply Kd.R_drew)); exact HO_1.out) gb174 (Nat.le_of_eq hg.symm)) hb); replace HO_6 := Aside0.mk (Kd.R_below (by (with_reducible repeat (first | apply Kd.R_alloc | apply Kd.R_drewN | apply Kd.R_drew)); exact HO_6.out) hb); have BK174 := Aside0.mk (hbox); have GW174 := Aside0.mk (ge_ (w := w) hg); have GE174 := Aside0.mk (ge_ (w := w) hg); replace HB := Aside0.mk (below_step bq_ hb); clear hb hbox hg; have hfz11_0 := bf_ BK174 0; have hfz11_1 := bf_ BK174 1; have hfz11_2 := bf_ BK174 2; have hfz11_3 := bf_ BK174 3; have hfz11_4 := bf_ BK174 4; have hfz11_5 := bf_ BK174 5; have hfz11_6 := bf_ BK174 6; have hfz11_7 := bf_ BK174 7; have hfz11_8 := bf_ BK174 8; have hfz11_9 := bf_ BK174 9; have hfz11_10 := bf_ BK174 10; have hfz11_11 := bf_ BK174 11; have hfz11_12 := bf_ BK174 12; have hfz11_13 := bf_ BK174 13; have hfz11_14 := bf_ BK174 14; have hfz11_15 := bf_ BK174 15; have hfz11_16 := bf_ BK174 16; have hfz11_17 := bf_ BK174 17) | ((with_reducible refine gate_store (t := 34) (p := 4) rfl ?_); refine store_all ?hg 34 4 _ rfl rfl gb174 (nt_ false 0 0 0 0 0 0 0 0 0 0 0 0 0 0 0 0 0) (nt_ t155 t156 t157 t158 t159 t160 t161 t162 t163 t164 t165 t166 t167 t168 t169 t170 t171 t172) BK174.out rfl rfl rfl (by kernel_rfl) rfl ?_; (case hg => rfl); intro w12 hw; have n0_ : Aside0 (Kd.R k34 34 w12 w.heap.size (fun k_ => k_ ≠ gb174) u1 x1_1) := ⟨(by rw [hw]; exact (by (with_reducible repeat (first | apply Kd.R_alloc | apply Kd.R_drewN | apply Kd.R_drew)); exact Kd.R_mono (R_farC (g := gb174) (fun _ hk => hk.2) (Kd.R_mono HO_1.out (fun k_ hk => (⟨hk, hk.2⟩ : _ ∧ k_ ≠ gb174))) (nt_ t155 t156 t157 t158 t159 t160 t161 t162 t163 t164 t165 t166 t167 t168 t169 t170 t171 t172) 0) (fun _ hk => hk.1.2)))⟩; have n1_ : Aside0 (Kd.R Kd.string 9 w12 w.heap.size (fun _ => True) (.slice (some ad154) t151.length co3) t151) := ⟨(by rw [hw]; exact (by (with_reducible repeat (first | apply Kd.R_alloc | apply Kd.R_drewN | apply Kd.R_drew)); exact Kd.R_mono (R_farC (g := gb174) (fun _ hk => hk.2) (Kd.R_types HO_6.out BK174.out (by decide)) (nt_ t155 t156 t157 t158 t159 t160 t161 t162 t163 t164 t165 t166 t167 t168 t169 t170 t171 t172) 0) (fun _ hk => trivial)))⟩; have n2_ := Aside0.mk (show w12.heap[gb174]? = some (.cells (nr_ t155 t156 t157 t158 t159 t160 t161 t162 t163 t164 t165 t166 t167 t168 t169 t170 t171 t172) 34 (0, 0)) from ss_ BK174 hw); have n3_ := Aside0.mk (sb_ hw); clear hw; clear HO_1; clear HO_6; clear BK174; clear HB; have HO_1 := n0_; have HO_6 := n1_; have BK174 := n2_; have HB := n3_; clear n0_ n1_ n2_ n3_) | ((with_reducible refine gate_dst (N := 18) rfl ?_); (try (refine gate_guard (by rfl) ?_; dsimp only)); refine load_box ?hg 34 (.tmp 4) rfl BK174.out [] (nt_ t155 t156 t157 t158 t159 t160 t161 t162 t163 t164 t165 t166 t167 t168 t169 t170 t171 t172) [] rfl 0 rfl rfl Tryd.underlying34 rfl (by kernel_rfl) ?_; (case hg => rfl)) | ((with_reducible refine gate_builtin (b := .append) (xs := #[.tmp 17, .tmp 19]) rfl ?_); at_builtin; refine Kd.R_append k34 (w0 := w) w.heap.size rfl (.tmp 17) (.tmp 19) 25 34 (.agg #[(.bool false), (.int .u8 0), (.int .u8 0), (.int .u8 0), (.int .u8 0), (.int .u8 0), (.int .u8 0), (.int .u8 0), (.int .u8 0), (.int .u8 0), (.int .u8 0), (.int .u8 0), (.int .u8 0), (.int .u8 0), (.int .u8 0), (.int .u8 0), (.int .u8 0), (.int .i64 0)]) 32 rfl Tryd.underlying25 info34 rfl (by decide) (by omega) u1 x1_1 (⟨(⟨t155, (⟨t156, t157, t158, t159, t160, t161, t162, t163, t164, t165, t166, t167, t168, t169, t170, t171⟩ : S22)⟩ : S24), t172⟩ : S34) (nt_ t155 t156 t157 t158 t159 t160 t161 t162 t163 t164 t165 t166 t167 t168 t169 t170 t171 t172) (fun k_ => k_ ≠ gb174) (fun _ => False) rfl rfl ?aP (fun _ hk => hk.elim) ?aF ?aO ?aB ?aS ?aL ?_; (case aP => exact k34_mkM _ _ _ (⟨(⟨t155, (⟨t156, t157, t158, t159, t160, t161, t162, t163, t164, t165, t166, t167, t168, t169, t170, t171⟩ : S22)⟩ : S24), t172⟩ : S34)); (case aB => exact bg_); (case aF => exact (fun k_ hk => Kd.freshB (g := gb174) (o := .cells (nr_ t155 t156 t157 t158 t159 t160 t161 t162 t163 t164 t165 t166 t167 t168 t169 t170 t171 t172) 34 (0, 0)) bk_ k_ hk)); (case aO => exact (by (with_reducible repeat (first | apply Kd.R_alloc | apply Kd.R_drewN | apply Kd.R_drew)); exact HO_1.out)); (case aS => exact (below_size bg_)); (case aL => have := LMc8.out; omega); intro v176 w13 ho hb hg hat; rw [← Ny175.out] at ho; replace HO_6 := Aside0.mk (Kd.R_over' (by (with_reducible repeat (first | apply Kd.R_alloc | apply Kd.R_drewN | apply Kd.R_drew)); exact HO_6.out) (Kd.R_typed (by (with_reducible repeat (first | apply Kd.R_alloc | apply Kd.R_drewN | apply Kd.R_drew)); exact HO_1.out)) (by decide) hg); replace BK174 := Aside0.mk (blk_grown (g := gb174) (o := .cells (nr_ t155 t156 t157 t158 t159 t160 t161 t162 t163 t164 t165 t166 t167 t168 t169 t170 t171 t172) 34 (0, 0)) bk_ hg (Kd.R_away HO_1.out (fun _ hk => hk))); have HO177 := Aside0.mk (ho); replace HB := Aside0.mk (hb); clear HO_1; clear ho hb hg hat))
       go_roundg k1
       case measure => have := HK1.out; omega
       case rel => exact ⟨(y175), (wrap64 (x8_1 + 1)), sq_, H', ⟨by have := HK1.out; omega⟩, ⟨by (with_reducible repeat (first | apply Kd.R_alloc | apply Kd.R_drewN | apply Kd.R_drew)); exact Kd.R_mono HO177.out (fun _ hk => trivial)⟩, ⟨by (with_reducible repeat (first | apply Kd.R_alloc | apply Kd.R_drewN | apply Kd.R_drew)); exact HO_6.out⟩, ⟨bg_⟩⟩
      ·rw [if_neg c8] at H
       exact absurd H (by simp)
     ·rw [if_neg c6] at H
      exact absurd H (by simp)
    ·rw [if_neg c5] at H
     exact absurd H (by simp)
   ·rw [if_neg c4] at H
    have c4b0 := decide_eq_false c4
    clear c4
    obtain rfl := Option.some.inj H
    go_wp2
    go_ret
    exact ⟨_, rq_, by (with_reducible repeat (first | apply Kd.R_alloc | apply Kd.R_drewN | apply Kd.R_drew)); exact HO_1.out, bq_⟩

-- NOT PRINTED: function 39 (api_Net_39)

-- NOT PRINTED: function 20 (api_Net_20)

-- NOT PRINTED: function 7 (cidr_Allow)

-- NOT PRINTED: function 6 (lanternlaw06_awake)

end Go.Proofs.YtdopafhppaalfaaDoor.G
