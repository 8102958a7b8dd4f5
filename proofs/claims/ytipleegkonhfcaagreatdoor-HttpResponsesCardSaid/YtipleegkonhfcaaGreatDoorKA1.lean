import Derived.Test.YtipleegkonhfcaaGreatDoorP9
import Derived.Test.YtipleegkonhfcaaGreatDoorP5
import Derived.Test.YtipleegkonhfcaaGreatDoorP13
namespace Go.Proofs.YtipleegkonhfcaaGreatDoor.KA
open Go.Proofs.YtipleegkonhfcaaGreatDoor.E Go.Proofs.YtipleegkonhfcaaGreatDoorV
open Go.Proofs.YtipleegkonhfcaaGreatDoor.U
open Go.Proofs.YtipleegkonhfcaaGreatDoor.KF
open Go.Proofs.YtipleegkonhfcaaGreatDoor.P
open Go.RowKit Go.Proofs.YtipleegkonhfcaaGreatDoorW.PrintWords Go.Proofs.YtipleegkonhfcaaGreatDoorW.PrintLast Go.Proofs.YtipleegkonhfcaaGreatDoorW.PrintMore
attribute [local go_sem] max2_int min2_int max_two min_two max_three min_three max_four min_four   -- for this text's walks alone
set_option linter.unusedVariables false
set_option linter.unusedSimpArgs false

def errW : Option Int → Value
 | none => .nilIface
 | some c => .iface 0 (.int .i64 c)
theorem errW_none : errW none = .nilIface := rfl
theorem errW_some (c : Int) : errW (some c) = .iface 0 (.int .i64 c) := rfl

end Go.Proofs.YtipleegkonhfcaaGreatDoor.KA
namespace Go.Proofs.YtipleegkonhfcaaGreatDoor.KA
open Go.Proofs.YtipleegkonhfcaaGreatDoorZ
open Go.Proofs.YtipleegkonhfcaaGreatDoor.E Go.Proofs.YtipleegkonhfcaaGreatDoorV
open Go.Proofs.YtipleegkonhfcaaGreatDoor.U
open Go.Proofs.YtipleegkonhfcaaGreatDoor.KF
open Go.Proofs.YtipleegkonhfcaaGreatDoor.P
open Go.RowKit Go.Proofs.YtipleegkonhfcaaGreatDoorW.PrintWords Go.Proofs.YtipleegkonhfcaaGreatDoorW.PrintLast Go.Proofs.YtipleegkonhfcaaGreatDoorW.PrintMore
attribute [local go_sem] max2_int min2_int max_two min_two max_three min_three max_four min_four   -- for this text's walks alone
set_option linter.unusedVariables false
set_option linter.unusedSimpArgs false

def lanternlaw11_awake.f (k : Nat)  : Option (Bool) := (http_ParseRequest.f k (([71, 69, 84, 32, 47, 32, 72, 84, 84, 80, 47, 49, 46, 49, 13, 10, 72, 111, 115, 116, 58, 32, 97, 13, 10, 13, 10] : List Int))).bind fun bt104 => ((http_ParseRequest.f k (([71, 69, 84, 32, 47, 32, 72, 84, 84, 80, 47, 49, 46, 49, 13, 10, 67, 111, 110, 116, 101, 110, 116, 45, 76, 101, 110, 103, 116, 104, 58, 32, 49, 13, 10, 67, 111, 110, 116, 101, 110, 116, 45, 76, 101, 110, 103, 116, 104, 58, 32, 50, 13, 10, 13, 10, 97, 98] : List Int))).bind fun bt118 => (if bt104.2.2.2.2.2 = 0 then (if bt104.2.2.2.2.1 = 27 then (if bt104.1.toList = ([71, 69, 84] : List UInt8) then (if bt104.2.1.toList = ([47] : List UInt8) then (if (bt104.2.2.1.length : Int) = 1 then (some (bt118.2.2.2.2.2 == 5)) else (none)) else (none)) else (none)) else (none)) else (none)))
theorem lanternlaw11_awake.mono : ∀ k, LeO (lanternlaw11_awake.f k ) (lanternlaw11_awake.f (k + 1) ) := by
 intro  k
 unfold lanternlaw11_awake.f
 repeat' first
   | (with_reducible exact http_ParseRequest.mono _ _)
   | (with_reducible exact LeO.refl _)
   | (with_reducible exact LeO.none _)
   | (with_reducible refine LeO.ite ?_ ?_)
   | (with_reducible refine LeO.bind ?_ (fun _ => ?_))
   | exact http_ParseRequest.mono _ _
   | exact LeO.none _
   | refine LeO.ite ?_ ?_
   | refine LeO.bind ?_ (fun _ => ?_)
set_option maxHeartbeats 8000000 in
set_option maxRecDepth 100000 in
theorem lanternlaw11_awake.calls (k : Nat)  (r : Bool) (w : World) (hLW : LW w) (h : lanternlaw11_awake.f k  = some r) :
  Calls Tryz.prog 6 #[] w fun e w' => e = .returned (.bool r) ∧ Below w.heap.size w w' := by
 have hu26 := Tryz.underlying26
 have HLW := Aside0.mk hLW
 clear hLW
 have HB := Aside0.mk (Below.refl w.heap.size w)
 have H := h
 unfold lanternlaw11_awake.f at H
 clear h
 obtain ⟨y101, hy101⟩ : ∃ y_ : List Int, y_ = (([71, 69, 84, 32, 47, 32, 72, 84, 84, 80, 47, 49, 46, 49, 13, 10, 72, 111, 115, 116, 58, 32, 97, 13, 10, 13, 10] : List Int)) := ⟨_, rfl⟩
 replace H : ((http_ParseRequest.f k y101).bind fun bt104 => ((http_ParseRequest.f k (([71, 69, 84, 32, 47, 32, 72, 84, 84, 80, 47, 49, 46, 49, 13, 10, 67, 111, 110, 116, 101, 110, 116, 45, 76, 101, 110, 103, 116, 104, 58, 32, 49, 13, 10, 67, 111, 110, 116, 101, 110, 116, 45, 76, 101, 110, 103, 116, 104, 58, 32, 50, 13, 10, 13, 10, 97, 98] : List Int))).bind fun bt118 => (if bt104.2.2.2.2.2 = 0 then (if bt104.2.2.2.2.1 = 27 then (if bt104.1.toList = ([71, 69, 84] : List UInt8) then (if bt104.2.1.toList = ([47] : List UInt8) then (if (bt104.2.2.1.length : Int) = 1 then (some (bt118.2.2.2.2.2 == 5)) else (none)) else (none)) else (none)) else (none)) else (none)))) = some r := by first | (rw [hy101]; with_reducible exact H) | (have H2_ := (Option.bind_some _ _).symm.trans H; rw [hy101]; with_reducible exact H2_) | (have H2_ := (Option.bind_some _ _).symm.trans H; with_reducible exact H2_) | with_reducible exact H | (rw [hy101]; exact H) | exact H
 have Ny101 := Aside0.mk hy101
 clear hy101
 replace H := Option.bind_eq_some_iff.mp H
 obtain ⟨⟨t104, t105, t106, t109, t112, t113⟩, A10, H⟩ := H
 (try dsimp only at H)
 have A1 := Aside0.mk A10
 clear A10
 obtain ⟨y115, hy115⟩ : ∃ y_ : List Int, y_ = (([71, 69, 84, 32, 47, 32, 72, 84, 84, 80, 47, 49, 46, 49, 13, 10, 67, 111, 110, 116, 101, 110, 116, 45, 76, 101, 110, 103, 116, 104, 58, 32, 49, 13, 10, 67, 111, 110, 116, 101, 110, 116, 45, 76, 101, 110, 103, 116, 104, 58, 32, 50, 13, 10, 13, 10, 97, 98] : List Int)) := ⟨_, rfl⟩
 replace H : ((http_ParseRequest.f k y115).bind fun bt118 => (if t113 = 0 then (if t112 = 27 then (if t104.toList = ([71, 69, 84] : List UInt8) then (if t105.toList = ([47] : List UInt8) then (if (t106.length : Int) = 1 then (some (bt118.2.2.2.2.2 == 5)) else (none)) else (none)) else (none)) else (none)) else (none))) = some r := by first | (rw [hy115]; with_reducible exact H) | (have H2_ := (Option.bind_some _ _).symm.trans H; rw [hy115]; with_reducible exact H2_) | (have H2_ := (Option.bind_some _ _).symm.trans H; with_reducible exact H2_) | with_reducible exact H | (rw [hy115]; exact H) | exact H
 have Ny115 := Aside0.mk hy115
 clear hy115
 replace H := Option.bind_eq_some_iff.mp H
 obtain ⟨⟨t118, t119, t120, t123, t126, t127⟩, A20, H⟩ := H
 (try dsimp only at H)
 have A2 := Aside0.mk A20
 clear A20
 by_cases c3 : t113 = 0
 ·rw [if_pos c3] at H
  have c3b0 := beq_iff_eq.mpr c3
  have c3b1 := bne_eq_false_iff_eq.mpr c3
  clear c3
  by_cases c4 : t112 = 27
  ·rw [if_pos c4] at H
   have c4b0 := beq_iff_eq.mpr c4
   have c4b1 := bne_eq_false_iff_eq.mpr c4
   clear c4
   by_cases c5 : t104.toList = ([71, 69, 84] : List UInt8)
   ·rw [if_pos c5] at H
    have c5b0 := beq_iff_eq.mpr c5
    have c5b1 := bne_eq_false_iff_eq.mpr c5
    clear c5
    by_cases c6 : t105.toList = ([47] : List UInt8)
    ·rw [if_pos c6] at H
     have c6b0 := beq_iff_eq.mpr c6
     have c6b1 := bne_eq_false_iff_eq.mpr c6
     clear c6
     by_cases c7 : (t106.length : Int) = 1
     ·rw [if_pos c7] at H
      have c7b0 := beq_iff_eq.mpr c7
      have c7b1 := bne_eq_false_iff_eq.mpr c7
      clear c7
      obtain rfl := Option.some.inj H
      go_enter Tryz.func6, Tryz.ntmps6
      go_wp2_with (first | ((with_reducible refine gate_dst (N := 8) rfl ?_); (try (refine gate_guard (by rfl) ?_; dsimp only)); refine conv_lit ?hg ?hg2 (N := 8) ?hd 22 5 y101 Tryz.underlying22 Tryz.underlying5 ?hm ?hr ?hr2 ?_; (case hd => rfl); (case hg => rfl); (case hg2 => rfl); (case hm => rw [Ny101.out]; decide); (case hr => rw [Ny101.out]; first | (go_simp; done) | (go_simp; rfl)); (case hr2 => intro W2_; first | rfl | (go_simp; done) | (go_simp; rfl)); intro A101 c101 w8 hr_ hc_ hb; have HR101 := Aside0.mk (hr_); have HC101 := Aside0.mk (hc_); replace HB := Aside0.mk (below_step bq_ hb); clear hb hr_ hc_) | ((with_reducible refine gate_callee (f := 7) rfl ?_); refine goesL_ (some 10) rfl rfl Tryz.func7 (by kernel_rfl) rfl #[.slice A101 y101.length c101] rfl lq_ ?_; (with_reducible refine (http_ParseRequest.calls k _ _ y101 t104 t105 t106 t109 t112 t113 _ ?side3 ?side1 ?side2 A1.out).mono ?_); (case side1 => repeat (first | exact (by repeat (first | (with_reducible exact HR101.out) | (with_reducible refine Kd.C_alloc ?_ _) | (with_reducible refine Kd.C_drewN ?_ _) | (with_reducible refine Kd.C_drew ?_) | exact HR101.out)) | (with_reducible refine Kd.C_alloc ?_ _) | (with_reducible refine Kd.C_drewN ?_ _) | (with_reducible refine Kd.C_drew ?_))); (case side2 => exact HC101.out); (case side3 => exact lw_); rintro e w9 ⟨v107, v110, rfl, ho0, ho1, hb⟩; refine ⟨_, rfl, ?_⟩; have HO108 := Aside0.mk (Kd.R_lower ho0 (below_size bq_)); have HO111 := Aside0.mk (Kd.R_lower ho1 (below_size bq_)); replace HR101 := Aside0.mk (cb_ HR101 hb); replace HB := Aside0.mk (below_step bq_ hb)) | ((with_reducible refine gate_dst (N := 1) rfl ?_); (try (refine gate_guard (by rfl) ?_; dsimp only)); refine bx_ 1 #[.string (⟨#[]⟩ : ByteArray), .string (⟨#[]⟩ : ByteArray), .slice none 0 0, .slice none 0 0] 26 ?_; intro gb114 hg w10 hbox hb; replace HO108 := Aside0.mk (Kd.R_below (by (with_reducible repeat (first | apply Kd.R_alloc | apply Kd.R_drewN | apply Kd.R_drew)); exact HO108.out) hb); replace HO111 := Aside0.mk (Kd.R_below (by (with_reducible repeat (first | apply Kd.R_alloc | apply Kd.R_drewN | apply Kd.R_drew)); exact HO111.out) hb); replace HR101 := Aside0.mk (cb_ HR101 hb); have BK114 := Aside0.mk (hbox); have GW114 := Aside0.mk (ge_ (w := w) hg); have GE114 := Aside0.mk (ge_ (w := w) hg); replace HB := Aside0.mk (below_step bq_ hb); clear hb hbox hg; have hcz11_0 := cz_ BK114 0 (.string (⟨#[]⟩ : ByteArray)); have hcz11_1 := cz_ BK114 1 (.string (⟨#[]⟩ : ByteArray)); have hcz11_2 := cz_ BK114 2 (.slice none 0 0); have hcz11_3 := cz_ BK114 3 (.slice none 0 0); have hfz11_0 := bf_ BK114 0; have hfz11_1 := bf_ BK114 1; have hfz11_2 := bf_ BK114 2; have hfz11_3 := bf_ BK114 3; obtain ⟨Ao12, co12, eo12⟩ := Kd.R_slice HO108.out; subst eo12; obtain ⟨Ao13, co13, eo13⟩ := Kd.R_slice HO111.out; subst eo13) | ((with_reducible refine gate_store (t := 26) (p := 1) rfl ?_); refine store_all ?hg 26 1 _ rfl rfl gb114 [.string (⟨#[]⟩ : ByteArray), .string (⟨#[]⟩ : ByteArray), .slice none 0 0, .slice none 0 0] [.string t104, .string t105, .slice Ao12 t106.length co12, .slice Ao13 t109.length co13] BK114.out rfl rfl rfl (by kernel_rfl) rfl ?_; (case hg => rfl); intro w14 hw; have n0_ : Aside0 (Kd.R k67 67 w14 w.heap.size (fun _ => True) (.slice Ao12 t106.length co12) t106) := ⟨(by rw [hw]; exact (by (with_reducible repeat (first | apply Kd.R_alloc | apply Kd.R_drewN | apply Kd.R_drew)); exact Kd.R_mono (R_farC (g := gb114) (fun _ hk => hk.2) (Kd.R_types HO108.out BK114.out (by decide)) [.string t104, .string t105, .slice Ao12 t106.length co12, .slice Ao13 t109.length co13] 0) (fun _ hk => trivial)))⟩; have n1_ : Aside0 (Kd.R (Kd.int .u8) 5 w14 w.heap.size (fun _ => True) (.slice Ao13 t109.length co13) t109) := ⟨(by rw [hw]; exact (by (with_reducible repeat (first | apply Kd.R_alloc | apply Kd.R_drewN | apply Kd.R_drew)); exact Kd.R_mono (R_farC (g := gb114) (fun _ hk => hk.2) (Kd.R_types HO111.out BK114.out (by decide)) [.string t104, .string t105, .slice Ao12 t106.length co12, .slice Ao13 t109.length co13] 0) (fun _ hk => trivial)))⟩; have n2_ : Aside0 (w14.heap[gb114]? = some (.cells #[.string t104, .string t105, .slice Ao12 t106.length co12, .slice Ao13 t109.length co13] 26 (0, 0))) := ⟨(by rw [hw]; exact (by (with_reducible repeat (first | refine blk_drewN ?_ _ | refine blk_drew ?_ | refine blk_alloc ?_ _)); refine blk_part [.string t104, .string t105, .slice Ao12 t106.length co12, .slice Ao13 t109.length co13] [.string (⟨#[]⟩ : ByteArray), .string (⟨#[]⟩ : ByteArray), .slice none 0 0, .slice none 0 0] [] [] (cs := #[.string (⟨#[]⟩ : ByteArray), .string (⟨#[]⟩ : ByteArray), .slice none 0 0, .slice none 0 0]) ?_ rfl rfl rfl; (with_reducible repeat (first | refine blk_drewN ?_ _ | refine blk_drew ?_ | refine blk_alloc ?_ _)); exact BK114.out))⟩; have n3_ := Aside0.mk (sb_ hw); clear hw; clear HO108; clear HO111; clear BK114; clear HB; have HO108 := n0_; have HO111 := n1_; have BK114 := n2_; have HB := n3_; clear n0_ n1_ n2_ n3_) | ((with_reducible refine gate_dst (N := 15) rfl ?_); (try (refine gate_guard (by rfl) ?_; dsimp only)); refine conv_lit ?hg ?hg2 (N := 15) ?hd 22 5 y115 Tryz.underlying22 Tryz.underlying5 ?hm ?hr ?hr2 ?_; (case hd => rfl); (case hg => rfl); (case hg2 => rfl); (case hm => rw [Ny115.out]; decide); (case hr => rw [Ny115.out]; first | (go_simp; done) | (go_simp; rfl)); (case hr2 => intro W2_; first | rfl | (go_simp; done) | (go_simp; rfl)); intro A115 c115 w15 hr_ hc_ hb; replace HO108 := Aside0.mk (Kd.R_below (by (with_reducible repeat (first | apply Kd.R_alloc | apply Kd.R_drewN | apply Kd.R_drew)); exact HO108.out) hb); replace HO111 := Aside0.mk (Kd.R_below (by (with_reducible repeat (first | apply Kd.R_alloc | apply Kd.R_drewN | apply Kd.R_drew)); exact HO111.out) hb); replace BK114 := Aside0.mk (bb_ BK114 hb); have HR115 := Aside0.mk (hr_); have HC115 := Aside0.mk (hc_); replace HB := Aside0.mk (below_step bg_ hb); clear hb hr_ hc_) | ((with_reducible refine gate_callee (f := 7) rfl ?_); refine goesL_ (some 17) rfl rfl Tryz.func7 (by kernel_rfl) rfl #[.slice A115 y115.length c115] rfl lq_ ?_; (with_reducible refine (http_ParseRequest.calls k _ _ y115 t118 t119 t120 t123 t126 t127 _ ?side3 ?side1 ?side2 A2.out).mono ?_); (case side1 => repeat (first | exact (by repeat (first | (with_reducible exact HR115.out) | (with_reducible refine Kd.C_alloc ?_ _) | (with_reducible refine Kd.C_drewN ?_ _) | (with_reducible refine Kd.C_drew ?_) | exact HR115.out)) | (with_reducible refine Kd.C_alloc ?_ _) | (with_reducible refine Kd.C_drewN ?_ _) | (with_reducible refine Kd.C_drew ?_))); (case side2 => exact HC115.out); (case side3 => exact lg_); rintro e w16 ⟨v121, v124, rfl, ho0, ho1, hb⟩; refine ⟨_, rfl, ?_⟩; have n0_ := Aside0.mk (Kd.R_elder' (by (with_reducible repeat (first | apply Kd.R_alloc | apply Kd.R_drewN | apply Kd.R_drew)); exact HO108.out) (Kd.R_base ho0) hb); have n1_ := Aside0.mk (Kd.R_elder' (by (with_reducible repeat (first | apply Kd.R_alloc | apply Kd.R_drewN | apply Kd.R_drew)); exact HO111.out) (Kd.R_base ho1) hb); have n2_ := Aside0.mk (Kd.R_lower (Kd.R_new' ho0 (Kd.R_lt (by (with_reducible repeat (first | apply Kd.R_alloc | apply Kd.R_drewN | apply Kd.R_drew)); exact HO108.out))) (below_size bg_)); have n3_ := Aside0.mk (Kd.R_lower (Kd.R_new' ho1 (Kd.R_lt (by (with_reducible repeat (first | apply Kd.R_alloc | apply Kd.R_drewN | apply Kd.R_drew)); exact HO111.out))) (below_size bg_)); have n4_ := Aside0.mk (bb_ BK114 hb); have n5_ := Aside0.mk (cb_ HR115 hb); have n6_ := Aside0.mk (below_step bg_ hb); clear HO108; clear HO111; clear BK114; clear HR115; clear HB; have HO108 := n0_; have HO111 := n1_; have HO122 := n2_; have HO125 := n3_; have BK114 := n4_; have HR115 := n5_; have HB := n6_; clear n0_ n1_ n2_ n3_ n4_ n5_ n6_) | ((with_reducible refine gate_dst (N := 4) rfl ?_); (try (refine gate_guard (by rfl) ?_; dsimp only)); refine bx_ 4 #[.string (⟨#[]⟩ : ByteArray), .string (⟨#[]⟩ : ByteArray), .slice none 0 0, .slice none 0 0] 26 ?_; intro gb128 hg w17 hbox hb; have n0_ := Aside0.mk (Kd.R_below (by (with_reducible repeat (first | apply Kd.R_alloc | apply Kd.R_drewN | apply Kd.R_drew)); exact HO108.out) hb); have n1_ := Aside0.mk (Kd.R_below (by (with_reducible repeat (first | apply Kd.R_alloc | apply Kd.R_drewN | apply Kd.R_drew)); exact HO111.out) hb); have n2_ := Aside0.mk (Kd.R_below (by (with_reducible repeat (first | apply Kd.R_alloc | apply Kd.R_drewN | apply Kd.R_drew)); exact HO122.out) hb); have n3_ := Aside0.mk (Kd.R_below (by (with_reducible repeat (first | apply Kd.R_alloc | apply Kd.R_drewN | apply Kd.R_drew)); exact HO125.out) hb); have n4_ := Aside0.mk (bb_ BK114 hb); have n5_ := Aside0.mk (cb_ HR115 hb); have n6_ := Aside0.mk (below_step bg_ hb); have n7_ := Aside0.mk (hbox); have n8_ := Aside0.mk (gg_ (w := w) hg); have n9_ := Aside0.mk (gg_ (w := w) hg); have n10_ := Aside0.mk (nl_ BK114 hg); have n11_ := Aside0.mk (ng_ BK114 hg); clear HO108; clear HO111; clear HO122; clear HO125; clear BK114; clear HR115; clear HB; have HO108 := n0_; have HO111 := n1_; have HO122 := n2_; have HO125 := n3_; have BK114 := n4_; have HR115 := n5_; have HB := n6_; have BK128 := n7_; have GW128 := n8_; have GE128 := n9_; have NB114_128 := n10_; have NB128_114 := n11_; clear n0_ n1_ n2_ n3_ n4_ n5_ n6_ n7_ n8_ n9_ n10_ n11_; clear hb hbox hg; have hnb18 := NB128_114.out; have hnc18 := NB114_128.out; have hcz19_0 := cz_ BK128 0 (.string (⟨#[]⟩ : ByteArray)); have hcz19_1 := cz_ BK128 1 (.string (⟨#[]⟩ : ByteArray)); have hcz19_2 := cz_ BK128 2 (.slice none 0 0); have hcz19_3 := cz_ BK128 3 (.slice none 0 0); have hfz19_0 := bf_ BK128 0; have hfz19_1 := bf_ BK128 1; have hfz19_2 := bf_ BK128 2; have hfz19_3 := bf_ BK128 3; obtain ⟨Ao20, co20, eo20⟩ := Kd.R_slice HO122.out; subst eo20; obtain ⟨Ao21, co21, eo21⟩ := Kd.R_slice HO125.out; subst eo21; have hcz22_0 := cz_ BK114 0 (.string t104); have hcz22_1 := cz_ BK114 1 (.string t105); have hcz22_2 := cz_ BK114 2 (.slice Ao12 t106.length co12); have hcz22_3 := cz_ BK114 3 (.slice Ao13 t109.length co13); have hfz22_0 := bf_ BK114 0; have hfz22_1 := bf_ BK114 1; have hfz22_2 := bf_ BK114 2; have hfz22_3 := bf_ BK114 3))
      go_ret
      exact ⟨rq_, bg_⟩
     ·rw [if_neg c7] at H
      exact absurd H (by simp)
    ·rw [if_neg c6] at H
     exact absurd H (by simp)
   ·rw [if_neg c5] at H
    exact absurd H (by simp)
  ·rw [if_neg c4] at H
   exact absurd H (by simp)
 ·rw [if_neg c3] at H
  exact absurd H (by simp)

end Go.Proofs.YtipleegkonhfcaaGreatDoor.KA
