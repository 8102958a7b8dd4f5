-- Written by a program of this session (wip/gen/lprint.py over the kit's print.py) out of the translation. Lean checks it.
import Derived.Test.YtipleegkonhfcaaGreatDoorProg
import Derived.Below
import Derived.Deep.Draws
import Derived.Deep.AppendLies
import Derived.Maps.AppendAt
import Derived.OwnWalk
import Derived.Laws.BytesArg
import Derived.Laws.MakeOwn
import Derived.Laws.OwnMore
import Derived.Deep.OwnRows
import Derived.Tactics
import Derived.Lib.ConvBytes
import Derived.Laws.Slices
import Derived.WalkKit
import Derived.KernelRfl
import Derived.RowKit3
import Derived.Deep.LoopGhost
import Derived.Deep.QuietTactic
import Derived.BigQuiet
import Derived.WideLaws
import Derived.Deep.DeepCutAuto
import Derived.Deep.CutBlock
import Derived.Deep.RegionHeld3
import Derived.Laws.Rows
import Derived.Lib.AppendStr
import Derived.ArgAppend
import Derived.Laws.IdiomCopy
import Derived.OrdersHeld
import Derived.Laws.BitsLemmas
import Derived.RowKit
import Derived.Test.YtipleegkonhfcaaGreatDoorAR
import Derived.Test.YtipleegkonhfcaaGreatDoorZ
import Derived.Test.YtipleegkonhfcaaGreatDoorE
import Derived.Test.YtipleegkonhfcaaGreatDoorNP
import Derived.Test.YtipleegkonhfcaaGreatDoorU1
import Derived.Test.YtipleegkonhfcaaGreatDoorKF1
import Derived.Test.YtipleegkonhfcaaGreatDoorKC
import Derived.Test.YtipleegkonhfcaaGreatDoorP2
import Derived.Test.YtipleegkonhfcaaGreatDoorP3
import Derived.Test.YtipleegkonhfcaaGreatDoorP4
import Derived.Test.YtipleegkonhfcaaGreatDoorP5
import Derived.Test.YtipleegkonhfcaaGreatDoorP6
import Derived.Test.YtipleegkonhfcaaGreatDoorP7
import Derived.Test.YtipleegkonhfcaaGreatDoorP8
import Derived.Test.YtipleegkonhfcaaGreatDoorP9
import Derived.Test.YtipleegkonhfcaaGreatDoorP10
import Derived.Test.YtipleegkonhfcaaGreatDoorP11
import Derived.Test.YtipleegkonhfcaaGreatDoorP12
import Derived.Test.YtipleegkonhfcaaGreatDoorP13
import Derived.Test.YtipleegkonhfcaaGreatDoorKG1
import Derived.Test.YtipleegkonhfcaaGreatDoorWWords
import Derived.Test.YtipleegkonhfcaaGreatDoorWLast
import Derived.Test.YtipleegkonhfcaaGreatDoorWTab
import Derived.Test.YtipleegkonhfcaaGreatDoorWApart
import Derived.Test.YtipleegkonhfcaaGreatDoorWFoot
import Derived.Test.YtipleegkonhfcaaGreatDoorWKept
import Derived.Test.YtipleegkonhfcaaGreatDoorWShare
import Derived.Test.YtipleegkonhfcaaGreatDoorWN
import Derived.Test.YtipleegkonhfcaaGreatDoorWEqStruct
import Derived.Test.YtipleegkonhfcaaGreatDoorWRepsOne
import Derived.Test.YtipleegkonhfcaaGreatDoorWGuard
import Derived.Test.YtipleegkonhfcaaGreatDoorWMore
import Derived.Test.YtipleegkonhfcaaGreatDoorBZ
namespace Go.Proofs.YtipleegkonhfcaaGreatDoor.KL
open Go.Proofs.YtipleegkonhfcaaGreatDoor.E Go.Proofs.YtipleegkonhfcaaGreatDoorV
open Go.Proofs.YtipleegkonhfcaaGreatDoor.U
open Go.Proofs.YtipleegkonhfcaaGreatDoor.KF
open Go.Proofs.YtipleegkonhfcaaGreatDoor.P
open Go.Proofs.YtipleegkonhfcaaGreatDoor.KG
open Go.RowKit Go.Proofs.YtipleegkonhfcaaGreatDoorW.PrintWords Go.Proofs.YtipleegkonhfcaaGreatDoorW.PrintLast Go.Proofs.YtipleegkonhfcaaGreatDoorW.PrintMore
attribute [local go_sem] max2_int min2_int max_two min_two max_three min_three max_four min_four   -- for this text's walks alone
set_option linter.unusedVariables false
set_option linter.unusedSimpArgs false

def errW : Option Int → Value
 | none => .nilIface
 | some c => .iface 0 (.int .i64 c)
theorem errW_none : errW none = .nilIface := rfl
theorem errW_some (c : Int) : errW (some c) = .iface 0 (.int .i64 c) := rfl

theorem info5 : (Tryz.prog.info? 5).map (fun i => (i.zero, i.size, i.bytes)) = some (some (.int .u8 0), 1, 1) := by kernel_rfl
end Go.Proofs.YtipleegkonhfcaaGreatDoor.KL
namespace Go.Proofs.YtipleegkonhfcaaGreatDoor.KL
open Go.Proofs.YtipleegkonhfcaaGreatDoorZ
open Go.Proofs.YtipleegkonhfcaaGreatDoor.E Go.Proofs.YtipleegkonhfcaaGreatDoorV
open Go.Proofs.YtipleegkonhfcaaGreatDoor.U
open Go.Proofs.YtipleegkonhfcaaGreatDoor.KF
open Go.Proofs.YtipleegkonhfcaaGreatDoor.P
open Go.Proofs.YtipleegkonhfcaaGreatDoor.KG
open Go.RowKit Go.Proofs.YtipleegkonhfcaaGreatDoorW.PrintWords Go.Proofs.YtipleegkonhfcaaGreatDoorW.PrintLast Go.Proofs.YtipleegkonhfcaaGreatDoorW.PrintMore
attribute [local go_sem] max2_int min2_int max_two min_two max_three min_three max_four min_four   -- for this text's walks alone
set_option linter.unusedVariables false
set_option linter.unusedSimpArgs false

def lanternlaw11_awake.f (k : Nat)  : Option (Bool) := (http_ParseRequest.f k (([71, 69, 84, 32, 47, 32, 72, 84, 84, 80, 47, 49, 46, 49, 13, 10, 72, 111, 115, 116, 58, 32, 97, 13, 10, 13, 10] : List Int))).bind fun bt104 => ((http_ParseRequest.f k (([71, 69, 84, 32, 47, 32, 72, 84, 84, 80, 47, 49, 46, 49, 13, 10, 67, 111, 110, 116, 101, 110, 116, 45, 76, 101, 110, 103, 116, 104, 58, 32, 49, 13, 10, 67, 111, 110, 116, 101, 110, 116, 45, 76, 101, 110, 103, 116, 104, 58, 32, 50, 13, 10, 13, 10, 97, 98] : List Int))).bind fun bt118 => (if bt104.2.2.2.2.2 = 0 then (if bt104.2.2.2.2.1 = 27 then (if bt104.1.toList = ([71, 69, 84] : List UInt8) then (if bt104.2.1.toList = ([47] : List UInt8) then (if (bt104.2.2.1.length : Int) = 1 then (some (bt118.2.2.2.2.2 == 5)) else (none)) else (none)) else (none)) else (none)) else (none)))
theorem lanternlaw11_awake.mono : ∀ k, LeO (lanternlaw11_awake.f k ) (lanternlaw11_awake.f (k + 1) ) := by
 intro  k
 unfold lanternlaw11_awake.f
 repeat' first
   | (with_reducible exact http_ParseRequest.mono _ _)
   | (with_reducible exact LeO.refl _)
   | (with_reducible exact LeO.none _)
   | (with_reducible refine LeO.ite ?_ ?_)
   | (with_reducible refine LeO.bind ?_ (fun _ => ?_))
   | exact http_ParseRequest.mono _ _
   | exact LeO.none _
   | refine LeO.ite ?_ ?_
   | refine LeO.bind ?_ (fun _ => ?_)
set_option maxHeartbeats 8000000 in
set_option maxRecDepth 100000 in
theorem lanternlaw11_awake.calls (k : Nat)  (r : Bool) (w : World) (hLW : LW w) (h : lanternlaw11_awake.f k  = some r) :
  Calls Tryz.prog 6 #[] w fun e w' => e = .returned (.bool r) ∧ Below w.heap.size w w' := by
 have hu26 := Tryz.underlying26
 have HLW := Aside0.mk hLW
 clear hLW
 have HB := Aside0.mk (Below.refl w.heap.size w)
 have H : ((http_ParseRequest.f k (([71, 69, 84, 32, 47, 32, 72, 84, 84, 80, 47, 49, 46, 49, 13, 10, 72, 111, 115, 116, 58, 32, 97, 13, 10, 13, 10] : List Int))).bind fun bt104 => ((http_ParseRequest.f k (([71, 69, 84, 32, 47, 32, 72, 84, 84, 80, 47, 49, 46, 49, 13, 10, 67, 111, 110, 116, 101, 110, 116, 45, 76, 101, 110, 103, 116, 104, 58, 32, 49, 13, 10, 67, 111, 110, 116, 101, 110, 116, 45, 76, 101, 110, 103, 116, 104, 58, 32, 50, 13, 10, 13, 10, 97, 98] : List Int))).bind fun bt118 => (if bt104.2.2.2.2.2 = 0 then (if bt104.2.2.2.2.1 = 27 then (if bt104.1.toList = ([71, 69, 84] : List UInt8) then (if bt104.2.1.toList = ([47] : List UInt8) then (if (bt104.2.2.1.length : Int) = 1 then (some (bt118.2.2.2.2.2 == 5)) else (none)) else (none)) else (none)) else (none)) else (none)))) = some r := h
 clear h
 obtain ⟨y101, hy101⟩ : ∃ y_ : List Int, y_ = (([71, 69, 84, 32, 47, 32, 72, 84, 84, 80, 47, 49, 46, 49, 13, 10, 72, 111, 115, 116, 58, 32, 97, 13, 10, 13, 10] : List Int)) := ⟨_, rfl⟩
 replace H : ((http_ParseRequest.f k y101).bind fun bt104 => ((http_ParseRequest.f k (([71, 69, 84, 32, 47, 32, 72, 84, 84, 80, 47, 49, 46, 49, 13, 10, 67, 111, 110, 116, 101, 110, 116, 45, 76, 101, 110, 103, 116, 104, 58, 32, 49, 13, 10, 67, 111, 110, 116, 101, 110, 116, 45, 76, 101, 110, 103, 116, 104, 58, 32, 50, 13, 10, 13, 10, 97, 98] : List Int))).bind fun bt118 => (if bt104.2.2.2.2.2 = 0 then (if bt104.2.2.2.2.1 = 27 then (if bt104.1.toList = ([71, 69, 84] : List UInt8) then (if bt104.2.1.toList = ([47] : List UInt8) then (if (bt104.2.2.1.length : Int) = 1 then (some (bt118.2.2.2.2.2 == 5)) else (none)) else (none)) else (none)) else (none)) else (none)))) = some r := by first | (rw [hy101]; with_reducible exact H) | (have H2_ := (Option.bind_some _ _).symm.trans H; rw [hy101]; with_reducible exact H2_) | (have H2_ := (Option.bind_some _ _).symm.trans H; with_reducible exact H2_) | with_reducible exact H | (rw [hy101]; exact H) | exact H
 have Ny101 := Aside0.mk hy101
 clear hy101
 replace H := Option.bind_eq_some_iff.mp H
 obtain ⟨⟨t104, t105, t106, t109, t112, t113⟩, A10, H⟩ := H
 (try dsimp only at H)
 have A1 := Aside0.mk A10
 clear A10
 obtain ⟨y115, hy115⟩ : ∃ y_ : List Int, y_ = (([71, 69, 84, 32, 47, 32, 72, 84, 84, 80, 47, 49, 46, 49, 13, 10, 67, 111, 110, 116, 101, 110, 116, 45, 76, 101, 110, 103, 116, 104, 58, 32, 49, 13, 10, 67, 111, 110, 116, 101, 110, 116, 45, 76, 101, 110, 103, 116, 104, 58, 32, 50, 13, 10, 13, 10, 97, 98] : List Int)) := ⟨_, rfl⟩
 replace H : ((http_ParseRequest.f k y115).bind fun bt118 => (if t113 = 0 then (if t112 = 27 then (if t104.toList = ([71, 69, 84] : List UInt8) then (if t105.toList = ([47] : List UInt8) then (if (t106.length : Int) = 1 then (some (bt118.2.2.2.2.2 == 5)) else (none)) else (none)) else (none)) else (none)) else (none))) = some r := by first | (rw [hy115]; with_reducible exact H) | (have H2_ := (Option.bind_some _ _).symm.trans H; rw [hy115]; with_reducible exact H2_) | (have H2_ := (Option.bind_some _ _).symm.trans H; with_reducible exact H2_) | with_reducible exact H | (rw [hy115]; exact H) | exact H
 have Ny115 := Aside0.mk hy115
 clear hy115
 replace H := Option.bind_eq_some_iff.mp H
 obtain ⟨⟨t118, t119, t120, t123, t126, t127⟩, A20, H⟩ := H
 (try dsimp only at H)
 have A2 := Aside0.mk A20
 clear A20
 by_cases c3 : t113 = 0
 ·rw [if_pos c3] at H
  have c3b0 : (t113 == 0) = true := beq_iff_eq.mpr c3
  have c3b1 : (t113 != 0) = false := bne_eq_false_iff_eq.mpr c3
  clear c3
  by_cases c4 : t112 = 27
  ·rw [if_pos c4] at H
   have c4b0 : (t112 == 27) = true := beq_iff_eq.mpr c4
   have c4b1 : (t112 != 27) = false := bne_eq_false_iff_eq.mpr c4
   clear c4
   by_cases c5 : t104.toList = ([71, 69, 84] : List UInt8)
   ·rw [if_pos c5] at H
    have c5b0 : (t104.toList == ([71, 69, 84] : List UInt8)) = true := beq_iff_eq.mpr c5
    have c5b1 : (t104.toList != ([71, 69, 84] : List UInt8)) = false := bne_eq_false_iff_eq.mpr c5
    clear c5
    by_cases c6 : t105.toList = ([47] : List UInt8)
    ·rw [if_pos c6] at H
     have c6b0 : (t105.toList == ([47] : List UInt8)) = true := beq_iff_eq.mpr c6
     have c6b1 : (t105.toList != ([47] : List UInt8)) = false := bne_eq_false_iff_eq.mpr c6
     clear c6
     by_cases c7 : (t106.length : Int) = 1
     ·rw [if_pos c7] at H
      have c7b0 : ((t106.length : Int) == 1) = true := beq_iff_eq.mpr c7
      have c7b1 : ((t106.length : Int) != 1) = false := bne_eq_false_iff_eq.mpr c7
      clear c7
      obtain rfl := Option.some.inj H
      go_enter Tryz.func6, Tryz.ntmps6
      go_wp2_with (first | ((with_reducible refine gate_dst (N := 8) rfl ?_); (try (refine gate_guard (by rfl) ?_; dsimp only)); refine conv_lit ?hg ?hg2 (N := 8) ?hd 22 5 y101 Tryz.underlying22 Tryz.underlying5 ?hm ?hr ?hr2 ?_; (case hd => rfl); (case hg => rfl); (case hg2 => rfl); (case hm => rw [Ny101.out]; decide); (case hr => rw [Ny101.out]; first | (go_simp; done) | (go_simp; rfl)); (case hr2 => intro W2_; first | rfl | (go_simp; done) | (go_simp; rfl)); intro A101 c101 w8 hr_ hc_ hb; have HR101 := Aside0.mk (hr_); have HC101 := Aside0.mk (hc_); replace HB := Aside0.mk (below_step bq_ hb); clear hb hr_ hc_) | ((with_reducible refine gate_callee (f := 7) rfl ?_); refine goesL_ (some 10) rfl rfl Tryz.func7 (by kernel_rfl) rfl #[.slice A101 y101.length c101] rfl lq_ ?_; (with_reducible refine (http_ParseRequest.calls k _ _ y101 t104 t105 t106 t109 t112 t113 _ ?side3 ?side1 ?side2 A1.out).mono ?_); (case side1 => repeat (first | exact (by repeat (first | (with_reducible exact HR101.out) | (with_reducible refine Kd.C_alloc ?_ _) | (with_reducible refine Kd.C_drewN ?_ _) | (with_reducible refine Kd.C_drew ?_) | exact HR101.out)) | (with_reducible refine Kd.C_alloc ?_ _) | (with_reducible refine Kd.C_drewN ?_ _) | (with_reducible refine Kd.C_drew ?_))); (case side2 => exact HC101.out); (case side3 => exact lw_); rintro e w9 ⟨v107, v110, rfl, ho0, ho1, hb⟩; refine ⟨_, rfl, ?_⟩; have HO108 := Aside0.mk (Kd.R_lower ho0 (below_size bq_)); have HO111 := Aside0.mk (Kd.R_lower ho1 (below_size bq_)); replace HR101 := Aside0.mk (cb_ HR101 hb); replace HB := Aside0.mk (below_step bq_ hb); (try clear hb); (try clear hb2); (try clear hk); (try clear hi); (try clear ho0); (try clear ho1)) | ((with_reducible refine gate_dst (N := 1) rfl ?_); (try (refine gate_guard (by rfl) ?_; dsimp only)); refine bx_ 1 #[.string (⟨#[]⟩ : ByteArray), .string (⟨#[]⟩ : ByteArray), .slice none 0 0, .slice none 0 0] 26 ?_; intro gb114 hg w10 hbox hb; replace HO108 := Aside0.mk (Kd.R_below (by (with_reducible repeat (first | apply Kd.R_alloc | apply Kd.R_drewN | apply Kd.R_drew)); exact HO108.out) hb); replace HO111 := Aside0.mk (Kd.R_below (by (with_reducible repeat (first | apply Kd.R_alloc | apply Kd.R_drewN | apply Kd.R_drew)); exact HO111.out) hb); replace HR101 := Aside0.mk (cb_ HR101 hb); have BK114 := Aside0.mk (hbox); have GW114 := Aside0.mk (ge_ (w := w) hg); have GE114 := Aside0.mk (ge_ (w := w) hg); replace HB := Aside0.mk (below_step bq_ hb); clear hb hbox hg; have hcz11_0 := cz_ BK114 0 (.string (⟨#[]⟩ : ByteArray)); have hcz11_1 := cz_ BK114 1 (.string (⟨#[]⟩ : ByteArray)); have hcz11_2 := cz_ BK114 2 (.slice none 0 0); have hcz11_3 := cz_ BK114 3 (.slice none 0 0); have hfz11_0 := bf_ BK114 0; have hfz11_1 := bf_ BK114 1; have hfz11_2 := bf_ BK114 2; have hfz11_3 := bf_ BK114 3; obtain ⟨Ao12, co12, eo12⟩ := Kd.R_slice HO108.out; subst eo12; obtain ⟨Ao13, co13, eo13⟩ := Kd.R_slice HO111.out; subst eo13) | ((with_reducible refine gate_store (t := 26) (p := 1) rfl ?_); refine store_all ?hg 26 1 _ rfl rfl gb114 [.string (⟨#[]⟩ : ByteArray), .string (⟨#[]⟩ : ByteArray), .slice none 0 0, .slice none 0 0] [.string t104, .string t105, .slice Ao12 t106.length co12, .slice Ao13 t109.length co13] BK114.out rfl rfl rfl (by kernel_rfl) rfl ?_; (case hg => rfl); intro w14 hw; have n0_ : Aside0 (Kd.R k67 67 w14 w.heap.size (fun _ => True) (.slice Ao12 t106.length co12) t106) := ⟨(by rw [hw]; exact (by (with_reducible repeat (first | apply Kd.R_alloc | apply Kd.R_drewN | apply Kd.R_drew)); exact Kd.R_mono (R_farC (g := gb114) (fun _ hk => hk.2) (Kd.R_types HO108.out BK114.out (by decide)) [.string t104, .string t105, .slice Ao12 t106.length co12, .slice Ao13 t109.length co13] 0) (fun _ hk => trivial)))⟩; have n1_ : Aside0 (Kd.R (Kd.int .u8) 5 w14 w.heap.size (fun _ => True) (.slice Ao13 t109.length co13) t109) := ⟨(by rw [hw]; exact (by (with_reducible repeat (first | apply Kd.R_alloc | apply Kd.R_drewN | apply Kd.R_drew)); exact Kd.R_mono (R_farC (g := gb114) (fun _ hk => hk.2) (Kd.R_types HO111.out BK114.out (by decide)) [.string t104, .string t105, .slice Ao12 t106.length co12, .slice Ao13 t109.length co13] 0) (fun _ hk => trivial)))⟩; have n2_ : Aside0 (w14.heap[gb114]? = some (.cells #[.string t104, .string t105, .slice Ao12 t106.length co12, .slice Ao13 t109.length co13] 26 (0, 0))) := ⟨(by rw [hw]; exact (by (with_reducible repeat (first | refine blk_drewN ?_ _ | refine blk_drew ?_ | refine blk_alloc ?_ _)); refine blk_part [.string t104, .string t105, .slice Ao12 t106.length co12, .slice Ao13 t109.length co13] [.string (⟨#[]⟩ : ByteArray), .string (⟨#[]⟩ : ByteArray), .slice none 0 0, .slice none 0 0] [] [] (cs := #[.string (⟨#[]⟩ : ByteArray), .string (⟨#[]⟩ : ByteArray), .slice none 0 0, .slice none 0 0]) ?_ rfl rfl rfl; (with_reducible repeat (first | refine blk_drewN ?_ _ | refine blk_drew ?_ | refine blk_alloc ?_ _)); exact BK114.out))⟩; have n3_ := Aside0.mk (sb_ hw); clear hw; clear HO108; clear HO111; clear BK114; clear HB; have HO108 := n0_; have HO111 := n1_; have BK114 := n2_; have HB := n3_; clear n0_ n1_ n2_ n3_) | ((with_reducible refine gate_dst (N := 15) rfl ?_); (try (refine gate_guard (by rfl) ?_; dsimp only)); refine conv_lit ?hg ?hg2 (N := 15) ?hd 22 5 y115 Tryz.underlying22 Tryz.underlying5 ?hm ?hr ?hr2 ?_; (case hd => rfl); (case hg => rfl); (case hg2 => rfl); (case hm => rw [Ny115.out]; decide); (case hr => rw [Ny115.out]; first | (go_simp; done) | (go_simp; rfl)); (case hr2 => intro W2_; first | rfl | (go_simp; done) | (go_simp; rfl)); intro A115 c115 w15 hr_ hc_ hb; replace HO108 := Aside0.mk (Kd.R_below (by (with_reducible repeat (first | apply Kd.R_alloc | apply Kd.R_drewN | apply Kd.R_drew)); exact HO108.out) hb); replace HO111 := Aside0.mk (Kd.R_below (by (with_reducible repeat (first | apply Kd.R_alloc | apply Kd.R_drewN | apply Kd.R_drew)); exact HO111.out) hb); replace BK114 := Aside0.mk (bb_ BK114 hb); have HR115 := Aside0.mk (hr_); have HC115 := Aside0.mk (hc_); replace HB := Aside0.mk (below_step bg_ hb); clear hb hr_ hc_) | ((with_reducible refine gate_callee (f := 7) rfl ?_); refine goesL_ (some 17) rfl rfl Tryz.func7 (by kernel_rfl) rfl #[.slice A115 y115.length c115] rfl lq_ ?_; (with_reducible refine (http_ParseRequest.calls k _ _ y115 t118 t119 t120 t123 t126 t127 _ ?side3 ?side1 ?side2 A2.out).mono ?_); (case side1 => repeat (first | exact (by repeat (first | (with_reducible exact HR115.out) | (with_reducible refine Kd.C_alloc ?_ _) | (with_reducible refine Kd.C_drewN ?_ _) | (with_reducible refine Kd.C_drew ?_) | exact HR115.out)) | (with_reducible refine Kd.C_alloc ?_ _) | (with_reducible refine Kd.C_drewN ?_ _) | (with_reducible refine Kd.C_drew ?_))); (case side2 => exact HC115.out); (case side3 => exact lg_); rintro e w16 ⟨v121, v124, rfl, ho0, ho1, hb⟩; refine ⟨_, rfl, ?_⟩; have n0_ := Aside0.mk (Kd.R_elder' (by (with_reducible repeat (first | apply Kd.R_alloc | apply Kd.R_drewN | apply Kd.R_drew)); exact HO108.out) (Kd.R_base ho0) hb); have n1_ := Aside0.mk (Kd.R_elder' (by (with_reducible repeat (first | apply Kd.R_alloc | apply Kd.R_drewN | apply Kd.R_drew)); exact HO111.out) (Kd.R_base ho1) hb); have n2_ := Aside0.mk (Kd.R_lower (Kd.R_new' ho0 (Kd.R_lt (by (with_reducible repeat (first | apply Kd.R_alloc | apply Kd.R_drewN | apply Kd.R_drew)); exact HO108.out))) (below_size bg_)); have n3_ := Aside0.mk (Kd.R_lower (Kd.R_new' ho1 (Kd.R_lt (by (with_reducible repeat (first | apply Kd.R_alloc | apply Kd.R_drewN | apply Kd.R_drew)); exact HO111.out))) (below_size bg_)); have n4_ := Aside0.mk (bb_ BK114 hb); have n5_ := Aside0.mk (cb_ HR115 hb); have n6_ := Aside0.mk (below_step bg_ hb); clear HO108; clear HO111; clear BK114; clear HR115; clear HB; have HO108 := n0_; have HO111 := n1_; have HO122 := n2_; have HO125 := n3_; have BK114 := n4_; have HR115 := n5_; have HB := n6_; clear n0_ n1_ n2_ n3_ n4_ n5_ n6_; (try clear hb); (try clear hb2); (try clear hk); (try clear hi); (try clear ho0); (try clear ho1)) | ((with_reducible refine gate_dst (N := 4) rfl ?_); (try (refine gate_guard (by rfl) ?_; dsimp only)); refine bx_ 4 #[.string (⟨#[]⟩ : ByteArray), .string (⟨#[]⟩ : ByteArray), .slice none 0 0, .slice none 0 0] 26 ?_; intro gb128 hg w17 hbox hb; have n0_ := Aside0.mk (Kd.R_below (by (with_reducible repeat (first | apply Kd.R_alloc | apply Kd.R_drewN | apply Kd.R_drew)); exact HO108.out) hb); have n1_ := Aside0.mk (Kd.R_below (by (with_reducible repeat (first | apply Kd.R_alloc | apply Kd.R_drewN | apply Kd.R_drew)); exact HO111.out) hb); have n2_ := Aside0.mk (Kd.R_below (by (with_reducible repeat (first | apply Kd.R_alloc | apply Kd.R_drewN | apply Kd.R_drew)); exact HO122.out) hb); have n3_ := Aside0.mk (Kd.R_below (by (with_reducible repeat (first | apply Kd.R_alloc | apply Kd.R_drewN | apply Kd.R_drew)); exact HO125.out) hb); have n4_ := Aside0.mk (bb_ BK114 hb); have n5_ := Aside0.mk (cb_ HR115 hb); have n6_ := Aside0.mk (below_step bg_ hb); have n7_ := Aside0.mk (hbox); have n8_ := Aside0.mk (gg_ (w := w) hg); have n9_ := Aside0.mk (gg_ (w := w) hg); have n10_ := Aside0.mk (nl_ BK114 hg); have n11_ := Aside0.mk (ng_ BK114 hg); clear HO108; clear HO111; clear HO122; clear HO125; clear BK114; clear HR115; clear HB; have HO108 := n0_; have HO111 := n1_; have HO122 := n2_; have HO125 := n3_; have BK114 := n4_; have HR115 := n5_; have HB := n6_; have BK128 := n7_; have GW128 := n8_; have GE128 := n9_; have NB114_128 := n10_; have NB128_114 := n11_; clear n0_ n1_ n2_ n3_ n4_ n5_ n6_ n7_ n8_ n9_ n10_ n11_; clear hb hbox hg; have hnb18 := NB128_114.out; have hnc18 := NB114_128.out; have hcz19_0 := cz_ BK128 0 (.string (⟨#[]⟩ : ByteArray)); have hcz19_1 := cz_ BK128 1 (.string (⟨#[]⟩ : ByteArray)); have hcz19_2 := cz_ BK128 2 (.slice none 0 0); have hcz19_3 := cz_ BK128 3 (.slice none 0 0); have hfz19_0 := bf_ BK128 0; have hfz19_1 := bf_ BK128 1; have hfz19_2 := bf_ BK128 2; have hfz19_3 := bf_ BK128 3; obtain ⟨Ao20, co20, eo20⟩ := Kd.R_slice HO122.out; subst eo20; obtain ⟨Ao21, co21, eo21⟩ := Kd.R_slice HO125.out; subst eo21; have hcz22_0 := cz_ BK114 0 (.string t104); have hcz22_1 := cz_ BK114 1 (.string t105); have hcz22_2 := cz_ BK114 2 (.slice Ao12 t106.length co12); have hcz22_3 := cz_ BK114 3 (.slice Ao13 t109.length co13); have hfz22_0 := bf_ BK114 0; have hfz22_1 := bf_ BK114 1; have hfz22_2 := bf_ BK114 2; have hfz22_3 := bf_ BK114 3))
      go_ret
      exact ⟨rq_, bg_⟩
     ·rw [if_neg c7] at H
      exact absurd H (by simp)
    ·rw [if_neg c6] at H
     exact absurd H (by simp)
   ·rw [if_neg c5] at H
    exact absurd H (by simp)
  ·rw [if_neg c4] at H
   exact absurd H (by simp)
 ·rw [if_neg c3] at H
  exact absurd H (by simp)

def lanternlaw11_HttpAsks.f (k : Nat) (l0 : List Int) : Option (Bool) := if (l0.length : Int) > 45000 then ((lanternlaw11_awake.f k).bind fun t129 => (some t129)) else ((some (([] : List Int) : List Int)).bind fun y130 => (if y130.length + l0.length < 140737488355328 then ((http_ParseRequest.f k (y130 ++ l0)).bind fun bt136 => ((lanternref11_ParseRequest.f k l0).bind fun bt147 => ((lanternref11_SameRequest.f k bt136.1 bt136.2.1 bt136.2.2.1 bt136.2.2.2.1 bt147.1 bt147.2.1 bt147.2.2.1 bt147.2.2.2.1).bind fun t158 => (if t158 = true then (if bt136.2.2.2.2.1 = bt147.2.2.2.2.1 then (if bt136.2.2.2.2.2 = bt147.2.2.2.2.2 then ((lanternlaw11_awake.f k).bind fun t159 => (some t159)) else (none)) else (none)) else (none))))) else (none)))
theorem lanternlaw11_HttpAsks.mono : ∀ a0 k, LeO (lanternlaw11_HttpAsks.f k a0) (lanternlaw11_HttpAsks.f (k + 1) a0) := by
 intro a0 k
 unfold lanternlaw11_HttpAsks.f
 repeat' first
   | (with_reducible exact http_ParseRequest.mono _ _)
   | (with_reducible exact lanternlaw11_awake.mono _)
   | (with_reducible exact lanternref11_ParseRequest.mono _ _)
   | (with_reducible exact lanternref11_SameRequest.mono _ _ _ _ _ _ _ _ _)
   | (with_reducible exact LeO.refl _)
   | (with_reducible exact LeO.none _)
   | (with_reducible refine LeO.ite ?_ ?_)
   | (with_reducible refine LeO.bind ?_ (fun _ => ?_))
   | exact http_ParseRequest.mono _ _
   | exact lanternlaw11_awake.mono _
   | exact lanternref11_ParseRequest.mono _ _
   | exact lanternref11_SameRequest.mono _ _ _ _ _ _ _ _ _
   | exact LeO.none _
   | refine LeO.ite ?_ ?_
   | refine LeO.bind ?_ (fun _ => ?_)
set_option maxHeartbeats 8000000 in
set_option maxRecDepth 100000 in
theorem lanternlaw11_HttpAsks.calls (k : Nat) (A0 : Option Addr) (c0 : Nat) (l0 : List Int) (r : Bool) (w : World) (hLW : LW w) (hr0 : Kd.C (Kd.int .u8) w A0 l0.length l0) (hc0 : l0.length ≤ c0) (h : lanternlaw11_HttpAsks.f k l0 = some r) :
  Calls Tryz.prog 3 #[.slice A0 l0.length c0] w fun e w' => e = .returned (.bool r) ∧ Below w.heap.size w w' := by
 have hu26 := Tryz.underlying26
 have HLW := Aside0.mk hLW
 clear hLW
 have HR0 := Aside0.mk hr0
 have HC0 := Aside0.mk hc0
 clear hr0 hc0
 have HB := Aside0.mk (Below.refl w.heap.size w)
 have H : (if (l0.length : Int) > 45000 then ((lanternlaw11_awake.f k).bind fun t129 => (some t129)) else ((some (([] : List Int) : List Int)).bind fun y130 => (if y130.length + l0.length < 140737488355328 then ((http_ParseRequest.f k (y130 ++ l0)).bind fun bt136 => ((lanternref11_ParseRequest.f k l0).bind fun bt147 => ((lanternref11_SameRequest.f k bt136.1 bt136.2.1 bt136.2.2.1 bt136.2.2.2.1 bt147.1 bt147.2.1 bt147.2.2.1 bt147.2.2.2.1).bind fun t158 => (if t158 = true then (if bt136.2.2.2.2.1 = bt147.2.2.2.2.1 then (if bt136.2.2.2.2.2 = bt147.2.2.2.2.2 then ((lanternlaw11_awake.f k).bind fun t159 => (some t159)) else (none)) else (none)) else (none))))) else (none)))) = some r := h
 clear h
 by_cases c2 : (l0.length : Int) > 45000
 ·rw [if_pos c2] at H
  have c2b0 : decide (45000 < (l0.length : Int)) = true := decide_eq_true c2
  have c2b1 : decide (45000 < l0.length) = true := decide_eq_true (by omega)
  clear c2
  replace H := Option.bind_eq_some_iff.mp H
  obtain ⟨t129, A30, H⟩ := H
  (try dsimp only at H)
  have A3 := Aside0.mk A30
  clear A30
  obtain rfl := Option.some.inj H
  go_enter Tryz.func3, Tryz.ntmps3
  go_wp2_with (first | ((with_reducible refine gate_callee (f := 6) rfl ?_); refine goesL_ (some 12) rfl rfl Tryz.func6 (by kernel_rfl) rfl #[] rfl lq_ ?_; (with_reducible refine (lanternlaw11_awake.calls k  t129 _ ?side1 A3.out).mono ?_); (case side1 => exact lw_); rintro e w4 ⟨rfl, hb⟩; refine ⟨_, rfl, ?_⟩; replace HB := Aside0.mk (below_step bq_ hb); (try clear hb); (try clear hb2); (try clear hk); (try clear hi)))
  go_ret
  exact ⟨rq_, bq_⟩
 ·rw [if_neg c2] at H
  have c2b0 : decide (45000 < (l0.length : Int)) = false := decide_eq_false c2
  have c2b1 : decide (45000 < l0.length) = false := decide_eq_false (by omega)
  clear c2
  obtain ⟨y130, hy130⟩ : ∃ y_ : List Int, y_ = (([] : List Int)) := ⟨_, rfl⟩
  replace H : (if y130.length + l0.length < 140737488355328 then ((http_ParseRequest.f k (y130 ++ l0)).bind fun bt136 => ((lanternref11_ParseRequest.f k l0).bind fun bt147 => ((lanternref11_SameRequest.f k bt136.1 bt136.2.1 bt136.2.2.1 bt136.2.2.2.1 bt147.1 bt147.2.1 bt147.2.2.1 bt147.2.2.2.1).bind fun t158 => (if t158 = true then (if bt136.2.2.2.2.1 = bt147.2.2.2.2.1 then (if bt136.2.2.2.2.2 = bt147.2.2.2.2.2 then ((lanternlaw11_awake.f k).bind fun t159 => (some t159)) else (none)) else (none)) else (none))))) else (none)) = some r := by first | (rw [hy130]; with_reducible exact H) | (have H2_ := (Option.bind_some _ _).symm.trans H; rw [hy130]; with_reducible exact H2_) | (have H2_ := (Option.bind_some _ _).symm.trans H; with_reducible exact H2_) | with_reducible exact H | (rw [hy130]; exact H) | exact H
  have Ny130 := Aside0.mk hy130
  clear hy130
  by_cases c5 : y130.length + l0.length < 140737488355328
  ·rw [if_pos c5] at H
   have LMc5 := Aside0.mk c5
   clear c5
   obtain ⟨y133, hy133⟩ : ∃ y_ : List Int, y_ = (y130 ++ l0) := ⟨_, rfl⟩
   replace H : ((http_ParseRequest.f k y133).bind fun bt136 => ((lanternref11_ParseRequest.f k l0).bind fun bt147 => ((lanternref11_SameRequest.f k bt136.1 bt136.2.1 bt136.2.2.1 bt136.2.2.2.1 bt147.1 bt147.2.1 bt147.2.2.1 bt147.2.2.2.1).bind fun t158 => (if t158 = true then (if bt136.2.2.2.2.1 = bt147.2.2.2.2.1 then (if bt136.2.2.2.2.2 = bt147.2.2.2.2.2 then ((lanternlaw11_awake.f k).bind fun t159 => (some t159)) else (none)) else (none)) else (none))))) = some r := by first | (rw [hy133]; with_reducible exact H) | (have H2_ := (Option.bind_some _ _).symm.trans H; rw [hy133]; with_reducible exact H2_) | (have H2_ := (Option.bind_some _ _).symm.trans H; with_reducible exact H2_) | with_reducible exact H | (rw [hy133]; exact H) | exact H
   have Ny133 := Aside0.mk hy133
   clear hy133
   replace H := Option.bind_eq_some_iff.mp H
   obtain ⟨⟨t136, t137, t138, t141, t144, t145⟩, A60, H⟩ := H
   (try dsimp only at H)
   have A6 := Aside0.mk A60
   clear A60
   replace H := Option.bind_eq_some_iff.mp H
   obtain ⟨⟨t147, t148, t149, t152, t155, t156⟩, A70, H⟩ := H
   (try dsimp only at H)
   have A7 := Aside0.mk A70
   clear A70
   replace H := Option.bind_eq_some_iff.mp H
   obtain ⟨t158, A80, H⟩ := H
   (try dsimp only at H)
   have A8 := Aside0.mk A80
   clear A80
   by_cases c9 : t158 = true
   ·subst c9
    replace H := ifT_ H
    by_cases c10 : t144 = t155
    ·rw [if_pos c10] at H
     have c10b0 : (t144 == t155) = true := beq_iff_eq.mpr c10
     have c10b1 : (t144 != t155) = false := bne_eq_false_iff_eq.mpr c10
     clear c10
     by_cases c11 : t145 = t156
     ·rw [if_pos c11] at H
      have c11b0 : (t145 == t156) = true := beq_iff_eq.mpr c11
      have c11b1 : (t145 != t156) = false := bne_eq_false_iff_eq.mpr c11
      clear c11
      replace H := Option.bind_eq_some_iff.mp H
      obtain ⟨t159, A120, H⟩ := H
      (try dsimp only at H)
      have A12 := Aside0.mk A120
      clear A120
      obtain rfl := Option.some.inj H
      go_enter Tryz.func3, Tryz.ntmps3
      go_wp2_with (first | ((with_reducible refine gate_dst (N := 14) rfl ?_); refine Kd.R_lit (Kd.int .u8) _ 5 ?hg (N := 14) ?hd (xs := ([] : List Int)) (inner := []) (ok := fun _ => True) (okp := fun _ => True) ?hr ?hp (fun _ hk => hk) trivial (Below.refl _ _) (Nat.le_refl _) (by simp) ?_; (case hd => rfl); (case hg => rfl); (case hr => first | (go_simp; done) | (go_simp; rfl)); (case hp => exact (Reps.none _ _)); intro v131 w13 ho14 hb hg_ hnew_; clear hg_ hnew_; (first | rw [← Ny130.out] at ho14 | (simp only [Int.reduceToNat] at ho14; rw [← Ny130.out] at ho14)); have HO132 := Aside0.mk (Kd.R_lower ho14 (below_size bq_)); replace HB := Aside0.mk (below_step bq_ hb); clear hb ho14) | ((with_reducible refine gate_builtin (b := .append) (xs := #[.tmp 14, .tmp 15]) rfl ?_); at_builtin; refine Kd.R_append_rows (Kd.int .u8) (w0 := w) w.heap.size rfl (.tmp 14) (.tmp 15) 22 5 (.int .u8 0) 1 rfl Tryz.underlying22 info5 rfl (by decide) (by omega) v131 y130 l0 _ _ _ (fun _ => True) (fun _ => False) rfl rfl ?aO ?aR (fun _ _ h => h) (fun _ h => h.elim) ?aF ?aB ?aS ?aL ?_; (case aR => repeat (first | exact (Kd.C_below HR0.out HB.out) | (with_reducible refine Kd.C_alloc ?_ _) | (with_reducible refine Kd.C_drewN ?_ _) | (with_reducible refine Kd.C_drew ?_))); (case aB => exact bq_); (case aF => exact (fun _ _ => trivial)); (case aO => exact (by (with_reducible repeat (first | apply Kd.R_alloc | apply Kd.R_drewN | apply Kd.R_drew)); exact HO132.out)); (case aS => exact (below_size bq_)); (case aL => have := LMc5.out; omega); intro v134 w15 ho hb hg hat; rw [← Ny133.out] at ho; have HO135 := Aside0.mk (ho); replace HB := Aside0.mk (hb); clear HO132; clear ho hb hg hat; obtain ⟨Ao16, co16, eo16⟩ := Kd.R_slice HO135.out; subst eo16) | ((with_reducible refine gate_callee (f := 7) rfl ?_); refine goesL_ (some 17) rfl rfl Tryz.func7 (by kernel_rfl) rfl #[.slice Ao16 y133.length co16] rfl lq_ ?_; (with_reducible refine (http_ParseRequest.calls k _ _ y133 t136 t137 t138 t141 t144 t145 _ ?side3 ?side1 ?side2 A6.out).mono ?_); (case side1 => repeat (first | exact (Kd.R_reads' HO135.out).2.2 | (with_reducible refine Kd.C_alloc ?_ _) | (with_reducible refine Kd.C_drewN ?_ _) | (with_reducible refine Kd.C_drew ?_))); (case side2 => exact (Kd.R_reads' HO135.out).2.1); (case side3 => exact lw_); rintro e w17 ⟨v139, v142, rfl, ho0, ho1, hb⟩; refine ⟨_, rfl, ?_⟩; have n0_ := Aside0.mk (Kd.R_elder' (by (with_reducible repeat (first | apply Kd.R_alloc | apply Kd.R_drewN | apply Kd.R_drew)); exact HO135.out) (Kd.R_base ho1) hb); have n1_ := Aside0.mk (Kd.R_lower ho0 (below_size bq_)); have n2_ := Aside0.mk (Kd.R_lower (Kd.R_new' ho1 (Kd.R_lt (by (with_reducible repeat (first | apply Kd.R_alloc | apply Kd.R_drewN | apply Kd.R_drew)); exact HO135.out))) (below_size bq_)); have n3_ := Aside0.mk (below_step bq_ hb); clear HO135; clear HB; have HO135 := n0_; have HO140 := n1_; have HO143 := n2_; have HB := n3_; clear n0_ n1_ n2_ n3_; (try clear hb); (try clear hb2); (try clear hk); (try clear hi); (try clear ho0); (try clear ho1)) | ((with_reducible refine gate_dst (N := 3) rfl ?_); refine bx_ 3 #[.string (⟨#[]⟩ : ByteArray), .string (⟨#[]⟩ : ByteArray), .slice none 0 0, .slice none 0 0] 26 ?_; intro gb146 hg w18 hbox hb; replace HO135 := Aside0.mk (Kd.R_below (by (with_reducible repeat (first | apply Kd.R_alloc | apply Kd.R_drewN | apply Kd.R_drew)); exact HO135.out) hb); replace HO140 := Aside0.mk (Kd.R_below (by (with_reducible repeat (first | apply Kd.R_alloc | apply Kd.R_drewN | apply Kd.R_drew)); exact HO140.out) hb); replace HO143 := Aside0.mk (Kd.R_below (by (with_reducible repeat (first | apply Kd.R_alloc | apply Kd.R_drewN | apply Kd.R_drew)); exact HO143.out) hb); have BK146 := Aside0.mk (hbox); have GW146 := Aside0.mk (ge_ (w := w) hg); have GE146 := Aside0.mk (ge_ (w := w) hg); replace HB := Aside0.mk (below_step bq_ hb); clear hb hbox hg; have hcz19_0 := cz_ BK146 0 (.string (⟨#[]⟩ : ByteArray)); have hcz19_1 := cz_ BK146 1 (.string (⟨#[]⟩ : ByteArray)); have hcz19_2 := cz_ BK146 2 (.slice none 0 0); have hcz19_3 := cz_ BK146 3 (.slice none 0 0); have hfz19_0 := bf_ BK146 0; have hfz19_1 := bf_ BK146 1; have hfz19_2 := bf_ BK146 2; have hfz19_3 := bf_ BK146 3; obtain ⟨Ao20, co20, eo20⟩ := Kd.R_slice HO140.out; subst eo20; obtain ⟨Ao21, co21, eo21⟩ := Kd.R_slice HO143.out; subst eo21) | ((with_reducible refine gate_store (t := 26) (p := 3) rfl ?_); refine store_all ?hg 26 3 _ rfl rfl gb146 [.string (⟨#[]⟩ : ByteArray), .string (⟨#[]⟩ : ByteArray), .slice none 0 0, .slice none 0 0] [.string t136, .string t137, .slice Ao20 t138.length co20, .slice Ao21 t141.length co21] BK146.out rfl rfl rfl (by kernel_rfl) rfl ?_; (case hg => rfl); intro w22 hw; have n0_ : Aside0 (Kd.R (Kd.int .u8) 5 w22 w.heap.size (fun k_ => some k_ ≠ (.slice Ao21 t141.length co21 : Value).ownBlock) (.slice Ao16 y133.length co16) y133) := ⟨(by rw [hw]; exact (by (with_reducible repeat (first | apply Kd.R_alloc | apply Kd.R_drewN | apply Kd.R_drew)); exact Kd.R_mono (R_farC (g := gb146) (fun _ hk => hk.2) (Kd.R_types HO135.out BK146.out (by decide)) [.string t136, .string t137, .slice Ao20 t138.length co20, .slice Ao21 t141.length co21] 0) (fun _ hk => hk.1.2)))⟩; have n1_ : Aside0 (Kd.R k67 67 w22 w.heap.size (fun _ => True) (.slice Ao20 t138.length co20) t138) := ⟨(by rw [hw]; exact (by (with_reducible repeat (first | apply Kd.R_alloc | apply Kd.R_drewN | apply Kd.R_drew)); exact Kd.R_mono (R_farC (g := gb146) (fun _ hk => hk.2) (Kd.R_types HO140.out BK146.out (by decide)) [.string t136, .string t137, .slice Ao20 t138.length co20, .slice Ao21 t141.length co21] 0) (fun _ hk => trivial)))⟩; have n2_ : Aside0 (Kd.R (Kd.int .u8) 5 w22 w.heap.size (fun k_ => some k_ ≠ (.slice Ao16 y133.length co16 : Value).ownBlock) (.slice Ao21 t141.length co21) t141) := ⟨(by rw [hw]; exact (by (with_reducible repeat (first | apply Kd.R_alloc | apply Kd.R_drewN | apply Kd.R_drew)); exact Kd.R_mono (R_farC (g := gb146) (fun _ hk => hk.2) (Kd.R_types HO143.out BK146.out (by decide)) [.string t136, .string t137, .slice Ao20 t138.length co20, .slice Ao21 t141.length co21] 0) (fun _ hk => hk.1.2)))⟩; have n3_ : Aside0 (w22.heap[gb146]? = some (.cells #[.string t136, .string t137, .slice Ao20 t138.length co20, .slice Ao21 t141.length co21] 26 (0, 0))) := ⟨(by rw [hw]; exact (by (with_reducible repeat (first | refine blk_drewN ?_ _ | refine blk_drew ?_ | refine blk_alloc ?_ _)); refine blk_part [.string t136, .string t137, .slice Ao20 t138.length co20, .slice Ao21 t141.length co21] [.string (⟨#[]⟩ : ByteArray), .string (⟨#[]⟩ : ByteArray), .slice none 0 0, .slice none 0 0] [] [] (cs := #[.string (⟨#[]⟩ : ByteArray), .string (⟨#[]⟩ : ByteArray), .slice none 0 0, .slice none 0 0]) ?_ rfl rfl rfl; (with_reducible repeat (first | refine blk_drewN ?_ _ | refine blk_drew ?_ | refine blk_alloc ?_ _)); exact BK146.out))⟩; have n4_ := Aside0.mk (sb_ hw); clear hw; clear HO135; clear HO140; clear HO143; clear BK146; clear HB; have HO135 := n0_; have HO140 := n1_; have HO143 := n2_; have BK146 := n3_; have HB := n4_; clear n0_ n1_ n2_ n3_ n4_) | ((with_reducible refine gate_callee (f := 8) rfl ?_); refine goesL_ (some 23) rfl rfl Tryz.func8 (by kernel_rfl) rfl #[.slice A0 l0.length c0] rfl lq_ ?_; (with_reducible refine (lanternref11_ParseRequest.calls k _ _ l0 t147 t148 t149 t152 t155 t156 _ ?side3 ?side1 ?side2 A7.out).mono ?_); (case side1 => repeat (first | exact (Kd.C_below HR0.out HB.out) | (with_reducible refine Kd.C_alloc ?_ _) | (with_reducible refine Kd.C_drewN ?_ _) | (with_reducible refine Kd.C_drew ?_))); (case side2 => exact HC0.out); (case side3 => exact lg_); rintro e w23 ⟨v150, v153, rfl, ho0, ho1, hb⟩; refine ⟨_, rfl, ?_⟩; have n0_ := Aside0.mk (Kd.R_below (by (with_reducible repeat (first | apply Kd.R_alloc | apply Kd.R_drewN | apply Kd.R_drew)); exact HO135.out) hb); have n1_ := Aside0.mk (Kd.R_elder' (by (with_reducible repeat (first | apply Kd.R_alloc | apply Kd.R_drewN | apply Kd.R_drew)); exact HO140.out) (Kd.R_base ho0) hb); have n2_ := Aside0.mk (Kd.R_below (by (with_reducible repeat (first | apply Kd.R_alloc | apply Kd.R_drewN | apply Kd.R_drew)); exact HO143.out) hb); have n3_ := Aside0.mk (Kd.R_lower (Kd.R_new' ho0 (Kd.R_lt (by (with_reducible repeat (first | apply Kd.R_alloc | apply Kd.R_drewN | apply Kd.R_drew)); exact HO140.out))) (below_size bg_)); have n4_ := Aside0.mk ho1; have n5_ := Aside0.mk (bb_ BK146 hb); have n6_ := Aside0.mk (below_step bg_ hb); clear HO135; clear HO140; clear HO143; clear BK146; clear HB; have HO135 := n0_; have HO140 := n1_; have HO143 := n2_; have HO151 := n3_; have HO154 := n4_; have BK146 := n5_; have HB := n6_; clear n0_ n1_ n2_ n3_ n4_ n5_ n6_; (try clear hb); (try clear hb2); (try clear hk); (try clear hi); (try clear ho0); (try clear ho1)) | ((with_reducible refine gate_dst (N := 6) rfl ?_); refine bx_ 6 #[.string (⟨#[]⟩ : ByteArray), .string (⟨#[]⟩ : ByteArray), .slice none 0 0, .slice none 0 0] 26 ?_; intro gb157 hg w24 hbox hb; have n0_ := Aside0.mk (Kd.R_below (by (with_reducible repeat (first | apply Kd.R_alloc | apply Kd.R_drewN | apply Kd.R_drew)); exact HO135.out) hb); have n1_ := Aside0.mk (Kd.R_below (by (with_reducible repeat (first | apply Kd.R_alloc | apply Kd.R_drewN | apply Kd.R_drew)); exact HO140.out) hb); have n2_ := Aside0.mk (Kd.R_below (by (with_reducible repeat (first | apply Kd.R_alloc | apply Kd.R_drewN | apply Kd.R_drew)); exact HO143.out) hb); have n3_ := Aside0.mk (Kd.R_below (by (with_reducible repeat (first | apply Kd.R_alloc | apply Kd.R_drewN | apply Kd.R_drew)); exact HO151.out) hb); have n4_ := Aside0.mk (Cs.below (by (with_reducible repeat (first | apply Cs.drewN | apply Cs.drew | apply Cs.alloc)); exact HO154.out) hb); have n5_ := Aside0.mk (bb_ BK146 hb); have n6_ := Aside0.mk (below_step bg_ hb); have n7_ := Aside0.mk (hbox); have n8_ := Aside0.mk (gg_ (w := w) hg); have n9_ := Aside0.mk (gg_ (w := w) hg); have n10_ := Aside0.mk (nl_ BK146 hg); have n11_ := Aside0.mk (ng_ BK146 hg); clear HO135; clear HO140; clear HO143; clear HO151; clear HO154; clear BK146; clear HB; have HO135 := n0_; have HO140 := n1_; have HO143 := n2_; have HO151 := n3_; have HO154 := n4_; have BK146 := n5_; have HB := n6_; have BK157 := n7_; have GW157 := n8_; have GE157 := n9_; have NB146_157 := n10_; have NB157_146 := n11_; clear n0_ n1_ n2_ n3_ n4_ n5_ n6_ n7_ n8_ n9_ n10_ n11_; clear hb hbox hg; have hnb25 := NB157_146.out; have hnc25 := NB146_157.out; have hcz26_0 := cz_ BK157 0 (.string (⟨#[]⟩ : ByteArray)); have hcz26_1 := cz_ BK157 1 (.string (⟨#[]⟩ : ByteArray)); have hcz26_2 := cz_ BK157 2 (.slice none 0 0); have hcz26_3 := cz_ BK157 3 (.slice none 0 0); have hfz26_0 := bf_ BK157 0; have hfz26_1 := bf_ BK157 1; have hfz26_2 := bf_ BK157 2; have hfz26_3 := bf_ BK157 3; obtain ⟨Ao27, co27, eo27⟩ := Kd.R_slice HO151.out; subst eo27; obtain ⟨Ao28, co28, eo28⟩ := Cs.slice HO154.out; subst eo28) | ((with_reducible refine gate_store (t := 26) (p := 6) rfl ?_); refine store_all ?hg 26 6 _ rfl rfl gb157 [.string (⟨#[]⟩ : ByteArray), .string (⟨#[]⟩ : ByteArray), .slice none 0 0, .slice none 0 0] [.string t147, .string t148, .slice Ao27 t149.length co27, .slice Ao28 t152.length co28] BK157.out rfl rfl rfl (by kernel_rfl) rfl ?_; (case hg => rfl); intro w29 hw; have n0_ : Aside0 (Kd.R (Kd.int .u8) 5 w29 w.heap.size (fun k_ => some k_ ≠ (.slice Ao21 t141.length co21 : Value).ownBlock) (.slice Ao16 y133.length co16) y133) := ⟨(by rw [hw]; exact (by (with_reducible repeat (first | apply Kd.R_alloc | apply Kd.R_drewN | apply Kd.R_drew)); exact Kd.R_mono (R_farC (g := gb157) (fun _ hk => hk.2) (Kd.R_types HO135.out BK157.out (by decide)) [.string t147, .string t148, .slice Ao27 t149.length co27, .slice Ao28 t152.length co28] 0) (fun _ hk => hk.1)))⟩; have n1_ : Aside0 (Kd.R k67 67 w29 w.heap.size (fun k_ => some k_ ≠ (.slice Ao27 t149.length co27 : Value).ownBlock) (.slice Ao20 t138.length co20) t138) := ⟨(by rw [hw]; exact (by (with_reducible repeat (first | apply Kd.R_alloc | apply Kd.R_drewN | apply Kd.R_drew)); exact Kd.R_mono (R_farC (g := gb157) (fun _ hk => hk.2) (Kd.R_types HO140.out BK157.out (by decide)) [.string t147, .string t148, .slice Ao27 t149.length co27, .slice Ao28 t152.length co28] 0) (fun _ hk => hk.1.2)))⟩; have n2_ : Aside0 (Kd.R (Kd.int .u8) 5 w29 w.heap.size (fun k_ => some k_ ≠ (.slice Ao16 y133.length co16 : Value).ownBlock) (.slice Ao21 t141.length co21) t141) := ⟨(by rw [hw]; exact (by (with_reducible repeat (first | apply Kd.R_alloc | apply Kd.R_drewN | apply Kd.R_drew)); exact Kd.R_mono (R_farC (g := gb157) (fun _ hk => hk.2) (Kd.R_types HO143.out BK157.out (by decide)) [.string t147, .string t148, .slice Ao27 t149.length co27, .slice Ao28 t152.length co28] 0) (fun _ hk => hk.1)))⟩; have n3_ : Aside0 (Kd.R k67 67 w29 w.heap.size (fun k_ => some k_ ≠ (.slice Ao20 t138.length co20 : Value).ownBlock) (.slice Ao27 t149.length co27) t149) := ⟨(by rw [hw]; exact (by (with_reducible repeat (first | apply Kd.R_alloc | apply Kd.R_drewN | apply Kd.R_drew)); exact Kd.R_mono (R_farC (g := gb157) (fun _ hk => hk.2) (Kd.R_types HO151.out BK157.out (by decide)) [.string t147, .string t148, .slice Ao27 t149.length co27, .slice Ao28 t152.length co28] 0) (fun _ hk => hk.1.2)))⟩; have n4_ : Aside0 (Cs w29 (.slice Ao28 t152.length co28) t152) := ⟨(by rw [hw]; (with_reducible repeat (first | apply Cs.drewN | apply Cs.drew | apply Cs.alloc)); exact ((Cs.apart HO154.out BK157.out rfl).farC [.string t147, .string t148, .slice Ao27 t149.length co27, .slice Ao28 t152.length co28] 0).cs)⟩; have n5_ := Aside0.mk (sf_ BK146 NB146_157 hw); have n6_ : Aside0 (w29.heap[gb157]? = some (.cells #[.string t147, .string t148, .slice Ao27 t149.length co27, .slice Ao28 t152.length co28] 26 (0, 0))) := ⟨(by rw [hw]; exact (by (with_reducible repeat (first | refine blk_drewN ?_ _ | refine blk_drew ?_ | refine blk_alloc ?_ _)); refine blk_part [.string t147, .string t148, .slice Ao27 t149.length co27, .slice Ao28 t152.length co28] [.string (⟨#[]⟩ : ByteArray), .string (⟨#[]⟩ : ByteArray), .slice none 0 0, .slice none 0 0] [] [] (cs := #[.string (⟨#[]⟩ : ByteArray), .string (⟨#[]⟩ : ByteArray), .slice none 0 0, .slice none 0 0]) ?_ rfl rfl rfl; (with_reducible repeat (first | refine blk_drewN ?_ _ | refine blk_drew ?_ | refine blk_alloc ?_ _)); exact BK157.out))⟩; have n7_ := Aside0.mk (sb_ hw); clear hw; clear HO135; clear HO140; clear HO143; clear HO151; clear HO154; clear BK146; clear BK157; clear HB; have HO135 := n0_; have HO140 := n1_; have HO143 := n2_; have HO151 := n3_; have HO154 := n4_; have BK146 := n5_; have BK157 := n6_; have HB := n7_; clear n0_ n1_ n2_ n3_ n4_ n5_ n6_ n7_; have hcz30_0 := cz_ BK146 0 (.string t136); have hcz30_1 := cz_ BK146 1 (.string t137); have hcz30_2 := cz_ BK146 2 (.slice Ao20 t138.length co20); have hcz30_3 := cz_ BK146 3 (.slice Ao21 t141.length co21); have hfz30_0 := bf_ BK146 0; have hfz30_1 := bf_ BK146 1; have hfz30_2 := bf_ BK146 2; have hfz30_3 := bf_ BK146 3; have hcz31_0 := cz_ BK157 0 (.string t147); have hcz31_1 := cz_ BK157 1 (.string t148); have hcz31_2 := cz_ BK157 2 (.slice Ao27 t149.length co27); have hcz31_3 := cz_ BK157 3 (.slice Ao28 t152.length co28); have hfz31_0 := bf_ BK157 0; have hfz31_1 := bf_ BK157 1; have hfz31_2 := bf_ BK157 2; have hfz31_3 := bf_ BK157 3) | ((with_reducible refine gate_callee (f := 9) rfl ?_); refine goesL_ (some 29) rfl rfl Tryz.func9 (by kernel_rfl) rfl #[.agg #[.string t136, .string t137, .slice Ao20 t138.length co20, .slice Ao21 t141.length co21], .agg #[.string t147, .string t148, .slice Ao27 t149.length co27, .slice Ao28 t152.length co28]] rfl lq_ ?_; (with_reducible refine (lanternref11_SameRequest.calls k t136 t137 _ _ t138 _ _ t141 t147 t148 _ _ t149 _ _ t152 true _ ?side9 ?side1 ?side2 ?side3 ?side4 ?side5 ?side6 ?side7 ?side8 A8.out).mono ?_); (case side1 => repeat (first | exact (Kd.R_reads' HO140.out).2.2 | (with_reducible refine Kd.C_alloc ?_ _) | (with_reducible refine Kd.C_drewN ?_ _) | (with_reducible refine Kd.C_drew ?_))); (case side2 => exact (Kd.R_reads' HO140.out).2.1); (case side3 => repeat (first | exact (Kd.R_reads' HO143.out).2.2 | (with_reducible refine Kd.C_alloc ?_ _) | (with_reducible refine Kd.C_drewN ?_ _) | (with_reducible refine Kd.C_drew ?_))); (case side4 => exact (Kd.R_reads' HO143.out).2.1); (case side5 => repeat (first | exact (Kd.R_reads' HO151.out).2.2 | (with_reducible refine Kd.C_alloc ?_ _) | (with_reducible refine Kd.C_drewN ?_ _) | (with_reducible refine Kd.C_drew ?_))); (case side6 => exact (Kd.R_reads' HO151.out).2.1); (case side7 => repeat (first | exact (Cs.reads HO154.out).1 | (with_reducible refine Kd.C_alloc ?_ _) | (with_reducible refine Kd.C_drewN ?_ _) | (with_reducible refine Kd.C_drew ?_))); (case side8 => exact (Cs.reads HO154.out).2); (case side9 => exact lg_); rintro e w32 ⟨rfl, hb⟩; refine ⟨_, rfl, ?_⟩; replace HO135 := Aside0.mk (Kd.R_below (by (with_reducible repeat (first | apply Kd.R_alloc | apply Kd.R_drewN | apply Kd.R_drew)); exact HO135.out) hb); replace HO140 := Aside0.mk (Kd.R_below (by (with_reducible repeat (first | apply Kd.R_alloc | apply Kd.R_drewN | apply Kd.R_drew)); exact HO140.out) hb); replace HO143 := Aside0.mk (Kd.R_below (by (with_reducible repeat (first | apply Kd.R_alloc | apply Kd.R_drewN | apply Kd.R_drew)); exact HO143.out) hb); replace HO151 := Aside0.mk (Kd.R_below (by (with_reducible repeat (first | apply Kd.R_alloc | apply Kd.R_drewN | apply Kd.R_drew)); exact HO151.out) hb); replace HO154 := Aside0.mk (Cs.below (by (with_reducible repeat (first | apply Cs.drewN | apply Cs.drew | apply Cs.alloc)); exact HO154.out) hb); replace BK146 := Aside0.mk (bb_ BK146 hb); replace BK157 := Aside0.mk (bb_ BK157 hb); replace HB := Aside0.mk (below_step bg_ hb); (try clear hb); (try clear hb2); (try clear hk); (try clear hi)) | (go_at_call 6; (with_reducible refine (lanternlaw11_awake.calls k  t159 _ ?side1 A12.out).mono ?_); (case side1 => exact lg_); rintro e w33 ⟨rfl, hb⟩; replace HO135 := Aside0.mk (Kd.R_below (by (with_reducible repeat (first | apply Kd.R_alloc | apply Kd.R_drewN | apply Kd.R_drew)); exact HO135.out) hb); replace HO140 := Aside0.mk (Kd.R_below (by (with_reducible repeat (first | apply Kd.R_alloc | apply Kd.R_drewN | apply Kd.R_drew)); exact HO140.out) hb); replace HO143 := Aside0.mk (Kd.R_below (by (with_reducible repeat (first | apply Kd.R_alloc | apply Kd.R_drewN | apply Kd.R_drew)); exact HO143.out) hb); replace HO151 := Aside0.mk (Kd.R_below (by (with_reducible repeat (first | apply Kd.R_alloc | apply Kd.R_drewN | apply Kd.R_drew)); exact HO151.out) hb); replace HO154 := Aside0.mk (Cs.below (by (with_reducible repeat (first | apply Cs.drewN | apply Cs.drew | apply Cs.alloc)); exact HO154.out) hb); replace BK146 := Aside0.mk (bb_ BK146 hb); replace BK157 := Aside0.mk (bb_ BK157 hb); replace HB := Aside0.mk (below_step bg_ hb); (try clear hb); (try clear hb2); (try clear hk); (try clear hi)))
      go_ret
      exact ⟨rq_, bg_⟩
     ·rw [if_neg c11] at H
      exact absurd H (by simp)
    ·rw [if_neg c10] at H
     exact absurd H (by simp)
   ·replace c9 := Bool.eq_false_iff.mpr c9
    subst c9
    replace H := ifF_ H
    exact absurd H (by simp)
  ·rw [if_neg c5] at H
   exact absurd H (by simp)

end Go.Proofs.YtipleegkonhfcaaGreatDoor.KL
