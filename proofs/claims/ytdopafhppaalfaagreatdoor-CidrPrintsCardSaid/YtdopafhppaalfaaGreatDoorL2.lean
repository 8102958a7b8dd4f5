-- Written by a program of this session (wip/gen/lprint.py over the kit's print.py) out of the translation. Lean checks it.
import Derived.Test.YtdopafhppaalfaaGreatDoorProg
import Derived.Below
import Derived.Deep.Draws
import Derived.Deep.AppendLies
import Derived.Maps.AppendAt
import Derived.OwnWalk
import Derived.Laws.BytesArg
import Derived.Laws.MakeOwn
import Derived.Laws.OwnMore
import Derived.Deep.OwnRows
import Derived.Tactics
import Derived.Lib.ConvBytes
import Derived.Laws.Slices
import Derived.WalkKit
import Derived.KernelRfl
import Derived.RowKit3
import Derived.Deep.LoopGhost
import Derived.Deep.QuietTactic
import Derived.BigQuiet
import Derived.WideLaws
import Derived.Deep.DeepCutAuto
import Derived.Deep.CutBlock
import Derived.Deep.RegionHeld3
import Derived.Laws.Rows
import Derived.Lib.AppendStr
import Derived.ArgAppend
import Derived.Laws.IdiomCopy
import Derived.OrdersHeld
import Derived.Laws.BitsLemmas
import Derived.RowKit
import Derived.Test.YtdopafhppaalfaaGreatDoorAR
import Derived.Test.YtdopafhppaalfaaGreatDoorCF
import Derived.Test.YtdopafhppaalfaaGreatDoorZ
import Derived.Test.YtdopafhppaalfaaGreatDoorP6
import Derived.Test.YtdopafhppaalfaaGreatDoorP10
import Derived.Test.YtdopafhppaalfaaGreatDoorP16
import Derived.Test.YtdopafhppaalfaaGreatDoorM2
import Derived.Test.YtdopafhppaalfaaGreatDoorG3
import Derived.Test.YtdopafhppaalfaaGreatDoorG4
import Derived.Test.YtdopafhppaalfaaGreatDoorG0
import Derived.Test.YtdopafhppaalfaaGreatDoorM7
import Derived.Test.YtdopafhppaalfaaGreatDoorWWords
import Derived.Test.YtdopafhppaalfaaGreatDoorWLast
import Derived.Test.YtdopafhppaalfaaGreatDoorWTab
import Derived.Test.YtdopafhppaalfaaGreatDoorWApart
import Derived.Test.YtdopafhppaalfaaGreatDoorWMore
namespace Go.Proofs.YtdopafhppaalfaaGreatDoor.L
open Go.Proofs.YtdopafhppaalfaaGreatDoor.E Go.Proofs.YtdopafhppaalfaaGreatDoorV
open Go.Proofs.YtdopafhppaalfaaGreatDoor.P
open Go.Proofs.YtdopafhppaalfaaGreatDoor.G
open Go.RowKit Go.Proofs.YtdopafhppaalfaaGreatDoorW.PrintWords Go.Proofs.YtdopafhppaalfaaGreatDoorW.PrintLast Go.Proofs.YtdopafhppaalfaaGreatDoorW.PrintMore
attribute [local go_sem] max2_int min2_int max_two min_two max_three min_three max_four min_four   -- for this text's walks alone
set_option linter.unusedVariables false
set_option linter.unusedSimpArgs false

def errW : Option Int → Value
 | none => .nilIface
 | some c => .iface 0 (.int .i64 c)
theorem errW_none : errW none = .nilIface := rfl
theorem errW_some (c : Int) : errW (some c) = .iface 0 (.int .i64 c) := rfl

end Go.Proofs.YtdopafhppaalfaaGreatDoor.L
namespace Go.Proofs.YtdopafhppaalfaaGreatDoor.L
open Go.Proofs.YtdopafhppaalfaaGreatDoorZ
open Go.Proofs.YtdopafhppaalfaaGreatDoor.E Go.Proofs.YtdopafhppaalfaaGreatDoorV
open Go.Proofs.YtdopafhppaalfaaGreatDoor.P
open Go.Proofs.YtdopafhppaalfaaGreatDoor.G
open Go.RowKit Go.Proofs.YtdopafhppaalfaaGreatDoorW.PrintWords Go.Proofs.YtdopafhppaalfaaGreatDoorW.PrintLast Go.Proofs.YtdopafhppaalfaaGreatDoorW.PrintMore
attribute [local go_sem] max2_int min2_int max_two min_two max_three min_three max_four min_four   -- for this text's walks alone
set_option linter.unusedVariables false
set_option linter.unusedSimpArgs false

theorem eqA22 (d : Nat) (w : World) (x0 y0 : Int) (x1 y1 : Int) (x2 y2 : Int) (x3 y3 : Int) (x4 y4 : Int) (x5 y5 : Int) (x6 y6 : Int) (x7 y7 : Int) (x8 y8 : Int) (x9 y9 : Int) (x10 y10 : Int) (x11 y11 : Int) (x12 y12 : Int) (x13 y13 : Int) (x14 y14 : Int) (x15 y15 : Int) :
  (Op.equalIn (d + 2) 22 (.agg #[.int .u8 x0, .int .u8 x1, .int .u8 x2, .int .u8 x3, .int .u8 x4, .int .u8 x5, .int .u8 x6, .int .u8 x7, .int .u8 x8, .int .u8 x9, .int .u8 x10, .int .u8 x11, .int .u8 x12, .int .u8 x13, .int .u8 x14, .int .u8 x15]) (.agg #[.int .u8 y0, .int .u8 y1, .int .u8 y2, .int .u8 y3, .int .u8 y4, .int .u8 y5, .int .u8 y6, .int .u8 y7, .int .u8 y8, .int .u8 y9, .int .u8 y10, .int .u8 y11, .int .u8 y12, .int .u8 y13, .int .u8 y14, .int .u8 y15])).run Tryz.prog w = .ok (x0 == y0 && (x1 == y1 && (x2 == y2 && (x3 == y3 && (x4 == y4 && (x5 == y5 && (x6 == y6 && (x7 == y7 && (x8 == y8 && (x9 == y9 && (x10 == y10 && (x11 == y11 && (x12 == y12 && (x13 == y13 && (x14 == y14 && (x15 == y15)))))))))))))))) w := by
 refine eqI_of Tryz.underlying22 (by kernel_rfl) (c := 1) (by kernel_rfl) (is := [0, 1, 2, 3, 4, 5, 6, 7, 8, 9, 10, 11, 12, 13, 14, 15]) (by rfl) ?_
 refine eqi_cons (by go_simp; rfl) (by go_simp; rfl) (by go_simp) ?_
 refine eqi_cons (by go_simp; rfl) (by go_simp; rfl) (by go_simp) ?_
 refine eqi_cons (by go_simp; rfl) (by go_simp; rfl) (by go_simp) ?_
 refine eqi_cons (by go_simp; rfl) (by go_simp; rfl) (by go_simp) ?_
 refine eqi_cons (by go_simp; rfl) (by go_simp; rfl) (by go_simp) ?_
 refine eqi_cons (by go_simp; rfl) (by go_simp; rfl) (by go_simp) ?_
 refine eqi_cons (by go_simp; rfl) (by go_simp; rfl) (by go_simp) ?_
 refine eqi_cons (by go_simp; rfl) (by go_simp; rfl) (by go_simp) ?_
 refine eqi_cons (by go_simp; rfl) (by go_simp; rfl) (by go_simp) ?_
 refine eqi_cons (by go_simp; rfl) (by go_simp; rfl) (by go_simp) ?_
 refine eqi_cons (by go_simp; rfl) (by go_simp; rfl) (by go_simp) ?_
 refine eqi_cons (by go_simp; rfl) (by go_simp; rfl) (by go_simp) ?_
 refine eqi_cons (by go_simp; rfl) (by go_simp; rfl) (by go_simp) ?_
 refine eqi_cons (by go_simp; rfl) (by go_simp; rfl) (by go_simp) ?_
 refine eqi_cons (by go_simp; rfl) (by go_simp; rfl) (by go_simp) ?_
 exact eqi_last (by go_simp; rfl) (by go_simp; rfl) (by go_simp)
theorem eqA24 (d : Nat) (w : World) (x0 y0 : Bool) (x1 y1 : Int) (x2 y2 : Int) (x3 y3 : Int) (x4 y4 : Int) (x5 y5 : Int) (x6 y6 : Int) (x7 y7 : Int) (x8 y8 : Int) (x9 y9 : Int) (x10 y10 : Int) (x11 y11 : Int) (x12 y12 : Int) (x13 y13 : Int) (x14 y14 : Int) (x15 y15 : Int) (x16 y16 : Int) :
  (Op.equalIn (d + 3) 24 (.agg (ag_ x0 x1 x2 x3 x4 x5 x6 x7 x8 x9 x10 x11 x12 x13 x14 x15 x16)) (.agg (ag_ y0 y1 y2 y3 y4 y5 y6 y7 y8 y9 y10 y11 y12 y13 y14 y15 y16))).run Tryz.prog w = .ok (x0 == y0 && ((x1 == y1 && (x2 == y2 && (x3 == y3 && (x4 == y4 && (x5 == y5 && (x6 == y6 && (x7 == y7 && (x8 == y8 && (x9 == y9 && (x10 == y10 && (x11 == y11 && (x12 == y12 && (x13 == y13 && (x14 == y14 && (x15 == y15 && (x16 == y16)))))))))))))))))) w := by
 refine eqA_of Tryz.underlying24 (by kernel_rfl) ?_
 refine eqf_cons (by rfl) (by go_simp; rfl) (by go_simp; rfl) (by go_simp) ?_
 exact eqf_last (by rfl) (by go_simp) (by go_simp) (eqA22 (d + 0) w _ _ _ _ _ _ _ _ _ _ _ _ _ _ _ _ _ _ _ _ _ _ _ _ _ _ _ _ _ _ _ _)
theorem eqA26 (d : Nat) (w : World) (x0 y0 : Bool) (x1 y1 : Int) (x2 y2 : Int) (x3 y3 : Int) (x4 y4 : Int) (x5 y5 : Int) (x6 y6 : Int) (x7 y7 : Int) (x8 y8 : Int) (x9 y9 : Int) (x10 y10 : Int) (x11 y11 : Int) (x12 y12 : Int) (x13 y13 : Int) (x14 y14 : Int) (x15 y15 : Int) (x16 y16 : Int) (x17 y17 : Int) :
  (Op.equalIn (d + 4) 26 (.agg (nr_ x0 x1 x2 x3 x4 x5 x6 x7 x8 x9 x10 x11 x12 x13 x14 x15 x16 x17)) (.agg (nr_ y0 y1 y2 y3 y4 y5 y6 y7 y8 y9 y10 y11 y12 y13 y14 y15 y16 y17))).run Tryz.prog w = .ok ((x0 == y0 && ((x1 == y1 && (x2 == y2 && (x3 == y3 && (x4 == y4 && (x5 == y5 && (x6 == y6 && (x7 == y7 && (x8 == y8 && (x9 == y9 && (x10 == y10 && (x11 == y11 && (x12 == y12 && (x13 == y13 && (x14 == y14 && (x15 == y15 && (x16 == y16)))))))))))))))))) && (x17 == y17)) w := by
 refine eqA_of Tryz.underlying26 (by kernel_rfl) ?_
 refine eqf_cons (by rfl) (by go_simp) (by go_simp) (eqA24 (d + 0) w _ _ _ _ _ _ _ _ _ _ _ _ _ _ _ _ _ _ _ _ _ _ _ _ _ _ _ _ _ _ _ _ _ _) ?_
 exact eqf_last (by rfl) (by go_simp; rfl) (by go_simp; rfl) (by go_simp)
end Go.Proofs.YtdopafhppaalfaaGreatDoor.L
namespace Go.Proofs.YtdopafhppaalfaaGreatDoor.L
open Go.Proofs.YtdopafhppaalfaaGreatDoorZ
open Go.Proofs.YtdopafhppaalfaaGreatDoor.E Go.Proofs.YtdopafhppaalfaaGreatDoorV
open Go.Proofs.YtdopafhppaalfaaGreatDoor.P
open Go.Proofs.YtdopafhppaalfaaGreatDoor.G
open Go.RowKit Go.Proofs.YtdopafhppaalfaaGreatDoorW.PrintWords Go.Proofs.YtdopafhppaalfaaGreatDoorW.PrintLast Go.Proofs.YtdopafhppaalfaaGreatDoorW.PrintMore
attribute [local go_sem] max2_int min2_int max_two min_two max_three min_three max_four min_four   -- for this text's walks alone
set_option linter.unusedVariables false
set_option linter.unusedSimpArgs false

attribute [local go_sem high] eqA26
def lanternlaw06_awake.f (k : Nat)  : Option (Bool) := (lanternref05_Parse.f k (⟨#[58, 58, 102, 102, 102, 102, 58, 49, 48, 46, 48, 46, 48, 46, 49]⟩ : ByteArray)).bind fun bt101 => ((lanternref05_Parse.f k (⟨#[56, 46, 56, 46, 56, 46, 56]⟩ : ByteArray)).bind fun bt120 => (if bt101.2.2.2.2.2.2.2.2.2.2.2.2.2.2.2.2.2 = true then (if bt120.2.2.2.2.2.2.2.2.2.2.2.2.2.2.2.2.2 = true then ((cidr_Allow.f k bt101.1 bt101.2.1 bt101.2.2.1 bt101.2.2.2.1 bt101.2.2.2.2.1 bt101.2.2.2.2.2.1 bt101.2.2.2.2.2.2.1 bt101.2.2.2.2.2.2.2.1 bt101.2.2.2.2.2.2.2.2.1 bt101.2.2.2.2.2.2.2.2.2.1 bt101.2.2.2.2.2.2.2.2.2.2.1 bt101.2.2.2.2.2.2.2.2.2.2.2.1 bt101.2.2.2.2.2.2.2.2.2.2.2.2.1 bt101.2.2.2.2.2.2.2.2.2.2.2.2.2.1 bt101.2.2.2.2.2.2.2.2.2.2.2.2.2.2.1 bt101.2.2.2.2.2.2.2.2.2.2.2.2.2.2.2.1 bt101.2.2.2.2.2.2.2.2.2.2.2.2.2.2.2.2.1 ([] : List (S26))).bind fun t139 => (if t139 = 8 then ((cidr_Allow.f k bt120.1 bt120.2.1 bt120.2.2.1 bt120.2.2.2.1 bt120.2.2.2.2.1 bt120.2.2.2.2.2.1 bt120.2.2.2.2.2.2.1 bt120.2.2.2.2.2.2.2.1 bt120.2.2.2.2.2.2.2.2.1 bt120.2.2.2.2.2.2.2.2.2.1 bt120.2.2.2.2.2.2.2.2.2.2.1 bt120.2.2.2.2.2.2.2.2.2.2.2.1 bt120.2.2.2.2.2.2.2.2.2.2.2.2.1 bt120.2.2.2.2.2.2.2.2.2.2.2.2.2.1 bt120.2.2.2.2.2.2.2.2.2.2.2.2.2.2.1 bt120.2.2.2.2.2.2.2.2.2.2.2.2.2.2.2.1 bt120.2.2.2.2.2.2.2.2.2.2.2.2.2.2.2.2.1 ([] : List (S26))).bind fun t140 => (if t140 = 0 then ((cidr_Forbidden.f k).bind fun t141 => (some ((t141.length : Int) == 26))) else (none))) else (none))) else (none)) else (none)))
theorem lanternlaw06_awake.mono : ∀ k, LeO (lanternlaw06_awake.f k ) (lanternlaw06_awake.f (k + 1) ) := by
 intro  k
 unfold lanternlaw06_awake.f
 repeat' first
   | (with_reducible exact cidr_Allow.mono _ _ _ _ _ _ _ _ _ _ _ _ _ _ _ _ _ _ _)
   | (with_reducible exact cidr_Forbidden.mono _)
   | (with_reducible exact lanternref05_Parse.mono _ _)
   | (with_reducible exact LeO.refl _)
   | (with_reducible exact LeO.none _)
   | (with_reducible refine LeO.ite ?_ ?_)
   | (with_reducible refine LeO.bind ?_ (fun _ => ?_))
   | exact cidr_Allow.mono _ _ _ _ _ _ _ _ _ _ _ _ _ _ _ _ _ _ _
   | exact cidr_Forbidden.mono _
   | exact lanternref05_Parse.mono _ _
   | exact LeO.none _
   | refine LeO.ite ?_ ?_
   | refine LeO.bind ?_ (fun _ => ?_)
set_option maxHeartbeats 8000000 in
set_option maxRecDepth 100000 in
theorem lanternlaw06_awake.calls (k : Nat)  (r : Bool) (w : World) (hLW : LW w) (h : lanternlaw06_awake.f k  = some r) :
  Calls Tryz.prog 7 #[] w fun e w' => e = .returned (.bool r) ∧ Below w.heap.size w w' := by
 have hu24 := Tryz.underlying24
 have HLW := Aside0.mk hLW
 clear hLW
 have HB := Aside0.mk (Below.refl w.heap.size w)
 have H := h
 unfold lanternlaw06_awake.f at H
 clear h
 replace H := Option.bind_eq_some_iff.mp H
 obtain ⟨⟨t101, t102, t103, t104, t105, t106, t107, t108, t109, t110, t111, t112, t113, t114, t115, t116, t117, t118⟩, A10, H⟩ := H
 (try dsimp only at H)
 have A1 := Aside0.mk A10
 clear A10
 replace H := Option.bind_eq_some_iff.mp H
 obtain ⟨⟨t120, t121, t122, t123, t124, t125, t126, t127, t128, t129, t130, t131, t132, t133, t134, t135, t136, t137⟩, A20, H⟩ := H
 (try dsimp only at H)
 have A2 := Aside0.mk A20
 clear A20
 by_cases c3 : t118 = true
 ·subst c3
  replace H := ifT_ H
  by_cases c4 : t137 = true
  ·subst c4
   replace H := ifT_ H
   replace H := Option.bind_eq_some_iff.mp H
   obtain ⟨t139, A50, H⟩ := H
   (try dsimp only at H)
   have A5 := Aside0.mk A50
   clear A50
   by_cases c6 : t139 = 8
   ·rw [if_pos c6] at H
    have c6b0 := beq_iff_eq.mpr c6
    have c6b1 := bne_eq_false_iff_eq.mpr c6
    clear c6
    replace H := Option.bind_eq_some_iff.mp H
    obtain ⟨t140, A70, H⟩ := H
    (try dsimp only at H)
    have A7 := Aside0.mk A70
    clear A70
    by_cases c8 : t140 = 0
    ·rw [if_pos c8] at H
     have c8b0 := beq_iff_eq.mpr c8
     have c8b1 := bne_eq_false_iff_eq.mpr c8
     clear c8
     replace H := Option.bind_eq_some_iff.mp H
     obtain ⟨t141, A90, H⟩ := H
     (try dsimp only at H)
     have A9 := Aside0.mk A90
     clear A90
     obtain rfl := Option.some.inj H
     go_enter Tryz.func7, Tryz.ntmps7
     go_wp2_with (first | ((with_reducible refine gate_callee (f := 18) rfl ?_); refine goesL_ (some 6) rfl rfl Tryz.func18 (by kernel_rfl) rfl #[.string (⟨#[58, 58, 102, 102, 102, 102, 58, 49, 48, 46, 48, 46, 48, 46, 49]⟩ : ByteArray)] rfl lq_ ?_; (with_reducible refine (lanternref05_Parse.calls k (⟨#[58, 58, 102, 102, 102, 102, 58, 49, 48, 46, 48, 46, 48, 46, 49]⟩ : ByteArray) t101 t102 t103 t104 t105 t106 t107 t108 t109 t110 t111 t112 t113 t114 t115 t116 t117 true _ ?side1 A1.out).mono ?_); (case side1 => exact lw_); rintro e w10 ⟨rfl, hb⟩; refine ⟨_, rfl, ?_⟩; replace HB := Aside0.mk (below_step bq_ hb); (try clear hb); (try clear hb2); (try clear hk); (try clear hi)) | ((with_reducible refine gate_dst (N := 1) rfl ?_); (try (refine gate_guard (by rfl) ?_; dsimp only)); refine bx_ 1 az_ 24 ?_; intro gb119 hg w11 hbox hb; have BK119 := Aside0.mk (hbox); have GW119 := Aside0.mk (ge_ (w := w) hg); have GE119 := Aside0.mk (ge_ (w := w) hg); replace HB := Aside0.mk (below_step bq_ hb); clear hb hbox hg; obtain ⟨hcz12_0, hcz12_1, hcz12_2, hcz12_3, hcz12_4, hcz12_5, hcz12_6, hcz12_7, hcz12_8, hcz12_9, hcz12_10, hcz12_11, hcz12_12, hcz12_13, hcz12_14, hcz12_15, hcz12_16⟩ := c17_ BK119; obtain ⟨hfz12_0, hfz12_1, hfz12_2, hfz12_3, hfz12_4, hfz12_5, hfz12_6, hfz12_7, hfz12_8, hfz12_9, hfz12_10, hfz12_11, hfz12_12, hfz12_13, hfz12_14, hfz12_15, hfz12_16⟩ := f17_ BK119) | ((with_reducible refine gate_store (t := 24) (p := 1) rfl ?_); refine store_all ?hg 24 1 _ rfl rfl gb119 ay_ (al_ t101 t102 t103 t104 t105 t106 t107 t108 t109 t110 t111 t112 t113 t114 t115 t116 t117) BK119.out rfl rfl rfl (by kernel_rfl) rfl ?_; (case hg => rfl); intro w13 hw; replace BK119 := Aside0.mk (show w13.heap[gb119]? = some (.cells (ag_ t101 t102 t103 t104 t105 t106 t107 t108 t109 t110 t111 t112 t113 t114 t115 t116 t117) 24 (0, 0)) from ss_ BK119 hw); replace HB := Aside0.mk (sb_ hw); clear hw) | ((with_reducible refine gate_callee (f := 18) rfl ?_); refine goesL_ (some 10) rfl rfl Tryz.func18 (by kernel_rfl) rfl #[.string (⟨#[56, 46, 56, 46, 56, 46, 56]⟩ : ByteArray)] rfl lq_ ?_; (with_reducible refine (lanternref05_Parse.calls k (⟨#[56, 46, 56, 46, 56, 46, 56]⟩ : ByteArray) t120 t121 t122 t123 t124 t125 t126 t127 t128 t129 t130 t131 t132 t133 t134 t135 t136 true _ ?side1 A2.out).mono ?_); (case side1 => exact lg_); rintro e w14 ⟨rfl, hb⟩; refine ⟨_, rfl, ?_⟩; replace BK119 := Aside0.mk (bb_ BK119 hb); replace HB := Aside0.mk (below_step bg_ hb); (try clear hb); (try clear hb2); (try clear hk); (try clear hi)) | ((with_reducible refine gate_dst (N := 3) rfl ?_); (try (refine gate_guard (by rfl) ?_; dsimp only)); refine bx_ 3 az_ 24 ?_; intro gb138 hg w15 hbox hb; have n0_ := Aside0.mk (bb_ BK119 hb); have n1_ := Aside0.mk (below_step bg_ hb); have n2_ := Aside0.mk (hbox); have n3_ := Aside0.mk (gg_ (w := w) hg); have n4_ := Aside0.mk (gg_ (w := w) hg); have n5_ := Aside0.mk (nl_ BK119 hg); have n6_ := Aside0.mk (ng_ BK119 hg); clear BK119; clear HB; have BK119 := n0_; have HB := n1_; have BK138 := n2_; have GW138 := n3_; have GE138 := n4_; have NB119_138 := n5_; have NB138_119 := n6_; clear n0_ n1_ n2_ n3_ n4_ n5_ n6_; clear hb hbox hg; have hnb16 := NB138_119.out; have hnc16 := NB119_138.out; obtain ⟨hcz17_0, hcz17_1, hcz17_2, hcz17_3, hcz17_4, hcz17_5, hcz17_6, hcz17_7, hcz17_8, hcz17_9, hcz17_10, hcz17_11, hcz17_12, hcz17_13, hcz17_14, hcz17_15, hcz17_16⟩ := c17_ BK138; obtain ⟨hfz17_0, hfz17_1, hfz17_2, hfz17_3, hfz17_4, hfz17_5, hfz17_6, hfz17_7, hfz17_8, hfz17_9, hfz17_10, hfz17_11, hfz17_12, hfz17_13, hfz17_14, hfz17_15, hfz17_16⟩ := f17_ BK138) | ((with_reducible refine gate_store (t := 24) (p := 3) rfl ?_); refine store_all ?hg 24 3 _ rfl rfl gb138 ay_ (al_ t120 t121 t122 t123 t124 t125 t126 t127 t128 t129 t130 t131 t132 t133 t134 t135 t136) BK138.out rfl rfl rfl (by kernel_rfl) rfl ?_; (case hg => rfl); intro w18 hw; replace BK119 := Aside0.mk (sf_ BK119 NB119_138 hw); replace BK138 := Aside0.mk (show w18.heap[gb138]? = some (.cells (ag_ t120 t121 t122 t123 t124 t125 t126 t127 t128 t129 t130 t131 t132 t133 t134 t135 t136) 24 (0, 0)) from ss_ BK138 hw); replace HB := Aside0.mk (sb_ hw); clear hw) | ((with_reducible refine gate_dst (N := 18) rfl ?_); (try (refine gate_guard (by rfl) ?_; dsimp only)); refine load_box ?hg 24 (.tmp 1) rfl BK119.out [] (al_ t101 t102 t103 t104 t105 t106 t107 t108 t109 t110 t111 t112 t113 t114 t115 t116 t117) [] rfl 0 rfl rfl Tryz.underlying24 rfl (by kernel_rfl) ?_; (case hg => rfl)) | (go_at_call 19; (with_reducible refine calls_of_args (args' := #[.agg (ag_ t101 t102 t103 t104 t105 t106 t107 t108 t109 t110 t111 t112 t113 t114 t115 t116 t117), .slice none 0 0]) rfl ?_); (refine (cidr_Allow.calls k t101 t102 t103 t104 t105 t106 t107 t108 t109 t110 t111 t112 t113 t114 t115 t116 t117 _ _ ([] : List (S26)) t139 _ ?side3 ?side1 ?side2 A5.out).mono ?_); (case side1 => exact Kd.C_nil _ _); (case side2 => exact Nat.le_refl _); (case side3 => exact lg_); rintro e w19 ⟨rfl, hb⟩; replace BK119 := Aside0.mk (bb_ BK119 hb); replace BK138 := Aside0.mk (bb_ BK138 hb); replace HB := Aside0.mk (below_step bg_ hb); (try clear hb); (try clear hb2); (try clear hk); (try clear hi)) | ((with_reducible refine gate_dst (N := 23) rfl ?_); (try (refine gate_guard (by rfl) ?_; dsimp only)); refine load_box ?hg 24 (.tmp 3) rfl BK138.out [] (al_ t120 t121 t122 t123 t124 t125 t126 t127 t128 t129 t130 t131 t132 t133 t134 t135 t136) [] rfl 0 rfl rfl Tryz.underlying24 rfl (by kernel_rfl) ?_; (case hg => rfl)) | (go_at_call 19; (with_reducible refine calls_of_args (args' := #[.agg (ag_ t120 t121 t122 t123 t124 t125 t126 t127 t128 t129 t130 t131 t132 t133 t134 t135 t136), .slice none 0 0]) rfl ?_); (refine (cidr_Allow.calls k t120 t121 t122 t123 t124 t125 t126 t127 t128 t129 t130 t131 t132 t133 t134 t135 t136 _ _ ([] : List (S26)) t140 _ ?side3 ?side1 ?side2 A7.out).mono ?_); (case side1 => exact Kd.C_nil _ _); (case side2 => exact Nat.le_refl _); (case side3 => exact lg_); rintro e w20 ⟨rfl, hb⟩; replace BK119 := Aside0.mk (bb_ BK119 hb); replace BK138 := Aside0.mk (bb_ BK138 hb); replace HB := Aside0.mk (below_step bg_ hb); (try clear hb); (try clear hb2); (try clear hk); (try clear hi)) | (go_at_call 20; (with_reducible refine (cidr_Forbidden.calls k  t141 _ ?side1 A9.out).mono ?_); (case side1 => exact lg_); rintro e w21 ⟨v142, rfl, ho0, hb⟩; have HO143 := Aside0.mk (Kd.R_lower ho0 (below_size bg_)); replace BK119 := Aside0.mk (bb_ BK119 hb); replace BK138 := Aside0.mk (bb_ BK138 hb); replace HB := Aside0.mk (below_step bg_ hb); (try clear hb); (try clear hb2); (try clear hk); (try clear hi); (try clear ho0); obtain ⟨Ao22, co22, eo22⟩ := Kd.R_slice HO143.out; subst eo22))
     go_ret
     exact ⟨rq_, bg_⟩
    ·rw [if_neg c8] at H
     exact absurd H (by simp)
   ·rw [if_neg c6] at H
    exact absurd H (by simp)
  ·replace c4 := Bool.eq_false_iff.mpr c4
   subst c4
   replace H := ifF_ H
   exact absurd H (by simp)
 ·replace c3 := Bool.eq_false_iff.mpr c3
  subst c3
  replace H := ifF_ H
  exact absurd H (by simp)

def lanternlaw06_CidrPrints.f (k : Nat) (z0 : Bool) (z1 : Int) (z2 : Int) (z3 : Int) (z4 : Int) (z5 : Int) (z6 : Int) (z7 : Int) (z8 : Int) (z9 : Int) (za : Int) (zb : Int) (zc : Int) (zd : Int) (ze : Int) (zf : Int) (zg : Int) (zh : Int) : Option (Bool) := (cidr_Print.f k z0 z1 z2 z3 z4 z5 z6 z7 z8 z9 za zb zc zd ze zf zg zh).bind fun bt145 => ((lanternref06_May.f k z0 z1 z2 z3 z4 z5 z6 z7 z8 z9 za zb zc zd ze zf zg zh).bind fun t147 => (if t147 = true then ((cidr_Parse.f k bt145.1).bind fun bt150 => ((cidr_Check.f z0 z1 z2 z3 z4 z5 z6 z7 z8 z9 za zb zc zd ze zf zg zh).bind fun t170 => (if t170 = 0 then (if bt145.2 = 0 then ((lanternref06_Print.f k z0 z1 z2 z3 z4 z5 z6 z7 z8 z9 za zb zc zd ze zf zg zh).bind fun t171 => (if bt145.1.toList = t171.toList then (if bt150.2.2.2.2.2.2.2.2.2.2.2.2.2.2.2.2.2.2 = 0 then (if ((bt150.1 == z0 && ((bt150.2.1 == z1 && (bt150.2.2.1 == z2 && (bt150.2.2.2.1 == z3 && (bt150.2.2.2.2.1 == z4 && (bt150.2.2.2.2.2.1 == z5 && (bt150.2.2.2.2.2.2.1 == z6 && (bt150.2.2.2.2.2.2.2.1 == z7 && (bt150.2.2.2.2.2.2.2.2.1 == z8 && (bt150.2.2.2.2.2.2.2.2.2.1 == z9 && (bt150.2.2.2.2.2.2.2.2.2.2.1 == za && (bt150.2.2.2.2.2.2.2.2.2.2.2.1 == zb && (bt150.2.2.2.2.2.2.2.2.2.2.2.2.1 == zc && (bt150.2.2.2.2.2.2.2.2.2.2.2.2.2.1 == zd && (bt150.2.2.2.2.2.2.2.2.2.2.2.2.2.2.1 == ze && (bt150.2.2.2.2.2.2.2.2.2.2.2.2.2.2.2.1 == zf && (bt150.2.2.2.2.2.2.2.2.2.2.2.2.2.2.2.2.1 == zg)))))))))))))))))) && (bt150.2.2.2.2.2.2.2.2.2.2.2.2.2.2.2.2.2.1 == zh)) = true then ((lanternlaw06_awake.f k).bind fun t172 => (some t172)) else (none)) else (none)) else (none))) else (none)) else (none)))) else ((cidr_Check.f z0 z1 z2 z3 z4 z5 z6 z7 z8 z9 za zb zc zd ze zf zg zh).bind fun t148 => (if t148 = 1 then (if bt145.2 = 1 then (if bt145.1.toList = ([] : List UInt8) then ((lanternlaw06_awake.f k).bind fun t149 => (some t149)) else (none)) else (none)) else (none)))))
theorem lanternlaw06_CidrPrints.mono : ∀ a0 a1 a2 a3 a4 a5 a6 a7 a8 a9 a10 a11 a12 a13 a14 a15 a16 a17 k, LeO (lanternlaw06_CidrPrints.f k a0 a1 a2 a3 a4 a5 a6 a7 a8 a9 a10 a11 a12 a13 a14 a15 a16 a17) (lanternlaw06_CidrPrints.f (k + 1) a0 a1 a2 a3 a4 a5 a6 a7 a8 a9 a10 a11 a12 a13 a14 a15 a16 a17) := by
 intro a0 a1 a2 a3 a4 a5 a6 a7 a8 a9 a10 a11 a12 a13 a14 a15 a16 a17 k
 unfold lanternlaw06_CidrPrints.f
 repeat' first
   | (with_reducible exact cidr_Parse.mono _ _)
   | (with_reducible exact cidr_Print.mono _ _ _ _ _ _ _ _ _ _ _ _ _ _ _ _ _ _ _)
   | (with_reducible exact lanternlaw06_awake.mono _)
   | (with_reducible exact lanternref06_May.mono _ _ _ _ _ _ _ _ _ _ _ _ _ _ _ _ _ _ _)
   | (with_reducible exact lanternref06_Print.mono _ _ _ _ _ _ _ _ _ _ _ _ _ _ _ _ _ _ _)
   | (with_reducible exact LeO.refl _)
   | (with_reducible exact LeO.none _)
   | (with_reducible refine LeO.ite ?_ ?_)
   | (with_reducible refine LeO.bind ?_ (fun _ => ?_))
   | exact cidr_Parse.mono _ _
   | exact cidr_Print.mono _ _ _ _ _ _ _ _ _ _ _ _ _ _ _ _ _ _ _
   | exact lanternlaw06_awake.mono _
   | exact lanternref06_May.mono _ _ _ _ _ _ _ _ _ _ _ _ _ _ _ _ _ _ _
   | exact lanternref06_Print.mono _ _ _ _ _ _ _ _ _ _ _ _ _ _ _ _ _ _ _
   | exact LeO.none _
   | refine LeO.ite ?_ ?_
   | refine LeO.bind ?_ (fun _ => ?_)
set_option maxHeartbeats 8000000 in
set_option maxRecDepth 100000 in
theorem lanternlaw06_CidrPrints.calls (k : Nat) (z0 : Bool) (z1 : Int) (z2 : Int) (z3 : Int) (z4 : Int) (z5 : Int) (z6 : Int) (z7 : Int) (z8 : Int) (z9 : Int) (za : Int) (zb : Int) (zc : Int) (zd : Int) (ze : Int) (zf : Int) (zg : Int) (zh : Int) (r : Bool) (w : World) (hLW : LW w) (h : lanternlaw06_CidrPrints.f k z0 z1 z2 z3 z4 z5 z6 z7 z8 z9 za zb zc zd ze zf zg zh = some r) :
  Calls Tryz.prog 3 #[.agg (nr_ z0 z1 z2 z3 z4 z5 z6 z7 z8 z9 za zb zc zd ze zf zg zh)] w fun e w' => e = .returned (.bool r) ∧ Below w.heap.size w w' := by
 have hu26 := Tryz.underlying26
 have HLW := Aside0.mk hLW
 clear hLW
 have HB := Aside0.mk (Below.refl w.heap.size w)
 have H := h
 unfold lanternlaw06_CidrPrints.f at H
 clear h
 replace H := Option.bind_eq_some_iff.mp H
 obtain ⟨⟨t145, t146⟩, A20, H⟩ := H
 (try dsimp only at H)
 have A2 := Aside0.mk A20
 clear A20
 replace H := Option.bind_eq_some_iff.mp H
 obtain ⟨t147, A30, H⟩ := H
 (try dsimp only at H)
 have A3 := Aside0.mk A30
 clear A30
 by_cases c4 : t147 = true
 ·subst c4
  replace H := ifT_ H
  replace H := Option.bind_eq_some_iff.mp H
  obtain ⟨⟨t150, t151, t152, t153, t154, t155, t156, t157, t158, t159, t160, t161, t162, t163, t164, t165, t166, t167, t168⟩, A50, H⟩ := H
  (try dsimp only at H)
  have A5 := Aside0.mk A50
  clear A50
  replace H := Option.bind_eq_some_iff.mp H
  obtain ⟨t170, A60, H⟩ := H
  (try dsimp only at H)
  have A6 := Aside0.mk A60
  clear A60
  by_cases c7 : t170 = 0
  ·rw [if_pos c7] at H
   have c7b0 := beq_iff_eq.mpr c7
   have c7b1 := bne_eq_false_iff_eq.mpr c7
   clear c7
   by_cases c8 : t146 = 0
   ·rw [if_pos c8] at H
    have c8b0 := beq_iff_eq.mpr c8
    have c8b1 := bne_eq_false_iff_eq.mpr c8
    clear c8
    replace H := Option.bind_eq_some_iff.mp H
    obtain ⟨t171, A90, H⟩ := H
    (try dsimp only at H)
    have A9 := Aside0.mk A90
    clear A90
    by_cases c10 : t145.toList = t171.toList
    ·rw [if_pos c10] at H
     have c10b0 := beq_iff_eq.mpr c10
     have c10b1 := bne_eq_false_iff_eq.mpr c10
     clear c10
     by_cases c11 : t168 = 0
     ·rw [if_pos c11] at H
      have c11b0 := beq_iff_eq.mpr c11
      have c11b1 := bne_eq_false_iff_eq.mpr c11
      clear c11
      by_cases c12 : ((t150 == z0 && ((t151 == z1 && (t152 == z2 && (t153 == z3 && (t154 == z4 && (t155 == z5 && (t156 == z6 && (t157 == z7 && (t158 == z8 && (t159 == z9 && (t160 == za && (t161 == zb && (t162 == zc && (t163 == zd && (t164 == ze && (t165 == zf && (t166 == zg)))))))))))))))))) && (t167 == zh)) = true
      ·rw [if_pos c12] at H
       have c12b0 : ((t150 == z0 && ((t151 == z1 && (t152 == z2 && (t153 == z3 && (t154 == z4 && (t155 == z5 && (t156 == z6 && (t157 == z7 && (t158 == z8 && (t159 == z9 && (t160 == za && (t161 == zb && (t162 == zc && (t163 == zd && (t164 == ze && (t165 == zf && (t166 == zg)))))))))))))))))) && (t167 == zh)) = true := c12
       clear c12
       replace H := Option.bind_eq_some_iff.mp H
       obtain ⟨t172, A130, H⟩ := H
       (try dsimp only at H)
       have A13 := Aside0.mk A130
       clear A130
       obtain rfl := Option.some.inj H
       go_enter Tryz.func3, Tryz.ntmps3
       go_wp2_with (first | ((with_reducible refine gate_dst (N := 1) rfl ?_); refine bx_ 1 (nr_ z0 z1 z2 z3 z4 z5 z6 z7 z8 z9 za zb zc zd ze zf zg zh) 26 ?_; intro gb144 hg w14 hbox hb; have BK144 := Aside0.mk (hbox); have GW144 := Aside0.mk (ge_ (w := w) hg); have GE144 := Aside0.mk (ge_ (w := w) hg); replace HB := Aside0.mk (below_step bq_ hb); clear hb hbox hg) | ((with_reducible refine gate_dst (N := 8) rfl ?_); (try (refine gate_guard (by rfl) ?_; dsimp only)); refine load_box ?hg 26 (.tmp 1) rfl BK144.out [] (nt_ z0 z1 z2 z3 z4 z5 z6 z7 z8 z9 za zb zc zd ze zf zg zh) [] rfl 0 rfl rfl Tryz.underlying26 rfl (by kernel_rfl) ?_; (case hg => rfl)) | ((with_reducible refine gate_callee (f := 4) rfl ?_); refine goesL_ (some 9) rfl rfl Tryz.func4 (by kernel_rfl) rfl #[.agg (nr_ z0 z1 z2 z3 z4 z5 z6 z7 z8 z9 za zb zc zd ze zf zg zh)] rfl lq_ ?_; (with_reducible refine (cidr_Print.calls k z0 z1 z2 z3 z4 z5 z6 z7 z8 z9 za zb zc zd ze zf zg zh t145 t146 _ ?side1 A2.out).mono ?_); (case side1 => exact lg_); rintro e w15 ⟨rfl, hb⟩; refine ⟨_, rfl, ?_⟩; replace BK144 := Aside0.mk (bb_ BK144 hb); replace HB := Aside0.mk (below_step bg_ hb); (try clear hb); (try clear hb2); (try clear hk); (try clear hi)) | ((with_reducible refine gate_dst (N := 12) rfl ?_); (try (refine gate_guard (by rfl) ?_; dsimp only)); refine load_box ?hg 26 (.tmp 1) rfl BK144.out [] (nt_ z0 z1 z2 z3 z4 z5 z6 z7 z8 z9 za zb zc zd ze zf zg zh) [] rfl 0 rfl rfl Tryz.underlying26 rfl (by kernel_rfl) ?_; (case hg => rfl)) | ((with_reducible refine gate_callee (f := 5) rfl ?_); refine goesL_ (some 13) rfl rfl Tryz.func5 (by kernel_rfl) rfl #[.agg (nr_ z0 z1 z2 z3 z4 z5 z6 z7 z8 z9 za zb zc zd ze zf zg zh)] rfl lq_ ?_; (with_reducible refine (lanternref06_May.calls k z0 z1 z2 z3 z4 z5 z6 z7 z8 z9 za zb zc zd ze zf zg zh true _ ?side1 A3.out).mono ?_); (case side1 => exact lg_); rintro e w16 ⟨rfl, hb⟩; refine ⟨_, rfl, ?_⟩; replace BK144 := Aside0.mk (bb_ BK144 hb); replace HB := Aside0.mk (below_step bg_ hb); (try clear hb); (try clear hb2); (try clear hk); (try clear hi)) | ((with_reducible refine gate_callee (f := 8) rfl ?_); refine goesL_ (some 31) rfl rfl Tryz.func8 (by kernel_rfl) rfl #[.string t145] rfl lq_ ?_; (with_reducible refine (cidr_Parse.calls k t145 t150 t151 t152 t153 t154 t155 t156 t157 t158 t159 t160 t161 t162 t163 t164 t165 t166 t167 t168 _ ?side1 A5.out).mono ?_); (case side1 => exact lg_); rintro e w17 ⟨rfl, hb⟩; refine ⟨_, rfl, ?_⟩; replace BK144 := Aside0.mk (bb_ BK144 hb); replace HB := Aside0.mk (below_step bg_ hb); (try clear hb); (try clear hb2); (try clear hk); (try clear hi)) | ((with_reducible refine gate_dst (N := 5) rfl ?_); refine bx_ 5 (nr_ false 0 0 0 0 0 0 0 0 0 0 0 0 0 0 0 0 0) 26 ?_; intro gb169 hg w18 hbox hb; have n0_ := Aside0.mk (bb_ BK144 hb); have n1_ := Aside0.mk (below_step bg_ hb); have n2_ := Aside0.mk (hbox); have n3_ := Aside0.mk (gg_ (w := w) hg); have n4_ := Aside0.mk (gg_ (w := w) hg); have n5_ := Aside0.mk (nl_ BK144 hg); have n6_ := Aside0.mk (ng_ BK144 hg); clear BK144; clear HB; have BK144 := n0_; have HB := n1_; have BK169 := n2_; have GW169 := n3_; have GE169 := n4_; have NB144_169 := n5_; have NB169_144 := n6_; clear n0_ n1_ n2_ n3_ n4_ n5_ n6_; clear hb hbox hg; have hnb19 := NB169_144.out; have hnc19 := NB144_169.out; obtain ⟨hcz20_0, hcz20_1, hcz20_2, hcz20_3, hcz20_4, hcz20_5, hcz20_6, hcz20_7, hcz20_8, hcz20_9, hcz20_10, hcz20_11, hcz20_12, hcz20_13, hcz20_14, hcz20_15, hcz20_16, hcz20_17⟩ := c18_ BK169; have hfz20_0 := bf_ BK169 0; have hfz20_1 := bf_ BK169 1; have hfz20_2 := bf_ BK169 2; have hfz20_3 := bf_ BK169 3; have hfz20_4 := bf_ BK169 4; have hfz20_5 := bf_ BK169 5; have hfz20_6 := bf_ BK169 6; have hfz20_7 := bf_ BK169 7; have hfz20_8 := bf_ BK169 8; have hfz20_9 := bf_ BK169 9; have hfz20_10 := bf_ BK169 10; have hfz20_11 := bf_ BK169 11; have hfz20_12 := bf_ BK169 12; have hfz20_13 := bf_ BK169 13; have hfz20_14 := bf_ BK169 14; have hfz20_15 := bf_ BK169 15; have hfz20_16 := bf_ BK169 16; have hfz20_17 := bf_ BK169 17) | ((with_reducible refine gate_store (t := 26) (p := 5) rfl ?_); refine store_all ?hg 26 5 _ rfl rfl gb169 (nt_ false 0 0 0 0 0 0 0 0 0 0 0 0 0 0 0 0 0) (nt_ t150 t151 t152 t153 t154 t155 t156 t157 t158 t159 t160 t161 t162 t163 t164 t165 t166 t167) BK169.out rfl rfl rfl (by kernel_rfl) rfl ?_; (case hg => rfl); intro w21 hw; replace BK144 := Aside0.mk (sf_ BK144 NB144_169 hw); replace BK169 := Aside0.mk (show w21.heap[gb169]? = some (.cells (nr_ t150 t151 t152 t153 t154 t155 t156 t157 t158 t159 t160 t161 t162 t163 t164 t165 t166 t167) 26 (0, 0)) from ss_ BK169 hw); replace HB := Aside0.mk (sb_ hw); clear hw) | ((with_reducible refine gate_dst (N := 34) rfl ?_); (try (refine gate_guard (by rfl) ?_; dsimp only)); refine load_box ?hg 26 (.tmp 1) rfl BK144.out [] (nt_ z0 z1 z2 z3 z4 z5 z6 z7 z8 z9 za zb zc zd ze zf zg zh) [] rfl 0 rfl rfl Tryz.underlying26 rfl (by kernel_rfl) ?_; (case hg => rfl)) | ((with_reducible refine gate_callee (f := 6) rfl ?_); refine goesL_ (some 35) rfl rfl Tryz.func6 (by kernel_rfl) rfl #[.agg (nr_ z0 z1 z2 z3 z4 z5 z6 z7 z8 z9 za zb zc zd ze zf zg zh)] rfl lq_ ?_; (with_reducible refine (cidr_Check.calls z0 z1 z2 z3 z4 z5 z6 z7 z8 z9 za zb zc zd ze zf zg zh t170 _ ?side1 A6.out).mono ?_); (case side1 => exact lg_); rintro e w22 ⟨rfl, hb⟩; refine ⟨_, rfl, ?_⟩; replace BK144 := Aside0.mk (bb_ BK144 hb); replace BK169 := Aside0.mk (bb_ BK169 hb); replace HB := Aside0.mk (below_step bg_ hb); (try clear hb); (try clear hb2); (try clear hk); (try clear hi)) | ((with_reducible refine gate_dst (N := 43) rfl ?_); (try (refine gate_guard (by rfl) ?_; dsimp only)); refine load_box ?hg 26 (.tmp 1) rfl BK144.out [] (nt_ z0 z1 z2 z3 z4 z5 z6 z7 z8 z9 za zb zc zd ze zf zg zh) [] rfl 0 rfl rfl Tryz.underlying26 rfl (by kernel_rfl) ?_; (case hg => rfl)) | (go_at_call 9; (with_reducible refine (lanternref06_Print.calls k z0 z1 z2 z3 z4 z5 z6 z7 z8 z9 za zb zc zd ze zf zg zh t171 _ ?side1 A9.out).mono ?_); (case side1 => exact lg_); rintro e w23 ⟨rfl, hb⟩; replace BK144 := Aside0.mk (bb_ BK144 hb); replace BK169 := Aside0.mk (bb_ BK169 hb); replace HB := Aside0.mk (below_step bg_ hb); (try clear hb); (try clear hb2); (try clear hk); (try clear hi)) | ((with_reducible refine gate_dst (N := 52) rfl ?_); (try (refine gate_guard (by rfl) ?_; dsimp only)); refine load_box ?hg 26 (.tmp 5) rfl BK169.out [] (nt_ t150 t151 t152 t153 t154 t155 t156 t157 t158 t159 t160 t161 t162 t163 t164 t165 t166 t167) [] rfl 0 rfl rfl Tryz.underlying26 rfl (by kernel_rfl) ?_; (case hg => rfl)) | ((with_reducible refine gate_dst (N := 53) rfl ?_); (try (refine gate_guard (by rfl) ?_; dsimp only)); refine load_box ?hg 26 (.tmp 1) rfl BK144.out [] (nt_ z0 z1 z2 z3 z4 z5 z6 z7 z8 z9 za zb zc zd ze zf zg zh) [] rfl 0 rfl rfl Tryz.underlying26 rfl (by kernel_rfl) ?_; (case hg => rfl)) | (go_at_call 7; (with_reducible refine (lanternlaw06_awake.calls k  t172 _ ?side1 A13.out).mono ?_); (case side1 => exact lg_); rintro e w24 ⟨rfl, hb⟩; replace BK144 := Aside0.mk (bb_ BK144 hb); replace BK169 := Aside0.mk (bb_ BK169 hb); replace HB := Aside0.mk (below_step bg_ hb); (try clear hb); (try clear hb2); (try clear hk); (try clear hi)))
       go_ret
       exact ⟨rq_, bg_⟩
      ·rw [if_neg c12] at H
       exact absurd H (by simp)
     ·rw [if_neg c11] at H
      exact absurd H (by simp)
    ·rw [if_neg c10] at H
     exact absurd H (by simp)
   ·rw [if_neg c8] at H
    exact absurd H (by simp)
  ·rw [if_neg c7] at H
   exact absurd H (by simp)
 ·replace c4 := Bool.eq_false_iff.mpr c4
  subst c4
  replace H := ifF_ H
  replace H := Option.bind_eq_some_iff.mp H
  obtain ⟨t148, A250, H⟩ := H
  (try dsimp only at H)
  have A25 := Aside0.mk A250
  clear A250
  by_cases c26 : t148 = 1
  ·rw [if_pos c26] at H
   have c26b0 := beq_iff_eq.mpr c26
   have c26b1 := bne_eq_false_iff_eq.mpr c26
   clear c26
   by_cases c27 : t146 = 1
   ·rw [if_pos c27] at H
    have c27b0 := beq_iff_eq.mpr c27
    have c27b1 := bne_eq_false_iff_eq.mpr c27
    clear c27
    by_cases c28 : t145.toList = ([] : List UInt8)
    ·rw [if_pos c28] at H
     have c28b0 := beq_iff_eq.mpr c28
     have c28b1 := bne_eq_false_iff_eq.mpr c28
     clear c28
     replace H := Option.bind_eq_some_iff.mp H
     obtain ⟨t149, A290, H⟩ := H
     (try dsimp only at H)
     have A29 := Aside0.mk A290
     clear A290
     obtain rfl := Option.some.inj H
     go_enter Tryz.func3, Tryz.ntmps3
     go_wp2_with (first | ((with_reducible refine gate_dst (N := 1) rfl ?_); refine bx_ 1 (nr_ z0 z1 z2 z3 z4 z5 z6 z7 z8 z9 za zb zc zd ze zf zg zh) 26 ?_; intro gb144 hg w30 hbox hb; have BK144 := Aside0.mk (hbox); have GW144 := Aside0.mk (ge_ (w := w) hg); have GE144 := Aside0.mk (ge_ (w := w) hg); replace HB := Aside0.mk (below_step bq_ hb); clear hb hbox hg) | ((with_reducible refine gate_dst (N := 8) rfl ?_); (try (refine gate_guard (by rfl) ?_; dsimp only)); refine load_box ?hg 26 (.tmp 1) rfl BK144.out [] (nt_ z0 z1 z2 z3 z4 z5 z6 z7 z8 z9 za zb zc zd ze zf zg zh) [] rfl 0 rfl rfl Tryz.underlying26 rfl (by kernel_rfl) ?_; (case hg => rfl)) | ((with_reducible refine gate_callee (f := 4) rfl ?_); refine goesL_ (some 9) rfl rfl Tryz.func4 (by kernel_rfl) rfl #[.agg (nr_ z0 z1 z2 z3 z4 z5 z6 z7 z8 z9 za zb zc zd ze zf zg zh)] rfl lq_ ?_; (with_reducible refine (cidr_Print.calls k z0 z1 z2 z3 z4 z5 z6 z7 z8 z9 za zb zc zd ze zf zg zh t145 t146 _ ?side1 A2.out).mono ?_); (case side1 => exact lg_); rintro e w31 ⟨rfl, hb⟩; refine ⟨_, rfl, ?_⟩; replace BK144 := Aside0.mk (bb_ BK144 hb); replace HB := Aside0.mk (below_step bg_ hb); (try clear hb); (try clear hb2); (try clear hk); (try clear hi)) | ((with_reducible refine gate_dst (N := 12) rfl ?_); (try (refine gate_guard (by rfl) ?_; dsimp only)); refine load_box ?hg 26 (.tmp 1) rfl BK144.out [] (nt_ z0 z1 z2 z3 z4 z5 z6 z7 z8 z9 za zb zc zd ze zf zg zh) [] rfl 0 rfl rfl Tryz.underlying26 rfl (by kernel_rfl) ?_; (case hg => rfl)) | ((with_reducible refine gate_callee (f := 5) rfl ?_); refine goesL_ (some 13) rfl rfl Tryz.func5 (by kernel_rfl) rfl #[.agg (nr_ z0 z1 z2 z3 z4 z5 z6 z7 z8 z9 za zb zc zd ze zf zg zh)] rfl lq_ ?_; (with_reducible refine (lanternref06_May.calls k z0 z1 z2 z3 z4 z5 z6 z7 z8 z9 za zb zc zd ze zf zg zh false _ ?side1 A3.out).mono ?_); (case side1 => exact lg_); rintro e w32 ⟨rfl, hb⟩; refine ⟨_, rfl, ?_⟩; replace BK144 := Aside0.mk (bb_ BK144 hb); replace HB := Aside0.mk (below_step bg_ hb); (try clear hb); (try clear hb2); (try clear hk); (try clear hi)) | ((with_reducible refine gate_dst (N := 15) rfl ?_); (try (refine gate_guard (by rfl) ?_; dsimp only)); refine load_box ?hg 26 (.tmp 1) rfl BK144.out [] (nt_ z0 z1 z2 z3 z4 z5 z6 z7 z8 z9 za zb zc zd ze zf zg zh) [] rfl 0 rfl rfl Tryz.underlying26 rfl (by kernel_rfl) ?_; (case hg => rfl)) | ((with_reducible refine gate_callee (f := 6) rfl ?_); refine goesL_ (some 16) rfl rfl Tryz.func6 (by kernel_rfl) rfl #[.agg (nr_ z0 z1 z2 z3 z4 z5 z6 z7 z8 z9 za zb zc zd ze zf zg zh)] rfl lq_ ?_; (with_reducible refine (cidr_Check.calls z0 z1 z2 z3 z4 z5 z6 z7 z8 z9 za zb zc zd ze zf zg zh t148 _ ?side1 A25.out).mono ?_); (case side1 => exact lg_); rintro e w33 ⟨rfl, hb⟩; refine ⟨_, rfl, ?_⟩; replace BK144 := Aside0.mk (bb_ BK144 hb); replace HB := Aside0.mk (below_step bg_ hb); (try clear hb); (try clear hb2); (try clear hk); (try clear hi)) | (go_at_call 7; (with_reducible refine (lanternlaw06_awake.calls k  t149 _ ?side1 A29.out).mono ?_); (case side1 => exact lg_); rintro e w34 ⟨rfl, hb⟩; replace BK144 := Aside0.mk (bb_ BK144 hb); replace HB := Aside0.mk (below_step bg_ hb); (try clear hb); (try clear hb2); (try clear hk); (try clear hi)))
     go_ret
     exact ⟨rq_, bg_⟩
    ·rw [if_neg c28] at H
     exact absurd H (by simp)
   ·rw [if_neg c27] at H
    exact absurd H (by simp)
  ·rw [if_neg c26] at H
   exact absurd H (by simp)

end Go.Proofs.YtdopafhppaalfaaGreatDoor.L
