-- Written by a program of this session (wip/gen/lprint.py over the kit's print.py) out of the translation. Lean checks it.
import Derived.Test.YtdopafhppaalfaaDoorProg
import Derived.Below
import Derived.Deep.Draws
import Derived.Deep.AppendLies
import Derived.Maps.AppendAt
import Derived.OwnWalk
import Derived.Laws.BytesArg
import Derived.Laws.MakeOwn
import Derived.Laws.OwnMore
import Derived.Deep.OwnRows
import Derived.Tactics
import Derived.Lib.ConvBytes
import Derived.Laws.Slices
import Derived.WalkKit
import Derived.KernelRfl
import Derived.RowKit3
import Derived.Deep.LoopGhost
import Derived.Deep.QuietTactic
import Derived.BigQuiet
import Derived.WideLaws
import Derived.Deep.DeepCutAuto
import Derived.Deep.CutBlock
import Derived.Deep.RegionHeld3
import Derived.Laws.Rows
import Derived.Lib.AppendStr
import Derived.ArgAppend
import Derived.Laws.IdiomCopy
import Derived.OrdersHeld
import Derived.Laws.BitsLemmas
import Derived.RowKit
import Derived.Test.YtdopafhppaalfaaDoorAR
import Derived.Test.YtdopafhppaalfaaDoorZ
import Derived.Test.YtdopafhppaalfaaDoorP8
import Derived.Test.YtdopafhppaalfaaDoorM2
import Derived.Test.YtdopafhppaalfaaDoorG3
import Derived.Test.YtdopafhppaalfaaDoorG4
import Derived.Test.YtdopafhppaalfaaDoorG0
import Derived.Test.YtdopafhppaalfaaDoorM7
import Derived.Test.YtdopafhppaalfaaDoorWWords
import Derived.Test.YtdopafhppaalfaaDoorWLast
import Derived.Test.YtdopafhppaalfaaDoorWTab
import Derived.Test.YtdopafhppaalfaaDoorWApart
import Derived.Test.YtdopafhppaalfaaDoorWMore
namespace Go.Proofs.YtdopafhppaalfaaDoor.L
open Go.Proofs.YtdopafhppaalfaaDoor.E Go.Proofs.YtdopafhppaalfaaDoorV
open Go.Proofs.YtdopafhppaalfaaDoor.P
open Go.Proofs.YtdopafhppaalfaaDoor.G
open Go.RowKit Go.Proofs.YtdopafhppaalfaaDoorW.PrintWords Go.Proofs.YtdopafhppaalfaaDoorW.PrintLast Go.Proofs.YtdopafhppaalfaaDoorW.PrintMore
attribute [local go_sem] max2_int min2_int max_two min_two max_three min_three max_four min_four   -- for this text's walks alone
set_option linter.unusedVariables false
set_option linter.unusedSimpArgs false

def errW : Option Int → Value
  | none => .nilIface
  | some c => .iface 0 (.int .i64 c)
theorem errW_none : errW none = .nilIface := rfl
theorem errW_some (c : Int) : errW (some c) = .iface 0 (.int .i64 c) := rfl

end Go.Proofs.YtdopafhppaalfaaDoor.L
namespace Go.Proofs.YtdopafhppaalfaaDoor.L
open Go.Proofs.YtdopafhppaalfaaDoorZ
open Go.Proofs.YtdopafhppaalfaaDoor.E Go.Proofs.YtdopafhppaalfaaDoorV
open Go.Proofs.YtdopafhppaalfaaDoor.P
open Go.Proofs.YtdopafhppaalfaaDoor.G
open Go.RowKit Go.Proofs.YtdopafhppaalfaaDoorW.PrintWords Go.Proofs.YtdopafhppaalfaaDoorW.PrintLast Go.Proofs.YtdopafhppaalfaaDoorW.PrintMore
attribute [local go_sem] max2_int min2_int max_two min_two max_three min_three max_four min_four   -- for this text's walks alone
set_option linter.unusedVariables false
set_option linter.unusedSimpArgs false

def lanternlaw06_awake.f (k : Nat)  : Option (Bool) := (lanternref05_Parse.f k (⟨#[58, 58, 102, 102, 102, 102, 58, 49, 48, 46, 48, 46, 48, 46, 49]⟩ : ByteArray)).bind fun bt101 => ((lanternref05_Parse.f k (⟨#[56, 46, 56, 46, 56, 46, 56]⟩ : ByteArray)).bind fun bt120 => (if bt101.2.2.2.2.2.2.2.2.2.2.2.2.2.2.2.2.2 = true then (if bt120.2.2.2.2.2.2.2.2.2.2.2.2.2.2.2.2.2 = true then ((cidr_Allow.f k bt101.1 bt101.2.1 bt101.2.2.1 bt101.2.2.2.1 bt101.2.2.2.2.1 bt101.2.2.2.2.2.1 bt101.2.2.2.2.2.2.1 bt101.2.2.2.2.2.2.2.1 bt101.2.2.2.2.2.2.2.2.1 bt101.2.2.2.2.2.2.2.2.2.1 bt101.2.2.2.2.2.2.2.2.2.2.1 bt101.2.2.2.2.2.2.2.2.2.2.2.1 bt101.2.2.2.2.2.2.2.2.2.2.2.2.1 bt101.2.2.2.2.2.2.2.2.2.2.2.2.2.1 bt101.2.2.2.2.2.2.2.2.2.2.2.2.2.2.1 bt101.2.2.2.2.2.2.2.2.2.2.2.2.2.2.2.1 bt101.2.2.2.2.2.2.2.2.2.2.2.2.2.2.2.2.1 ([] : List (S34))).bind fun t139 => (if t139 = 8 then ((cidr_Allow.f k bt120.1 bt120.2.1 bt120.2.2.1 bt120.2.2.2.1 bt120.2.2.2.2.1 bt120.2.2.2.2.2.1 bt120.2.2.2.2.2.2.1 bt120.2.2.2.2.2.2.2.1 bt120.2.2.2.2.2.2.2.2.1 bt120.2.2.2.2.2.2.2.2.2.1 bt120.2.2.2.2.2.2.2.2.2.2.1 bt120.2.2.2.2.2.2.2.2.2.2.2.1 bt120.2.2.2.2.2.2.2.2.2.2.2.2.1 bt120.2.2.2.2.2.2.2.2.2.2.2.2.2.1 bt120.2.2.2.2.2.2.2.2.2.2.2.2.2.2.1 bt120.2.2.2.2.2.2.2.2.2.2.2.2.2.2.2.1 bt120.2.2.2.2.2.2.2.2.2.2.2.2.2.2.2.2.1 ([] : List (S34))).bind fun t140 => (if t140 = 0 then ((cidr_Forbidden.f k).bind fun t141 => (some ((t141.length : Int) == 26))) else (none))) else (none))) else (none)) else (none)))
theorem lanternlaw06_awake.mono : ∀ k, LeO (lanternlaw06_awake.f k ) (lanternlaw06_awake.f (k + 1) ) := by
 intro  k
 unfold lanternlaw06_awake.f
 repeat' first
   | (with_reducible exact cidr_Allow.mono _ _ _ _ _ _ _ _ _ _ _ _ _ _ _ _ _ _ _)
   | (with_reducible exact cidr_Forbidden.mono _)
   | (with_reducible exact lanternref05_Parse.mono _ _)
   | (with_reducible exact LeO.refl _)
   | (with_reducible exact LeO.none _)
   | (with_reducible refine LeO.ite ?_ ?_)
   | (with_reducible refine LeO.bind ?_ (fun _ => ?_))
   | exact cidr_Allow.mono _ _ _ _ _ _ _ _ _ _ _ _ _ _ _ _ _ _ _
   | exact cidr_Forbidden.mono _
   | exact lanternref05_Parse.mono _ _
   | exact LeO.none _
   | refine LeO.ite ?_ ?_
   | refine LeO.bind ?_ (fun _ => ?_)
set_option maxHeartbeats 8000000 in
set_option maxRecDepth 100000 in
theorem lanternlaw06_awake.calls (k : Nat)  (r : Bool) (w : World) (hLW : LW w) (h : lanternlaw06_awake.f k  = some r) :
  Calls Tryd.prog 6 #[] w fun e w' => e = .returned (.bool r) ∧ Below w.heap.size w w' := by
 have hu24 := Tryd.underlying24
 have HLW := Aside0.mk hLW
 clear hLW
 have HB := Aside0.mk (Below.refl w.heap.size w)
 have H := h
 unfold lanternlaw06_awake.f at H
 clear h
 replace H := Option.bind_eq_some_iff.mp H
 obtain ⟨⟨t101, t102, t103, t104, t105, t106, t107, t108, t109, t110, t111, t112, t113, t114, t115, t116, t117, t118⟩, A10, H⟩ := H
 (try dsimp only at H)
 have A1 := Aside0.mk A10
 clear A10
 replace H := Option.bind_eq_some_iff.mp H
 obtain ⟨⟨t120, t121, t122, t123, t124, t125, t126, t127, t128, t129, t130, t131, t132, t133, t134, t135, t136, t137⟩, A20, H⟩ := H
 (try dsimp only at H)
 have A2 := Aside0.mk A20
 clear A20
 by_cases c3 : t118 = true
 ·subst c3
  replace H := ifT_ H
  by_cases c4 : t137 = true
  ·subst c4
   replace H := ifT_ H
   replace H := Option.bind_eq_some_iff.mp H
   obtain ⟨t139, A50, H⟩ := H
   (try dsimp only at H)
   have A5 := Aside0.mk A50
   clear A50
   by_cases c6 : t139 = 8
   ·rw [if_pos c6] at H
    have c6b0 := beq_iff_eq.mpr c6
    have c6b1 := bne_eq_false_iff_eq.mpr c6
    clear c6
    replace H := Option.bind_eq_some_iff.mp H
    obtain ⟨t140, A70, H⟩ := H
    (try dsimp only at H)
    have A7 := Aside0.mk A70
    clear A70
    by_cases c8 : t140 = 0
    ·rw [if_pos c8] at H
     have c8b0 := beq_iff_eq.mpr c8
     have c8b1 := bne_eq_false_iff_eq.mpr c8
     clear c8
     replace H := Option.bind_eq_some_iff.mp H
     obtain ⟨t141, A90, H⟩ := H
     (try dsimp only at H)
     have A9 := Aside0.mk A90
     clear A90
     obtain rfl := Option.some.inj H
     go_enter Tryd.func6, Tryd.ntmps6
     go_wp2_with (first | ((with_reducible refine gate_callee (f := 18) rfl ?_); refine goesL_ (some 6) rfl rfl Tryd.func18 (by kernel_rfl) rfl #[.string (⟨#[58, 58, 102, 102, 102, 102, 58, 49, 48, 46, 48, 46, 48, 46, 49]⟩ : ByteArray)] rfl lq_ ?_; (with_reducible refine (lanternref05_Parse.calls k (⟨#[58, 58, 102, 102, 102, 102, 58, 49, 48, 46, 48, 46, 48, 46, 49]⟩ : ByteArray) t101 t102 t103 t104 t105 t106 t107 t108 t109 t110 t111 t112 t113 t114 t115 t116 t117 true _ ?side1 A1.out).mono ?_); (case side1 => exact lw_); rintro e w10 ⟨rfl, hb⟩; refine ⟨_, rfl, ?_⟩; replace HB := Aside0.mk (below_step bq_ hb); (try clear hb); (try clear hb2); (try clear hk); (try clear hi)) | ((with_reducible refine gate_dst (N := 1) rfl ?_); (try (refine gate_guard (by rfl) ?_; dsimp only)); refine bx_ 1 az_ 24 ?_; intro gb119 hg w11 hbox hb; have BK119 := Aside0.mk (hbox); have GW119 := Aside0.mk (ge_ (w := w) hg); have GE119 := Aside0.mk (ge_ (w := w) hg); replace HB := Aside0.mk (below_step bq_ hb); clear hb hbox hg; have hcz12_0 := cz_ BK119 0 (.bool false); have hfz12_0 := bf_ BK119 0) | ((with_reducible refine gate_store (t := 24) (p := 1) rfl ?_); refine store_all ?hg 24 1 _ rfl rfl gb119 ay_ (al_ t101 t102 t103 t104 t105 t106 t107 t108 t109 t110 t111 t112 t113 t114 t115 t116 t117) BK119.out rfl rfl rfl (by kernel_rfl) rfl ?_; (case hg => rfl); intro w13 hw; replace BK119 := Aside0.mk (show w13.heap[gb119]? = some (.cells (ag_ t101 t102 t103 t104 t105 t106 t107 t108 t109 t110 t111 t112 t113 t114 t115 t116 t117) 24 (0, 0)) from ss_ BK119 hw); replace HB := Aside0.mk (sb_ hw); clear hw) | ((with_reducible refine gate_callee (f := 18) rfl ?_); refine goesL_ (some 10) rfl rfl Tryd.func18 (by kernel_rfl) rfl #[.string (⟨#[56, 46, 56, 46, 56, 46, 56]⟩ : ByteArray)] rfl lq_ ?_; (with_reducible refine (lanternref05_Parse.calls k (⟨#[56, 46, 56, 46, 56, 46, 56]⟩ : ByteArray) t120 t121 t122 t123 t124 t125 t126 t127 t128 t129 t130 t131 t132 t133 t134 t135 t136 true _ ?side1 A2.out).mono ?_); (case side1 => exact lg_); rintro e w14 ⟨rfl, hb⟩; refine ⟨_, rfl, ?_⟩; replace BK119 := Aside0.mk (bb_ BK119 hb); replace HB := Aside0.mk (below_step bg_ hb); (try clear hb); (try clear hb2); (try clear hk); (try clear hi)) | ((with_reducible refine gate_dst (N := 3) rfl ?_); (try (refine gate_guard (by rfl) ?_; dsimp only)); refine bx_ 3 az_ 24 ?_; intro gb138 hg w15 hbox hb; have n0_ := Aside0.mk (bb_ BK119 hb); have n1_ := Aside0.mk (below_step bg_ hb); have n2_ := Aside0.mk (hbox); have n3_ := Aside0.mk (gg_ (w := w) hg); have n4_ := Aside0.mk (gg_ (w := w) hg); have n5_ := Aside0.mk (nl_ BK119 hg); have n6_ := Aside0.mk (ng_ BK119 hg); clear BK119; clear HB; have BK119 := n0_; have HB := n1_; have BK138 := n2_; have GW138 := n3_; have GE138 := n4_; have NB119_138 := n5_; have NB138_119 := n6_; clear n0_ n1_ n2_ n3_ n4_ n5_ n6_; clear hb hbox hg; have hnb16 := NB138_119.out; have hnc16 := NB119_138.out; have hcz17_0 := cz_ BK138 0 (.bool false); have hfz17_0 := bf_ BK138 0) | ((with_reducible refine gate_store (t := 24) (p := 3) rfl ?_); refine store_all ?hg 24 3 _ rfl rfl gb138 ay_ (al_ t120 t121 t122 t123 t124 t125 t126 t127 t128 t129 t130 t131 t132 t133 t134 t135 t136) BK138.out rfl rfl rfl (by kernel_rfl) rfl ?_; (case hg => rfl); intro w18 hw; replace BK119 := Aside0.mk (sf_ BK119 NB119_138 hw); replace BK138 := Aside0.mk (show w18.heap[gb138]? = some (.cells (ag_ t120 t121 t122 t123 t124 t125 t126 t127 t128 t129 t130 t131 t132 t133 t134 t135 t136) 24 (0, 0)) from ss_ BK138 hw); replace HB := Aside0.mk (sb_ hw); clear hw) | ((with_reducible refine gate_dst (N := 18) rfl ?_); (try (refine gate_guard (by rfl) ?_; dsimp only)); refine load_box ?hg 24 (.tmp 1) rfl BK119.out [] (al_ t101 t102 t103 t104 t105 t106 t107 t108 t109 t110 t111 t112 t113 t114 t115 t116 t117) [] rfl 0 rfl rfl Tryd.underlying24 rfl (by kernel_rfl) ?_; (case hg => rfl)) | (go_at_call 7; (with_reducible refine calls_of_args (args' := #[.agg (ag_ t101 t102 t103 t104 t105 t106 t107 t108 t109 t110 t111 t112 t113 t114 t115 t116 t117), .slice none 0 0]) rfl ?_); (refine (cidr_Allow.calls k t101 t102 t103 t104 t105 t106 t107 t108 t109 t110 t111 t112 t113 t114 t115 t116 t117 _ _ ([] : List (S34)) t139 _ ?side3 ?side1 ?side2 A5.out).mono ?_); (case side1 => exact Kd.C_nil _ _); (case side2 => exact Nat.le_refl _); (case side3 => exact lg_); rintro e w19 ⟨rfl, hb⟩; replace BK119 := Aside0.mk (bb_ BK119 hb); replace BK138 := Aside0.mk (bb_ BK138 hb); replace HB := Aside0.mk (below_step bg_ hb); (try clear hb); (try clear hb2); (try clear hk); (try clear hi)) | ((with_reducible refine gate_dst (N := 23) rfl ?_); (try (refine gate_guard (by rfl) ?_; dsimp only)); refine load_box ?hg 24 (.tmp 3) rfl BK138.out [] (al_ t120 t121 t122 t123 t124 t125 t126 t127 t128 t129 t130 t131 t132 t133 t134 t135 t136) [] rfl 0 rfl rfl Tryd.underlying24 rfl (by kernel_rfl) ?_; (case hg => rfl)) | (go_at_call 7; (with_reducible refine calls_of_args (args' := #[.agg (ag_ t120 t121 t122 t123 t124 t125 t126 t127 t128 t129 t130 t131 t132 t133 t134 t135 t136), .slice none 0 0]) rfl ?_); (refine (cidr_Allow.calls k t120 t121 t122 t123 t124 t125 t126 t127 t128 t129 t130 t131 t132 t133 t134 t135 t136 _ _ ([] : List (S34)) t140 _ ?side3 ?side1 ?side2 A7.out).mono ?_); (case side1 => exact Kd.C_nil _ _); (case side2 => exact Nat.le_refl _); (case side3 => exact lg_); rintro e w20 ⟨rfl, hb⟩; replace BK119 := Aside0.mk (bb_ BK119 hb); replace BK138 := Aside0.mk (bb_ BK138 hb); replace HB := Aside0.mk (below_step bg_ hb); (try clear hb); (try clear hb2); (try clear hk); (try clear hi)) | (go_at_call 10; (with_reducible refine (cidr_Forbidden.calls k  t141 _ ?side1 A9.out).mono ?_); (case side1 => exact lg_); rintro e w21 ⟨v142, rfl, ho0, hb⟩; have HO143 := Aside0.mk (Kd.R_lower ho0 (below_size bg_)); replace BK119 := Aside0.mk (bb_ BK119 hb); replace BK138 := Aside0.mk (bb_ BK138 hb); replace HB := Aside0.mk (below_step bg_ hb); (try clear hb); (try clear hb2); (try clear hk); (try clear hi); (try clear ho0); obtain ⟨Ao22, co22, eo22⟩ := Kd.R_slice HO143.out; subst eo22))
     go_ret
     exact ⟨rq_, bg_⟩
    ·rw [if_neg c8] at H
     exact absurd H (by simp)
   ·rw [if_neg c6] at H
    exact absurd H (by simp)
  ·replace c4 := Bool.eq_false_iff.mpr c4
   subst c4
   replace H := ifF_ H
   exact absurd H (by simp)
 ·replace c3 := Bool.eq_false_iff.mpr c3
  subst c3
  replace H := ifF_ H
  exact absurd H (by simp)

end Go.Proofs.YtdopafhppaalfaaDoor.L
