-- Written by a program of this session (wip/gen/lprint.py over the kit's print.py) out of the translation. Lean checks it.
import Derived.Test.YtipleegkonhfcaaGreatDoorProg
import Derived.Below
import Derived.Deep.Draws
import Derived.Deep.AppendLies
import Derived.Maps.AppendAt
import Derived.OwnWalk
import Derived.Laws.BytesArg
import Derived.Laws.MakeOwn
import Derived.Laws.OwnMore
import Derived.Deep.OwnRows
import Derived.Tactics
import Derived.Lib.ConvBytes
import Derived.Laws.Slices
import Derived.WalkKit
import Derived.KernelRfl
import Derived.RowKit3
import Derived.Deep.LoopGhost
import Derived.Deep.QuietTactic
import Derived.BigQuiet
import Derived.WideLaws
import Derived.Deep.DeepCutAuto
import Derived.Deep.CutBlock
import Derived.Deep.RegionHeld3
import Derived.Laws.Rows
import Derived.Lib.AppendStr
import Derived.ArgAppend
import Derived.Laws.IdiomCopy
import Derived.OrdersHeld
import Derived.Laws.BitsLemmas
import Derived.RowKit
import Derived.Test.YtipleegkonhfcaaGreatDoorAR
import Derived.Test.YtipleegkonhfcaaGreatDoorZ
import Derived.Test.YtipleegkonhfcaaGreatDoorE
import Derived.Test.YtipleegkonhfcaaGreatDoorNP
import Derived.Test.YtipleegkonhfcaaGreatDoorU1
import Derived.Test.YtipleegkonhfcaaGreatDoorKF1
import Derived.Test.YtipleegkonhfcaaGreatDoorKC
import Derived.Test.YtipleegkonhfcaaGreatDoorP2
import Derived.Test.YtipleegkonhfcaaGreatDoorP3
import Derived.Test.YtipleegkonhfcaaGreatDoorP4
import Derived.Test.YtipleegkonhfcaaGreatDoorP5
import Derived.Test.YtipleegkonhfcaaGreatDoorP6
import Derived.Test.YtipleegkonhfcaaGreatDoorP7
import Derived.Test.YtipleegkonhfcaaGreatDoorP8
import Derived.Test.YtipleegkonhfcaaGreatDoorP9
import Derived.Test.YtipleegkonhfcaaGreatDoorP10
import Derived.Test.YtipleegkonhfcaaGreatDoorP11
import Derived.Test.YtipleegkonhfcaaGreatDoorP12
import Derived.Test.YtipleegkonhfcaaGreatDoorP13
import Derived.Test.YtipleegkonhfcaaGreatDoorWWords
import Derived.Test.YtipleegkonhfcaaGreatDoorWLast
import Derived.Test.YtipleegkonhfcaaGreatDoorWTab
import Derived.Test.YtipleegkonhfcaaGreatDoorWApart
import Derived.Test.YtipleegkonhfcaaGreatDoorWFoot
import Derived.Test.YtipleegkonhfcaaGreatDoorWKept
import Derived.Test.YtipleegkonhfcaaGreatDoorWShare
import Derived.Test.YtipleegkonhfcaaGreatDoorWN
import Derived.Test.YtipleegkonhfcaaGreatDoorWEqStruct
import Derived.Test.YtipleegkonhfcaaGreatDoorWRepsOne
import Derived.Test.YtipleegkonhfcaaGreatDoorWGuard
import Derived.Test.YtipleegkonhfcaaGreatDoorWMore
import Derived.Test.YtipleegkonhfcaaGreatDoorBZ
namespace Go.Proofs.YtipleegkonhfcaaGreatDoor.KG
open Go.Proofs.YtipleegkonhfcaaGreatDoor.E Go.Proofs.YtipleegkonhfcaaGreatDoorV
open Go.Proofs.YtipleegkonhfcaaGreatDoor.U
open Go.Proofs.YtipleegkonhfcaaGreatDoor.KF
open Go.Proofs.YtipleegkonhfcaaGreatDoor.P
open Go.RowKit Go.Proofs.YtipleegkonhfcaaGreatDoorW.PrintWords Go.Proofs.YtipleegkonhfcaaGreatDoorW.PrintLast Go.Proofs.YtipleegkonhfcaaGreatDoorW.PrintMore
attribute [local go_sem] max2_int min2_int max_two min_two max_three min_three max_four min_four   -- for this text's walks alone
set_option linter.unusedVariables false
set_option linter.unusedSimpArgs false

def errW : Option Int → Value
 | none => .nilIface
 | some c => .iface 0 (.int .i64 c)
theorem errW_none : errW none = .nilIface := rfl
theorem errW_some (c : Int) : errW (some c) = .iface 0 (.int .i64 c) := rfl

theorem info5 : (Tryz.prog.info? 5).map (fun i => (i.zero, i.size, i.bytes)) = some (some (.int .u8 0), 1, 1) := by kernel_rfl
end Go.Proofs.YtipleegkonhfcaaGreatDoor.KG
namespace Go.Proofs.YtipleegkonhfcaaGreatDoor.KG
open Go.Proofs.YtipleegkonhfcaaGreatDoorZ
open Go.Proofs.YtipleegkonhfcaaGreatDoor.E Go.Proofs.YtipleegkonhfcaaGreatDoorV
open Go.Proofs.YtipleegkonhfcaaGreatDoor.U
open Go.Proofs.YtipleegkonhfcaaGreatDoor.KF
open Go.Proofs.YtipleegkonhfcaaGreatDoor.P
open Go.RowKit Go.Proofs.YtipleegkonhfcaaGreatDoorW.PrintWords Go.Proofs.YtipleegkonhfcaaGreatDoorW.PrintLast Go.Proofs.YtipleegkonhfcaaGreatDoorW.PrintMore
attribute [local go_sem] max2_int min2_int max_two min_two max_three min_three max_four min_four   -- for this text's walks alone
set_option linter.unusedVariables false
set_option linter.unusedSimpArgs false

def lanternref11_ParseRequest.j0 : Nat → List Int → Int → List ByteArray → Bool → ByteArray → ByteArray → Option (ByteArray × ByteArray × (List (S67)) × List Int × Int × Int)
 | 0, _, _, _, _, _, _ => none
 | k + 1, x0, x7, x9, x49, x103000, x103001 => if x49 = true then (some (x103000, x103001, ([] : List (S67)), ([] : List Int), 0, 5)) else (if 0 ≤ x7 then (if x7 ≤ (x0.length : Int) then ((lanternref09_Parse.f k (x0.drop (x7 : Int).toNat)).bind fun bt115 => (if bt115.2.2 = 0 then (if 0 ≤ (wrap64 (x7 + bt115.2.1)) then (if (wrap64 (x7 + bt115.2.1)) ≤ (x0.length : Int) then ((lanternref11_body.f k (x0.drop ((wrap64 (x7 + bt115.2.1)) : Int).toNat) bt115.1 false).bind fun bt121 => (if bt121.2.2 = 0 then (if 0 < (x9.length : Int) then (if 1 < (x9.length : Int) then (some (rdOf ByteArray.empty x9 0, rdOf ByteArray.empty x9 1, bt115.1, bt121.1, wrap64 ((wrap64 (x7 + bt115.2.1)) + bt121.2.1), 0)) else (none)) else (none)) else (some (x103000, x103001, ([] : List (S67)), ([] : List Int), 0, bt121.2.2)))) else (none)) else (none)) else (some (x103000, x103001, ([] : List (S67)), ([] : List Int), 0, bt115.2.2)))) else (none)) else (none))
def lanternref11_ParseRequest.f (k : Nat) (l0 : List Int) : Option (ByteArray × ByteArray × (List (S67)) × List Int × Int × Int) := (lanternref11_line.f k l0).bind fun bt103 => (if bt103.2.2 = 0 then ((lanternref11_cut.f k bt103.1 9).bind fun t106 => (if (t106.length : Int) = 3 then (if 0 < (t106.length : Int) then ((lanternref09_Token.f k (rdOf ByteArray.empty t106 0)).bind fun t110 => (if t110 = true then (if 1 < (t106.length : Int) then ((lanternref11_target.f k (rdOf ByteArray.empty t106 1)).bind fun t112 => (if t112 = true then (if 2 < (t106.length : Int) then (lanternref11_ParseRequest.j0 k l0 bt103.2.1 t106 ((rdOf ByteArray.empty t106 2).toList != ([72, 84, 84, 80, 47, 49, 46, 49] : List UInt8)) (⟨#[]⟩ : ByteArray) (⟨#[]⟩ : ByteArray)) else (none)) else (lanternref11_ParseRequest.j0 k l0 bt103.2.1 t106 true (⟨#[]⟩ : ByteArray) (⟨#[]⟩ : ByteArray)))) else (none)) else (lanternref11_ParseRequest.j0 k l0 bt103.2.1 t106 true (⟨#[]⟩ : ByteArray) (⟨#[]⟩ : ByteArray)))) else (none)) else (lanternref11_ParseRequest.j0 k l0 bt103.2.1 t106 true (⟨#[]⟩ : ByteArray) (⟨#[]⟩ : ByteArray)))) else (some ((⟨#[]⟩ : ByteArray), (⟨#[]⟩ : ByteArray), ([] : List (S67)), ([] : List Int), 0, bt103.2.2)))
theorem lanternref11_ParseRequest.mono_l : ∀ k, (∀ y0 y1 y2 y3 y4 y5, LeO (lanternref11_ParseRequest.j0 k y0 y1 y2 y3 y4 y5) (lanternref11_ParseRequest.j0 (k + 1) y0 y1 y2 y3 y4 y5))
 | 0 => fun _ _ _ _ _ _ r h => by simp [lanternref11_ParseRequest.j0] at h
 | k + 1 => by
  have ih0 := lanternref11_ParseRequest.mono_l k
  ·intro y0 y1 y2 y3 y4 y5
   unfold lanternref11_ParseRequest.j0
   repeat' first
   | (with_reducible exact ih0 _ _ _ _ _ _)
   | (with_reducible exact lanternref09_Parse.mono _ _)
   | (with_reducible exact lanternref09_Token.mono _ _)
   | (with_reducible exact lanternref11_body.mono _ _ _ _)
   | (with_reducible exact lanternref11_cut.mono _ _ _)
   | (with_reducible exact lanternref11_line.mono _ _)
   | (with_reducible exact lanternref11_target.mono _ _)
   | (with_reducible exact LeO.refl _)
   | (with_reducible exact LeO.none _)
   | (with_reducible refine LeO.ite ?_ ?_)
   | (with_reducible refine LeO.bind ?_ (fun _ => ?_))
   | exact ih0 _ _ _ _ _ _
   | exact lanternref09_Parse.mono _ _
   | exact lanternref09_Token.mono _ _
   | exact lanternref11_body.mono _ _ _ _
   | exact lanternref11_cut.mono _ _ _
   | exact lanternref11_line.mono _ _
   | exact lanternref11_target.mono _ _
   | exact LeO.none _
   | refine LeO.ite ?_ ?_
   | refine LeO.bind ?_ (fun _ => ?_)
theorem lanternref11_ParseRequest.mono : ∀ a0 k, LeO (lanternref11_ParseRequest.f k a0) (lanternref11_ParseRequest.f (k + 1) a0) := by
 intro a0 k
 have ih0 := lanternref11_ParseRequest.mono_l k
 unfold lanternref11_ParseRequest.f
 repeat' first
   | (with_reducible exact ih0 _ _ _ _ _ _)
   | (with_reducible exact lanternref09_Parse.mono _ _)
   | (with_reducible exact lanternref09_Token.mono _ _)
   | (with_reducible exact lanternref11_body.mono _ _ _ _)
   | (with_reducible exact lanternref11_cut.mono _ _ _)
   | (with_reducible exact lanternref11_line.mono _ _)
   | (with_reducible exact lanternref11_target.mono _ _)
   | (with_reducible exact LeO.refl _)
   | (with_reducible exact LeO.none _)
   | (with_reducible refine LeO.ite ?_ ?_)
   | (with_reducible refine LeO.bind ?_ (fun _ => ?_))
   | exact ih0 _ _ _ _ _ _
   | exact lanternref09_Parse.mono _ _
   | exact lanternref09_Token.mono _ _
   | exact lanternref11_body.mono _ _ _ _
   | exact lanternref11_cut.mono _ _ _
   | exact lanternref11_line.mono _ _
   | exact lanternref11_target.mono _ _
   | exact LeO.none _
   | refine LeO.ite ?_ ?_
   | refine LeO.bind ?_ (fun _ => ?_)
def lanternref11_ParseRequest.T14 : Bool × List (List Nat × List Nat) := (true, [([], []), ([0], [0]), ([1], [1]), ([], []), ([3], [3]), ([4], [4]), ([], []), ([], []), ([2, 5, 6, 7], [2, 5, 6, 7]), ([], []), ([], []), ([9, 10], [9, 10]), ([], []), ([11, 12], [11, 12]), ([8, 0, 1, 2, 3, 4, 5, 6, 7, 8], [8]), ([13, 14, 0, 1, 2, 3, 4, 5, 6, 7, 8, 9, 10, 11, 12, 13, 14], [13]), ([15, 0, 1, 2, 3, 4, 5, 6, 7, 8, 9, 10, 11, 12, 13, 14, 15], [])])
def lanternref11_ParseRequest.B14 : List Nat := [0, 1, 3, 0, 8, 24, 0, 0, 255, 0, 0, 1536, 0, 7680, 511, 32767, 65535]
theorem lanternref11_ParseRequest.tab14 : rtab .any (opsOf Tryz.f8 14) = lanternref11_ParseRequest.T14 := by kernel_rfl
theorem lanternref11_ParseRequest.bits14 : waitsOk lanternref11_ParseRequest.T14.2 lanternref11_ParseRequest.B14 = true := by kernel_rfl
set_option maxHeartbeats 8000000 in
set_option maxRecDepth 100000 in
theorem lanternref11_ParseRequest.calls (k : Nat) (A0 : Option Addr) (c0 : Nat) (l0 : List Int) (r1 : ByteArray) (r2 : ByteArray) (r3 : List (S67)) (r4 : List Int) (r5 : Int) (r6 : Int) (w : World) (hLW : LW w) (hr0 : Kd.C (Kd.int .u8) w A0 l0.length l0) (hc0 : l0.length ≤ c0) (h : lanternref11_ParseRequest.f k l0 = some (r1, r2, r3, r4, r5, r6)) :
  Calls Tryz.prog 8 #[.slice A0 l0.length c0] w fun e w' => ∃ v2_ v3_ : Value, e = .returned (.tuple #[.agg #[.string r1, .string r2, v2_, v3_], .int .i64 r5, .int .i64 r6]) ∧ Kd.R k67 67 w' w.heap.size (fun _ => True) v2_ r3 ∧ Cs w' v3_ r4 ∧ Below w.heap.size w w' := by
 have hu26 := Tryz.underlying26
 have HLW := Aside0.mk hLW
 clear hLW
 have HR0 := Aside0.mk hr0
 have HC0 := Aside0.mk hc0
 clear hr0 hc0
 have HB := Aside0.mk (Below.refl w.heap.size w)
 have H : ((lanternref11_line.f k l0).bind fun bt103 => (if bt103.2.2 = 0 then ((lanternref11_cut.f k bt103.1 9).bind fun t106 => (if (t106.length : Int) = 3 then (if 0 < (t106.length : Int) then ((lanternref09_Token.f k (rdOf ByteArray.empty t106 0)).bind fun t110 => (if t110 = true then (if 1 < (t106.length : Int) then ((lanternref11_target.f k (rdOf ByteArray.empty t106 1)).bind fun t112 => (if t112 = true then (if 2 < (t106.length : Int) then (lanternref11_ParseRequest.j0 k l0 bt103.2.1 t106 ((rdOf ByteArray.empty t106 2).toList != ([72, 84, 84, 80, 47, 49, 46, 49] : List UInt8)) (⟨#[]⟩ : ByteArray) (⟨#[]⟩ : ByteArray)) else (none)) else (lanternref11_ParseRequest.j0 k l0 bt103.2.1 t106 true (⟨#[]⟩ : ByteArray) (⟨#[]⟩ : ByteArray)))) else (none)) else (lanternref11_ParseRequest.j0 k l0 bt103.2.1 t106 true (⟨#[]⟩ : ByteArray) (⟨#[]⟩ : ByteArray)))) else (none)) else (lanternref11_ParseRequest.j0 k l0 bt103.2.1 t106 true (⟨#[]⟩ : ByteArray) (⟨#[]⟩ : ByteArray)))) else (some ((⟨#[]⟩ : ByteArray), (⟨#[]⟩ : ByteArray), ([] : List (S67)), ([] : List Int), 0, bt103.2.2)))) = some (r1, r2, r3, r4, r5, r6) := h
 clear h
 replace H := Option.bind_eq_some_iff.mp H
 obtain ⟨⟨t103, t104, t105⟩, A20, H⟩ := H
 (try dsimp only at H)
 have A2 := Aside0.mk A20
 clear A20
 by_cases c3 : t105 = 0
 ·rw [if_pos c3] at H
  have c3b0 : (t105 == 0) = true := beq_iff_eq.mpr c3
  have c3b1 : (t105 != 0) = false := bne_eq_false_iff_eq.mpr c3
  clear c3
  replace H := Option.bind_eq_some_iff.mp H
  obtain ⟨t106, A40, H⟩ := H
  (try dsimp only at H)
  have A4 := Aside0.mk A40
  clear A40
  have HC5 := Aside0.mk H
  clear H
  go_enter Tryz.func8, Tryz.ntmps8
  go_upto_region 6 with (first | ((with_reducible refine gate_dst (N := 2) rfl ?_); refine bx_ 2 #[.string (⟨#[]⟩ : ByteArray), .string (⟨#[]⟩ : ByteArray), .slice none 0 0, .slice none 0 0] 26 ?_; intro gb101 hg w6 hbox hb; have BK101 := Aside0.mk (hbox); have GW101 := Aside0.mk (ge_ (w := w) hg); have GE101 := Aside0.mk (ge_ (w := w) hg); replace HB := Aside0.mk (below_step bq_ hb); clear hb hbox hg) | ((with_reducible refine gate_dst (N := 5) rfl ?_); refine bx_ 5 #[.string (⟨#[]⟩ : ByteArray), .string (⟨#[]⟩ : ByteArray), .slice none 0 0, .slice none 0 0] 26 ?_; intro gb102 hg w7 hbox hb; have NB101_102 := Aside0.mk ((by rw [hg]; exact Nat.ne_of_lt (blk_lt (g := gb101) (o := .cells #[.string (⟨#[]⟩ : ByteArray), .string (⟨#[]⟩ : ByteArray), .slice none 0 0, .slice none 0 0] 26 (0, 0)) bk_) : gb101 ≠ gb102)); have NB102_101 := Aside0.mk ((by rw [hg]; exact Nat.ne_of_gt (blk_lt (g := gb101) (o := .cells #[.string (⟨#[]⟩ : ByteArray), .string (⟨#[]⟩ : ByteArray), .slice none 0 0, .slice none 0 0] 26 (0, 0)) bk_) : gb102 ≠ gb101)); replace BK101 := Aside0.mk (blk_below (g := gb101) (o := .cells #[.string (⟨#[]⟩ : ByteArray), .string (⟨#[]⟩ : ByteArray), .slice none 0 0, .slice none 0 0] 26 (0, 0)) bk_ hb); have BK102 := Aside0.mk (hbox); have GW102 := Aside0.mk (gg_ (w := w) hg); have GE102 := Aside0.mk (gg_ (w := w) hg); replace HB := Aside0.mk (below_step bg_ hb); clear hb hbox hg; have hnb8 := NB102_101.out; have hnc8 := NB101_102.out; have hcz9_0 := cz_ BK102 0 (.string (⟨#[]⟩ : ByteArray)); have hcz9_1 := cz_ BK102 1 (.string (⟨#[]⟩ : ByteArray)); have hcz9_2 := cz_ BK102 2 (.slice none 0 0); have hcz9_3 := cz_ BK102 3 (.slice none 0 0); have hfz9_0 := bf_ BK102 0; have hfz9_1 := bf_ BK102 1; have hfz9_2 := bf_ BK102 2; have hfz9_3 := bf_ BK102 3) | ((with_reducible refine gate_store (t := 26) (p := 5) rfl ?_); refine store_all ?hg 26 5 _ rfl rfl gb102 [.string (⟨#[]⟩ : ByteArray), .string (⟨#[]⟩ : ByteArray), .slice none 0 0, .slice none 0 0] [.string (⟨#[]⟩ : ByteArray), .string (⟨#[]⟩ : ByteArray), .slice none 0 0, .slice none 0 0] BK102.out rfl rfl rfl (by kernel_rfl) rfl ?_; (case hg => rfl); intro w10 hw; replace BK101 := Aside0.mk (sf_ BK101 NB101_102 hw); replace BK102 : Aside0 (w10.heap[gb102]? = some (.cells #[.string (⟨#[]⟩ : ByteArray), .string (⟨#[]⟩ : ByteArray), .slice none 0 0, .slice none 0 0] 26 (0, 0))) := ⟨(by rw [hw]; exact (by (with_reducible repeat (first | refine blk_drewN ?_ _ | refine blk_drew ?_ | refine blk_alloc ?_ _)); refine blk_part [.string (⟨#[]⟩ : ByteArray), .string (⟨#[]⟩ : ByteArray), .slice none 0 0, .slice none 0 0] [.string (⟨#[]⟩ : ByteArray), .string (⟨#[]⟩ : ByteArray), .slice none 0 0, .slice none 0 0] [] [] (cs := #[.string (⟨#[]⟩ : ByteArray), .string (⟨#[]⟩ : ByteArray), .slice none 0 0, .slice none 0 0]) ?_ rfl rfl rfl; (with_reducible repeat (first | refine blk_drewN ?_ _ | refine blk_drew ?_ | refine blk_alloc ?_ _)); exact BK102.out))⟩; replace HB := Aside0.mk (sb_ hw); clear hw) | ((with_reducible refine gate_callee (f := 29) rfl ?_); refine goesL_ (some 17) rfl rfl Tryz.func29 (by kernel_rfl) rfl #[.slice A0 l0.length c0] rfl lq_ ?_; (with_reducible refine (lanternref11_line.calls k _ _ l0 t103 t104 t105 _ ?side3 ?side1 ?side2 A2.out).mono ?_); (case side1 => repeat (first | exact (Kd.C_below HR0.out HB.out) | (with_reducible refine Kd.C_alloc ?_ _) | (with_reducible refine Kd.C_drewN ?_ _) | (with_reducible refine Kd.C_drew ?_))); (case side2 => exact HC0.out); (case side3 => exact lg_); rintro e w' ⟨rfl, ⟨nd, rfl⟩⟩; refine ⟨_, rfl, ?_⟩) | ((with_reducible refine gate_callee (f := 30) rfl ?_); refine goesL_ (some 26) rfl rfl Tryz.func30 (by kernel_rfl) rfl #[.string t103, .int .i64 9] rfl lq_ ?_; (with_reducible refine (lanternref11_cut.calls k t103 9 t106 _ ?side1 A4.out).mono ?_); (case side1 => exact lg_); rintro e w11 ⟨v107, rfl, ho0, hb⟩; refine ⟨_, rfl, ?_⟩; have HO108 := Aside0.mk (Kd.R_lower ho0 (below_size bg_)); replace BK101 := Aside0.mk (blk_below (g := gb101) (o := .cells #[.string (⟨#[]⟩ : ByteArray), .string (⟨#[]⟩ : ByteArray), .slice none 0 0, .slice none 0 0] 26 (0, 0)) bk_ hb); replace BK102 := Aside0.mk (blk_below (g := gb102) (o := .cells #[.string (⟨#[]⟩ : ByteArray), .string (⟨#[]⟩ : ByteArray), .slice none 0 0, .slice none 0 0] 26 (0, 0)) bk_ hb); replace HB := Aside0.mk (below_step bg_ hb); (try clear hb); (try clear hb2); (try clear hk); (try clear hi); (try clear ho0)))
  (try simp only [Act.put, List.setIfInBounds_toArray, List.set_cons_zero, List.set_cons_succ])
  go_cut [49] (fun v49 wc => ∃ (kq : Nat) (x49_4 : Bool), v49 = .bool x49_4 ∧ Aside0 (lanternref11_ParseRequest.j0 kq l0 t104 t106 x49_4 (⟨#[]⟩ : ByteArray) (⟨#[]⟩ : ByteArray) = some (r1, r2, r3, r4, r5, r6)) ∧ Aside0 (kq ≤ k) ∧ Aside0 (Kd.R Kd.string 9 wc w.heap.size (fun _ => True) v107 t106) ∧ Aside0 (wc.heap[gb101]? = some (.cells #[.string (⟨#[]⟩ : ByteArray), .string (⟨#[]⟩ : ByteArray), (.slice none 0 0), (.slice none 0 0)] 26 (0, 0))) ∧ Aside0 (wc.heap[gb102]? = some (.cells #[.string (⟨#[]⟩ : ByteArray), .string (⟨#[]⟩ : ByteArray), (.slice none 0 0), (.slice none 0 0)] 26 (0, 0))) ∧ Aside0 (Below w.heap.size w wc))
  case first =>
   have H := HC5.out
   clear HC5
   by_cases c12 : (t106.length : Int) = 3
   ·rw [if_pos c12] at H
    have c12b0 : ((t106.length : Int) == 3) = true := beq_iff_eq.mpr c12
    have c12b1 : ((t106.length : Int) != 3) = false := bne_eq_false_iff_eq.mpr c12
    clear c12
    (first | rw [c12b0] | (simp only [i64_w, i32_w]; rw [c12b0]) | skip)
    by_cases c13 : 0 < (t106.length : Int)
    ·rw [if_pos c13] at H
     have c13b0 : decide (0 < (t106.length : Int)) = true := decide_eq_true c13
     have c13b1 : decide (0 < t106.length) = true := decide_eq_true (by omega)
     clear c13
     replace H := Option.bind_eq_some_iff.mp H
     obtain ⟨t110, A140, H⟩ := H
     (try dsimp only at H)
     have A14 := Aside0.mk A140
     clear A140
     by_cases c15 : t110 = true
     ·subst c15
      replace H := ifT_ H
      by_cases c16 : 1 < (t106.length : Int)
      ·rw [if_pos c16] at H
       have c16b0 : decide (1 < (t106.length : Int)) = true := decide_eq_true c16
       have c16b1 : decide (1 < t106.length) = true := decide_eq_true (by omega)
       clear c16
       replace H := Option.bind_eq_some_iff.mp H
       obtain ⟨t112, A170, H⟩ := H
       (try dsimp only at H)
       have A17 := Aside0.mk A170
       clear A170
       by_cases c18 : t112 = true
       ·subst c18
        replace H := ifT_ H
        by_cases c19 : 2 < (t106.length : Int)
        ·rw [if_pos c19] at H
         have c19b0 : decide (2 < (t106.length : Int)) = true := decide_eq_true c19
         have c19b1 : decide (2 < t106.length) = true := decide_eq_true (by omega)
         clear c19
         have H' := Aside0.mk H
         clear H
         obtain ⟨Ao20, co20, eo20⟩ := Kd.R_slice HO108.out
         subst eo20
         have p109 : 0 ≤ (0 : Int) := (by omega)
         have q109 : 0 < (t106.length : Int) := of_decide_eq_true as_
         obtain ⟨ad109, e109, hx109_0⟩ := Kd.at_string (Kd.R_reads' HO108.out).2.2 0 p109 q109
         cases e109
         have qi109 : (0 < t106.length) = True := eq_true (by omega)
         (try rw [show ((0 : Int)).toNat = 0 from rfl] at hx109_0)
         (try rw [Addr.add_zero'] at hx109_0)
         replace p109 := eq_true p109
         replace q109 := eq_true q109
         go_wp2_with (first | (go_at_call 31; (with_reducible refine (lanternref09_Token.calls k (rdOf ByteArray.empty t106 0) true _ ?side1 A14.out).mono ?_); (case side1 => exact lg_); rintro e w' ⟨rfl, ⟨nd, rfl⟩⟩; have p111 : 0 ≤ (1 : Int) := (by omega); have q111 : 1 < (t106.length : Int) := of_decide_eq_true as_; obtain ⟨ad111, e111, hx111_0⟩ := Kd.at_string (Kd.R_reads' HO108.out).2.2 1 p111 q111; obtain rfl : ad109 = ad111 := (by injection e111); (try simp only [show (1 : Int).toNat = 1 from rfl, Nat.reduceMul, Nat.reduceEqDiff, Go.Addr.add, ↓reduceIte] at hx111_0); have qi111 : (1 < t106.length) = True := eq_true (by omega); (try rw [show ((1 : Int)).toNat = 1 from rfl] at hx111_0); replace p111 := eq_true p111; replace q111 := eq_true q111) | (go_at_call 32; (with_reducible refine (lanternref11_target.calls k (rdOf ByteArray.empty t106 1) true _ ?side1 A17.out).mono ?_); (case side1 => exact lg_); rintro e w' ⟨rfl, ⟨nd, rfl⟩⟩; have p113 : 0 ≤ (2 : Int) := (by omega); have q113 : 2 < (t106.length : Int) := of_decide_eq_true as_; obtain ⟨ad113, e113, hx113_0⟩ := Kd.at_string (Kd.R_reads' HO108.out).2.2 2 p113 q113; obtain rfl : ad109 = ad113 := (by injection e113); (try simp only [show (2 : Int).toNat = 2 from rfl, Nat.reduceMul, Nat.reduceEqDiff, Go.Addr.add, ↓reduceIte] at hx113_0); have qi113 : (2 < t106.length) = True := eq_true (by omega); (try rw [show ((2 : Int)).toNat = 2 from rfl] at hx113_0); replace p113 := eq_true p113; replace q113 := eq_true q113))
         go_meet
         case rel => exact ⟨_, (((rdOf ByteArray.empty t106 2).toList != ([72, 84, 84, 80, 47, 49, 46, 49] : List UInt8))), sq_, H', ⟨by first | omega | exact Nat.le_refl _⟩, ⟨by (with_reducible repeat (first | apply Kd.R_alloc | apply Kd.R_drewN | apply Kd.R_drew)); exact HO108.out⟩, ⟨by (with_reducible repeat (first | refine blk_drewN ?_ _ | refine blk_drew ?_ | refine blk_alloc ?_ _)); exact BK101.out⟩, ⟨by (with_reducible repeat (first | refine blk_drewN ?_ _ | refine blk_drew ?_ | refine blk_alloc ?_ _)); exact BK102.out⟩, ⟨bg_⟩⟩
        ·rw [if_neg c19] at H
         exact absurd H (by simp)
       ·replace c18 := Bool.eq_false_iff.mpr c18
        subst c18
        replace H := ifF_ H
        have H' := Aside0.mk H
        clear H
        obtain ⟨Ao21, co21, eo21⟩ := Kd.R_slice HO108.out
        subst eo21
        have p109 : 0 ≤ (0 : Int) := (by omega)
        have q109 : 0 < (t106.length : Int) := of_decide_eq_true as_
        obtain ⟨ad109, e109, hx109_0⟩ := Kd.at_string (Kd.R_reads' HO108.out).2.2 0 p109 q109
        cases e109
        have qi109 : (0 < t106.length) = True := eq_true (by omega)
        (try rw [show ((0 : Int)).toNat = 0 from rfl] at hx109_0)
        (try rw [Addr.add_zero'] at hx109_0)
        replace p109 := eq_true p109
        replace q109 := eq_true q109
        go_wp2_with (first | (go_at_call 31; (with_reducible refine (lanternref09_Token.calls k (rdOf ByteArray.empty t106 0) true _ ?side1 A14.out).mono ?_); (case side1 => exact lg_); rintro e w' ⟨rfl, ⟨nd, rfl⟩⟩; have p111 : 0 ≤ (1 : Int) := (by omega); have q111 : 1 < (t106.length : Int) := of_decide_eq_true as_; obtain ⟨ad111, e111, hx111_0⟩ := Kd.at_string (Kd.R_reads' HO108.out).2.2 1 p111 q111; obtain rfl : ad109 = ad111 := (by injection e111); (try simp only [show (1 : Int).toNat = 1 from rfl, Nat.reduceMul, Nat.reduceEqDiff, Go.Addr.add, ↓reduceIte] at hx111_0); have qi111 : (1 < t106.length) = True := eq_true (by omega); (try rw [show ((1 : Int)).toNat = 1 from rfl] at hx111_0); replace p111 := eq_true p111; replace q111 := eq_true q111) | (go_at_call 32; (with_reducible refine (lanternref11_target.calls k (rdOf ByteArray.empty t106 1) false _ ?side1 A17.out).mono ?_); (case side1 => exact lg_); rintro e w' ⟨rfl, ⟨nd, rfl⟩⟩))
        go_meet
        case rel => exact ⟨_, (true), sq_, H', ⟨by first | omega | exact Nat.le_refl _⟩, ⟨by (with_reducible repeat (first | apply Kd.R_alloc | apply Kd.R_drewN | apply Kd.R_drew)); exact HO108.out⟩, ⟨by (with_reducible repeat (first | refine blk_drewN ?_ _ | refine blk_drew ?_ | refine blk_alloc ?_ _)); exact BK101.out⟩, ⟨by (with_reducible repeat (first | refine blk_drewN ?_ _ | refine blk_drew ?_ | refine blk_alloc ?_ _)); exact BK102.out⟩, ⟨bg_⟩⟩
      ·rw [if_neg c16] at H
       exact absurd H (by simp)
     ·replace c15 := Bool.eq_false_iff.mpr c15
      subst c15
      replace H := ifF_ H
      have H' := Aside0.mk H
      clear H
      obtain ⟨Ao22, co22, eo22⟩ := Kd.R_slice HO108.out
      subst eo22
      have p109 : 0 ≤ (0 : Int) := (by omega)
      have q109 : 0 < (t106.length : Int) := of_decide_eq_true as_
      obtain ⟨ad109, e109, hx109_0⟩ := Kd.at_string (Kd.R_reads' HO108.out).2.2 0 p109 q109
      cases e109
      have qi109 : (0 < t106.length) = True := eq_true (by omega)
      (try rw [show ((0 : Int)).toNat = 0 from rfl] at hx109_0)
      (try rw [Addr.add_zero'] at hx109_0)
      replace p109 := eq_true p109
      replace q109 := eq_true q109
      go_wp2_with (first | (go_at_call 31; (with_reducible refine (lanternref09_Token.calls k (rdOf ByteArray.empty t106 0) false _ ?side1 A14.out).mono ?_); (case side1 => exact lg_); rintro e w' ⟨rfl, ⟨nd, rfl⟩⟩))
      go_meet
      case rel => exact ⟨_, (true), sq_, H', ⟨by first | omega | exact Nat.le_refl _⟩, ⟨by (with_reducible repeat (first | apply Kd.R_alloc | apply Kd.R_drewN | apply Kd.R_drew)); exact HO108.out⟩, ⟨by (with_reducible repeat (first | refine blk_drewN ?_ _ | refine blk_drew ?_ | refine blk_alloc ?_ _)); exact BK101.out⟩, ⟨by (with_reducible repeat (first | refine blk_drewN ?_ _ | refine blk_drew ?_ | refine blk_alloc ?_ _)); exact BK102.out⟩, ⟨bg_⟩⟩
    ·rw [if_neg c13] at H
     exact absurd H (by simp)
   ·rw [if_neg c12] at H
    have c12b0 : ((t106.length : Int) == 3) = false := beq_eq_false_iff_ne.mpr c12
    have c12b1 : ((t106.length : Int) != 3) = true := bne_iff_ne.mpr c12
    (first | rw [c12b0] | (simp only [i64_w, i32_w]; rw [c12b0]) | skip)
    have H' := Aside0.mk H
    clear H
    obtain ⟨Ao23, co23, eo23⟩ := Kd.R_slice HO108.out
    subst eo23
    go_wp2
    go_meet
    case rel => exact ⟨_, (true), sq_, H', ⟨by first | omega | exact Nat.le_refl _⟩, ⟨by (with_reducible repeat (first | apply Kd.R_alloc | apply Kd.R_drewN | apply Kd.R_drew)); exact HO108.out⟩, ⟨by (with_reducible repeat (first | refine blk_drewN ?_ _ | refine blk_drew ?_ | refine blk_alloc ?_ _)); exact BK101.out⟩, ⟨by (with_reducible repeat (first | refine blk_drewN ?_ _ | refine blk_drew ?_ | refine blk_alloc ?_ _)); exact BK102.out⟩, ⟨bg_⟩⟩
  case rest =>
   clear HC5
   try clear c1
   try clear p1
   try clear q1
   try clear hx1
   try clear qi1
   try clear c2
   try clear p2
   try clear c3
   try clear c3b0
   try clear c3b1
   try clear c8
   try clear p10
   try clear q10
   try clear hx10
   try clear qi10
   try clear p11
   try clear q11
   try clear hx11
   try clear qi11
   try clear c12
   try clear c12b0
   try clear c12b1
   try clear c13
   try clear c13b0
   try clear c13b1
   try clear c15
   try clear c16
   try clear c16b0
   try clear c16b1
   try clear c18
   try clear c19
   try clear c19b0
   try clear c19b1
   try clear hcz9_0
   try clear hcz9_1
   try clear hcz9_2
   try clear hcz9_3
   try clear hfz9_0
   try clear hfz9_1
   try clear hfz9_2
   try clear hfz9_3
   try clear hx109_0
   try clear hx111_0
   try clear hx113_0
   try clear p109
   try clear p111
   try clear p113
   try clear q109
   try clear q111
   try clear q113
   obtain ⟨kq, x49_4, rfl, HA, HJ4, HO_9, BK101, BK102, HB⟩ := hcut
   cases kq with
   | zero => exact absurd HA.out (by simp [lanternref11_ParseRequest.j0])
   | succ kj4 =>
    have H := HA.out
    clear HA
    simp only [lanternref11_ParseRequest.j0] at H
    by_cases c24 : x49_4 = true
    ·subst c24
     replace H := ifT_ H
     simp only [Option.some.injEq, Prod.mk.injEq] at H
     obtain ⟨rfl, rfl, rfl, rfl, rfl, rfl⟩ := H
     have hnb25 := NB102_101.out
     have hnc25 := NB101_102.out
     have hcz26_0 := cz_ BK102 0 (.string (⟨#[]⟩ : ByteArray))
     have hcz26_1 := cz_ BK102 1 (.string (⟨#[]⟩ : ByteArray))
     have hcz26_2 := cz_ BK102 2 (.slice none 0 0)
     have hcz26_3 := cz_ BK102 3 (.slice none 0 0)
     have hfz26_0 := bf_ BK102 0
     have hfz26_1 := bf_ BK102 1
     have hfz26_2 := bf_ BK102 2
     have hfz26_3 := bf_ BK102 3
     have hcz27_0 := cz_ BK101 0 (.string (⟨#[]⟩ : ByteArray))
     have hcz27_1 := cz_ BK101 1 (.string (⟨#[]⟩ : ByteArray))
     have hcz27_2 := cz_ BK101 2 (.slice none 0 0)
     have hcz27_3 := cz_ BK101 3 (.slice none 0 0)
     have hfz27_0 := bf_ BK101 0
     have hfz27_1 := bf_ BK101 1
     have hfz27_2 := bf_ BK101 2
     have hfz27_3 := bf_ BK101 3
     go_wp2_with (first | ((with_reducible refine gate_store (t := 26) (p := 2) rfl ?_); refine store_all ?hg 26 2 _ rfl rfl gb101 [.string (⟨#[]⟩ : ByteArray), .string (⟨#[]⟩ : ByteArray), .slice none 0 0, .slice none 0 0] [.string (⟨#[]⟩ : ByteArray), .string (⟨#[]⟩ : ByteArray), .slice none 0 0, .slice none 0 0] BK101.out rfl rfl rfl (by kernel_rfl) rfl ?_; (case hg => rfl); intro w28 hw; have n0_ : Aside0 (Kd.R Kd.string 9 w28 w.heap.size (fun _ => True) v107 t106) := ⟨(by rw [hw]; exact (by (with_reducible repeat (first | apply Kd.R_alloc | apply Kd.R_drewN | apply Kd.R_drew)); exact Kd.R_mono (R_farC (g := gb101) (fun _ hk => hk.2) (Kd.R_types HO_9.out BK101.out (by decide)) [.string (⟨#[]⟩ : ByteArray), .string (⟨#[]⟩ : ByteArray), .slice none 0 0, .slice none 0 0] 0) (fun _ hk => trivial)))⟩; have n1_ : Aside0 (w28.heap[gb101]? = some (.cells #[.string (⟨#[]⟩ : ByteArray), .string (⟨#[]⟩ : ByteArray), .slice none 0 0, .slice none 0 0] 26 (0, 0))) := ⟨(by rw [hw]; exact (by (with_reducible repeat (first | refine blk_drewN ?_ _ | refine blk_drew ?_ | refine blk_alloc ?_ _)); refine blk_part [.string (⟨#[]⟩ : ByteArray), .string (⟨#[]⟩ : ByteArray), .slice none 0 0, .slice none 0 0] [.string (⟨#[]⟩ : ByteArray), .string (⟨#[]⟩ : ByteArray), .slice none 0 0, .slice none 0 0] [] [] (cs := #[.string (⟨#[]⟩ : ByteArray), .string (⟨#[]⟩ : ByteArray), .slice none 0 0, .slice none 0 0]) ?_ rfl rfl rfl; (with_reducible repeat (first | refine blk_drewN ?_ _ | refine blk_drew ?_ | refine blk_alloc ?_ _)); exact BK101.out))⟩; have n2_ := Aside0.mk (sf_ BK102 NB102_101 hw); have n3_ := Aside0.mk (sb_ hw); clear hw; clear HO_9; clear BK101; clear BK102; clear HB; have HO_9 := n0_; have BK101 := n1_; have BK102 := n2_; have HB := n3_; clear n0_ n1_ n2_ n3_))
     refine bodyPost_ret (results_ctt rfl _ _ gb101 26 #[.string (⟨#[]⟩ : ByteArray), .string (⟨#[]⟩ : ByteArray), .slice none 0 0, .slice none 0 0] (0, 0) _ rfl bk_ Tryz.underlying26 rfl (by kernel_rfl)) rfl ?_
     exact ⟨_, _, rq_, by first | exact Cs.nil _ | exact Kd.R_nil _ _ _ _ _ | exact Kd.N_nil _ _ _ _ _ | exact Kd.V_nil _ _ _ _ _ | exact Kd.Q_nil _ _ _ _ _ | exact Kd.S_nil _ _ _ _ _, by first | exact Cs.nil _ | exact Kd.R_nil _ _ _ _ _ | exact Kd.N_nil _ _ _ _ _ | exact Kd.V_nil _ _ _ _ _ | exact Kd.Q_nil _ _ _ _ _ | exact Kd.S_nil _ _ _ _ _, bg_⟩
    ·replace c24 := Bool.eq_false_iff.mpr c24
     subst c24
     replace H := ifF_ H
     by_cases c29 : 0 ≤ t104
     ·rw [if_pos c29] at H
      have c29b0 := eq_true c29
      have c29b1 : decide (0 ≤ t104) = true := decide_eq_true c29
      clear c29
      by_cases c30 : t104 ≤ (l0.length : Int)
      ·rw [if_pos c30] at H
       have c30b0 := eq_true c30
       have c30b1 : decide (t104 ≤ (l0.length : Int)) = true := decide_eq_true c30
       clear c30
       replace H := Option.bind_eq_some_iff.mp H
       obtain ⟨⟨t115, t116, t117⟩, A310, H⟩ := H
       (try dsimp only at H)
       have A31 := Aside0.mk A310
       clear A310
       by_cases c32 : t117 = 0
       ·rw [if_pos c32] at H
        have c32b0 : (t117 == 0) = true := beq_iff_eq.mpr c32
        have c32b1 : (t117 != 0) = false := bne_eq_false_iff_eq.mpr c32
        clear c32
        obtain ⟨ji33, hji33⟩ : ∃ j_ : Int, (wrap64 (t104 + t116)) = j_ := ⟨_, rfl⟩
        replace H : (if 0 ≤ (ji33) then (if (ji33) ≤ (l0.length : Int) then ((lanternref11_body.f kj4 (l0.drop ((ji33) : Int).toNat) t115 false).bind fun bt121 => (if bt121.2.2 = 0 then (if 0 < (t106.length : Int) then (if 1 < (t106.length : Int) then (some (rdOf ByteArray.empty t106 0, rdOf ByteArray.empty t106 1, t115, bt121.1, wrap64 ((ji33) + bt121.2.1), 0)) else (none)) else (none)) else (some ((⟨#[]⟩ : ByteArray), (⟨#[]⟩ : ByteArray), ([] : List (S67)), ([] : List Int), 0, bt121.2.2)))) else (none)) else (none)) = some (r1, r2, r3, r4, r5, r6) := by first | (rw [hji33] at H; exact H) | (simp only [hji33] at H ⊢; exact H)
        (try rw [hji33] at A31)
        have hji33w : (IntKind.i64.wrap (t104 + t116)) = ji33 := (i64_w _).trans hji33
        by_cases c34 : 0 ≤ (ji33)
        ·rw [if_pos c34] at H
         have c34b0 := eq_true c34
         have c34b1 : decide (0 ≤ (ji33)) = true := decide_eq_true c34
         clear c34
         by_cases c35 : (ji33) ≤ (l0.length : Int)
         ·rw [if_pos c35] at H
          have c35b0 := eq_true c35
          have c35b1 : decide ((ji33) ≤ (l0.length : Int)) = true := decide_eq_true c35
          clear c35
          replace H := Option.bind_eq_some_iff.mp H
          obtain ⟨⟨t121, t122, t123⟩, A360, H⟩ := H
          (try dsimp only at H)
          have A36 := Aside0.mk A360
          clear A360
          by_cases c37 : t123 = 0
          ·rw [if_pos c37] at H
           have c37b0 : (t123 == 0) = true := beq_iff_eq.mpr c37
           have c37b1 : (t123 != 0) = false := bne_eq_false_iff_eq.mpr c37
           clear c37
           by_cases c38 : 0 < (t106.length : Int)
           ·rw [if_pos c38] at H
            have c38b0 : decide (0 < (t106.length : Int)) = true := decide_eq_true c38
            have c38b1 : decide (0 < t106.length) = true := decide_eq_true (by omega)
            clear c38
            by_cases c39 : 1 < (t106.length : Int)
            ·rw [if_pos c39] at H
             have c39b0 : decide (1 < (t106.length : Int)) = true := decide_eq_true c39
             have c39b1 : decide (1 < t106.length) = true := decide_eq_true (by omega)
             clear c39
             simp only [Option.some.injEq, Prod.mk.injEq] at H
             obtain ⟨rfl, rfl, rfl, rfl, rfl, rfl⟩ := H
             obtain ⟨i040, hi040, _, hsz40, _⟩ := info_parts info5
             obtain ⟨A40, hcut40, hA40, hC40⟩ := print_drop_of (P := Tryz.prog) (Value.int .u8) 0 22 5 .i64 Tryz.underlying22 hi040 hsz40 A0 c0 l0 t104 (of_decide_eq_true as_) (of_decide_eq_true as_) HC0.out
             have HR114 := Aside0.mk (Kd.C_of_reads (h1 := fun _ => rfl) (hA40 _ (Kd.reads_of_C HR0.out)))
             have HC114 := Aside0.mk hC40
             clear hA40 hC40 hi040 hsz40
             try go_wp2_with (first | ((with_reducible refine gate_callee (f := 33) rfl ?_); refine goesL_ (some 55) rfl rfl Tryz.func33 (by kernel_rfl) rfl #[.slice A40 (l0.drop (t104 : Int).toNat).length (c0 - t104.toNat)] rfl (by (try simp only [List.map_toArray, List.map_cons, List.map_nil]); first | done | (rw [show (l0.drop (t104 : Int).toNat).length = (l0.length - t104.toNat) from List.length_drop] <;> rfl) | rfl | (simp only [List.length_drop, List.length_take]; rfl)) ?_; (with_reducible refine (lanternref09_Parse.calls kj4 _ _ (l0.drop (t104 : Int).toNat) t115 t116 t117 _ ?side3 ?side1 ?side2 A31.out).mono ?_); (case side1 => repeat (first | exact (Kd.C_below HR114.out HB.out) | (with_reducible refine Kd.C_alloc ?_ _) | (with_reducible refine Kd.C_drewN ?_ _) | (with_reducible refine Kd.C_drew ?_))); (case side2 => exact HC114.out); (case side3 => exact lg_); rintro e w41 ⟨v118, rfl, ho0, hb⟩; refine ⟨_, rfl, ?_⟩; replace HO_9 := Aside0.mk (Kd.R_below (by (with_reducible repeat (first | apply Kd.R_alloc | apply Kd.R_drewN | apply Kd.R_drew)); exact HO_9.out) hb); have HO119 := Aside0.mk (Kd.R_lower ho0 (below_size bg_)); replace BK101 := Aside0.mk (blk_below (g := gb101) (o := .cells #[.string (⟨#[]⟩ : ByteArray), .string (⟨#[]⟩ : ByteArray), .slice none 0 0, .slice none 0 0] 26 (0, 0)) bk_ hb); replace BK102 := Aside0.mk (blk_below (g := gb102) (o := .cells #[.string (⟨#[]⟩ : ByteArray), .string (⟨#[]⟩ : ByteArray), .slice none 0 0, .slice none 0 0] 26 (0, 0)) bk_ hb); replace HB := Aside0.mk (below_step bg_ hb); (try clear hb); (try clear hb2); (try clear hk); (try clear hi); (try clear ho0); obtain ⟨i042, hi042, _, hsz42, _⟩ := info_parts info5; obtain ⟨A42, hcut42, hA42, hC42⟩ := print_drop_of (P := Tryz.prog) (Value.int .u8) 0 22 5 .i64 Tryz.underlying22 hi042 hsz42 A0 c0 l0 (ji33) (of_decide_eq_true as_) (of_decide_eq_true as_) HC0.out; have HR120 := Aside0.mk (Kd.C_of_reads (h1 := fun _ => rfl) (hA42 _ (Kd.reads_of_C HR0.out))); have HC120 := Aside0.mk hC42; clear hA42 hC42 hi042 hsz42; obtain ⟨Ao43, co43, eo43⟩ := Kd.R_slice HO119.out; subst eo43) | ((with_reducible refine gate_callee (f := 34) rfl ?_); refine goesL_ (some 70) rfl rfl Tryz.func34 (by kernel_rfl) rfl #[.slice A42 (l0.drop ((ji33) : Int).toNat).length (c0 - (ji33).toNat), .slice Ao43 t115.length co43, .bool false] rfl (by (try simp only [List.map_toArray, List.map_cons, List.map_nil]); first | done | (rw [show (l0.drop ((ji33) : Int).toNat).length = (l0.length - (ji33).toNat) from List.length_drop] <;> rfl) | (simp only [hji33]; rfl) | rfl | (simp only [List.length_drop, List.length_take]; rfl)) ?_; (with_reducible refine (lanternref11_body.callsX kj4 _ _ (l0.drop ((ji33) : Int).toNat) _ _ t115 false t121 t122 t123 _ ?side5 ?side1 ?side2 ?side3 ?side4 A36.out).mono ?_); (case side1 => repeat (first | exact (Kd.C_below HR120.out HB.out) | (with_reducible refine Kd.C_alloc ?_ _) | (with_reducible refine Kd.C_drewN ?_ _) | (with_reducible refine Kd.C_drew ?_))); (case side2 => exact HC120.out); (case side3 => repeat (first | exact (Kd.R_reads' HO119.out).2.2 | (with_reducible refine Kd.C_alloc ?_ _) | (with_reducible refine Kd.C_drewN ?_ _) | (with_reducible refine Kd.C_drew ?_))); (case side4 => exact (Kd.R_reads' HO119.out).2.1); (case side5 => exact lg_); rintro e w44 ⟨v124, rfl, ho0, hb⟩; refine ⟨_, rfl, ?_⟩; replace HO_9 := Aside0.mk (Kd.R_below (by (with_reducible repeat (first | apply Kd.R_alloc | apply Kd.R_drewN | apply Kd.R_drew)); exact HO_9.out) hb); replace HO119 := Aside0.mk (Kd.R_below (by (with_reducible repeat (first | apply Kd.R_alloc | apply Kd.R_drewN | apply Kd.R_drew)); exact HO119.out) hb); have HO125 := Aside0.mk ho0; replace BK101 := Aside0.mk (blk_below (g := gb101) (o := .cells #[.string (⟨#[]⟩ : ByteArray), .string (⟨#[]⟩ : ByteArray), .slice none 0 0, .slice none 0 0] 26 (0, 0)) bk_ hb); replace BK102 := Aside0.mk (blk_below (g := gb102) (o := .cells #[.string (⟨#[]⟩ : ByteArray), .string (⟨#[]⟩ : ByteArray), .slice none 0 0, .slice none 0 0] 26 (0, 0)) bk_ hb); replace HB := Aside0.mk (below_step bg_ hb); (try clear hb); (try clear hb2); (try clear hk); (try clear hi); (try clear ho0)))
             replace HO_9 := Aside0.mk (Kd.R_drew HO_9.out)
             replace HO119 := Aside0.mk (Kd.R_drew HO119.out)
             replace HO125 := Aside0.mk (Cs.drew HO125.out)
             replace BK101 := Aside0.mk (blk_drew BK101.out)
             replace BK102 := Aside0.mk (blk_drew BK102.out)
             replace HB := Aside0.mk (below_drew1 HB.out)
             obtain ⟨Ao46, co46, eo46⟩ := Kd.R_slice HO_9.out
             (first | subst eo46 | (injection eo46 with f1_ f2_ f3_; have f4_ := f1_.symm; have f5_ := f3_.symm; clear f1_ f2_ f3_; subst f4_; subst f5_))
             have p126 : 0 ≤ (0 : Int) := (by omega)
             have q126 : 0 < (t106.length : Int) := of_decide_eq_true as_
             obtain ⟨ad126, e126, hx126_0⟩ := Kd.at_string (Kd.R_reads' HO_9.out).2.2 0 p126 q126
             cases e126
             have qi126 : (0 < t106.length) = True := eq_true (by omega)
             (try rw [show ((0 : Int)).toNat = 0 from rfl] at hx126_0)
             (try rw [Addr.add_zero'] at hx126_0)
             replace p126 := eq_true p126
             replace q126 := eq_true q126
             have p127 : 0 ≤ (1 : Int) := (by omega)
             have q127 : 1 < (t106.length : Int) := of_decide_eq_true as_
             obtain ⟨ad127, e127, hx127_0⟩ := Kd.at_string (Kd.R_reads' HO_9.out).2.2 1 p127 q127
             obtain rfl : ad126 = ad127 := (by injection e127)
             (try simp only [show (1 : Int).toNat = 1 from rfl, Nat.reduceMul, Nat.reduceEqDiff, Go.Addr.add, ↓reduceIte] at hx127_0)
             have qi127 : (1 < t106.length) = True := eq_true (by omega)
             (try rw [show ((1 : Int)).toNat = 1 from rfl] at hx127_0)
             replace p127 := eq_true p127
             replace q127 := eq_true q127
             obtain ⟨Ao47, co47, eo47⟩ := Cs.slice HO125.out
             (first | subst eo47 | (injection eo47 with f1_ f2_ f3_; have f4_ := f1_.symm; have f5_ := f3_.symm; clear f1_ f2_ f3_; subst f4_; subst f5_))
             refine start_ (n := 17) (S := fun w' => w'.cell? ad126 = some (.string (rdOf ByteArray.empty t106 0)) ∧ w'.cell? ⟨ad126.block, ad126.off + 1, none⟩ = some (.string (rdOf ByteArray.empty t106 1))) (ds := []) (bv_ 0 17) (by kernel_rfl) rfl rfl ⟨hx126_0, hx127_0⟩ (fun hHeld => ?_); refine with_tabW lanternref11_ParseRequest.tab14 lanternref11_ParseRequest.bits14 (fun HT_ HW_ => ?_)
             generalize w44.drew = w45 at HO_9 HO119 HO125 BK101 BK102 HB hx126_0 hx127_0 hHeld ⊢
             refine pl_ 0 78 ?_ 1 16 HT_ ?_ ?_ ?_ ?_
             rotate_left
             ·intro w'
              go_simp
              with_reducible rfl
             rotate_left
             ·simp only [Act.put, sa_, s0_, s1_, i64_w, i32_w]
              rfl
             refine pl_ 1 79 ?_ 2 15 HT_ ?_ ?_ ?_ ?_
             rotate_left
             ·intro w'
              go_simp
              with_reducible rfl
             rotate_left
             ·simp only [Act.put, sa_, s0_, s1_, i64_w, i32_w]
              rfl
             refine pure_ (i := 3) (N := some 81) (v := ?_) (a' := ?_) #[true, true, false, true, false, false, false, false, false, false, false, false, false, false, false, false, false] rfl rfl (any_of HT_.out (by kernel_rfl)) (fun _ _ _ h => h) (Or.inl ⟨by rfl, ?_⟩) ?_ ?_
             rotate_left
             ·intro w'
              go_simp
              with_reducible rfl
             rotate_left
             ·simp only [Act.put, sa_, s0_, s1_, i64_w, i32_w]
              rfl
             refine pure_ (i := 4) (N := some 82) (v := ?_) (a' := ?_) #[true, true, false, true, true, false, false, false, false, false, false, false, false, false, false, false, false] rfl rfl (any_of HT_.out (by kernel_rfl)) (fun _ _ _ h => h) (Or.inl ⟨by rfl, ?_⟩) ?_ ?_
             rotate_left
             ·intro w'
              go_simp
              with_reducible rfl
             rotate_left
             ·simp only [Act.put, sa_, s0_, s1_, i64_w, i32_w]
              rfl
             refine pure_ (i := 6) (N := some 84) (v := ?_) (a' := ?_) #[true, true, false, true, true, false, true, false, false, false, false, false, false, false, false, false, false] rfl rfl (any_of HT_.out (by kernel_rfl)) (fun _ _ _ h => h) (Or.inl ⟨by rfl, ?_⟩) ?_ ?_
             rotate_left
             ·intro w'
              go_simp
              with_reducible rfl
             rotate_left
             ·simp only [Act.put, sa_, s0_, s1_, i64_w, i32_w]
              rfl
             refine pure_ (i := 7) (N := some 85) (v := ?_) (a' := ?_) #[true, true, false, true, true, false, true, true, false, false, false, false, false, false, false, false, false] rfl rfl (any_of HT_.out (by kernel_rfl)) (fun _ _ _ h => h) (Or.inl ⟨by rfl, ?_⟩) ?_ ?_
             rotate_left
             ·intro w'
              go_simp
              with_reducible rfl
             rotate_left
             ·simp only [Act.put, sa_, s0_, s1_, i64_w, i32_w]
              rfl
             refine pure_ (i := 9) (N := some 87) (v := ?_) (a' := ?_) #[true, true, false, true, true, false, true, true, false, true, false, false, false, false, false, false, false] rfl rfl (any_of HT_.out (by kernel_rfl)) (fun _ _ _ h => h) (Or.inl ⟨by rfl, ?_⟩) ?_ ?_
             rotate_left
             ·intro w'
              go_simp
              with_reducible rfl
             rotate_left
             ·simp only [Act.put, sa_, s0_, s1_, i64_w, i32_w]
              rfl
             refine pure_ (i := 10) (N := some 88) (v := ?_) (a' := ?_) #[true, true, false, true, true, false, true, true, false, true, true, false, false, false, false, false, false] rfl rfl (any_of HT_.out (by kernel_rfl)) (fun _ _ _ h => h) (Or.inl ⟨by rfl, ?_⟩) ?_ ?_
             rotate_left
             ·intro w'
              go_simp
              with_reducible rfl
             rotate_left
             ·simp only [Act.put, sa_, s0_, s1_, i64_w, i32_w]
              rfl
             refine pure_ (i := 11) (N := some 89) (v := ?_) (a' := ?_) #[true, true, false, true, true, false, true, true, false, true, true, true, false, false, false, false, false] rfl rfl (any_of HT_.out (by kernel_rfl)) (fun _ _ _ h => h) (Or.inl ⟨by rfl, ?_⟩) ?_ ?_
             rotate_left
             ·intro w'
              go_simp
              with_reducible rfl
             rotate_left
             ·simp only [Act.put, sa_, s0_, s1_, i64_w, i32_w]
              rfl
             refine pure_ (i := 12) (N := some 90) (v := ?_) (a' := ?_) #[true, true, false, true, true, false, true, true, false, true, true, true, true, false, false, false, false] rfl rfl (any_of HT_.out (by kernel_rfl)) (fun _ _ _ h => h) (Or.inl ⟨by rfl, ?_⟩) ?_ ?_
             rotate_left
             ·intro w'
              go_simp
              with_reducible rfl
             rotate_left
             ·simp only [Act.put, sa_, s0_, s1_, i64_w, i32_w]
              rfl
             refine pure_ (i := 13) (N := some 91) (v := ?_) (a' := ?_) #[true, true, false, true, true, false, true, true, false, true, true, true, true, true, false, false, false] rfl rfl (any_of HT_.out (by kernel_rfl)) (fun _ _ _ h => h) (Or.inl ⟨by rfl, ?_⟩) ?_ ?_
             rotate_left
             ·intro w'
              go_simp
              with_reducible rfl
             rotate_left
             ·simp only [Act.put, sa_, s0_, s1_, i64_w, i32_w]
              rfl
             refine take_ (i := 2) (N := some 80) (v := ?_) (a' := ?_) #[true, true, true, true, true, false, true, true, false, true, true, true, true, true, false, false, false] rfl rfl (take_ofW HT_.out HW_.out (by kernel_rfl)) (fun _ _ _ h => h) (Or.inl ⟨by rfl, ?_⟩) hHeld ?_ ?_
             rotate_left
             ·rintro w' ⟨s0, s1⟩
              go_simp
              with_reducible rfl
             rotate_left
             ·simp only [Act.put, sa_, s0_, s1_, i64_w, i32_w]
              rfl
             refine take_ (i := 5) (N := some 83) (v := ?_) (a' := ?_) #[true, true, true, true, true, true, true, true, false, true, true, true, true, true, false, false, false] rfl rfl (take_ofW HT_.out HW_.out (by kernel_rfl)) (fun _ _ _ h => h) (Or.inl ⟨by rfl, ?_⟩) hHeld ?_ ?_
             rotate_left
             ·rintro w' ⟨s0, s1⟩
              go_simp
              with_reducible rfl
             rotate_left
             ·simp only [Act.put, sa_, s0_, s1_, i64_w, i32_w]
              rfl
             refine pl_ 8 86 ?_ 14 3 HT_ ?_ ?_ ?_ ?_
             rotate_left
             ·intro w'
              go_simp
              with_reducible rfl
             rotate_left
             ·simp only [Act.put, sa_, s0_, s1_, i64_w, i32_w]
              rfl
             refine one_ (i := 14) (N := none) (bv_ 15 2) rfl rfl (one_of HT_.out (by kernel_rfl)) (by decide) (fun K hK => ?_)
             have hs48 : w45.cell? ⟨gb101, 0, none⟩ = some (.string (⟨#[]⟩ : ByteArray)) := (blk_cell BK101.out 0).trans rfl
             have hfs48 := bf_ BK101 0
             have hns48_1 := NB102_101.out
             have hms48_1 := NB101_102.out
             have hs49 : w45.cell? ⟨gb101, 1, none⟩ = some (.string (⟨#[]⟩ : ByteArray)) := (blk_cell BK101.out 1).trans rfl
             have hfs49 := bf_ BK101 1
             have hns49_1 := NB102_101.out
             have hms49_1 := NB101_102.out
             have hs50 : w45.cell? ⟨gb101, 2, none⟩ = some (.slice none 0 0) := (blk_cell BK101.out 2).trans rfl
             have hfs50 := bf_ BK101 2
             have hns50_1 := NB102_101.out
             have hms50_1 := NB101_102.out
             have hs51 : w45.cell? ⟨gb101, 3, none⟩ = some (.slice none 0 0) := (blk_cell BK101.out 3).trans rfl
             have hfs51 := bf_ BK101 3
             have hns51_1 := NB102_101.out
             have hms51_1 := NB101_102.out
             refine skip_ (w1 := ?_) (by rfl) rfl ?_ ?_
             rotate_left
             ·go_simp
              rfl
             have hnb_0 : ad126.block ≠ gb101 := Kd.own_blk (Kd.R_ne HO_9.out BK101.out (by decide))
             have hne_0 : (ad126 : Addr).block ≠ gb101 := hnb_0
             have hne_1 : (⟨ad126.block, ad126.off + 1, none⟩ : Addr).block ≠ gb101 := hnb_0
             refine hK.out _ _ ⟨((cell_far (p := ⟨gb101, _, none⟩) hne_0 _).trans (((cell_far (p := ⟨gb101, _, none⟩) hne_0 _).trans (((cell_far (p := ⟨gb101, _, none⟩) hne_0 _).trans (((cell_far (p := ⟨gb101, _, none⟩) hne_0 _).trans (hHeld.1)))))))), ((cell_far (p := ⟨gb101, _, none⟩) hne_1 _).trans (((cell_far (p := ⟨gb101, _, none⟩) hne_1 _).trans (((cell_far (p := ⟨gb101, _, none⟩) hne_1 _).trans (((cell_far (p := ⟨gb101, _, none⟩) hne_1 _).trans (hHeld.2))))))))⟩ (fun hHeld => ?_)
             clear hK K
             refine pl_ 15 3 ?_ 16 1 HT_ ?_ ?_ ?_ ?_
             rotate_left
             ·intro w'
              go_simp
              with_reducible rfl
             rotate_left
             ·simp only [Act.put, sa_, s0_, s1_, i64_w, i32_w]
              rfl
             refine pl_ 16 4 ?_ 17 0 HT_ ?_ ?_ ?_ ?_
             rotate_left
             ·intro w'
              go_simp
              with_reducible rfl
             rotate_left
             ·simp only [Act.put, sa_, s0_, s1_, i64_w, i32_w]
              rfl
             refine done_ (done_of HT_.out (by kernel_rfl)) ?_
             try go_wp2
             refine bodyPost_ret (results_ctt rfl _ _ gb101 26 #[.string (rdOf ByteArray.empty t106 0), .string (rdOf ByteArray.empty t106 1), .slice Ao43 t115.length co43, .slice Ao47 t121.length co47] (0, 0) _ rfl (by (with_reducible repeat (first | refine blk_drewN ?_ _ | refine blk_drew ?_ | refine blk_alloc ?_ _)); refine blk_put (cs := #[.string (rdOf ByteArray.empty t106 0), .string (rdOf ByteArray.empty t106 1), .slice Ao43 t115.length co43, .slice none 0 0]) ?_ 3 _ rfl; (with_reducible repeat (first | refine blk_drewN ?_ _ | refine blk_drew ?_ | refine blk_alloc ?_ _)); refine blk_put (cs := #[.string (rdOf ByteArray.empty t106 0), .string (rdOf ByteArray.empty t106 1), .slice none 0 0, .slice none 0 0]) ?_ 2 _ rfl; (with_reducible repeat (first | refine blk_drewN ?_ _ | refine blk_drew ?_ | refine blk_alloc ?_ _)); refine blk_put (cs := #[.string (rdOf ByteArray.empty t106 0), .string (⟨#[]⟩ : ByteArray), .slice none 0 0, .slice none 0 0]) ?_ 1 _ rfl; (with_reducible repeat (first | refine blk_drewN ?_ _ | refine blk_drew ?_ | refine blk_alloc ?_ _)); refine blk_put (cs := #[.string (⟨#[]⟩ : ByteArray), .string (⟨#[]⟩ : ByteArray), .slice none 0 0, .slice none 0 0]) ?_ 0 _ rfl; (with_reducible repeat (first | refine blk_drewN ?_ _ | refine blk_drew ?_ | refine blk_alloc ?_ _)); exact BK101.out) Tryz.underlying26 rfl (by kernel_rfl)) rfl ?_
             exact ⟨_, _, by first | rfl | (simp [errW_none, errW_some] <;> rfl) | (simp only [← hji33]; first | rfl | (simp [errW_none, errW_some] <;> rfl)) | (simp [*, errW_none, errW_some] <;> rfl) | (simp [errW_none, errW_some]; first | exact isEmpty_bne _ | exact isEmpty_beq _ | exact (isEmpty_bne _).symm), by (with_reducible repeat (first | apply Kd.R_alloc | apply Kd.R_drewN | apply Kd.R_drew)); exact Kd.R_mono (Kd.R_far (p := ⟨gb101, 3, none⟩) (Kd.R_far (p := ⟨gb101, 2, none⟩) (Kd.R_far (p := ⟨gb101, 1, none⟩) (Kd.R_far (p := ⟨gb101, 0, none⟩) (Kd.R_types HO119.out BK101.out (by decide)) (fun _ hk => hk.2) (.string (rdOf ByteArray.empty t106 0))) (fun _ hk => hk.2) (.string (rdOf ByteArray.empty t106 1))) (fun _ hk => hk.2) (.slice Ao43 t115.length co43)) (fun _ hk => hk.2) (.slice Ao47 t121.length co47)) (fun _ hk => trivial), by (with_reducible repeat (first | apply Cs.drewN | apply Cs.drew | apply Cs.alloc)); exact (((((Cs.apart HO125.out BK101.out rfl).far 0 (.string (rdOf ByteArray.empty t106 0))).far 1 (.string (rdOf ByteArray.empty t106 1))).far 2 (.slice Ao43 t115.length co43)).far 3 (.slice Ao47 t121.length co47)).cs, bg_⟩
            ·rw [if_neg c39] at H
             exact absurd H (by simp)
           ·rw [if_neg c38] at H
            exact absurd H (by simp)
          ·rw [if_neg c37] at H
           have c37b0 : (t123 == 0) = false := beq_eq_false_iff_ne.mpr c37
           have c37b1 : (t123 != 0) = true := bne_iff_ne.mpr c37
           simp only [Option.some.injEq, Prod.mk.injEq] at H
           obtain ⟨rfl, rfl, rfl, rfl, rfl, rfl⟩ := H
           obtain ⟨i052, hi052, _, hsz52, _⟩ := info_parts info5
           obtain ⟨A52, hcut52, hA52, hC52⟩ := print_drop_of (P := Tryz.prog) (Value.int .u8) 0 22 5 .i64 Tryz.underlying22 hi052 hsz52 A0 c0 l0 t104 (of_decide_eq_true as_) (of_decide_eq_true as_) HC0.out
           have HR114 := Aside0.mk (Kd.C_of_reads (h1 := fun _ => rfl) (hA52 _ (Kd.reads_of_C HR0.out)))
           have HC114 := Aside0.mk hC52
           clear hA52 hC52 hi052 hsz52
           go_wp2_with (first | ((with_reducible refine gate_callee (f := 33) rfl ?_); refine goesL_ (some 55) rfl rfl Tryz.func33 (by kernel_rfl) rfl #[.slice A52 (l0.drop (t104 : Int).toNat).length (c0 - t104.toNat)] rfl (by (try simp only [List.map_toArray, List.map_cons, List.map_nil]); first | done | (rw [show (l0.drop (t104 : Int).toNat).length = (l0.length - t104.toNat) from List.length_drop] <;> rfl) | rfl | (simp only [List.length_drop, List.length_take]; rfl)) ?_; (with_reducible refine (lanternref09_Parse.calls kj4 _ _ (l0.drop (t104 : Int).toNat) t115 t116 t117 _ ?side3 ?side1 ?side2 A31.out).mono ?_); (case side1 => repeat (first | exact (Kd.C_below HR114.out HB.out) | (with_reducible refine Kd.C_alloc ?_ _) | (with_reducible refine Kd.C_drewN ?_ _) | (with_reducible refine Kd.C_drew ?_))); (case side2 => exact HC114.out); (case side3 => exact lg_); rintro e w53 ⟨v118, rfl, ho0, hb⟩; refine ⟨_, rfl, ?_⟩; replace HO_9 := Aside0.mk (Kd.R_below (by (with_reducible repeat (first | apply Kd.R_alloc | apply Kd.R_drewN | apply Kd.R_drew)); exact HO_9.out) hb); have HO119 := Aside0.mk (Kd.R_lower ho0 (below_size bg_)); replace BK101 := Aside0.mk (blk_below (g := gb101) (o := .cells #[.string (⟨#[]⟩ : ByteArray), .string (⟨#[]⟩ : ByteArray), .slice none 0 0, .slice none 0 0] 26 (0, 0)) bk_ hb); replace BK102 := Aside0.mk (blk_below (g := gb102) (o := .cells #[.string (⟨#[]⟩ : ByteArray), .string (⟨#[]⟩ : ByteArray), .slice none 0 0, .slice none 0 0] 26 (0, 0)) bk_ hb); replace HB := Aside0.mk (below_step bg_ hb); (try clear hb); (try clear hb2); (try clear hk); (try clear hi); (try clear ho0); obtain ⟨i054, hi054, _, hsz54, _⟩ := info_parts info5; obtain ⟨A54, hcut54, hA54, hC54⟩ := print_drop_of (P := Tryz.prog) (Value.int .u8) 0 22 5 .i64 Tryz.underlying22 hi054 hsz54 A0 c0 l0 (ji33) (of_decide_eq_true as_) (of_decide_eq_true as_) HC0.out; have HR120 := Aside0.mk (Kd.C_of_reads (h1 := fun _ => rfl) (hA54 _ (Kd.reads_of_C HR0.out))); have HC120 := Aside0.mk hC54; clear hA54 hC54 hi054 hsz54; obtain ⟨Ao55, co55, eo55⟩ := Kd.R_slice HO119.out; subst eo55) | ((with_reducible refine gate_callee (f := 34) rfl ?_); refine goesL_ (some 70) rfl rfl Tryz.func34 (by kernel_rfl) rfl #[.slice A54 (l0.drop ((ji33) : Int).toNat).length (c0 - (ji33).toNat), .slice Ao55 t115.length co55, .bool false] rfl (by (try simp only [List.map_toArray, List.map_cons, List.map_nil]); first | done | (rw [show (l0.drop ((ji33) : Int).toNat).length = (l0.length - (ji33).toNat) from List.length_drop] <;> rfl) | (simp only [hji33]; rfl) | rfl | (simp only [List.length_drop, List.length_take]; rfl)) ?_; (with_reducible refine (lanternref11_body.callsX kj4 _ _ (l0.drop ((ji33) : Int).toNat) _ _ t115 false t121 t122 t123 _ ?side5 ?side1 ?side2 ?side3 ?side4 A36.out).mono ?_); (case side1 => repeat (first | exact (Kd.C_below HR120.out HB.out) | (with_reducible refine Kd.C_alloc ?_ _) | (with_reducible refine Kd.C_drewN ?_ _) | (with_reducible refine Kd.C_drew ?_))); (case side2 => exact HC120.out); (case side3 => repeat (first | exact (Kd.R_reads' HO119.out).2.2 | (with_reducible refine Kd.C_alloc ?_ _) | (with_reducible refine Kd.C_drewN ?_ _) | (with_reducible refine Kd.C_drew ?_))); (case side4 => exact (Kd.R_reads' HO119.out).2.1); (case side5 => exact lg_); rintro e w56 ⟨v124, rfl, ho0, hb⟩; refine ⟨_, rfl, ?_⟩; replace HO_9 := Aside0.mk (Kd.R_below (by (with_reducible repeat (first | apply Kd.R_alloc | apply Kd.R_drewN | apply Kd.R_drew)); exact HO_9.out) hb); replace HO119 := Aside0.mk (Kd.R_below (by (with_reducible repeat (first | apply Kd.R_alloc | apply Kd.R_drewN | apply Kd.R_drew)); exact HO119.out) hb); have HO125 := Aside0.mk ho0; replace BK101 := Aside0.mk (blk_below (g := gb101) (o := .cells #[.string (⟨#[]⟩ : ByteArray), .string (⟨#[]⟩ : ByteArray), .slice none 0 0, .slice none 0 0] 26 (0, 0)) bk_ hb); replace BK102 := Aside0.mk (blk_below (g := gb102) (o := .cells #[.string (⟨#[]⟩ : ByteArray), .string (⟨#[]⟩ : ByteArray), .slice none 0 0, .slice none 0 0] 26 (0, 0)) bk_ hb); replace HB := Aside0.mk (below_step bg_ hb); (try clear hb); (try clear hb2); (try clear hk); (try clear hi); (try clear ho0); have hnb57 := NB102_101.out; have hnc57 := NB101_102.out; have hcz58_0 := cz_ BK102 0 (.string (⟨#[]⟩ : ByteArray)); have hcz58_1 := cz_ BK102 1 (.string (⟨#[]⟩ : ByteArray)); have hcz58_2 := cz_ BK102 2 (.slice none 0 0); have hcz58_3 := cz_ BK102 3 (.slice none 0 0); have hfz58_0 := bf_ BK102 0; have hfz58_1 := bf_ BK102 1; have hfz58_2 := bf_ BK102 2; have hfz58_3 := bf_ BK102 3; have hcz59_0 := cz_ BK101 0 (.string (⟨#[]⟩ : ByteArray)); have hcz59_1 := cz_ BK101 1 (.string (⟨#[]⟩ : ByteArray)); have hcz59_2 := cz_ BK101 2 (.slice none 0 0); have hcz59_3 := cz_ BK101 3 (.slice none 0 0); have hfz59_0 := bf_ BK101 0; have hfz59_1 := bf_ BK101 1; have hfz59_2 := bf_ BK101 2; have hfz59_3 := bf_ BK101 3) | ((with_reducible refine gate_store (t := 26) (p := 2) rfl ?_); refine store_all ?hg 26 2 _ rfl rfl gb101 [.string (⟨#[]⟩ : ByteArray), .string (⟨#[]⟩ : ByteArray), .slice none 0 0, .slice none 0 0] [.string (⟨#[]⟩ : ByteArray), .string (⟨#[]⟩ : ByteArray), .slice none 0 0, .slice none 0 0] BK101.out rfl rfl rfl (by kernel_rfl) rfl ?_; (case hg => rfl); intro w60 hw; have n0_ : Aside0 (Kd.R Kd.string 9 w60 w.heap.size (fun _ => True) v107 t106) := ⟨(by rw [hw]; exact (by (with_reducible repeat (first | apply Kd.R_alloc | apply Kd.R_drewN | apply Kd.R_drew)); exact Kd.R_mono (R_farC (g := gb101) (fun _ hk => hk.2) (Kd.R_types HO_9.out BK101.out (by decide)) [.string (⟨#[]⟩ : ByteArray), .string (⟨#[]⟩ : ByteArray), .slice none 0 0, .slice none 0 0] 0) (fun _ hk => trivial)))⟩; have n1_ : Aside0 (Kd.R k67 67 w60 w.heap.size (fun _ => True) (.slice Ao55 t115.length co55) t115) := ⟨(by rw [hw]; exact (by (with_reducible repeat (first | apply Kd.R_alloc | apply Kd.R_drewN | apply Kd.R_drew)); exact Kd.R_mono (R_farC (g := gb101) (fun _ hk => hk.2) (Kd.R_types HO119.out BK101.out (by decide)) [.string (⟨#[]⟩ : ByteArray), .string (⟨#[]⟩ : ByteArray), .slice none 0 0, .slice none 0 0] 0) (fun _ hk => trivial)))⟩; have n2_ : Aside0 (Cs w60 v124 t121) := ⟨(by rw [hw]; (with_reducible repeat (first | apply Cs.drewN | apply Cs.drew | apply Cs.alloc)); exact ((Cs.apart HO125.out BK101.out rfl).farC [.string (⟨#[]⟩ : ByteArray), .string (⟨#[]⟩ : ByteArray), .slice none 0 0, .slice none 0 0] 0).cs)⟩; have n3_ : Aside0 (w60.heap[gb101]? = some (.cells #[.string (⟨#[]⟩ : ByteArray), .string (⟨#[]⟩ : ByteArray), .slice none 0 0, .slice none 0 0] 26 (0, 0))) := ⟨(by rw [hw]; exact (by (with_reducible repeat (first | refine blk_drewN ?_ _ | refine blk_drew ?_ | refine blk_alloc ?_ _)); refine blk_part [.string (⟨#[]⟩ : ByteArray), .string (⟨#[]⟩ : ByteArray), .slice none 0 0, .slice none 0 0] [.string (⟨#[]⟩ : ByteArray), .string (⟨#[]⟩ : ByteArray), .slice none 0 0, .slice none 0 0] [] [] (cs := #[.string (⟨#[]⟩ : ByteArray), .string (⟨#[]⟩ : ByteArray), .slice none 0 0, .slice none 0 0]) ?_ rfl rfl rfl; (with_reducible repeat (first | refine blk_drewN ?_ _ | refine blk_drew ?_ | refine blk_alloc ?_ _)); exact BK101.out))⟩; have n4_ := Aside0.mk (sf_ BK102 NB102_101 hw); have n5_ := Aside0.mk (sb_ hw); clear hw; clear HO_9; clear HO119; clear HO125; clear BK101; clear BK102; clear HB; have HO_9 := n0_; have HO119 := n1_; have HO125 := n2_; have BK101 := n3_; have BK102 := n4_; have HB := n5_; clear n0_ n1_ n2_ n3_ n4_ n5_))
           refine bodyPost_ret (results_ctt rfl _ _ gb101 26 #[.string (⟨#[]⟩ : ByteArray), .string (⟨#[]⟩ : ByteArray), .slice none 0 0, .slice none 0 0] (0, 0) _ rfl bk_ Tryz.underlying26 rfl (by kernel_rfl)) rfl ?_
           exact ⟨_, _, by first | rfl | (simp [errW_none, errW_some] <;> rfl) | (simp only [← hji33]; first | rfl | (simp [errW_none, errW_some] <;> rfl)) | (simp [*, errW_none, errW_some] <;> rfl) | (simp [errW_none, errW_some]; first | exact isEmpty_bne _ | exact isEmpty_beq _ | exact (isEmpty_bne _).symm), by first | exact Cs.nil _ | exact Kd.R_nil _ _ _ _ _ | exact Kd.N_nil _ _ _ _ _ | exact Kd.V_nil _ _ _ _ _ | exact Kd.Q_nil _ _ _ _ _ | exact Kd.S_nil _ _ _ _ _, by first | exact Cs.nil _ | exact Kd.R_nil _ _ _ _ _ | exact Kd.N_nil _ _ _ _ _ | exact Kd.V_nil _ _ _ _ _ | exact Kd.Q_nil _ _ _ _ _ | exact Kd.S_nil _ _ _ _ _, bg_⟩
         ·rw [if_neg c35] at H
          exact absurd H (by simp)
        ·rw [if_neg c34] at H
         exact absurd H (by simp)
       ·rw [if_neg c32] at H
        have c32b0 : (t117 == 0) = false := beq_eq_false_iff_ne.mpr c32
        have c32b1 : (t117 != 0) = true := bne_iff_ne.mpr c32
        simp only [Option.some.injEq, Prod.mk.injEq] at H
        obtain ⟨rfl, rfl, rfl, rfl, rfl, rfl⟩ := H
        obtain ⟨i061, hi061, _, hsz61, _⟩ := info_parts info5
        obtain ⟨A61, hcut61, hA61, hC61⟩ := print_drop_of (P := Tryz.prog) (Value.int .u8) 0 22 5 .i64 Tryz.underlying22 hi061 hsz61 A0 c0 l0 t104 (of_decide_eq_true as_) (of_decide_eq_true as_) HC0.out
        have HR114 := Aside0.mk (Kd.C_of_reads (h1 := fun _ => rfl) (hA61 _ (Kd.reads_of_C HR0.out)))
        have HC114 := Aside0.mk hC61
        clear hA61 hC61 hi061 hsz61
        go_wp2_with (first | ((with_reducible refine gate_callee (f := 33) rfl ?_); refine goesL_ (some 55) rfl rfl Tryz.func33 (by kernel_rfl) rfl #[.slice A61 (l0.drop (t104 : Int).toNat).length (c0 - t104.toNat)] rfl (by (try simp only [List.map_toArray, List.map_cons, List.map_nil]); first | done | (rw [show (l0.drop (t104 : Int).toNat).length = (l0.length - t104.toNat) from List.length_drop] <;> rfl) | rfl | (simp only [List.length_drop, List.length_take]; rfl)) ?_; (with_reducible refine (lanternref09_Parse.calls kj4 _ _ (l0.drop (t104 : Int).toNat) t115 t116 t117 _ ?side3 ?side1 ?side2 A31.out).mono ?_); (case side1 => repeat (first | exact (Kd.C_below HR114.out HB.out) | (with_reducible refine Kd.C_alloc ?_ _) | (with_reducible refine Kd.C_drewN ?_ _) | (with_reducible refine Kd.C_drew ?_))); (case side2 => exact HC114.out); (case side3 => exact lg_); rintro e w62 ⟨v118, rfl, ho0, hb⟩; refine ⟨_, rfl, ?_⟩; replace HO_9 := Aside0.mk (Kd.R_below (by (with_reducible repeat (first | apply Kd.R_alloc | apply Kd.R_drewN | apply Kd.R_drew)); exact HO_9.out) hb); have HO119 := Aside0.mk (Kd.R_lower ho0 (below_size bg_)); replace BK101 := Aside0.mk (blk_below (g := gb101) (o := .cells #[.string (⟨#[]⟩ : ByteArray), .string (⟨#[]⟩ : ByteArray), .slice none 0 0, .slice none 0 0] 26 (0, 0)) bk_ hb); replace BK102 := Aside0.mk (blk_below (g := gb102) (o := .cells #[.string (⟨#[]⟩ : ByteArray), .string (⟨#[]⟩ : ByteArray), .slice none 0 0, .slice none 0 0] 26 (0, 0)) bk_ hb); replace HB := Aside0.mk (below_step bg_ hb); (try clear hb); (try clear hb2); (try clear hk); (try clear hi); (try clear ho0); have hnb63 := NB102_101.out; have hnc63 := NB101_102.out; have hcz64_0 := cz_ BK102 0 (.string (⟨#[]⟩ : ByteArray)); have hcz64_1 := cz_ BK102 1 (.string (⟨#[]⟩ : ByteArray)); have hcz64_2 := cz_ BK102 2 (.slice none 0 0); have hcz64_3 := cz_ BK102 3 (.slice none 0 0); have hfz64_0 := bf_ BK102 0; have hfz64_1 := bf_ BK102 1; have hfz64_2 := bf_ BK102 2; have hfz64_3 := bf_ BK102 3; have hcz65_0 := cz_ BK101 0 (.string (⟨#[]⟩ : ByteArray)); have hcz65_1 := cz_ BK101 1 (.string (⟨#[]⟩ : ByteArray)); have hcz65_2 := cz_ BK101 2 (.slice none 0 0); have hcz65_3 := cz_ BK101 3 (.slice none 0 0); have hfz65_0 := bf_ BK101 0; have hfz65_1 := bf_ BK101 1; have hfz65_2 := bf_ BK101 2; have hfz65_3 := bf_ BK101 3) | ((with_reducible refine gate_store (t := 26) (p := 2) rfl ?_); refine store_all ?hg 26 2 _ rfl rfl gb101 [.string (⟨#[]⟩ : ByteArray), .string (⟨#[]⟩ : ByteArray), .slice none 0 0, .slice none 0 0] [.string (⟨#[]⟩ : ByteArray), .string (⟨#[]⟩ : ByteArray), .slice none 0 0, .slice none 0 0] BK101.out rfl rfl rfl (by kernel_rfl) rfl ?_; (case hg => rfl); intro w66 hw; have n0_ : Aside0 (Kd.R Kd.string 9 w66 w.heap.size (fun _ => True) v107 t106) := ⟨(by rw [hw]; exact (by (with_reducible repeat (first | apply Kd.R_alloc | apply Kd.R_drewN | apply Kd.R_drew)); exact Kd.R_mono (R_farC (g := gb101) (fun _ hk => hk.2) (Kd.R_types HO_9.out BK101.out (by decide)) [.string (⟨#[]⟩ : ByteArray), .string (⟨#[]⟩ : ByteArray), .slice none 0 0, .slice none 0 0] 0) (fun _ hk => trivial)))⟩; have n1_ : Aside0 (Kd.R k67 67 w66 w.heap.size (fun _ => True) v118 t115) := ⟨(by rw [hw]; exact (by (with_reducible repeat (first | apply Kd.R_alloc | apply Kd.R_drewN | apply Kd.R_drew)); exact Kd.R_mono (R_farC (g := gb101) (fun _ hk => hk.2) (Kd.R_types HO119.out BK101.out (by decide)) [.string (⟨#[]⟩ : ByteArray), .string (⟨#[]⟩ : ByteArray), .slice none 0 0, .slice none 0 0] 0) (fun _ hk => trivial)))⟩; have n2_ : Aside0 (w66.heap[gb101]? = some (.cells #[.string (⟨#[]⟩ : ByteArray), .string (⟨#[]⟩ : ByteArray), .slice none 0 0, .slice none 0 0] 26 (0, 0))) := ⟨(by rw [hw]; exact (by (with_reducible repeat (first | refine blk_drewN ?_ _ | refine blk_drew ?_ | refine blk_alloc ?_ _)); refine blk_part [.string (⟨#[]⟩ : ByteArray), .string (⟨#[]⟩ : ByteArray), .slice none 0 0, .slice none 0 0] [.string (⟨#[]⟩ : ByteArray), .string (⟨#[]⟩ : ByteArray), .slice none 0 0, .slice none 0 0] [] [] (cs := #[.string (⟨#[]⟩ : ByteArray), .string (⟨#[]⟩ : ByteArray), .slice none 0 0, .slice none 0 0]) ?_ rfl rfl rfl; (with_reducible repeat (first | refine blk_drewN ?_ _ | refine blk_drew ?_ | refine blk_alloc ?_ _)); exact BK101.out))⟩; have n3_ := Aside0.mk (sf_ BK102 NB102_101 hw); have n4_ := Aside0.mk (sb_ hw); clear hw; clear HO_9; clear HO119; clear BK101; clear BK102; clear HB; have HO_9 := n0_; have HO119 := n1_; have BK101 := n2_; have BK102 := n3_; have HB := n4_; clear n0_ n1_ n2_ n3_ n4_))
        refine bodyPost_ret (results_ctt rfl _ _ gb101 26 #[.string (⟨#[]⟩ : ByteArray), .string (⟨#[]⟩ : ByteArray), .slice none 0 0, .slice none 0 0] (0, 0) _ rfl bk_ Tryz.underlying26 rfl (by kernel_rfl)) rfl ?_
        exact ⟨_, _, rq_, by first | exact Cs.nil _ | exact Kd.R_nil _ _ _ _ _ | exact Kd.N_nil _ _ _ _ _ | exact Kd.V_nil _ _ _ _ _ | exact Kd.Q_nil _ _ _ _ _ | exact Kd.S_nil _ _ _ _ _, by first | exact Cs.nil _ | exact Kd.R_nil _ _ _ _ _ | exact Kd.N_nil _ _ _ _ _ | exact Kd.V_nil _ _ _ _ _ | exact Kd.Q_nil _ _ _ _ _ | exact Kd.S_nil _ _ _ _ _, bg_⟩
      ·rw [if_neg c30] at H
       exact absurd H (by simp)
     ·rw [if_neg c29] at H
      exact absurd H (by simp)
 ·rw [if_neg c3] at H
  have c3b0 : (t105 == 0) = false := beq_eq_false_iff_ne.mpr c3
  have c3b1 : (t105 != 0) = true := bne_iff_ne.mpr c3
  simp only [Option.some.injEq, Prod.mk.injEq] at H
  obtain ⟨rfl, rfl, rfl, rfl, rfl, rfl⟩ := H
  go_enter Tryz.func8, Tryz.ntmps8
  go_wp2_with (first | ((with_reducible refine gate_dst (N := 2) rfl ?_); refine bx_ 2 #[.string (⟨#[]⟩ : ByteArray), .string (⟨#[]⟩ : ByteArray), .slice none 0 0, .slice none 0 0] 26 ?_; intro gb101 hg w67 hbox hb; have BK101 := Aside0.mk (hbox); have GW101 := Aside0.mk (ge_ (w := w) hg); have GE101 := Aside0.mk (ge_ (w := w) hg); replace HB := Aside0.mk (below_step bq_ hb); clear hb hbox hg) | ((with_reducible refine gate_dst (N := 5) rfl ?_); refine bx_ 5 #[.string (⟨#[]⟩ : ByteArray), .string (⟨#[]⟩ : ByteArray), .slice none 0 0, .slice none 0 0] 26 ?_; intro gb102 hg w68 hbox hb; have NB101_102 := Aside0.mk ((by rw [hg]; exact Nat.ne_of_lt (blk_lt (g := gb101) (o := .cells #[.string (⟨#[]⟩ : ByteArray), .string (⟨#[]⟩ : ByteArray), .slice none 0 0, .slice none 0 0] 26 (0, 0)) bk_) : gb101 ≠ gb102)); have NB102_101 := Aside0.mk ((by rw [hg]; exact Nat.ne_of_gt (blk_lt (g := gb101) (o := .cells #[.string (⟨#[]⟩ : ByteArray), .string (⟨#[]⟩ : ByteArray), .slice none 0 0, .slice none 0 0] 26 (0, 0)) bk_) : gb102 ≠ gb101)); replace BK101 := Aside0.mk (blk_below (g := gb101) (o := .cells #[.string (⟨#[]⟩ : ByteArray), .string (⟨#[]⟩ : ByteArray), .slice none 0 0, .slice none 0 0] 26 (0, 0)) bk_ hb); have BK102 := Aside0.mk (hbox); have GW102 := Aside0.mk (gg_ (w := w) hg); have GE102 := Aside0.mk (gg_ (w := w) hg); replace HB := Aside0.mk (below_step bg_ hb); clear hb hbox hg; have hnb69 := NB102_101.out; have hnc69 := NB101_102.out; have hcz70_0 := cz_ BK102 0 (.string (⟨#[]⟩ : ByteArray)); have hcz70_1 := cz_ BK102 1 (.string (⟨#[]⟩ : ByteArray)); have hcz70_2 := cz_ BK102 2 (.slice none 0 0); have hcz70_3 := cz_ BK102 3 (.slice none 0 0); have hfz70_0 := bf_ BK102 0; have hfz70_1 := bf_ BK102 1; have hfz70_2 := bf_ BK102 2; have hfz70_3 := bf_ BK102 3) | ((with_reducible refine gate_store (t := 26) (p := 5) rfl ?_); refine store_all ?hg 26 5 _ rfl rfl gb102 [.string (⟨#[]⟩ : ByteArray), .string (⟨#[]⟩ : ByteArray), .slice none 0 0, .slice none 0 0] [.string (⟨#[]⟩ : ByteArray), .string (⟨#[]⟩ : ByteArray), .slice none 0 0, .slice none 0 0] BK102.out rfl rfl rfl (by kernel_rfl) rfl ?_; (case hg => rfl); intro w71 hw; replace BK101 := Aside0.mk (sf_ BK101 NB101_102 hw); replace BK102 : Aside0 (w71.heap[gb102]? = some (.cells #[.string (⟨#[]⟩ : ByteArray), .string (⟨#[]⟩ : ByteArray), .slice none 0 0, .slice none 0 0] 26 (0, 0))) := ⟨(by rw [hw]; exact (by (with_reducible repeat (first | refine blk_drewN ?_ _ | refine blk_drew ?_ | refine blk_alloc ?_ _)); refine blk_part [.string (⟨#[]⟩ : ByteArray), .string (⟨#[]⟩ : ByteArray), .slice none 0 0, .slice none 0 0] [.string (⟨#[]⟩ : ByteArray), .string (⟨#[]⟩ : ByteArray), .slice none 0 0, .slice none 0 0] [] [] (cs := #[.string (⟨#[]⟩ : ByteArray), .string (⟨#[]⟩ : ByteArray), .slice none 0 0, .slice none 0 0]) ?_ rfl rfl rfl; (with_reducible repeat (first | refine blk_drewN ?_ _ | refine blk_drew ?_ | refine blk_alloc ?_ _)); exact BK102.out))⟩; replace HB := Aside0.mk (sb_ hw); clear hw) | ((with_reducible refine gate_callee (f := 29) rfl ?_); refine goesL_ (some 17) rfl rfl Tryz.func29 (by kernel_rfl) rfl #[.slice A0 l0.length c0] rfl lq_ ?_; (with_reducible refine (lanternref11_line.calls k _ _ l0 t103 t104 t105 _ ?side3 ?side1 ?side2 A2.out).mono ?_); (case side1 => repeat (first | exact (Kd.C_below HR0.out HB.out) | (with_reducible refine Kd.C_alloc ?_ _) | (with_reducible refine Kd.C_drewN ?_ _) | (with_reducible refine Kd.C_drew ?_))); (case side2 => exact HC0.out); (case side3 => exact lg_); rintro e w' ⟨rfl, ⟨nd, rfl⟩⟩; refine ⟨_, rfl, ?_⟩; (try (rw [drewN_self w71]; generalize hq_ : World.drewN w71 _ = w71; have n0_ : Aside0 (w71.heap[gb101]? = some (.cells #[.string (⟨#[]⟩ : ByteArray), .string (⟨#[]⟩ : ByteArray), .slice none 0 0, .slice none 0 0] 26 (0, 0))) := ⟨by rw [← hq_]; exact bk_⟩; have n1_ : Aside0 (w71.heap[gb102]? = some (.cells #[.string (⟨#[]⟩ : ByteArray), .string (⟨#[]⟩ : ByteArray), .slice none 0 0, .slice none 0 0] 26 (0, 0))) := ⟨by rw [← hq_]; exact bk_⟩; have n2_ : Aside0 (Below w.heap.size w w71) := ⟨by rw [← hq_]; exact bg_⟩; clear BK101 BK102 HB hq_; have BK101 := n0_; have BK102 := n1_; have HB := n2_; clear n0_ n1_ n2_)); have hcz72_0 := cz_ BK102 0 (.string (⟨#[]⟩ : ByteArray)); have hcz72_1 := cz_ BK102 1 (.string (⟨#[]⟩ : ByteArray)); have hcz72_2 := cz_ BK102 2 (.slice none 0 0); have hcz72_3 := cz_ BK102 3 (.slice none 0 0); have hfz72_0 := bf_ BK102 0; have hfz72_1 := bf_ BK102 1; have hfz72_2 := bf_ BK102 2; have hfz72_3 := bf_ BK102 3; have hcz73_0 := cz_ BK101 0 (.string (⟨#[]⟩ : ByteArray)); have hcz73_1 := cz_ BK101 1 (.string (⟨#[]⟩ : ByteArray)); have hcz73_2 := cz_ BK101 2 (.slice none 0 0); have hcz73_3 := cz_ BK101 3 (.slice none 0 0); have hfz73_0 := bf_ BK101 0; have hfz73_1 := bf_ BK101 1; have hfz73_2 := bf_ BK101 2; have hfz73_3 := bf_ BK101 3) | ((with_reducible refine gate_store (t := 26) (p := 2) rfl ?_); refine store_all ?hg 26 2 _ rfl rfl gb101 [.string (⟨#[]⟩ : ByteArray), .string (⟨#[]⟩ : ByteArray), .slice none 0 0, .slice none 0 0] [.string (⟨#[]⟩ : ByteArray), .string (⟨#[]⟩ : ByteArray), .slice none 0 0, .slice none 0 0] BK101.out rfl rfl rfl (by kernel_rfl) rfl ?_; (case hg => rfl); intro w74 hw; have n0_ : Aside0 (w74.heap[gb101]? = some (.cells #[.string (⟨#[]⟩ : ByteArray), .string (⟨#[]⟩ : ByteArray), .slice none 0 0, .slice none 0 0] 26 (0, 0))) := ⟨(by rw [hw]; exact (by (with_reducible repeat (first | refine blk_drewN ?_ _ | refine blk_drew ?_ | refine blk_alloc ?_ _)); refine blk_part [.string (⟨#[]⟩ : ByteArray), .string (⟨#[]⟩ : ByteArray), .slice none 0 0, .slice none 0 0] [.string (⟨#[]⟩ : ByteArray), .string (⟨#[]⟩ : ByteArray), .slice none 0 0, .slice none 0 0] [] [] (cs := #[.string (⟨#[]⟩ : ByteArray), .string (⟨#[]⟩ : ByteArray), .slice none 0 0, .slice none 0 0]) ?_ rfl rfl rfl; (with_reducible repeat (first | refine blk_drewN ?_ _ | refine blk_drew ?_ | refine blk_alloc ?_ _)); exact BK101.out))⟩; have n1_ := Aside0.mk (sf_ BK102 NB102_101 hw); have n2_ := Aside0.mk (sb_ hw); clear hw; clear BK101; clear BK102; clear HB; have BK101 := n0_; have BK102 := n1_; have HB := n2_; clear n0_ n1_ n2_))
  refine bodyPost_ret (results_ctt rfl _ _ gb101 26 #[.string (⟨#[]⟩ : ByteArray), .string (⟨#[]⟩ : ByteArray), .slice none 0 0, .slice none 0 0] (0, 0) _ rfl bk_ Tryz.underlying26 rfl (by kernel_rfl)) rfl ?_
  exact ⟨_, _, rq_, by first | exact Cs.nil _ | exact Kd.R_nil _ _ _ _ _ | exact Kd.N_nil _ _ _ _ _ | exact Kd.V_nil _ _ _ _ _ | exact Kd.Q_nil _ _ _ _ _ | exact Kd.S_nil _ _ _ _ _, by first | exact Cs.nil _ | exact Kd.R_nil _ _ _ _ _ | exact Kd.N_nil _ _ _ _ _ | exact Kd.V_nil _ _ _ _ _ | exact Kd.Q_nil _ _ _ _ _ | exact Kd.S_nil _ _ _ _ _, bg_⟩

end Go.Proofs.YtipleegkonhfcaaGreatDoor.KG
