-- Written by a program of this session (wip/gen/lprint.py over the kit's print.py) out of the translation. Lean checks it.
import Derived.Test.YtdopafhppaalfaaDoorP0
import Derived.Test.YtdopafhppaalfaaDoorP1
import Derived.Test.YtdopafhppaalfaaDoorP2
import Derived.Test.YtdopafhppaalfaaDoorP4
import Derived.Test.YtdopafhppaalfaaDoorZ
namespace Go.Proofs.YtdopafhppaalfaaDoor.P
open Go.Proofs.YtdopafhppaalfaaDoorZ
open Go.Proofs.YtdopafhppaalfaaDoor.E Go.Proofs.YtdopafhppaalfaaDoorV
open Go.RowKit Go.Proofs.YtdopafhppaalfaaDoorW.PrintWords Go.Proofs.YtdopafhppaalfaaDoorW.PrintLast Go.Proofs.YtdopafhppaalfaaDoorW.PrintMore
attribute [local go_sem] max2_int min2_int max_two min_two max_three min_three max_four min_four   -- for this text's walks alone
set_option linter.unusedVariables false
set_option linter.unusedSimpArgs false

attribute [local go_sem high] eqA24
def ip_Embeds.j0 : Nat → ByteArray → Bool → Bool → Int → Int → Int → Int → Int → Int → Int → Int → Int → Int → Int → Int → Int → Int → Int → Int → Option (Bool × Int × Int × Int × Int × Int × Int × Int × Int × Int × Int × Int × Int × Int × Int × Int × Int × Bool)
 | 0, _, _, _, _, _, _, _, _, _, _, _, _, _, _, _, _, _, _, _ => none
 | k + 1, x4, x14, x297000, x297001, x297002, x297003, x297004, x297005, x297006, x297007, x297008, x297009, x297010, x297011, x297012, x297013, x297014, x297015, x297016 => if x14 = true then ((ip_last.f ([x297013, x297014, x297015, x297016] : List Int)).bind fun bt301 => (some (bt301.1, bt301.2.1, bt301.2.2.1, bt301.2.2.2.1, bt301.2.2.2.2.1, bt301.2.2.2.2.2.1, bt301.2.2.2.2.2.2.1, bt301.2.2.2.2.2.2.2.1, bt301.2.2.2.2.2.2.2.2.1, bt301.2.2.2.2.2.2.2.2.2.1, bt301.2.2.2.2.2.2.2.2.2.2.1, bt301.2.2.2.2.2.2.2.2.2.2.2.1, bt301.2.2.2.2.2.2.2.2.2.2.2.2.1, bt301.2.2.2.2.2.2.2.2.2.2.2.2.2.1, bt301.2.2.2.2.2.2.2.2.2.2.2.2.2.2.1, bt301.2.2.2.2.2.2.2.2.2.2.2.2.2.2.2.1, bt301.2.2.2.2.2.2.2.2.2.2.2.2.2.2.2.2, true))) else (if x4.toList = ([0, 0, 0, 0, 0, 0, 0, 0, 0, 0, 0, 0] : List UInt8) then ((ip_last.f ([x297013, x297014, x297015, x297016] : List Int)).bind fun bt319 => ((ip_V4.f 0 0 0 0).bind fun bt337 => (if (bt319.1 == bt337.1 && ((bt319.2.1 == bt337.2.1 && (bt319.2.2.1 == bt337.2.2.1 && (bt319.2.2.2.1 == bt337.2.2.2.1 && (bt319.2.2.2.2.1 == bt337.2.2.2.2.1 && (bt319.2.2.2.2.2.1 == bt337.2.2.2.2.2.1 && (bt319.2.2.2.2.2.2.1 == bt337.2.2.2.2.2.2.1 && (bt319.2.2.2.2.2.2.2.1 == bt337.2.2.2.2.2.2.2.1 && (bt319.2.2.2.2.2.2.2.2.1 == bt337.2.2.2.2.2.2.2.2.1 && (bt319.2.2.2.2.2.2.2.2.2.1 == bt337.2.2.2.2.2.2.2.2.2.1 && (bt319.2.2.2.2.2.2.2.2.2.2.1 == bt337.2.2.2.2.2.2.2.2.2.2.1 && (bt319.2.2.2.2.2.2.2.2.2.2.2.1 == bt337.2.2.2.2.2.2.2.2.2.2.2.1 && (bt319.2.2.2.2.2.2.2.2.2.2.2.2.1 == bt337.2.2.2.2.2.2.2.2.2.2.2.2.1 && (bt319.2.2.2.2.2.2.2.2.2.2.2.2.2.1 == bt337.2.2.2.2.2.2.2.2.2.2.2.2.2.1 && (bt319.2.2.2.2.2.2.2.2.2.2.2.2.2.2.1 == bt337.2.2.2.2.2.2.2.2.2.2.2.2.2.2.1 && (bt319.2.2.2.2.2.2.2.2.2.2.2.2.2.2.2.1 == bt337.2.2.2.2.2.2.2.2.2.2.2.2.2.2.2.1 && (bt319.2.2.2.2.2.2.2.2.2.2.2.2.2.2.2.2 == bt337.2.2.2.2.2.2.2.2.2.2.2.2.2.2.2.2)))))))))))))))))) = true then (some (false, 0, 0, 0, 0, 0, 0, 0, 0, 0, 0, 0, 0, 0, 0, 0, 0, false)) else ((ip_V4.f 0 0 0 1).bind fun bt354 => (if (bt319.1 == bt354.1 && ((bt319.2.1 == bt354.2.1 && (bt319.2.2.1 == bt354.2.2.1 && (bt319.2.2.2.1 == bt354.2.2.2.1 && (bt319.2.2.2.2.1 == bt354.2.2.2.2.1 && (bt319.2.2.2.2.2.1 == bt354.2.2.2.2.2.1 && (bt319.2.2.2.2.2.2.1 == bt354.2.2.2.2.2.2.1 && (bt319.2.2.2.2.2.2.2.1 == bt354.2.2.2.2.2.2.2.1 && (bt319.2.2.2.2.2.2.2.2.1 == bt354.2.2.2.2.2.2.2.2.1 && (bt319.2.2.2.2.2.2.2.2.2.1 == bt354.2.2.2.2.2.2.2.2.2.1 && (bt319.2.2.2.2.2.2.2.2.2.2.1 == bt354.2.2.2.2.2.2.2.2.2.2.1 && (bt319.2.2.2.2.2.2.2.2.2.2.2.1 == bt354.2.2.2.2.2.2.2.2.2.2.2.1 && (bt319.2.2.2.2.2.2.2.2.2.2.2.2.1 == bt354.2.2.2.2.2.2.2.2.2.2.2.2.1 && (bt319.2.2.2.2.2.2.2.2.2.2.2.2.2.1 == bt354.2.2.2.2.2.2.2.2.2.2.2.2.2.1 && (bt319.2.2.2.2.2.2.2.2.2.2.2.2.2.2.1 == bt354.2.2.2.2.2.2.2.2.2.2.2.2.2.2.1 && (bt319.2.2.2.2.2.2.2.2.2.2.2.2.2.2.2.1 == bt354.2.2.2.2.2.2.2.2.2.2.2.2.2.2.2.1 && (bt319.2.2.2.2.2.2.2.2.2.2.2.2.2.2.2.2 == bt354.2.2.2.2.2.2.2.2.2.2.2.2.2.2.2.2)))))))))))))))))) = true then (some (false, 0, 0, 0, 0, 0, 0, 0, 0, 0, 0, 0, 0, 0, 0, 0, 0, false)) else (some (bt319.1, bt319.2.1, bt319.2.2.1, bt319.2.2.2.1, bt319.2.2.2.2.1, bt319.2.2.2.2.2.1, bt319.2.2.2.2.2.2.1, bt319.2.2.2.2.2.2.2.1, bt319.2.2.2.2.2.2.2.2.1, bt319.2.2.2.2.2.2.2.2.2.1, bt319.2.2.2.2.2.2.2.2.2.2.1, bt319.2.2.2.2.2.2.2.2.2.2.2.1, bt319.2.2.2.2.2.2.2.2.2.2.2.2.1, bt319.2.2.2.2.2.2.2.2.2.2.2.2.2.1, bt319.2.2.2.2.2.2.2.2.2.2.2.2.2.2.1, bt319.2.2.2.2.2.2.2.2.2.2.2.2.2.2.2.1, bt319.2.2.2.2.2.2.2.2.2.2.2.2.2.2.2.2, true))))))) else (if x297001 = 32 then (if x297002 = 2 then ((ip_last.f ([x297003, x297004, x297005, x297006] : List Int)).bind fun bt372 => (some (bt372.1, bt372.2.1, bt372.2.2.1, bt372.2.2.2.1, bt372.2.2.2.2.1, bt372.2.2.2.2.2.1, bt372.2.2.2.2.2.2.1, bt372.2.2.2.2.2.2.2.1, bt372.2.2.2.2.2.2.2.2.1, bt372.2.2.2.2.2.2.2.2.2.1, bt372.2.2.2.2.2.2.2.2.2.2.1, bt372.2.2.2.2.2.2.2.2.2.2.2.1, bt372.2.2.2.2.2.2.2.2.2.2.2.2.1, bt372.2.2.2.2.2.2.2.2.2.2.2.2.2.1, bt372.2.2.2.2.2.2.2.2.2.2.2.2.2.2.1, bt372.2.2.2.2.2.2.2.2.2.2.2.2.2.2.2.1, bt372.2.2.2.2.2.2.2.2.2.2.2.2.2.2.2.2, true))) else (some (false, 0, 0, 0, 0, 0, 0, 0, 0, 0, 0, 0, 0, 0, 0, 0, 0, false))) else (some (false, 0, 0, 0, 0, 0, 0, 0, 0, 0, 0, 0, 0, 0, 0, 0, 0, false))))
def ip_Embeds.f (k : Nat) (a0_0 : Bool) (a0_1 : Int) (a0_2 : Int) (a0_3 : Int) (a0_4 : Int) (a0_5 : Int) (a0_6 : Int) (a0_7 : Int) (a0_8 : Int) (a0_9 : Int) (a0_10 : Int) (a0_11 : Int) (a0_12 : Int) (a0_13 : Int) (a0_14 : Int) (a0_15 : Int) (a0_16 : Int) : Option (Bool × Int × Int × Int × Int × Int × Int × Int × Int × Int × Int × Int × Int × Int × Int × Int × Int × Bool) := if a0_0 = true then ((ip_mapped.f a0_0 a0_1 a0_2 a0_3 a0_4 a0_5 a0_6 a0_7 a0_8 a0_9 a0_10 a0_11 a0_12 a0_13 a0_14 a0_15 a0_16).bind fun t299 => (if t299 = true then (ip_Embeds.j0 k (strOfNums ([a0_1, a0_2, a0_3, a0_4, a0_5, a0_6, a0_7, a0_8, a0_9, a0_10, a0_11, a0_12] : List Int)) t299 a0_0 a0_1 a0_2 a0_3 a0_4 a0_5 a0_6 a0_7 a0_8 a0_9 a0_10 a0_11 a0_12 a0_13 a0_14 a0_15 a0_16) else (ip_Embeds.j0 k (strOfNums ([a0_1, a0_2, a0_3, a0_4, a0_5, a0_6, a0_7, a0_8, a0_9, a0_10, a0_11, a0_12] : List Int)) ((strOfNums ([a0_1, a0_2, a0_3, a0_4, a0_5, a0_6, a0_7, a0_8, a0_9, a0_10, a0_11, a0_12] : List Int)).toList == ([0, 100, 255, 155, 0, 0, 0, 0, 0, 0, 0, 0] : List UInt8)) a0_0 a0_1 a0_2 a0_3 a0_4 a0_5 a0_6 a0_7 a0_8 a0_9 a0_10 a0_11 a0_12 a0_13 a0_14 a0_15 a0_16))) else (some (false, 0, 0, 0, 0, 0, 0, 0, 0, 0, 0, 0, 0, 0, 0, 0, 0, false))
theorem ip_Embeds.mono_l : ∀ k, (∀ y0 y1 y2 y3 y4 y5 y6 y7 y8 y9 y10 y11 y12 y13 y14 y15 y16 y17 y18, LeO (ip_Embeds.j0 k y0 y1 y2 y3 y4 y5 y6 y7 y8 y9 y10 y11 y12 y13 y14 y15 y16 y17 y18) (ip_Embeds.j0 (k + 1) y0 y1 y2 y3 y4 y5 y6 y7 y8 y9 y10 y11 y12 y13 y14 y15 y16 y17 y18))
 | 0 => fun _ _ _ _ _ _ _ _ _ _ _ _ _ _ _ _ _ _ _ r h => by simp [ip_Embeds.j0] at h
 | k + 1 => by
  have ih0 := ip_Embeds.mono_l k
  ·intro y0 y1 y2 y3 y4 y5 y6 y7 y8 y9 y10 y11 y12 y13 y14 y15 y16 y17 y18
   unfold ip_Embeds.j0
   repeat' first
   | (with_reducible exact ih0 _ _ _ _ _ _ _ _ _ _ _ _ _ _ _ _ _ _ _)
   | (with_reducible exact LeO.refl _)
   | (with_reducible exact LeO.none _)
   | (with_reducible refine LeO.ite ?_ ?_)
   | (with_reducible refine LeO.bind ?_ (fun _ => ?_))
   | exact ih0 _ _ _ _ _ _ _ _ _ _ _ _ _ _ _ _ _ _ _
   | exact LeO.none _
   | refine LeO.ite ?_ ?_
   | refine LeO.bind ?_ (fun _ => ?_)
theorem ip_Embeds.mono : ∀ a0 a1 a2 a3 a4 a5 a6 a7 a8 a9 a10 a11 a12 a13 a14 a15 a16 k, LeO (ip_Embeds.f k a0 a1 a2 a3 a4 a5 a6 a7 a8 a9 a10 a11 a12 a13 a14 a15 a16) (ip_Embeds.f (k + 1) a0 a1 a2 a3 a4 a5 a6 a7 a8 a9 a10 a11 a12 a13 a14 a15 a16) := by
 intro a0 a1 a2 a3 a4 a5 a6 a7 a8 a9 a10 a11 a12 a13 a14 a15 a16 k
 have ih0 := ip_Embeds.mono_l k
 unfold ip_Embeds.f
 repeat' first
   | (with_reducible exact ih0 _ _ _ _ _ _ _ _ _ _ _ _ _ _ _ _ _ _ _)
   | (with_reducible exact LeO.refl _)
   | (with_reducible exact LeO.none _)
   | (with_reducible refine LeO.ite ?_ ?_)
   | (with_reducible refine LeO.bind ?_ (fun _ => ?_))
   | exact ih0 _ _ _ _ _ _ _ _ _ _ _ _ _ _ _ _ _ _ _
   | exact LeO.none _
   | refine LeO.ite ?_ ?_
   | refine LeO.bind ?_ (fun _ => ?_)
def ip_Embeds.T9 : Bool × List (List Nat × List Nat) := (true, [([], []), ([], []), ([0, 1], [0, 1]), ([2, 1], [2]), ([3], [3]), ([3, 3], [3]), ([4, 5, 3], [3, 4, 5]), ([3, 6], [3, 6])])
def ip_Embeds.B9 : List Nat := [0, 0, 3, 7, 15, 15, 63, 127]
theorem ip_Embeds.tab9 : rtab .any (opsOf Tryd.f25 9) = ip_Embeds.T9 := by kernel_rfl
theorem ip_Embeds.bits9 : waitsOk ip_Embeds.T9.2 ip_Embeds.B9 = true := by kernel_rfl
set_option maxHeartbeats 8000000 in
set_option maxRecDepth 100000 in
theorem ip_Embeds.calls (k : Nat) (a0_0 : Bool) (a0_1 : Int) (a0_2 : Int) (a0_3 : Int) (a0_4 : Int) (a0_5 : Int) (a0_6 : Int) (a0_7 : Int) (a0_8 : Int) (a0_9 : Int) (a0_10 : Int) (a0_11 : Int) (a0_12 : Int) (a0_13 : Int) (a0_14 : Int) (a0_15 : Int) (a0_16 : Int) (r1 : Bool) (r2 : Int) (r3 : Int) (r4 : Int) (r5 : Int) (r6 : Int) (r7 : Int) (r8 : Int) (r9 : Int) (r10 : Int) (r11 : Int) (r12 : Int) (r13 : Int) (r14 : Int) (r15 : Int) (r16 : Int) (r17 : Int) (r18 : Bool) (w : World) (hLW : LW w) (h : ip_Embeds.f k a0_0 a0_1 a0_2 a0_3 a0_4 a0_5 a0_6 a0_7 a0_8 a0_9 a0_10 a0_11 a0_12 a0_13 a0_14 a0_15 a0_16 = some (r1, r2, r3, r4, r5, r6, r7, r8, r9, r10, r11, r12, r13, r14, r15, r16, r17, r18)) :
  Calls Tryd.prog 25 #[.agg (ag_ a0_0 a0_1 a0_2 a0_3 a0_4 a0_5 a0_6 a0_7 a0_8 a0_9 a0_10 a0_11 a0_12 a0_13 a0_14 a0_15 a0_16)] w fun e w' => e = .returned (.tuple #[.agg (ag_ r1 r2 r3 r4 r5 r6 r7 r8 r9 r10 r11 r12 r13 r14 r15 r16 r17), .bool r18]) ∧ Below w.heap.size w w' := by
 have hu24 := Tryd.underlying24
 have HLW := Aside0.mk hLW
 clear hLW
 have HB := Aside0.mk (Below.refl w.heap.size w)
 have H : (if a0_0 = true then ((ip_mapped.f a0_0 a0_1 a0_2 a0_3 a0_4 a0_5 a0_6 a0_7 a0_8 a0_9 a0_10 a0_11 a0_12 a0_13 a0_14 a0_15 a0_16).bind fun t299 => (if t299 = true then (ip_Embeds.j0 k (strOfNums ([a0_1, a0_2, a0_3, a0_4, a0_5, a0_6, a0_7, a0_8, a0_9, a0_10, a0_11, a0_12] : List Int)) t299 a0_0 a0_1 a0_2 a0_3 a0_4 a0_5 a0_6 a0_7 a0_8 a0_9 a0_10 a0_11 a0_12 a0_13 a0_14 a0_15 a0_16) else (ip_Embeds.j0 k (strOfNums ([a0_1, a0_2, a0_3, a0_4, a0_5, a0_6, a0_7, a0_8, a0_9, a0_10, a0_11, a0_12] : List Int)) ((strOfNums ([a0_1, a0_2, a0_3, a0_4, a0_5, a0_6, a0_7, a0_8, a0_9, a0_10, a0_11, a0_12] : List Int)).toList == ([0, 100, 255, 155, 0, 0, 0, 0, 0, 0, 0, 0] : List UInt8)) a0_0 a0_1 a0_2 a0_3 a0_4 a0_5 a0_6 a0_7 a0_8 a0_9 a0_10 a0_11 a0_12 a0_13 a0_14 a0_15 a0_16))) else (some (false, 0, 0, 0, 0, 0, 0, 0, 0, 0, 0, 0, 0, 0, 0, 0, 0, false))) = some (r1, r2, r3, r4, r5, r6, r7, r8, r9, r10, r11, r12, r13, r14, r15, r16, r17, r18) := h
 clear h
 by_cases c2 : a0_0 = true
 ·subst c2
  replace H := ifT_ H
  replace H := Option.bind_eq_some_iff.mp H
  obtain ⟨t299, A30, H⟩ := H
  (try dsimp only at H)
  have A3 := Aside0.mk A30
  clear A30
  have HC4 := Aside0.mk H
  clear H
  go_enter Tryd.func25, Tryd.ntmps25
  go_upto_if 14 with (first | ((with_reducible refine gate_dst (N := 1) rfl ?_); refine box_event ?hg (N := 1) ?hd (cs := (ag_ true a0_1 a0_2 a0_3 a0_4 a0_5 a0_6 a0_7 a0_8 a0_9 a0_10 a0_11 a0_12 a0_13 a0_14 a0_15 a0_16)) (t := 24) ?hr ?_; (case hd => rfl); (case hg => rfl); (case hr => first | (go_simp; done) | (go_simp; rfl)); intro gb296 hg w5 hbox hb; have BK296 := Aside0.mk (hbox); have GW296 := Aside0.mk (show w.heap.size ≤ gb296 from ge_ hg); have GE296 := Aside0.mk (show w.heap.size ≤ gb296 from ge_ hg); replace HB := Aside0.mk (below_step bq_ hb); clear hb hbox hg) | ((with_reducible refine gate_dst (N := 2) rfl ?_); refine box_event ?hg (N := 2) ?hd (cs := az_) (t := 24) ?hr ?_; (case hd => rfl); (case hg => rfl); (case hr => first | (go_simp; done) | (go_simp; rfl)); intro gb297 hg w6 hbox hb; have n0_ := Aside0.mk (bb_ BK296 hb); have n1_ := Aside0.mk (below_step bg_ hb); have n2_ := Aside0.mk (hbox); have n3_ := Aside0.mk (show w.heap.size ≤ gb297 from gg_ hg); have n4_ := Aside0.mk (show w.heap.size ≤ gb297 from gg_ hg); have n5_ := Aside0.mk (show gb296 ≠ gb297 from nl_ BK296 hg); have n6_ := Aside0.mk (show gb297 ≠ gb296 from ng_ BK296 hg); clear BK296; clear HB; have BK296 := n0_; have HB := n1_; have BK297 := n2_; have GW297 := n3_; have GE297 := n4_; have NB296_297 := n5_; have NB297_296 := n6_; clear n0_ n1_ n2_ n3_ n4_ n5_ n6_; clear hb hbox hg; have HR298 := Aside0.mk (C_arr BK296.out .u8 [.bool true] [a0_1, a0_2, a0_3, a0_4, a0_5, a0_6, a0_7, a0_8, a0_9, a0_10, a0_11, a0_12] [.int .u8 a0_13, .int .u8 a0_14, .int .u8 a0_15, .int .u8 a0_16] rfl (q := 1) rfl (by show 12 ≤ 9223372036854775807; decide)); have HC298 := Aside0.mk (show ([a0_1, a0_2, a0_3, a0_4, a0_5, a0_6, a0_7, a0_8, a0_9, a0_10, a0_11, a0_12] : List Int).length ≤ 16 from by show 12 ≤ 16; decide); have hl298 : ([a0_1, a0_2, a0_3, a0_4, a0_5, a0_6, a0_7, a0_8, a0_9, a0_10, a0_11, a0_12] : List Int).length = 12 := rfl; have hcv7 := Kd.C_string (P := Tryd.prog) (A := (some ⟨gb296, 1, none⟩)) (c := 16) Tryd.underlying70 Tryd.underlying5 Tryd.underlying9 (by repeat (first | (with_reducible exact HR298.out) | (with_reducible refine Kd.C_alloc ?_ _) | (with_reducible refine Kd.C_drewN ?_ _) | (with_reducible refine Kd.C_drew ?_) | exact HR298.out)); have hcv7b := hcv7; rw [show ([a0_1, a0_2, a0_3, a0_4, a0_5, a0_6, a0_7, a0_8, a0_9, a0_10, a0_11, a0_12] : List Int).length = 12 from rfl] at hcv7b; have hnb8 := NB296_297.out; have hnc8 := NB297_296.out; have hcz9_0 := cz_ BK296 0 (.bool true); have hcz9_1 := cz_ BK296 1 (.int .u8 a0_1); have hcz9_2 := cz_ BK296 2 (.int .u8 a0_2); have hcz9_3 := cz_ BK296 3 (.int .u8 a0_3); have hcz9_4 := cz_ BK296 4 (.int .u8 a0_4); have hcz9_5 := cz_ BK296 5 (.int .u8 a0_5); have hcz9_6 := cz_ BK296 6 (.int .u8 a0_6); have hcz9_7 := cz_ BK296 7 (.int .u8 a0_7); have hcz9_8 := cz_ BK296 8 (.int .u8 a0_8); have hcz9_9 := cz_ BK296 9 (.int .u8 a0_9); have hcz9_10 := cz_ BK296 10 (.int .u8 a0_10); have hcz9_11 := cz_ BK296 11 (.int .u8 a0_11); have hcz9_12 := cz_ BK296 12 (.int .u8 a0_12); have hcz9_13 := cz_ BK296 13 (.int .u8 a0_13); have hcz9_14 := cz_ BK296 14 (.int .u8 a0_14); have hcz9_15 := cz_ BK296 15 (.int .u8 a0_15); have hcz9_16 := cz_ BK296 16 (.int .u8 a0_16)) | ((with_reducible refine gate_dst (N := 15) rfl ?_); (try (refine gate_guard (by rfl) ?_; dsimp only)); refine load_box ?hg 24 (.tmp 1) rfl BK296.out [] (al_ true a0_1 a0_2 a0_3 a0_4 a0_5 a0_6 a0_7 a0_8 a0_9 a0_10 a0_11 a0_12 a0_13 a0_14 a0_15 a0_16) [] rfl 0 rfl rfl Tryd.underlying24 rfl (by kernel_rfl) ?_; (case hg => rfl)) | ((with_reducible refine gate_callee (f := 41) rfl ?_); refine goesL_ (some 16) rfl rfl Tryd.func41 (by kernel_rfl) rfl #[.agg (ag_ true a0_1 a0_2 a0_3 a0_4 a0_5 a0_6 a0_7 a0_8 a0_9 a0_10 a0_11 a0_12 a0_13 a0_14 a0_15 a0_16)] rfl lq_ ?_; (with_reducible refine (ip_mapped.calls true a0_1 a0_2 a0_3 a0_4 a0_5 a0_6 a0_7 a0_8 a0_9 a0_10 a0_11 a0_12 a0_13 a0_14 a0_15 a0_16 t299 _ ?side1 A3.out).mono ?_); (case side1 => exact lg_); rintro e w10 ⟨rfl, hb⟩; refine ⟨_, rfl, ?_⟩; replace BK296 := Aside0.mk (bb_ BK296 hb); replace BK297 := Aside0.mk (bb_ BK297 hb); replace HR298 := Aside0.mk (Kd.C_below (by repeat (first | (with_reducible exact HR298.out) | (with_reducible refine Kd.C_alloc ?_ _) | (with_reducible refine Kd.C_drewN ?_ _) | (with_reducible refine Kd.C_drew ?_) | exact HR298.out)) hb); replace HB := Aside0.mk (below_step bg_ hb); (try clear hb); (try clear hb2); (try clear hk); (try clear hi)))
  (try simp only [Act.put, List.setIfInBounds_toArray, List.set_cons_zero, List.set_cons_succ])
  go_cut [14] (fun v14 wc => ∃ (kq : Nat) (x14_3 : Bool), v14 = .bool x14_3 ∧ Aside0 (ip_Embeds.j0 kq (strOfNums ([a0_1, a0_2, a0_3, a0_4, a0_5, a0_6, a0_7, a0_8, a0_9, a0_10, a0_11, a0_12] : List Int)) x14_3 true a0_1 a0_2 a0_3 a0_4 a0_5 a0_6 a0_7 a0_8 a0_9 a0_10 a0_11 a0_12 a0_13 a0_14 a0_15 a0_16 = some (r1, r2, r3, r4, r5, r6, r7, r8, r9, r10, r11, r12, r13, r14, r15, r16, r17, r18)) ∧ Aside0 (kq ≤ k) ∧ Aside0 (wc.heap[gb296]? = some (.cells (ag_ true a0_1 a0_2 a0_3 a0_4 a0_5 a0_6 a0_7 a0_8 a0_9 a0_10 a0_11 a0_12 a0_13 a0_14 a0_15 a0_16) 24 (0, 0))) ∧ Aside0 (wc.heap[gb297]? = some (.cells az_ 24 (0, 0))) ∧ Aside0 (Kd.C (Kd.int .u8) wc (some ⟨gb296, 1, none⟩) ([a0_1, a0_2, a0_3, a0_4, a0_5, a0_6, a0_7, a0_8, a0_9, a0_10, a0_11, a0_12] : List Int).length ([a0_1, a0_2, a0_3, a0_4, a0_5, a0_6, a0_7, a0_8, a0_9, a0_10, a0_11, a0_12] : List Int)) ∧ Aside0 (Below w.heap.size w wc))
  case first =>
   have H := HC4.out
   clear HC4
   by_cases c11 : t299 = true
   ·subst c11
    replace H := ifT_ H
    have H' := Aside0.mk H
    clear H
    go_wp2
    go_meet
    case rel => exact ⟨_, (true), sq_, H', ⟨by first | omega | exact Nat.le_refl _⟩, ⟨by (with_reducible repeat (first | refine blk_drewN ?_ _ | refine blk_drew ?_ | refine blk_alloc ?_ _)); exact BK296.out⟩, ⟨by (with_reducible repeat (first | refine blk_drewN ?_ _ | refine blk_drew ?_ | refine blk_alloc ?_ _)); exact BK297.out⟩, ⟨by repeat (first | (with_reducible exact HR298.out) | (with_reducible refine Kd.C_alloc ?_ _) | (with_reducible refine Kd.C_drewN ?_ _) | (with_reducible refine Kd.C_drew ?_) | exact HR298.out)⟩, ⟨bg_⟩⟩
   ·replace c11 := Bool.eq_false_iff.mpr c11
    subst c11
    replace H := ifF_ H
    have H' := Aside0.mk H
    clear H
    go_wp2
    go_meet
    case rel => exact ⟨_, (((strOfNums ([a0_1, a0_2, a0_3, a0_4, a0_5, a0_6, a0_7, a0_8, a0_9, a0_10, a0_11, a0_12] : List Int)).toList == ([0, 100, 255, 155, 0, 0, 0, 0, 0, 0, 0, 0] : List UInt8))), sq_, H', ⟨by first | omega | exact Nat.le_refl _⟩, ⟨by (with_reducible repeat (first | refine blk_drewN ?_ _ | refine blk_drew ?_ | refine blk_alloc ?_ _)); exact BK296.out⟩, ⟨by (with_reducible repeat (first | refine blk_drewN ?_ _ | refine blk_drew ?_ | refine blk_alloc ?_ _)); exact BK297.out⟩, ⟨by repeat (first | (with_reducible exact HR298.out) | (with_reducible refine Kd.C_alloc ?_ _) | (with_reducible refine Kd.C_drewN ?_ _) | (with_reducible refine Kd.C_drew ?_) | exact HR298.out)⟩, ⟨bg_⟩⟩
  case rest =>
   clear HC4
   try clear c1
   try clear c2
   try clear p2
   try clear c4
   try clear hcv7
   try clear c8
   try clear c11
   try clear hcz9_0
   try clear hcz9_1
   try clear hcz9_10
   try clear hcz9_11
   try clear hcz9_12
   try clear hcz9_13
   try clear hcz9_14
   try clear hcz9_15
   try clear hcz9_16
   try clear hcz9_2
   try clear hcz9_3
   try clear hcz9_4
   try clear hcz9_5
   try clear hcz9_6
   try clear hcz9_7
   try clear hcz9_8
   try clear hcz9_9
   obtain ⟨kq, x14_3, rfl, HA, HJ3, BK296, BK297, HR298, HB⟩ := hcut
   cases kq with
   | zero => exact absurd HA.out (by simp [ip_Embeds.j0])
   | succ kj3 =>
    have H := HA.out
    clear HA
    simp only [ip_Embeds.j0] at H
    by_cases c12 : x14_3 = true
    ·subst c12
     replace H := ifT_ H
     replace H := Option.bind_eq_some_iff.mp H
     obtain ⟨⟨t301, t302, t303, t304, t305, t306, t307, t308, t309, t310, t311, t312, t313, t314, t315, t316, t317⟩, A130, H⟩ := H
     (try dsimp only at H)
     have A13 := Aside0.mk A130
     clear A130
     simp only [Option.some.injEq, Prod.mk.injEq] at H
     obtain ⟨rfl, rfl, rfl, rfl, rfl, rfl, rfl, rfl, rfl, rfl, rfl, rfl, rfl, rfl, rfl, rfl, rfl, rfl⟩ := H
     have HR300 := Aside0.mk (C_arr BK296.out .u8 [.bool true, .int .u8 a0_1, .int .u8 a0_2, .int .u8 a0_3, .int .u8 a0_4, .int .u8 a0_5, .int .u8 a0_6, .int .u8 a0_7, .int .u8 a0_8, .int .u8 a0_9, .int .u8 a0_10, .int .u8 a0_11, .int .u8 a0_12] [a0_13, a0_14, a0_15, a0_16] [] rfl (q := 13) rfl (by show 4 ≤ 9223372036854775807; decide))
     have HC300 := Aside0.mk (show ([a0_13, a0_14, a0_15, a0_16] : List Int).length ≤ 4 from by show 4 ≤ 4; decide)
     have hl300 : ([a0_13, a0_14, a0_15, a0_16] : List Int).length = 4 := rfl
     go_wp2_with (first | ((with_reducible refine gate_callee (f := 42) rfl ?_); refine goesL_ (some 21) rfl rfl Tryd.func42 (by kernel_rfl) rfl #[.slice (some ⟨gb296, 13, none⟩) ([a0_13, a0_14, a0_15, a0_16] : List Int).length 4] rfl (by (try simp only [List.map_toArray, List.map_cons, List.map_nil]); first | done | (rw [show ([a0_13, a0_14, a0_15, a0_16] : List Int).length = 4 from rfl] <;> rfl) | rfl | (simp only [List.length_drop, List.length_take]; rfl)) ?_; (with_reducible refine (ip_last.calls _ _ ([a0_13, a0_14, a0_15, a0_16] : List Int) t301 t302 t303 t304 t305 t306 t307 t308 t309 t310 t311 t312 t313 t314 t315 t316 t317 _ ?side3 ?side1 ?side2 A13.out).mono ?_); (case side1 => repeat (first | exact (by repeat (first | (with_reducible exact HR300.out) | (with_reducible refine Kd.C_alloc ?_ _) | (with_reducible refine Kd.C_drewN ?_ _) | (with_reducible refine Kd.C_drew ?_) | exact HR300.out)) | (with_reducible refine Kd.C_alloc ?_ _) | (with_reducible refine Kd.C_drewN ?_ _) | (with_reducible refine Kd.C_drew ?_))); (case side2 => exact HC300.out); (case side3 => exact lg_); rintro e w14 ⟨rfl, hb⟩; refine ⟨_, rfl, ?_⟩; replace BK296 := Aside0.mk (bb_ BK296 hb); replace BK297 := Aside0.mk (bb_ BK297 hb); replace HR298 := Aside0.mk (Kd.C_below (by repeat (first | (with_reducible exact HR298.out) | (with_reducible refine Kd.C_alloc ?_ _) | (with_reducible refine Kd.C_drewN ?_ _) | (with_reducible refine Kd.C_drew ?_) | exact HR298.out)) hb); replace HR300 := Aside0.mk (Kd.C_below (by repeat (first | (with_reducible exact HR300.out) | (with_reducible refine Kd.C_alloc ?_ _) | (with_reducible refine Kd.C_drewN ?_ _) | (with_reducible refine Kd.C_drew ?_) | exact HR300.out)) hb); replace HB := Aside0.mk (below_step bg_ hb); (try clear hb); (try clear hb2); (try clear hk); (try clear hi); have hnb15 := NB297_296.out; have hnc15 := NB296_297.out; have hcz16_0 := cz_ BK297 0 (.bool false); have hcz16_1 := cz_ BK297 1 (.int .u8 0); have hcz16_2 := cz_ BK297 2 (.int .u8 0); have hcz16_3 := cz_ BK297 3 (.int .u8 0); have hcz16_4 := cz_ BK297 4 (.int .u8 0); have hcz16_5 := cz_ BK297 5 (.int .u8 0); have hcz16_6 := cz_ BK297 6 (.int .u8 0); have hcz16_7 := cz_ BK297 7 (.int .u8 0); have hcz16_8 := cz_ BK297 8 (.int .u8 0); have hcz16_9 := cz_ BK297 9 (.int .u8 0); have hcz16_10 := cz_ BK297 10 (.int .u8 0); have hcz16_11 := cz_ BK297 11 (.int .u8 0); have hcz16_12 := cz_ BK297 12 (.int .u8 0); have hcz16_13 := cz_ BK297 13 (.int .u8 0); have hcz16_14 := cz_ BK297 14 (.int .u8 0); have hcz16_15 := cz_ BK297 15 (.int .u8 0); have hcz16_16 := cz_ BK297 16 (.int .u8 0)) | ((with_reducible refine gate_store (t := 24) (p := 2) rfl ?_); refine store_all ?hg 24 2 _ rfl rfl gb297 ay_ (al_ t301 t302 t303 t304 t305 t306 t307 t308 t309 t310 t311 t312 t313 t314 t315 t316 t317) BK297.out rfl rfl rfl (by kernel_rfl) rfl ?_; (case hg => rfl); intro w17 hw; have n0_ : Aside0 (w17.heap[gb296]? = some (.cells (ag_ true a0_1 a0_2 a0_3 a0_4 a0_5 a0_6 a0_7 a0_8 a0_9 a0_10 a0_11 a0_12 a0_13 a0_14 a0_15 a0_16) 24 (0, 0))) := ⟨(by rw [hw]; exact (by (with_reducible repeat (first | refine blk_drewN ?_ _ | refine blk_drew ?_ | refine blk_alloc ?_ _)); refine blk_farC NB296_297.out _ _ ?_; (with_reducible repeat (first | refine blk_drewN ?_ _ | refine blk_drew ?_ | refine blk_alloc ?_ _)); exact BK296.out))⟩; have n1_ : Aside0 (w17.heap[gb297]? = some (.cells (ag_ t301 t302 t303 t304 t305 t306 t307 t308 t309 t310 t311 t312 t313 t314 t315 t316 t317) 24 (0, 0))) := ⟨(by rw [hw]; exact (by (with_reducible repeat (first | refine blk_drewN ?_ _ | refine blk_drew ?_ | refine blk_alloc ?_ _)); refine blk_part (al_ t301 t302 t303 t304 t305 t306 t307 t308 t309 t310 t311 t312 t313 t314 t315 t316 t317) ay_ [] [] (cs := az_) ?_ rfl rfl rfl; (with_reducible repeat (first | refine blk_drewN ?_ _ | refine blk_drew ?_ | refine blk_alloc ?_ _)); exact BK297.out))⟩; have n2_ : Aside0 (Below w.heap.size w w17) := ⟨(by rw [hw]; exact (by repeat (first | (with_reducible first | exact HB.out | apply below_alloc | apply pw_below_drewN | apply below_drew1 | refine below_set ?_ GE296.out | refine below_set ?_ GE297.out | refine below_setC GE296.out _ _ ?_ | refine below_setC GE297.out _ _ ?_) | exact HB.out)))⟩; clear hw; clear BK296; clear BK297; clear HB; have BK296 := n0_; have BK297 := n1_; have HB := n2_; clear n0_ n1_ n2_))
     refine bodyPost_ret (results_ct rfl _ _ gb297 24 (ag_ t301 t302 t303 t304 t305 t306 t307 t308 t309 t310 t311 t312 t313 t314 t315 t316 t317) (0, 0) _ rfl bk_ Tryd.underlying24 rfl (by kernel_rfl)) rfl ?_
     exact ⟨rq_, bg_⟩
    ·replace c12 := Bool.eq_false_iff.mpr c12
     subst c12
     replace H := ifF_ H
     by_cases c18 : (strOfNums ([a0_1, a0_2, a0_3, a0_4, a0_5, a0_6, a0_7, a0_8, a0_9, a0_10, a0_11, a0_12] : List Int)).toList = ([0, 0, 0, 0, 0, 0, 0, 0, 0, 0, 0, 0] : List UInt8)
     ·rw [if_pos c18] at H
      have c18b0 : ((strOfNums ([a0_1, a0_2, a0_3, a0_4, a0_5, a0_6, a0_7, a0_8, a0_9, a0_10, a0_11, a0_12] : List Int)).toList == ([0, 0, 0, 0, 0, 0, 0, 0, 0, 0, 0, 0] : List UInt8)) = true := beq_iff_eq.mpr c18
      have c18b1 : ((strOfNums ([a0_1, a0_2, a0_3, a0_4, a0_5, a0_6, a0_7, a0_8, a0_9, a0_10, a0_11, a0_12] : List Int)).toList != ([0, 0, 0, 0, 0, 0, 0, 0, 0, 0, 0, 0] : List UInt8)) = false := bne_eq_false_iff_eq.mpr c18
      clear c18
      replace H := Option.bind_eq_some_iff.mp H
      obtain ⟨⟨t319, t320, t321, t322, t323, t324, t325, t326, t327, t328, t329, t330, t331, t332, t333, t334, t335⟩, A190, H⟩ := H
      (try dsimp only at H)
      have A19 := Aside0.mk A190
      clear A190
      replace H := Option.bind_eq_some_iff.mp H
      obtain ⟨⟨t337, t338, t339, t340, t341, t342, t343, t344, t345, t346, t347, t348, t349, t350, t351, t352, t353⟩, A200, H⟩ := H
      (try dsimp only at H)
      have A20 := Aside0.mk A200
      clear A200
      by_cases c21 : (t319 == t337 && ((t320 == t338 && (t321 == t339 && (t322 == t340 && (t323 == t341 && (t324 == t342 && (t325 == t343 && (t326 == t344 && (t327 == t345 && (t328 == t346 && (t329 == t347 && (t330 == t348 && (t331 == t349 && (t332 == t350 && (t333 == t351 && (t334 == t352 && (t335 == t353)))))))))))))))))) = true
      ·rw [if_pos c21] at H
       have c21b0 : (t319 == t337 && ((t320 == t338 && (t321 == t339 && (t322 == t340 && (t323 == t341 && (t324 == t342 && (t325 == t343 && (t326 == t344 && (t327 == t345 && (t328 == t346 && (t329 == t347 && (t330 == t348 && (t331 == t349 && (t332 == t350 && (t333 == t351 && (t334 == t352 && (t335 == t353)))))))))))))))))) = true := c21
       clear c21
       simp only [Option.some.injEq, Prod.mk.injEq] at H
       obtain ⟨rfl, rfl, rfl, rfl, rfl, rfl, rfl, rfl, rfl, rfl, rfl, rfl, rfl, rfl, rfl, rfl, rfl, rfl⟩ := H
       have HR318 := Aside0.mk (C_arr BK296.out .u8 [.bool true, .int .u8 a0_1, .int .u8 a0_2, .int .u8 a0_3, .int .u8 a0_4, .int .u8 a0_5, .int .u8 a0_6, .int .u8 a0_7, .int .u8 a0_8, .int .u8 a0_9, .int .u8 a0_10, .int .u8 a0_11, .int .u8 a0_12] [a0_13, a0_14, a0_15, a0_16] [] rfl (q := 13) rfl (by show 4 ≤ 9223372036854775807; decide))
       have HC318 := Aside0.mk (show ([a0_13, a0_14, a0_15, a0_16] : List Int).length ≤ 4 from by show 4 ≤ 4; decide)
       have hl318 : ([a0_13, a0_14, a0_15, a0_16] : List Int).length = 4 := rfl
       try go_wp2_with (first | ((with_reducible refine gate_callee (f := 42) rfl ?_); refine goesL_ (some 27) rfl rfl Tryd.func42 (by kernel_rfl) rfl #[.slice (some ⟨gb296, 13, none⟩) ([a0_13, a0_14, a0_15, a0_16] : List Int).length 4] rfl (by (try simp only [List.map_toArray, List.map_cons, List.map_nil]); first | done | (rw [show ([a0_13, a0_14, a0_15, a0_16] : List Int).length = 4 from rfl] <;> rfl) | rfl | (simp only [List.length_drop, List.length_take]; rfl)) ?_; (with_reducible refine (ip_last.calls _ _ ([a0_13, a0_14, a0_15, a0_16] : List Int) t319 t320 t321 t322 t323 t324 t325 t326 t327 t328 t329 t330 t331 t332 t333 t334 t335 _ ?side3 ?side1 ?side2 A19.out).mono ?_); (case side1 => repeat (first | exact (by repeat (first | (with_reducible exact HR318.out) | (with_reducible refine Kd.C_alloc ?_ _) | (with_reducible refine Kd.C_drewN ?_ _) | (with_reducible refine Kd.C_drew ?_) | exact HR318.out)) | (with_reducible refine Kd.C_alloc ?_ _) | (with_reducible refine Kd.C_drewN ?_ _) | (with_reducible refine Kd.C_drew ?_))); (case side2 => exact HC318.out); (case side3 => exact lg_); rintro e w22 ⟨rfl, hb⟩; refine ⟨_, rfl, ?_⟩; replace BK296 := Aside0.mk (bb_ BK296 hb); replace BK297 := Aside0.mk (bb_ BK297 hb); replace HR298 := Aside0.mk (Kd.C_below (by repeat (first | (with_reducible exact HR298.out) | (with_reducible refine Kd.C_alloc ?_ _) | (with_reducible refine Kd.C_drewN ?_ _) | (with_reducible refine Kd.C_drew ?_) | exact HR298.out)) hb); replace HR318 := Aside0.mk (Kd.C_below (by repeat (first | (with_reducible exact HR318.out) | (with_reducible refine Kd.C_alloc ?_ _) | (with_reducible refine Kd.C_drewN ?_ _) | (with_reducible refine Kd.C_drew ?_) | exact HR318.out)) hb); replace HB := Aside0.mk (below_step bg_ hb); (try clear hb); (try clear hb2); (try clear hk); (try clear hi)) | ((with_reducible refine gate_dst (N := 5) rfl ?_); refine box_event ?hg (N := 5) ?hd (cs := az_) (t := 24) ?hr ?_; (case hd => rfl); (case hg => rfl); (case hr => first | (go_simp; done) | (go_simp; rfl)); intro gb336 hg w23 hbox hb; have n0_ := Aside0.mk (bb_ BK296 hb); have n1_ := Aside0.mk (bb_ BK297 hb); have n2_ := Aside0.mk (Kd.C_below (by repeat (first | (with_reducible exact HR298.out) | (with_reducible refine Kd.C_alloc ?_ _) | (with_reducible refine Kd.C_drewN ?_ _) | (with_reducible refine Kd.C_drew ?_) | exact HR298.out)) hb); have n3_ := Aside0.mk (Kd.C_below (by repeat (first | (with_reducible exact HR318.out) | (with_reducible refine Kd.C_alloc ?_ _) | (with_reducible refine Kd.C_drewN ?_ _) | (with_reducible refine Kd.C_drew ?_) | exact HR318.out)) hb); have n4_ := Aside0.mk (below_step bg_ hb); have n5_ := Aside0.mk (hbox); have n6_ := Aside0.mk (show w.heap.size ≤ gb336 from gg_ hg); have n7_ := Aside0.mk (show w.heap.size ≤ gb336 from gg_ hg); have n8_ := Aside0.mk (show gb296 ≠ gb336 from nl_ BK296 hg); have n9_ := Aside0.mk (show gb336 ≠ gb296 from ng_ BK296 hg); have n10_ := Aside0.mk (show gb297 ≠ gb336 from nl_ BK297 hg); have n11_ := Aside0.mk (show gb336 ≠ gb297 from ng_ BK297 hg); clear BK296; clear BK297; clear HR298; clear HR318; clear HB; have BK296 := n0_; have BK297 := n1_; have HR298 := n2_; have HR318 := n3_; have HB := n4_; have BK336 := n5_; have GW336 := n6_; have GE336 := n7_; have NB296_336 := n8_; have NB336_296 := n9_; have NB297_336 := n10_; have NB336_297 := n11_; clear n0_ n1_ n2_ n3_ n4_ n5_ n6_ n7_ n8_ n9_ n10_ n11_; clear hb hbox hg; have hnb24 := NB336_296.out; have hnc24 := NB296_336.out; have hnb25 := NB336_297.out; have hnc25 := NB297_336.out; have hcz26_0 := cz_ BK336 0 (.bool false); have hcz26_1 := cz_ BK336 1 (.int .u8 0); have hcz26_2 := cz_ BK336 2 (.int .u8 0); have hcz26_3 := cz_ BK336 3 (.int .u8 0); have hcz26_4 := cz_ BK336 4 (.int .u8 0); have hcz26_5 := cz_ BK336 5 (.int .u8 0); have hcz26_6 := cz_ BK336 6 (.int .u8 0); have hcz26_7 := cz_ BK336 7 (.int .u8 0); have hcz26_8 := cz_ BK336 8 (.int .u8 0); have hcz26_9 := cz_ BK336 9 (.int .u8 0); have hcz26_10 := cz_ BK336 10 (.int .u8 0); have hcz26_11 := cz_ BK336 11 (.int .u8 0); have hcz26_12 := cz_ BK336 12 (.int .u8 0); have hcz26_13 := cz_ BK336 13 (.int .u8 0); have hcz26_14 := cz_ BK336 14 (.int .u8 0); have hcz26_15 := cz_ BK336 15 (.int .u8 0); have hcz26_16 := cz_ BK336 16 (.int .u8 0)) | ((with_reducible refine gate_store (t := 24) (p := 5) rfl ?_); refine store_all ?hg 24 5 _ rfl rfl gb336 ay_ (al_ t319 t320 t321 t322 t323 t324 t325 t326 t327 t328 t329 t330 t331 t332 t333 t334 t335) BK336.out rfl rfl rfl (by kernel_rfl) rfl ?_; (case hg => rfl); intro w27 hw; have n0_ : Aside0 (w27.heap[gb296]? = some (.cells (ag_ true a0_1 a0_2 a0_3 a0_4 a0_5 a0_6 a0_7 a0_8 a0_9 a0_10 a0_11 a0_12 a0_13 a0_14 a0_15 a0_16) 24 (0, 0))) := ⟨(by rw [hw]; exact (by (with_reducible repeat (first | refine blk_drewN ?_ _ | refine blk_drew ?_ | refine blk_alloc ?_ _)); refine blk_farC NB296_336.out _ _ ?_; (with_reducible repeat (first | refine blk_drewN ?_ _ | refine blk_drew ?_ | refine blk_alloc ?_ _)); exact BK296.out))⟩; have n1_ : Aside0 (w27.heap[gb297]? = some (.cells az_ 24 (0, 0))) := ⟨(by rw [hw]; exact (by (with_reducible repeat (first | refine blk_drewN ?_ _ | refine blk_drew ?_ | refine blk_alloc ?_ _)); refine blk_farC NB297_336.out _ _ ?_; (with_reducible repeat (first | refine blk_drewN ?_ _ | refine blk_drew ?_ | refine blk_alloc ?_ _)); exact BK297.out))⟩; have n2_ : Aside0 (w27.heap[gb336]? = some (.cells (ag_ t319 t320 t321 t322 t323 t324 t325 t326 t327 t328 t329 t330 t331 t332 t333 t334 t335) 24 (0, 0))) := ⟨(by rw [hw]; exact (by (with_reducible repeat (first | refine blk_drewN ?_ _ | refine blk_drew ?_ | refine blk_alloc ?_ _)); refine blk_part (al_ t319 t320 t321 t322 t323 t324 t325 t326 t327 t328 t329 t330 t331 t332 t333 t334 t335) ay_ [] [] (cs := az_) ?_ rfl rfl rfl; (with_reducible repeat (first | refine blk_drewN ?_ _ | refine blk_drew ?_ | refine blk_alloc ?_ _)); exact BK336.out))⟩; have n3_ : Aside0 (Below w.heap.size w w27) := ⟨(by rw [hw]; exact (by repeat (first | (with_reducible first | exact HB.out | apply below_alloc | apply pw_below_drewN | apply below_drew1 | refine below_set ?_ GE296.out | refine below_set ?_ GE297.out | refine below_set ?_ GE336.out | refine below_setC GE296.out _ _ ?_ | refine below_setC GE297.out _ _ ?_ | refine below_setC GE336.out _ _ ?_) | exact HB.out)))⟩; clear hw; clear BK296; clear BK297; clear BK336; clear HB; have BK296 := n0_; have BK297 := n1_; have BK336 := n2_; have HB := n3_; clear n0_ n1_ n2_ n3_))
       replace BK296 := Aside0.mk (blk_drew BK296.out)
       replace BK297 := Aside0.mk (blk_drew BK297.out)
       replace BK336 := Aside0.mk (blk_drew BK336.out)
       replace HB := Aside0.mk (below_drew1 HB.out)
       refine start_ (n := 8) (S := fun w' => (Instr.loadAt 24 (.pointer (some ⟨gb336, 0, none⟩))).run Tryd.prog w' = .ok (.agg (ag_ t319 t320 t321 t322 t323 t324 t325 t326 t327 t328 t329 t330 t331 t332 t333 t334 t335)) w') (ds := []) (bv_ 0 8) (by kernel_rfl) rfl rfl ((run_load_box BK336.out 24 [] (al_ t319 t320 t321 t322 t323 t324 t325 t326 t327 t328 t329 t330 t331 t332 t333 t334 t335) [] rfl 0 rfl Tryd.underlying24 rfl (by kernel_rfl))) (fun hHeld => ?_); refine with_tabW ip_Embeds.tab9 ip_Embeds.bits9 (fun HT_ HW_ => ?_)
       generalize w27.drew = w28 at BK296 BK297 BK336 HB hHeld ⊢
       refine tl_ 0 28 ?_ 1 7 HT_ HW_ ?_ hHeld ?_ ?_ ?_
       rotate_left
       ·intro w' s0
        first | (refine (load_exec rfl rfl s0).trans ?_; with_reducible rfl) | (go_simp; with_reducible rfl)
       rotate_left
       ·simp only [Act.put, sa_, s0_, s1_, i64_w, i32_w]
        rfl
       refine one_ (i := 1) (N := some 29) (bv_ 2 6) rfl rfl (one_of HT_.out (by kernel_rfl)) (by decide) (fun K hK => ?_)
       refine goes_ Tryd.func38 (by kernel_rfl) rfl #[.int .u8 0, .int .u8 0, .int .u8 0, .int .u8 0] (by rfl) rfl rfl lq_ ?_
       with_reducible refine (ip_V4.calls 0 0 0 0 t337 t338 t339 t340 t341 t342 t343 t344 t345 t346 t347 t348 t349 t350 t351 t352 t353 _ ?side1 A20.out).mono ?_
       (case side1 => exact lg_)
       rintro e w29 ⟨rfl, hb⟩
       refine ⟨_, rfl, ?_⟩
       replace BK296 := Aside0.mk (bb_ BK296 hb)
       replace BK297 := Aside0.mk (bb_ BK297 hb)
       replace BK336 := Aside0.mk (bb_ BK336 hb)
       replace HB := Aside0.mk (below_step bg_ hb)
       (try clear hb)
       (try clear hb2)
       (try clear hk)
       (try clear hi)
       refine hK.out _ _ ((run_load_box BK336.out 24 [] (al_ t319 t320 t321 t322 t323 t324 t325 t326 t327 t328 t329 t330 t331 t332 t333 t334 t335) [] rfl 0 rfl Tryd.underlying24 rfl (by kernel_rfl))) (fun hHeld => ?_)
       clear hK K
       refine norm_ (a' := ?_) ?_ ?_
       rotate_left
       ·show Act.put _ (some 29) _ = _
        simp only [Act.put, sa_, s0_, s1_, i64_w, i32_w]
        rfl
       refine pl_ 2 30 ?_ 3 5 HT_ ?_ ?_ ?_ ?_
       rotate_left
       ·intro w'
        go_simp
        with_reducible rfl
       rotate_left
       ·simp only [Act.put, sa_, s0_, s1_, i64_w, i32_w]
        rfl
       refine pl_ 3 31 ?_ 4 4 HT_ ?_ ?_ ?_ ?_
       rotate_left
       ·intro w'
        go_simp
        with_reducible rfl
       rotate_left
       ·simp only [Act.put, sa_, s0_, s1_, i64_w, i32_w]
        rfl
       refine pr_ 4 32 5 3 HT_ ?_ ?_ ?_
       rotate_left
       ·simp only [Act.put, sa_, s0_, s1_, i64_w, i32_w]
        rfl
       refine pr_ 5 33 6 2 HT_ ?_ ?_ ?_
       rotate_left
       ·simp only [Act.put, sa_, s0_, s1_, i64_w, i32_w]
        rfl
       refine pr_ 6 34 7 1 HT_ ?_ ?_ ?_
       rotate_left
       ·simp only [Act.put, sa_, s0_, s1_, i64_w, i32_w]
        rfl
       refine pl_ 7 35 ?_ 8 0 HT_ ?_ ?_ ?_ ?_
       rotate_left
       ·intro w'
        go_simp
        with_reducible rfl
       rotate_left
       ·simp only [Act.put, sa_, s0_, s1_, i64_w, i32_w]
        rfl
       refine done_ (done_of HT_.out (by kernel_rfl)) ?_
       have hnb30 := NB297_296.out
       have hnc30 := NB296_297.out
       have hcz31_0 := cz_ BK297 0 (.bool false)
       have hcz31_1 := cz_ BK297 1 (.int .u8 0)
       have hcz31_2 := cz_ BK297 2 (.int .u8 0)
       have hcz31_3 := cz_ BK297 3 (.int .u8 0)
       have hcz31_4 := cz_ BK297 4 (.int .u8 0)
       have hcz31_5 := cz_ BK297 5 (.int .u8 0)
       have hcz31_6 := cz_ BK297 6 (.int .u8 0)
       have hcz31_7 := cz_ BK297 7 (.int .u8 0)
       have hcz31_8 := cz_ BK297 8 (.int .u8 0)
       have hcz31_9 := cz_ BK297 9 (.int .u8 0)
       have hcz31_10 := cz_ BK297 10 (.int .u8 0)
       have hcz31_11 := cz_ BK297 11 (.int .u8 0)
       have hcz31_12 := cz_ BK297 12 (.int .u8 0)
       have hcz31_13 := cz_ BK297 13 (.int .u8 0)
       have hcz31_14 := cz_ BK297 14 (.int .u8 0)
       have hcz31_15 := cz_ BK297 15 (.int .u8 0)
       have hcz31_16 := cz_ BK297 16 (.int .u8 0)
       try go_wp2_with (first | ((with_reducible refine gate_store (t := 24) (p := 2) rfl ?_); refine store_all ?hg 24 2 _ rfl rfl gb297 ay_ ay_ BK297.out rfl rfl rfl (by kernel_rfl) rfl ?_; (case hg => rfl); intro w32 hw; have n0_ : Aside0 (w32.heap[gb296]? = some (.cells (ag_ true a0_1 a0_2 a0_3 a0_4 a0_5 a0_6 a0_7 a0_8 a0_9 a0_10 a0_11 a0_12 a0_13 a0_14 a0_15 a0_16) 24 (0, 0))) := ⟨(by rw [hw]; exact (by (with_reducible repeat (first | refine blk_drewN ?_ _ | refine blk_drew ?_ | refine blk_alloc ?_ _)); refine blk_farC NB296_297.out _ _ ?_; (with_reducible repeat (first | refine blk_drewN ?_ _ | refine blk_drew ?_ | refine blk_alloc ?_ _)); exact BK296.out))⟩; have n1_ : Aside0 (w32.heap[gb297]? = some (.cells az_ 24 (0, 0))) := ⟨(by rw [hw]; exact (by (with_reducible repeat (first | refine blk_drewN ?_ _ | refine blk_drew ?_ | refine blk_alloc ?_ _)); refine blk_part ay_ ay_ [] [] (cs := az_) ?_ rfl rfl rfl; (with_reducible repeat (first | refine blk_drewN ?_ _ | refine blk_drew ?_ | refine blk_alloc ?_ _)); exact BK297.out))⟩; have n2_ : Aside0 (w32.heap[gb336]? = some (.cells (ag_ t319 t320 t321 t322 t323 t324 t325 t326 t327 t328 t329 t330 t331 t332 t333 t334 t335) 24 (0, 0))) := ⟨(by rw [hw]; exact (by (with_reducible repeat (first | refine blk_drewN ?_ _ | refine blk_drew ?_ | refine blk_alloc ?_ _)); refine blk_farC NB336_297.out _ _ ?_; (with_reducible repeat (first | refine blk_drewN ?_ _ | refine blk_drew ?_ | refine blk_alloc ?_ _)); exact BK336.out))⟩; have n3_ : Aside0 (Below w.heap.size w w32) := ⟨(by rw [hw]; exact (by repeat (first | (with_reducible first | exact HB.out | apply below_alloc | apply pw_below_drewN | apply below_drew1 | refine below_set ?_ GE296.out | refine below_set ?_ GE297.out | refine below_set ?_ GE336.out | refine below_setC GE296.out _ _ ?_ | refine below_setC GE297.out _ _ ?_ | refine below_setC GE336.out _ _ ?_) | exact HB.out)))⟩; clear hw; clear BK296; clear BK297; clear BK336; clear HB; have BK296 := n0_; have BK297 := n1_; have BK336 := n2_; have HB := n3_; clear n0_ n1_ n2_ n3_))
       refine bodyPost_ret (results_ct rfl _ _ gb297 24 az_ (0, 0) _ rfl bk_ Tryd.underlying24 rfl (by kernel_rfl)) rfl ?_
       exact ⟨rq_, bg_⟩
      ·rw [if_neg c21] at H
       have c21b0 : (t319 == t337 && ((t320 == t338 && (t321 == t339 && (t322 == t340 && (t323 == t341 && (t324 == t342 && (t325 == t343 && (t326 == t344 && (t327 == t345 && (t328 == t346 && (t329 == t347 && (t330 == t348 && (t331 == t349 && (t332 == t350 && (t333 == t351 && (t334 == t352 && (t335 == t353)))))))))))))))))) = false := by simpa using c21
       (try (have c21b3 : ¬ (t319 = t337 && ((t320 == t338 && (t321 == t339 && (t322 == t340 && (t323 == t341 && (t324 == t342 && (t325 == t343 && (t326 == t344 && (t327 == t345 && (t328 == t346 && (t329 == t347 && (t330 == t348 && (t331 == t349 && (t332 == t350 && (t333 == t351 && (t334 == t352 && (t335 == t353)))))))))))))))))) := by simpa using c21))
       clear c21
       replace H := Option.bind_eq_some_iff.mp H
       obtain ⟨⟨t354, t355, t356, t357, t358, t359, t360, t361, t362, t363, t364, t365, t366, t367, t368, t369, t370⟩, A330, H⟩ := H
       (try dsimp only at H)
       have A33 := Aside0.mk A330
       clear A330
       by_cases c34 : (t319 == t354 && ((t320 == t355 && (t321 == t356 && (t322 == t357 && (t323 == t358 && (t324 == t359 && (t325 == t360 && (t326 == t361 && (t327 == t362 && (t328 == t363 && (t329 == t364 && (t330 == t365 && (t331 == t366 && (t332 == t367 && (t333 == t368 && (t334 == t369 && (t335 == t370)))))))))))))))))) = true
       ·rw [if_pos c34] at H
        have c34b0 : (t319 == t354 && ((t320 == t355 && (t321 == t356 && (t322 == t357 && (t323 == t358 && (t324 == t359 && (t325 == t360 && (t326 == t361 && (t327 == t362 && (t328 == t363 && (t329 == t364 && (t330 == t365 && (t331 == t366 && (t332 == t367 && (t333 == t368 && (t334 == t369 && (t335 == t370)))))))))))))))))) = true := c34
        clear c34
        simp only [Option.some.injEq, Prod.mk.injEq] at H
        obtain ⟨rfl, rfl, rfl, rfl, rfl, rfl, rfl, rfl, rfl, rfl, rfl, rfl, rfl, rfl, rfl, rfl, rfl, rfl⟩ := H
        have HR318 := Aside0.mk (C_arr BK296.out .u8 [.bool true, .int .u8 a0_1, .int .u8 a0_2, .int .u8 a0_3, .int .u8 a0_4, .int .u8 a0_5, .int .u8 a0_6, .int .u8 a0_7, .int .u8 a0_8, .int .u8 a0_9, .int .u8 a0_10, .int .u8 a0_11, .int .u8 a0_12] [a0_13, a0_14, a0_15, a0_16] [] rfl (q := 13) rfl (by show 4 ≤ 9223372036854775807; decide))
        have HC318 := Aside0.mk (show ([a0_13, a0_14, a0_15, a0_16] : List Int).length ≤ 4 from by show 4 ≤ 4; decide)
        have hl318 : ([a0_13, a0_14, a0_15, a0_16] : List Int).length = 4 := rfl
        try go_wp2_with (first | ((with_reducible refine gate_callee (f := 42) rfl ?_); refine goesL_ (some 27) rfl rfl Tryd.func42 (by kernel_rfl) rfl #[.slice (some ⟨gb296, 13, none⟩) ([a0_13, a0_14, a0_15, a0_16] : List Int).length 4] rfl (by (try simp only [List.map_toArray, List.map_cons, List.map_nil]); first | done | (rw [show ([a0_13, a0_14, a0_15, a0_16] : List Int).length = 4 from rfl] <;> rfl) | rfl | (simp only [List.length_drop, List.length_take]; rfl)) ?_; (with_reducible refine (ip_last.calls _ _ ([a0_13, a0_14, a0_15, a0_16] : List Int) t319 t320 t321 t322 t323 t324 t325 t326 t327 t328 t329 t330 t331 t332 t333 t334 t335 _ ?side3 ?side1 ?side2 A19.out).mono ?_); (case side1 => repeat (first | exact (by repeat (first | (with_reducible exact HR318.out) | (with_reducible refine Kd.C_alloc ?_ _) | (with_reducible refine Kd.C_drewN ?_ _) | (with_reducible refine Kd.C_drew ?_) | exact HR318.out)) | (with_reducible refine Kd.C_alloc ?_ _) | (with_reducible refine Kd.C_drewN ?_ _) | (with_reducible refine Kd.C_drew ?_))); (case side2 => exact HC318.out); (case side3 => exact lg_); rintro e w35 ⟨rfl, hb⟩; refine ⟨_, rfl, ?_⟩; replace BK296 := Aside0.mk (bb_ BK296 hb); replace BK297 := Aside0.mk (bb_ BK297 hb); replace HR298 := Aside0.mk (Kd.C_below (by repeat (first | (with_reducible exact HR298.out) | (with_reducible refine Kd.C_alloc ?_ _) | (with_reducible refine Kd.C_drewN ?_ _) | (with_reducible refine Kd.C_drew ?_) | exact HR298.out)) hb); replace HR318 := Aside0.mk (Kd.C_below (by repeat (first | (with_reducible exact HR318.out) | (with_reducible refine Kd.C_alloc ?_ _) | (with_reducible refine Kd.C_drewN ?_ _) | (with_reducible refine Kd.C_drew ?_) | exact HR318.out)) hb); replace HB := Aside0.mk (below_step bg_ hb); (try clear hb); (try clear hb2); (try clear hk); (try clear hi)) | ((with_reducible refine gate_dst (N := 5) rfl ?_); refine box_event ?hg (N := 5) ?hd (cs := az_) (t := 24) ?hr ?_; (case hd => rfl); (case hg => rfl); (case hr => first | (go_simp; done) | (go_simp; rfl)); intro gb336 hg w36 hbox hb; have n0_ := Aside0.mk (bb_ BK296 hb); have n1_ := Aside0.mk (bb_ BK297 hb); have n2_ := Aside0.mk (Kd.C_below (by repeat (first | (with_reducible exact HR298.out) | (with_reducible refine Kd.C_alloc ?_ _) | (with_reducible refine Kd.C_drewN ?_ _) | (with_reducible refine Kd.C_drew ?_) | exact HR298.out)) hb); have n3_ := Aside0.mk (Kd.C_below (by repeat (first | (with_reducible exact HR318.out) | (with_reducible refine Kd.C_alloc ?_ _) | (with_reducible refine Kd.C_drewN ?_ _) | (with_reducible refine Kd.C_drew ?_) | exact HR318.out)) hb); have n4_ := Aside0.mk (below_step bg_ hb); have n5_ := Aside0.mk (hbox); have n6_ := Aside0.mk (show w.heap.size ≤ gb336 from gg_ hg); have n7_ := Aside0.mk (show w.heap.size ≤ gb336 from gg_ hg); have n8_ := Aside0.mk (show gb296 ≠ gb336 from nl_ BK296 hg); have n9_ := Aside0.mk (show gb336 ≠ gb296 from ng_ BK296 hg); have n10_ := Aside0.mk (show gb297 ≠ gb336 from nl_ BK297 hg); have n11_ := Aside0.mk (show gb336 ≠ gb297 from ng_ BK297 hg); clear BK296; clear BK297; clear HR298; clear HR318; clear HB; have BK296 := n0_; have BK297 := n1_; have HR298 := n2_; have HR318 := n3_; have HB := n4_; have BK336 := n5_; have GW336 := n6_; have GE336 := n7_; have NB296_336 := n8_; have NB336_296 := n9_; have NB297_336 := n10_; have NB336_297 := n11_; clear n0_ n1_ n2_ n3_ n4_ n5_ n6_ n7_ n8_ n9_ n10_ n11_; clear hb hbox hg; have hnb37 := NB336_296.out; have hnc37 := NB296_336.out; have hnb38 := NB336_297.out; have hnc38 := NB297_336.out; have hcz39_0 := cz_ BK336 0 (.bool false); have hcz39_1 := cz_ BK336 1 (.int .u8 0); have hcz39_2 := cz_ BK336 2 (.int .u8 0); have hcz39_3 := cz_ BK336 3 (.int .u8 0); have hcz39_4 := cz_ BK336 4 (.int .u8 0); have hcz39_5 := cz_ BK336 5 (.int .u8 0); have hcz39_6 := cz_ BK336 6 (.int .u8 0); have hcz39_7 := cz_ BK336 7 (.int .u8 0); have hcz39_8 := cz_ BK336 8 (.int .u8 0); have hcz39_9 := cz_ BK336 9 (.int .u8 0); have hcz39_10 := cz_ BK336 10 (.int .u8 0); have hcz39_11 := cz_ BK336 11 (.int .u8 0); have hcz39_12 := cz_ BK336 12 (.int .u8 0); have hcz39_13 := cz_ BK336 13 (.int .u8 0); have hcz39_14 := cz_ BK336 14 (.int .u8 0); have hcz39_15 := cz_ BK336 15 (.int .u8 0); have hcz39_16 := cz_ BK336 16 (.int .u8 0)) | ((with_reducible refine gate_store (t := 24) (p := 5) rfl ?_); refine store_all ?hg 24 5 _ rfl rfl gb336 ay_ (al_ t319 t320 t321 t322 t323 t324 t325 t326 t327 t328 t329 t330 t331 t332 t333 t334 t335) BK336.out rfl rfl rfl (by kernel_rfl) rfl ?_; (case hg => rfl); intro w40 hw; have n0_ : Aside0 (w40.heap[gb296]? = some (.cells (ag_ true a0_1 a0_2 a0_3 a0_4 a0_5 a0_6 a0_7 a0_8 a0_9 a0_10 a0_11 a0_12 a0_13 a0_14 a0_15 a0_16) 24 (0, 0))) := ⟨(by rw [hw]; exact (by (with_reducible repeat (first | refine blk_drewN ?_ _ | refine blk_drew ?_ | refine blk_alloc ?_ _)); refine blk_farC NB296_336.out _ _ ?_; (with_reducible repeat (first | refine blk_drewN ?_ _ | refine blk_drew ?_ | refine blk_alloc ?_ _)); exact BK296.out))⟩; have n1_ : Aside0 (w40.heap[gb297]? = some (.cells az_ 24 (0, 0))) := ⟨(by rw [hw]; exact (by (with_reducible repeat (first | refine blk_drewN ?_ _ | refine blk_drew ?_ | refine blk_alloc ?_ _)); refine blk_farC NB297_336.out _ _ ?_; (with_reducible repeat (first | refine blk_drewN ?_ _ | refine blk_drew ?_ | refine blk_alloc ?_ _)); exact BK297.out))⟩; have n2_ : Aside0 (w40.heap[gb336]? = some (.cells (ag_ t319 t320 t321 t322 t323 t324 t325 t326 t327 t328 t329 t330 t331 t332 t333 t334 t335) 24 (0, 0))) := ⟨(by rw [hw]; exact (by (with_reducible repeat (first | refine blk_drewN ?_ _ | refine blk_drew ?_ | refine blk_alloc ?_ _)); refine blk_part (al_ t319 t320 t321 t322 t323 t324 t325 t326 t327 t328 t329 t330 t331 t332 t333 t334 t335) ay_ [] [] (cs := az_) ?_ rfl rfl rfl; (with_reducible repeat (first | refine blk_drewN ?_ _ | refine blk_drew ?_ | refine blk_alloc ?_ _)); exact BK336.out))⟩; have n3_ : Aside0 (Below w.heap.size w w40) := ⟨(by rw [hw]; exact (by repeat (first | (with_reducible first | exact HB.out | apply below_alloc | apply pw_below_drewN | apply below_drew1 | refine below_set ?_ GE296.out | refine below_set ?_ GE297.out | refine below_set ?_ GE336.out | refine below_setC GE296.out _ _ ?_ | refine below_setC GE297.out _ _ ?_ | refine below_setC GE336.out _ _ ?_) | exact HB.out)))⟩; clear hw; clear BK296; clear BK297; clear BK336; clear HB; have BK296 := n0_; have BK297 := n1_; have BK336 := n2_; have HB := n3_; clear n0_ n1_ n2_ n3_))
        replace BK296 := Aside0.mk (blk_drew BK296.out)
        replace BK297 := Aside0.mk (blk_drew BK297.out)
        replace BK336 := Aside0.mk (blk_drew BK336.out)
        replace HB := Aside0.mk (below_drew1 HB.out)
        refine start_ (n := 8) (S := fun w' => (Instr.loadAt 24 (.pointer (some ⟨gb336, 0, none⟩))).run Tryd.prog w' = .ok (.agg (ag_ t319 t320 t321 t322 t323 t324 t325 t326 t327 t328 t329 t330 t331 t332 t333 t334 t335)) w' ∧ (Instr.loadAt 24 (.pointer (some ⟨gb336, 0, none⟩))).run Tryd.prog w' = .ok (.agg (ag_ t319 t320 t321 t322 t323 t324 t325 t326 t327 t328 t329 t330 t331 t332 t333 t334 t335)) w') (ds := []) (bv_ 0 8) (by kernel_rfl) rfl rfl ⟨(run_load_box BK336.out 24 [] (al_ t319 t320 t321 t322 t323 t324 t325 t326 t327 t328 t329 t330 t331 t332 t333 t334 t335) [] rfl 0 rfl Tryd.underlying24 rfl (by kernel_rfl)), (run_load_box BK336.out 24 [] (al_ t319 t320 t321 t322 t323 t324 t325 t326 t327 t328 t329 t330 t331 t332 t333 t334 t335) [] rfl 0 rfl Tryd.underlying24 rfl (by kernel_rfl))⟩ (fun hHeld => ?_); refine with_tabW ip_Embeds.tab9 ip_Embeds.bits9 (fun HT_ HW_ => ?_)
        generalize w40.drew = w41 at BK296 BK297 BK336 HB hHeld ⊢
        refine tl_ 0 28 ?_ 1 7 HT_ HW_ ?_ hHeld ?_ ?_ ?_
        rotate_left
        ·rintro w' ⟨s0, s1⟩
         first | (refine (load_exec rfl rfl s0).trans ?_; with_reducible rfl) | (refine (load_exec rfl rfl s1).trans ?_; with_reducible rfl) | (go_simp; with_reducible rfl)
        rotate_left
        ·simp only [Act.put, sa_, s0_, s1_, i64_w, i32_w]
         rfl
        refine one_ (i := 1) (N := some 29) (bv_ 2 6) rfl rfl (one_of HT_.out (by kernel_rfl)) (by decide) (fun K hK => ?_)
        refine goes_ Tryd.func38 (by kernel_rfl) rfl #[.int .u8 0, .int .u8 0, .int .u8 0, .int .u8 0] (by rfl) rfl rfl lq_ ?_
        with_reducible refine (ip_V4.calls 0 0 0 0 t337 t338 t339 t340 t341 t342 t343 t344 t345 t346 t347 t348 t349 t350 t351 t352 t353 _ ?side1 A20.out).mono ?_
        (case side1 => exact lg_)
        rintro e w42 ⟨rfl, hb⟩
        refine ⟨_, rfl, ?_⟩
        replace BK296 := Aside0.mk (bb_ BK296 hb)
        replace BK297 := Aside0.mk (bb_ BK297 hb)
        replace BK336 := Aside0.mk (bb_ BK336 hb)
        replace HB := Aside0.mk (below_step bg_ hb)
        (try clear hb)
        (try clear hb2)
        (try clear hk)
        (try clear hi)
        refine hK.out _ _ ⟨(run_load_box BK336.out 24 [] (al_ t319 t320 t321 t322 t323 t324 t325 t326 t327 t328 t329 t330 t331 t332 t333 t334 t335) [] rfl 0 rfl Tryd.underlying24 rfl (by kernel_rfl)), (run_load_box BK336.out 24 [] (al_ t319 t320 t321 t322 t323 t324 t325 t326 t327 t328 t329 t330 t331 t332 t333 t334 t335) [] rfl 0 rfl Tryd.underlying24 rfl (by kernel_rfl))⟩ (fun hHeld => ?_)
        clear hK K
        refine norm_ (a' := ?_) ?_ ?_
        rotate_left
        ·show Act.put _ (some 29) _ = _
         simp only [Act.put, sa_, s0_, s1_, i64_w, i32_w]
         rfl
        refine pl_ 2 30 ?_ 3 5 HT_ ?_ ?_ ?_ ?_
        rotate_left
        ·intro w'
         go_simp
         with_reducible rfl
        rotate_left
        ·simp only [Act.put, sa_, s0_, s1_, i64_w, i32_w]
         rfl
        refine pl_ 3 31 ?_ 4 4 HT_ ?_ ?_ ?_ ?_
        rotate_left
        ·intro w'
         go_simp
         with_reducible rfl
        rotate_left
        ·simp only [Act.put, sa_, s0_, s1_, i64_w, i32_w]
         rfl
        refine tl_ 4 32 ?_ 5 3 HT_ HW_ ?_ hHeld ?_ ?_ ?_
        rotate_left
        ·rintro w' ⟨s0, s1⟩
         first | (refine (load_exec rfl rfl s0).trans ?_; with_reducible rfl) | (refine (load_exec rfl rfl s1).trans ?_; with_reducible rfl) | (go_simp; with_reducible rfl)
        rotate_left
        ·simp only [Act.put, sa_, s0_, s1_, i64_w, i32_w]
         rfl
        refine one_ (i := 5) (N := some 33) (bv_ 6 2) rfl rfl (one_of HT_.out (by kernel_rfl)) (by decide) (fun K hK => ?_)
        refine goes_ Tryd.func38 (by kernel_rfl) rfl #[.int .u8 0, .int .u8 0, .int .u8 0, .int .u8 1] (by rfl) rfl rfl lq_ ?_
        with_reducible refine (ip_V4.calls 0 0 0 1 t354 t355 t356 t357 t358 t359 t360 t361 t362 t363 t364 t365 t366 t367 t368 t369 t370 _ ?side1 A33.out).mono ?_
        (case side1 => exact lg_)
        rintro e w43 ⟨rfl, hb⟩
        refine ⟨_, rfl, ?_⟩
        replace BK296 := Aside0.mk (bb_ BK296 hb)
        replace BK297 := Aside0.mk (bb_ BK297 hb)
        replace BK336 := Aside0.mk (bb_ BK336 hb)
        replace HB := Aside0.mk (below_step bg_ hb)
        (try clear hb)
        (try clear hb2)
        (try clear hk)
        (try clear hi)
        refine hK.out _ _ ⟨(run_load_box BK336.out 24 [] (al_ t319 t320 t321 t322 t323 t324 t325 t326 t327 t328 t329 t330 t331 t332 t333 t334 t335) [] rfl 0 rfl Tryd.underlying24 rfl (by kernel_rfl)), (run_load_box BK336.out 24 [] (al_ t319 t320 t321 t322 t323 t324 t325 t326 t327 t328 t329 t330 t331 t332 t333 t334 t335) [] rfl 0 rfl Tryd.underlying24 rfl (by kernel_rfl))⟩ (fun hHeld => ?_)
        clear hK K
        refine norm_ (a' := ?_) ?_ ?_
        rotate_left
        ·show Act.put _ (some 33) _ = _
         simp only [Act.put, sa_, s0_, s1_, i64_w, i32_w]
         rfl
        refine pl_ 6 34 ?_ 7 1 HT_ ?_ ?_ ?_ ?_
        rotate_left
        ·intro w'
         go_simp
         with_reducible rfl
        rotate_left
        ·simp only [Act.put, sa_, s0_, s1_, i64_w, i32_w]
         rfl
        refine pl_ 7 35 ?_ 8 0 HT_ ?_ ?_ ?_ ?_
        rotate_left
        ·intro w'
         go_simp
         with_reducible rfl
        rotate_left
        ·simp only [Act.put, sa_, s0_, s1_, i64_w, i32_w]
         rfl
        refine done_ (done_of HT_.out (by kernel_rfl)) ?_
        have hnb44 := NB297_296.out
        have hnc44 := NB296_297.out
        have hcz45_0 := cz_ BK297 0 (.bool false)
        have hcz45_1 := cz_ BK297 1 (.int .u8 0)
        have hcz45_2 := cz_ BK297 2 (.int .u8 0)
        have hcz45_3 := cz_ BK297 3 (.int .u8 0)
        have hcz45_4 := cz_ BK297 4 (.int .u8 0)
        have hcz45_5 := cz_ BK297 5 (.int .u8 0)
        have hcz45_6 := cz_ BK297 6 (.int .u8 0)
        have hcz45_7 := cz_ BK297 7 (.int .u8 0)
        have hcz45_8 := cz_ BK297 8 (.int .u8 0)
        have hcz45_9 := cz_ BK297 9 (.int .u8 0)
        have hcz45_10 := cz_ BK297 10 (.int .u8 0)
        have hcz45_11 := cz_ BK297 11 (.int .u8 0)
        have hcz45_12 := cz_ BK297 12 (.int .u8 0)
        have hcz45_13 := cz_ BK297 13 (.int .u8 0)
        have hcz45_14 := cz_ BK297 14 (.int .u8 0)
        have hcz45_15 := cz_ BK297 15 (.int .u8 0)
        have hcz45_16 := cz_ BK297 16 (.int .u8 0)
        try go_wp2_with (first | ((with_reducible refine gate_store (t := 24) (p := 2) rfl ?_); refine store_all ?hg 24 2 _ rfl rfl gb297 ay_ ay_ BK297.out rfl rfl rfl (by kernel_rfl) rfl ?_; (case hg => rfl); intro w46 hw; have n0_ : Aside0 (w46.heap[gb296]? = some (.cells (ag_ true a0_1 a0_2 a0_3 a0_4 a0_5 a0_6 a0_7 a0_8 a0_9 a0_10 a0_11 a0_12 a0_13 a0_14 a0_15 a0_16) 24 (0, 0))) := ⟨(by rw [hw]; exact (by (with_reducible repeat (first | refine blk_drewN ?_ _ | refine blk_drew ?_ | refine blk_alloc ?_ _)); refine blk_farC NB296_297.out _ _ ?_; (with_reducible repeat (first | refine blk_drewN ?_ _ | refine blk_drew ?_ | refine blk_alloc ?_ _)); exact BK296.out))⟩; have n1_ : Aside0 (w46.heap[gb297]? = some (.cells az_ 24 (0, 0))) := ⟨(by rw [hw]; exact (by (with_reducible repeat (first | refine blk_drewN ?_ _ | refine blk_drew ?_ | refine blk_alloc ?_ _)); refine blk_part ay_ ay_ [] [] (cs := az_) ?_ rfl rfl rfl; (with_reducible repeat (first | refine blk_drewN ?_ _ | refine blk_drew ?_ | refine blk_alloc ?_ _)); exact BK297.out))⟩; have n2_ : Aside0 (w46.heap[gb336]? = some (.cells (ag_ t319 t320 t321 t322 t323 t324 t325 t326 t327 t328 t329 t330 t331 t332 t333 t334 t335) 24 (0, 0))) := ⟨(by rw [hw]; exact (by (with_reducible repeat (first | refine blk_drewN ?_ _ | refine blk_drew ?_ | refine blk_alloc ?_ _)); refine blk_farC NB336_297.out _ _ ?_; (with_reducible repeat (first | refine blk_drewN ?_ _ | refine blk_drew ?_ | refine blk_alloc ?_ _)); exact BK336.out))⟩; have n3_ : Aside0 (Below w.heap.size w w46) := ⟨(by rw [hw]; exact (by repeat (first | (with_reducible first | exact HB.out | apply below_alloc | apply pw_below_drewN | apply below_drew1 | refine below_set ?_ GE296.out | refine below_set ?_ GE297.out | refine below_set ?_ GE336.out | refine below_setC GE296.out _ _ ?_ | refine below_setC GE297.out _ _ ?_ | refine below_setC GE336.out _ _ ?_) | exact HB.out)))⟩; clear hw; clear BK296; clear BK297; clear BK336; clear HB; have BK296 := n0_; have BK297 := n1_; have BK336 := n2_; have HB := n3_; clear n0_ n1_ n2_ n3_))
        refine bodyPost_ret (results_ct rfl _ _ gb297 24 az_ (0, 0) _ rfl bk_ Tryd.underlying24 rfl (by kernel_rfl)) rfl ?_
        exact ⟨rq_, bg_⟩
       ·rw [if_neg c34] at H
        have c34b0 : (t319 == t354 && ((t320 == t355 && (t321 == t356 && (t322 == t357 && (t323 == t358 && (t324 == t359 && (t325 == t360 && (t326 == t361 && (t327 == t362 && (t328 == t363 && (t329 == t364 && (t330 == t365 && (t331 == t366 && (t332 == t367 && (t333 == t368 && (t334 == t369 && (t335 == t370)))))))))))))))))) = false := by simpa using c34
        (try (have c34b3 : ¬ (t319 = t354 && ((t320 == t355 && (t321 == t356 && (t322 == t357 && (t323 == t358 && (t324 == t359 && (t325 == t360 && (t326 == t361 && (t327 == t362 && (t328 == t363 && (t329 == t364 && (t330 == t365 && (t331 == t366 && (t332 == t367 && (t333 == t368 && (t334 == t369 && (t335 == t370)))))))))))))))))) := by simpa using c34))
        clear c34
        simp only [Option.some.injEq, Prod.mk.injEq] at H
        obtain ⟨rfl, rfl, rfl, rfl, rfl, rfl, rfl, rfl, rfl, rfl, rfl, rfl, rfl, rfl, rfl, rfl, rfl, rfl⟩ := H
        have HR318 := Aside0.mk (C_arr BK296.out .u8 [.bool true, .int .u8 a0_1, .int .u8 a0_2, .int .u8 a0_3, .int .u8 a0_4, .int .u8 a0_5, .int .u8 a0_6, .int .u8 a0_7, .int .u8 a0_8, .int .u8 a0_9, .int .u8 a0_10, .int .u8 a0_11, .int .u8 a0_12] [a0_13, a0_14, a0_15, a0_16] [] rfl (q := 13) rfl (by show 4 ≤ 9223372036854775807; decide))
        have HC318 := Aside0.mk (show ([a0_13, a0_14, a0_15, a0_16] : List Int).length ≤ 4 from by show 4 ≤ 4; decide)
        have hl318 : ([a0_13, a0_14, a0_15, a0_16] : List Int).length = 4 := rfl
        try go_wp2_with (first | ((with_reducible refine gate_callee (f := 42) rfl ?_); refine goesL_ (some 27) rfl rfl Tryd.func42 (by kernel_rfl) rfl #[.slice (some ⟨gb296, 13, none⟩) ([a0_13, a0_14, a0_15, a0_16] : List Int).length 4] rfl (by (try simp only [List.map_toArray, List.map_cons, List.map_nil]); first | done | (rw [show ([a0_13, a0_14, a0_15, a0_16] : List Int).length = 4 from rfl] <;> rfl) | rfl | (simp only [List.length_drop, List.length_take]; rfl)) ?_; (with_reducible refine (ip_last.calls _ _ ([a0_13, a0_14, a0_15, a0_16] : List Int) t319 t320 t321 t322 t323 t324 t325 t326 t327 t328 t329 t330 t331 t332 t333 t334 t335 _ ?side3 ?side1 ?side2 A19.out).mono ?_); (case side1 => repeat (first | exact (by repeat (first | (with_reducible exact HR318.out) | (with_reducible refine Kd.C_alloc ?_ _) | (with_reducible refine Kd.C_drewN ?_ _) | (with_reducible refine Kd.C_drew ?_) | exact HR318.out)) | (with_reducible refine Kd.C_alloc ?_ _) | (with_reducible refine Kd.C_drewN ?_ _) | (with_reducible refine Kd.C_drew ?_))); (case side2 => exact HC318.out); (case side3 => exact lg_); rintro e w47 ⟨rfl, hb⟩; refine ⟨_, rfl, ?_⟩; replace BK296 := Aside0.mk (bb_ BK296 hb); replace BK297 := Aside0.mk (bb_ BK297 hb); replace HR298 := Aside0.mk (Kd.C_below (by repeat (first | (with_reducible exact HR298.out) | (with_reducible refine Kd.C_alloc ?_ _) | (with_reducible refine Kd.C_drewN ?_ _) | (with_reducible refine Kd.C_drew ?_) | exact HR298.out)) hb); replace HR318 := Aside0.mk (Kd.C_below (by repeat (first | (with_reducible exact HR318.out) | (with_reducible refine Kd.C_alloc ?_ _) | (with_reducible refine Kd.C_drewN ?_ _) | (with_reducible refine Kd.C_drew ?_) | exact HR318.out)) hb); replace HB := Aside0.mk (below_step bg_ hb); (try clear hb); (try clear hb2); (try clear hk); (try clear hi)) | ((with_reducible refine gate_dst (N := 5) rfl ?_); refine box_event ?hg (N := 5) ?hd (cs := az_) (t := 24) ?hr ?_; (case hd => rfl); (case hg => rfl); (case hr => first | (go_simp; done) | (go_simp; rfl)); intro gb336 hg w48 hbox hb; have n0_ := Aside0.mk (bb_ BK296 hb); have n1_ := Aside0.mk (bb_ BK297 hb); have n2_ := Aside0.mk (Kd.C_below (by repeat (first | (with_reducible exact HR298.out) | (with_reducible refine Kd.C_alloc ?_ _) | (with_reducible refine Kd.C_drewN ?_ _) | (with_reducible refine Kd.C_drew ?_) | exact HR298.out)) hb); have n3_ := Aside0.mk (Kd.C_below (by repeat (first | (with_reducible exact HR318.out) | (with_reducible refine Kd.C_alloc ?_ _) | (with_reducible refine Kd.C_drewN ?_ _) | (with_reducible refine Kd.C_drew ?_) | exact HR318.out)) hb); have n4_ := Aside0.mk (below_step bg_ hb); have n5_ := Aside0.mk (hbox); have n6_ := Aside0.mk (show w.heap.size ≤ gb336 from gg_ hg); have n7_ := Aside0.mk (show w.heap.size ≤ gb336 from gg_ hg); have n8_ := Aside0.mk (show gb296 ≠ gb336 from nl_ BK296 hg); have n9_ := Aside0.mk (show gb336 ≠ gb296 from ng_ BK296 hg); have n10_ := Aside0.mk (show gb297 ≠ gb336 from nl_ BK297 hg); have n11_ := Aside0.mk (show gb336 ≠ gb297 from ng_ BK297 hg); clear BK296; clear BK297; clear HR298; clear HR318; clear HB; have BK296 := n0_; have BK297 := n1_; have HR298 := n2_; have HR318 := n3_; have HB := n4_; have BK336 := n5_; have GW336 := n6_; have GE336 := n7_; have NB296_336 := n8_; have NB336_296 := n9_; have NB297_336 := n10_; have NB336_297 := n11_; clear n0_ n1_ n2_ n3_ n4_ n5_ n6_ n7_ n8_ n9_ n10_ n11_; clear hb hbox hg; have hnb49 := NB336_296.out; have hnc49 := NB296_336.out; have hnb50 := NB336_297.out; have hnc50 := NB297_336.out; have hcz51_0 := cz_ BK336 0 (.bool false); have hcz51_1 := cz_ BK336 1 (.int .u8 0); have hcz51_2 := cz_ BK336 2 (.int .u8 0); have hcz51_3 := cz_ BK336 3 (.int .u8 0); have hcz51_4 := cz_ BK336 4 (.int .u8 0); have hcz51_5 := cz_ BK336 5 (.int .u8 0); have hcz51_6 := cz_ BK336 6 (.int .u8 0); have hcz51_7 := cz_ BK336 7 (.int .u8 0); have hcz51_8 := cz_ BK336 8 (.int .u8 0); have hcz51_9 := cz_ BK336 9 (.int .u8 0); have hcz51_10 := cz_ BK336 10 (.int .u8 0); have hcz51_11 := cz_ BK336 11 (.int .u8 0); have hcz51_12 := cz_ BK336 12 (.int .u8 0); have hcz51_13 := cz_ BK336 13 (.int .u8 0); have hcz51_14 := cz_ BK336 14 (.int .u8 0); have hcz51_15 := cz_ BK336 15 (.int .u8 0); have hcz51_16 := cz_ BK336 16 (.int .u8 0)) | ((with_reducible refine gate_store (t := 24) (p := 5) rfl ?_); refine store_all ?hg 24 5 _ rfl rfl gb336 ay_ (al_ t319 t320 t321 t322 t323 t324 t325 t326 t327 t328 t329 t330 t331 t332 t333 t334 t335) BK336.out rfl rfl rfl (by kernel_rfl) rfl ?_; (case hg => rfl); intro w52 hw; have n0_ : Aside0 (w52.heap[gb296]? = some (.cells (ag_ true a0_1 a0_2 a0_3 a0_4 a0_5 a0_6 a0_7 a0_8 a0_9 a0_10 a0_11 a0_12 a0_13 a0_14 a0_15 a0_16) 24 (0, 0))) := ⟨(by rw [hw]; exact (by (with_reducible repeat (first | refine blk_drewN ?_ _ | refine blk_drew ?_ | refine blk_alloc ?_ _)); refine blk_farC NB296_336.out _ _ ?_; (with_reducible repeat (first | refine blk_drewN ?_ _ | refine blk_drew ?_ | refine blk_alloc ?_ _)); exact BK296.out))⟩; have n1_ : Aside0 (w52.heap[gb297]? = some (.cells az_ 24 (0, 0))) := ⟨(by rw [hw]; exact (by (with_reducible repeat (first | refine blk_drewN ?_ _ | refine blk_drew ?_ | refine blk_alloc ?_ _)); refine blk_farC NB297_336.out _ _ ?_; (with_reducible repeat (first | refine blk_drewN ?_ _ | refine blk_drew ?_ | refine blk_alloc ?_ _)); exact BK297.out))⟩; have n2_ : Aside0 (w52.heap[gb336]? = some (.cells (ag_ t319 t320 t321 t322 t323 t324 t325 t326 t327 t328 t329 t330 t331 t332 t333 t334 t335) 24 (0, 0))) := ⟨(by rw [hw]; exact (by (with_reducible repeat (first | refine blk_drewN ?_ _ | refine blk_drew ?_ | refine blk_alloc ?_ _)); refine blk_part (al_ t319 t320 t321 t322 t323 t324 t325 t326 t327 t328 t329 t330 t331 t332 t333 t334 t335) ay_ [] [] (cs := az_) ?_ rfl rfl rfl; (with_reducible repeat (first | refine blk_drewN ?_ _ | refine blk_drew ?_ | refine blk_alloc ?_ _)); exact BK336.out))⟩; have n3_ : Aside0 (Below w.heap.size w w52) := ⟨(by rw [hw]; exact (by repeat (first | (with_reducible first | exact HB.out | apply below_alloc | apply pw_below_drewN | apply below_drew1 | refine below_set ?_ GE296.out | refine below_set ?_ GE297.out | refine below_set ?_ GE336.out | refine below_setC GE296.out _ _ ?_ | refine below_setC GE297.out _ _ ?_ | refine below_setC GE336.out _ _ ?_) | exact HB.out)))⟩; clear hw; clear BK296; clear BK297; clear BK336; clear HB; have BK296 := n0_; have BK297 := n1_; have BK336 := n2_; have HB := n3_; clear n0_ n1_ n2_ n3_))
        replace BK296 := Aside0.mk (blk_drew BK296.out)
        replace BK297 := Aside0.mk (blk_drew BK297.out)
        replace BK336 := Aside0.mk (blk_drew BK336.out)
        replace HB := Aside0.mk (below_drew1 HB.out)
        refine start_ (n := 8) (S := fun w' => (Instr.loadAt 24 (.pointer (some ⟨gb336, 0, none⟩))).run Tryd.prog w' = .ok (.agg (ag_ t319 t320 t321 t322 t323 t324 t325 t326 t327 t328 t329 t330 t331 t332 t333 t334 t335)) w' ∧ (Instr.loadAt 24 (.pointer (some ⟨gb336, 0, none⟩))).run Tryd.prog w' = .ok (.agg (ag_ t319 t320 t321 t322 t323 t324 t325 t326 t327 t328 t329 t330 t331 t332 t333 t334 t335)) w') (ds := []) (bv_ 0 8) (by kernel_rfl) rfl rfl ⟨(run_load_box BK336.out 24 [] (al_ t319 t320 t321 t322 t323 t324 t325 t326 t327 t328 t329 t330 t331 t332 t333 t334 t335) [] rfl 0 rfl Tryd.underlying24 rfl (by kernel_rfl)), (run_load_box BK336.out 24 [] (al_ t319 t320 t321 t322 t323 t324 t325 t326 t327 t328 t329 t330 t331 t332 t333 t334 t335) [] rfl 0 rfl Tryd.underlying24 rfl (by kernel_rfl))⟩ (fun hHeld => ?_); refine with_tabW ip_Embeds.tab9 ip_Embeds.bits9 (fun HT_ HW_ => ?_)
        generalize w52.drew = w53 at BK296 BK297 BK336 HB hHeld ⊢
        refine tl_ 0 28 ?_ 1 7 HT_ HW_ ?_ hHeld ?_ ?_ ?_
        rotate_left
        ·rintro w' ⟨s0, s1⟩
         first | (refine (load_exec rfl rfl s0).trans ?_; with_reducible rfl) | (refine (load_exec rfl rfl s1).trans ?_; with_reducible rfl) | (go_simp; with_reducible rfl)
        rotate_left
        ·simp only [Act.put, sa_, s0_, s1_, i64_w, i32_w]
         rfl
        refine one_ (i := 1) (N := some 29) (bv_ 2 6) rfl rfl (one_of HT_.out (by kernel_rfl)) (by decide) (fun K hK => ?_)
        refine goes_ Tryd.func38 (by kernel_rfl) rfl #[.int .u8 0, .int .u8 0, .int .u8 0, .int .u8 0] (by rfl) rfl rfl lq_ ?_
        with_reducible refine (ip_V4.calls 0 0 0 0 t337 t338 t339 t340 t341 t342 t343 t344 t345 t346 t347 t348 t349 t350 t351 t352 t353 _ ?side1 A20.out).mono ?_
        (case side1 => exact lg_)
        rintro e w54 ⟨rfl, hb⟩
        refine ⟨_, rfl, ?_⟩
        replace BK296 := Aside0.mk (bb_ BK296 hb)
        replace BK297 := Aside0.mk (bb_ BK297 hb)
        replace BK336 := Aside0.mk (bb_ BK336 hb)
        replace HB := Aside0.mk (below_step bg_ hb)
        (try clear hb)
        (try clear hb2)
        (try clear hk)
        (try clear hi)
        refine hK.out _ _ ⟨(run_load_box BK336.out 24 [] (al_ t319 t320 t321 t322 t323 t324 t325 t326 t327 t328 t329 t330 t331 t332 t333 t334 t335) [] rfl 0 rfl Tryd.underlying24 rfl (by kernel_rfl)), (run_load_box BK336.out 24 [] (al_ t319 t320 t321 t322 t323 t324 t325 t326 t327 t328 t329 t330 t331 t332 t333 t334 t335) [] rfl 0 rfl Tryd.underlying24 rfl (by kernel_rfl))⟩ (fun hHeld => ?_)
        clear hK K
        refine norm_ (a' := ?_) ?_ ?_
        rotate_left
        ·show Act.put _ (some 29) _ = _
         simp only [Act.put, sa_, s0_, s1_, i64_w, i32_w]
         rfl
        refine pl_ 2 30 ?_ 3 5 HT_ ?_ ?_ ?_ ?_
        rotate_left
        ·intro w'
         go_simp
         with_reducible rfl
        rotate_left
        ·simp only [Act.put, sa_, s0_, s1_, i64_w, i32_w]
         rfl
        refine pl_ 3 31 ?_ 4 4 HT_ ?_ ?_ ?_ ?_
        rotate_left
        ·intro w'
         go_simp
         with_reducible rfl
        rotate_left
        ·simp only [Act.put, sa_, s0_, s1_, i64_w, i32_w]
         rfl
        refine tl_ 4 32 ?_ 5 3 HT_ HW_ ?_ hHeld ?_ ?_ ?_
        rotate_left
        ·rintro w' ⟨s0, s1⟩
         first | (refine (load_exec rfl rfl s0).trans ?_; with_reducible rfl) | (refine (load_exec rfl rfl s1).trans ?_; with_reducible rfl) | (go_simp; with_reducible rfl)
        rotate_left
        ·simp only [Act.put, sa_, s0_, s1_, i64_w, i32_w]
         rfl
        refine one_ (i := 5) (N := some 33) (bv_ 6 2) rfl rfl (one_of HT_.out (by kernel_rfl)) (by decide) (fun K hK => ?_)
        refine goes_ Tryd.func38 (by kernel_rfl) rfl #[.int .u8 0, .int .u8 0, .int .u8 0, .int .u8 1] (by rfl) rfl rfl lq_ ?_
        with_reducible refine (ip_V4.calls 0 0 0 1 t354 t355 t356 t357 t358 t359 t360 t361 t362 t363 t364 t365 t366 t367 t368 t369 t370 _ ?side1 A33.out).mono ?_
        (case side1 => exact lg_)
        rintro e w55 ⟨rfl, hb⟩
        refine ⟨_, rfl, ?_⟩
        replace BK296 := Aside0.mk (bb_ BK296 hb)
        replace BK297 := Aside0.mk (bb_ BK297 hb)
        replace BK336 := Aside0.mk (bb_ BK336 hb)
        replace HB := Aside0.mk (below_step bg_ hb)
        (try clear hb)
        (try clear hb2)
        (try clear hk)
        (try clear hi)
        refine hK.out _ _ ⟨(run_load_box BK336.out 24 [] (al_ t319 t320 t321 t322 t323 t324 t325 t326 t327 t328 t329 t330 t331 t332 t333 t334 t335) [] rfl 0 rfl Tryd.underlying24 rfl (by kernel_rfl)), (run_load_box BK336.out 24 [] (al_ t319 t320 t321 t322 t323 t324 t325 t326 t327 t328 t329 t330 t331 t332 t333 t334 t335) [] rfl 0 rfl Tryd.underlying24 rfl (by kernel_rfl))⟩ (fun hHeld => ?_)
        clear hK K
        refine norm_ (a' := ?_) ?_ ?_
        rotate_left
        ·show Act.put _ (some 33) _ = _
         simp only [Act.put, sa_, s0_, s1_, i64_w, i32_w]
         rfl
        refine pl_ 6 34 ?_ 7 1 HT_ ?_ ?_ ?_ ?_
        rotate_left
        ·intro w'
         go_simp
         with_reducible rfl
        rotate_left
        ·simp only [Act.put, sa_, s0_, s1_, i64_w, i32_w]
         rfl
        refine pl_ 7 35 ?_ 8 0 HT_ ?_ ?_ ?_ ?_
        rotate_left
        ·intro w'
         go_simp
         with_reducible rfl
        rotate_left
        ·simp only [Act.put, sa_, s0_, s1_, i64_w, i32_w]
         rfl
        refine done_ (done_of HT_.out (by kernel_rfl)) ?_
        have hnb56 := NB297_296.out
        have hnc56 := NB296_297.out
        have hcz57_0 := cz_ BK297 0 (.bool false)
        have hcz57_1 := cz_ BK297 1 (.int .u8 0)
        have hcz57_2 := cz_ BK297 2 (.int .u8 0)
        have hcz57_3 := cz_ BK297 3 (.int .u8 0)
        have hcz57_4 := cz_ BK297 4 (.int .u8 0)
        have hcz57_5 := cz_ BK297 5 (.int .u8 0)
        have hcz57_6 := cz_ BK297 6 (.int .u8 0)
        have hcz57_7 := cz_ BK297 7 (.int .u8 0)
        have hcz57_8 := cz_ BK297 8 (.int .u8 0)
        have hcz57_9 := cz_ BK297 9 (.int .u8 0)
        have hcz57_10 := cz_ BK297 10 (.int .u8 0)
        have hcz57_11 := cz_ BK297 11 (.int .u8 0)
        have hcz57_12 := cz_ BK297 12 (.int .u8 0)
        have hcz57_13 := cz_ BK297 13 (.int .u8 0)
        have hcz57_14 := cz_ BK297 14 (.int .u8 0)
        have hcz57_15 := cz_ BK297 15 (.int .u8 0)
        have hcz57_16 := cz_ BK297 16 (.int .u8 0)
        try go_wp2_with (first | ((with_reducible refine gate_dst (N := 37) rfl ?_); (try (refine gate_guard (by rfl) ?_; dsimp only)); refine load_box ?hg 24 (.tmp 5) rfl BK336.out [] (al_ t319 t320 t321 t322 t323 t324 t325 t326 t327 t328 t329 t330 t331 t332 t333 t334 t335) [] rfl 0 rfl rfl Tryd.underlying24 rfl (by kernel_rfl) ?_; (case hg => rfl)) | ((with_reducible refine gate_store (t := 24) (p := 2) rfl ?_); refine store_all ?hg 24 2 _ rfl rfl gb297 ay_ (al_ t319 t320 t321 t322 t323 t324 t325 t326 t327 t328 t329 t330 t331 t332 t333 t334 t335) BK297.out rfl rfl rfl (by kernel_rfl) rfl ?_; (case hg => rfl); intro w58 hw; have n0_ : Aside0 (w58.heap[gb296]? = some (.cells (ag_ true a0_1 a0_2 a0_3 a0_4 a0_5 a0_6 a0_7 a0_8 a0_9 a0_10 a0_11 a0_12 a0_13 a0_14 a0_15 a0_16) 24 (0, 0))) := ⟨(by rw [hw]; exact (by (with_reducible repeat (first | refine blk_drewN ?_ _ | refine blk_drew ?_ | refine blk_alloc ?_ _)); refine blk_farC NB296_297.out _ _ ?_; (with_reducible repeat (first | refine blk_drewN ?_ _ | refine blk_drew ?_ | refine blk_alloc ?_ _)); exact BK296.out))⟩; have n1_ : Aside0 (w58.heap[gb297]? = some (.cells (ag_ t319 t320 t321 t322 t323 t324 t325 t326 t327 t328 t329 t330 t331 t332 t333 t334 t335) 24 (0, 0))) := ⟨(by rw [hw]; exact (by (with_reducible repeat (first | refine blk_drewN ?_ _ | refine blk_drew ?_ | refine blk_alloc ?_ _)); refine blk_part (al_ t319 t320 t321 t322 t323 t324 t325 t326 t327 t328 t329 t330 t331 t332 t333 t334 t335) ay_ [] [] (cs := az_) ?_ rfl rfl rfl; (with_reducible repeat (first | refine blk_drewN ?_ _ | refine blk_drew ?_ | refine blk_alloc ?_ _)); exact BK297.out))⟩; have n2_ : Aside0 (w58.heap[gb336]? = some (.cells (ag_ t319 t320 t321 t322 t323 t324 t325 t326 t327 t328 t329 t330 t331 t332 t333 t334 t335) 24 (0, 0))) := ⟨(by rw [hw]; exact (by (with_reducible repeat (first | refine blk_drewN ?_ _ | refine blk_drew ?_ | refine blk_alloc ?_ _)); refine blk_farC NB336_297.out _ _ ?_; (with_reducible repeat (first | refine blk_drewN ?_ _ | refine blk_drew ?_ | refine blk_alloc ?_ _)); exact BK336.out))⟩; have n3_ : Aside0 (Below w.heap.size w w58) := ⟨(by rw [hw]; exact (by repeat (first | (with_reducible first | exact HB.out | apply below_alloc | apply pw_below_drewN | apply below_drew1 | refine below_set ?_ GE296.out | refine below_set ?_ GE297.out | refine below_set ?_ GE336.out | refine below_setC GE296.out _ _ ?_ | refine below_setC GE297.out _ _ ?_ | refine below_setC GE336.out _ _ ?_) | exact HB.out)))⟩; clear hw; clear BK296; clear BK297; clear BK336; clear HB; have BK296 := n0_; have BK297 := n1_; have BK336 := n2_; have HB := n3_; clear n0_ n1_ n2_ n3_))
        refine bodyPost_ret (results_ct rfl _ _ gb297 24 (ag_ t319 t320 t321 t322 t323 t324 t325 t326 t327 t328 t329 t330 t331 t332 t333 t334 t335) (0, 0) _ rfl bk_ Tryd.underlying24 rfl (by kernel_rfl)) rfl ?_
        exact ⟨rq_, bg_⟩
     ·rw [if_neg c18] at H
      have c18b0 : ((strOfNums ([a0_1, a0_2, a0_3, a0_4, a0_5, a0_6, a0_7, a0_8, a0_9, a0_10, a0_11, a0_12] : List Int)).toList == ([0, 0, 0, 0, 0, 0, 0, 0, 0, 0, 0, 0] : List UInt8)) = false := beq_eq_false_iff_ne.mpr c18
      have c18b1 : ((strOfNums ([a0_1, a0_2, a0_3, a0_4, a0_5, a0_6, a0_7, a0_8, a0_9, a0_10, a0_11, a0_12] : List Int)).toList != ([0, 0, 0, 0, 0, 0, 0, 0, 0, 0, 0, 0] : List UInt8)) = true := bne_iff_ne.mpr c18
      by_cases c59 : a0_1 = 32
      ·rw [if_pos c59] at H
       have c59b0 : (a0_1 == 32) = true := beq_iff_eq.mpr c59
       have c59b1 : (a0_1 != 32) = false := bne_eq_false_iff_eq.mpr c59
       clear c59
       by_cases c60 : a0_2 = 2
       ·rw [if_pos c60] at H
        have c60b0 : (a0_2 == 2) = true := beq_iff_eq.mpr c60
        have c60b1 : (a0_2 != 2) = false := bne_eq_false_iff_eq.mpr c60
        clear c60
        replace H := Option.bind_eq_some_iff.mp H
        obtain ⟨⟨t372, t373, t374, t375, t376, t377, t378, t379, t380, t381, t382, t383, t384, t385, t386, t387, t388⟩, A610, H⟩ := H
        (try dsimp only at H)
        have A61 := Aside0.mk A610
        clear A610
        simp only [Option.some.injEq, Prod.mk.injEq] at H
        obtain ⟨rfl, rfl, rfl, rfl, rfl, rfl, rfl, rfl, rfl, rfl, rfl, rfl, rfl, rfl, rfl, rfl, rfl, rfl⟩ := H
        have hnb62 := NB296_297.out
        have hnc62 := NB297_296.out
        have hcz63_0 := cz_ BK296 0 (.bool true)
        have hcz63_1 := cz_ BK296 1 (.int .u8 a0_1)
        have hcz63_2 := cz_ BK296 2 (.int .u8 a0_2)
        have hcz63_3 := cz_ BK296 3 (.int .u8 a0_3)
        have hcz63_4 := cz_ BK296 4 (.int .u8 a0_4)
        have hcz63_5 := cz_ BK296 5 (.int .u8 a0_5)
        have hcz63_6 := cz_ BK296 6 (.int .u8 a0_6)
        have hcz63_7 := cz_ BK296 7 (.int .u8 a0_7)
        have hcz63_8 := cz_ BK296 8 (.int .u8 a0_8)
        have hcz63_9 := cz_ BK296 9 (.int .u8 a0_9)
        have hcz63_10 := cz_ BK296 10 (.int .u8 a0_10)
        have hcz63_11 := cz_ BK296 11 (.int .u8 a0_11)
        have hcz63_12 := cz_ BK296 12 (.int .u8 a0_12)
        have hcz63_13 := cz_ BK296 13 (.int .u8 a0_13)
        have hcz63_14 := cz_ BK296 14 (.int .u8 a0_14)
        have hcz63_15 := cz_ BK296 15 (.int .u8 a0_15)
        have hcz63_16 := cz_ BK296 16 (.int .u8 a0_16)
        have HR371 := Aside0.mk (C_arr BK296.out .u8 [.bool true, .int .u8 a0_1, .int .u8 a0_2] [a0_3, a0_4, a0_5, a0_6] [.int .u8 a0_7, .int .u8 a0_8, .int .u8 a0_9, .int .u8 a0_10, .int .u8 a0_11, .int .u8 a0_12, .int .u8 a0_13, .int .u8 a0_14, .int .u8 a0_15, .int .u8 a0_16] rfl (q := 3) rfl (by show 4 ≤ 9223372036854775807; decide))
        have HC371 := Aside0.mk (show ([a0_3, a0_4, a0_5, a0_6] : List Int).length ≤ 14 from by show 4 ≤ 14; decide)
        have hl371 : ([a0_3, a0_4, a0_5, a0_6] : List Int).length = 4 := rfl
        go_wp2_with (first | ((with_reducible refine gate_callee (f := 42) rfl ?_); refine goesL_ (some 51) rfl rfl Tryd.func42 (by kernel_rfl) rfl #[.slice (some ⟨gb296, 3, none⟩) ([a0_3, a0_4, a0_5, a0_6] : List Int).length 14] rfl (by (try simp only [List.map_toArray, List.map_cons, List.map_nil]); first | done | (rw [show ([a0_3, a0_4, a0_5, a0_6] : List Int).length = 4 from rfl] <;> rfl) | rfl | (simp only [List.length_drop, List.length_take]; rfl)) ?_; (with_reducible refine (ip_last.calls _ _ ([a0_3, a0_4, a0_5, a0_6] : List Int) t372 t373 t374 t375 t376 t377 t378 t379 t380 t381 t382 t383 t384 t385 t386 t387 t388 _ ?side3 ?side1 ?side2 A61.out).mono ?_); (case side1 => repeat (first | exact (by repeat (first | (with_reducible exact HR371.out) | (with_reducible refine Kd.C_alloc ?_ _) | (with_reducible refine Kd.C_drewN ?_ _) | (with_reducible refine Kd.C_drew ?_) | exact HR371.out)) | (with_reducible refine Kd.C_alloc ?_ _) | (with_reducible refine Kd.C_drewN ?_ _) | (with_reducible refine Kd.C_drew ?_))); (case side2 => exact HC371.out); (case side3 => exact lg_); rintro e w64 ⟨rfl, hb⟩; refine ⟨_, rfl, ?_⟩; replace BK296 := Aside0.mk (bb_ BK296 hb); replace BK297 := Aside0.mk (bb_ BK297 hb); replace HR298 := Aside0.mk (Kd.C_below (by repeat (first | (with_reducible exact HR298.out) | (with_reducible refine Kd.C_alloc ?_ _) | (with_reducible refine Kd.C_drewN ?_ _) | (with_reducible refine Kd.C_drew ?_) | exact HR298.out)) hb); replace HR371 := Aside0.mk (Kd.C_below (by repeat (first | (with_reducible exact HR371.out) | (with_reducible refine Kd.C_alloc ?_ _) | (with_reducible refine Kd.C_drewN ?_ _) | (with_reducible refine Kd.C_drew ?_) | exact HR371.out)) hb); replace HB := Aside0.mk (below_step bg_ hb); (try clear hb); (try clear hb2); (try clear hk); (try clear hi); have hcz65_0 := cz_ BK297 0 (.bool false); have hcz65_1 := cz_ BK297 1 (.int .u8 0); have hcz65_2 := cz_ BK297 2 (.int .u8 0); have hcz65_3 := cz_ BK297 3 (.int .u8 0); have hcz65_4 := cz_ BK297 4 (.int .u8 0); have hcz65_5 := cz_ BK297 5 (.int .u8 0); have hcz65_6 := cz_ BK297 6 (.int .u8 0); have hcz65_7 := cz_ BK297 7 (.int .u8 0); have hcz65_8 := cz_ BK297 8 (.int .u8 0); have hcz65_9 := cz_ BK297 9 (.int .u8 0); have hcz65_10 := cz_ BK297 10 (.int .u8 0); have hcz65_11 := cz_ BK297 11 (.int .u8 0); have hcz65_12 := cz_ BK297 12 (.int .u8 0); have hcz65_13 := cz_ BK297 13 (.int .u8 0); have hcz65_14 := cz_ BK297 14 (.int .u8 0); have hcz65_15 := cz_ BK297 15 (.int .u8 0); have hcz65_16 := cz_ BK297 16 (.int .u8 0)) | ((with_reducible refine gate_store (t := 24) (p := 2) rfl ?_); refine store_all ?hg 24 2 _ rfl rfl gb297 ay_ (al_ t372 t373 t374 t375 t376 t377 t378 t379 t380 t381 t382 t383 t384 t385 t386 t387 t388) BK297.out rfl rfl rfl (by kernel_rfl) rfl ?_; (case hg => rfl); intro w66 hw; have n0_ : Aside0 (w66.heap[gb296]? = some (.cells (ag_ true a0_1 a0_2 a0_3 a0_4 a0_5 a0_6 a0_7 a0_8 a0_9 a0_10 a0_11 a0_12 a0_13 a0_14 a0_15 a0_16) 24 (0, 0))) := ⟨(by rw [hw]; exact (by (with_reducible repeat (first | refine blk_drewN ?_ _ | refine blk_drew ?_ | refine blk_alloc ?_ _)); refine blk_farC NB296_297.out _ _ ?_; (with_reducible repeat (first | refine blk_drewN ?_ _ | refine blk_drew ?_ | refine blk_alloc ?_ _)); exact BK296.out))⟩; have n1_ : Aside0 (w66.heap[gb297]? = some (.cells (ag_ t372 t373 t374 t375 t376 t377 t378 t379 t380 t381 t382 t383 t384 t385 t386 t387 t388) 24 (0, 0))) := ⟨(by rw [hw]; exact (by (with_reducible repeat (first | refine blk_drewN ?_ _ | refine blk_drew ?_ | refine blk_alloc ?_ _)); refine blk_part (al_ t372 t373 t374 t375 t376 t377 t378 t379 t380 t381 t382 t383 t384 t385 t386 t387 t388) ay_ [] [] (cs := az_) ?_ rfl rfl rfl; (with_reducible repeat (first | refine blk_drewN ?_ _ | refine blk_drew ?_ | refine blk_alloc ?_ _)); exact BK297.out))⟩; have n2_ : Aside0 (Below w.heap.size w w66) := ⟨(by rw [hw]; exact (by repeat (first | (with_reducible first | exact HB.out | apply below_alloc | apply pw_below_drewN | apply below_drew1 | refine below_set ?_ GE296.out | refine below_set ?_ GE297.out | refine below_setC GE296.out _ _ ?_ | refine below_setC GE297.out _ _ ?_) | exact HB.out)))⟩; clear hw; clear BK296; clear BK297; clear HB; have BK296 := n0_; have BK297 := n1_; have HB := n2_; clear n0_ n1_ n2_))
        refine bodyPost_ret (results_ct rfl _ _ gb297 24 (ag_ t372 t373 t374 t375 t376 t377 t378 t379 t380 t381 t382 t383 t384 t385 t386 t387 t388) (0, 0) _ rfl bk_ Tryd.underlying24 rfl (by kernel_rfl)) rfl ?_
        exact ⟨rq_, bg_⟩
       ·rw [if_neg c60] at H
        have c60b0 : (a0_2 == 2) = false := beq_eq_false_iff_ne.mpr c60
        have c60b1 : (a0_2 != 2) = true := bne_iff_ne.mpr c60
        simp only [Option.some.injEq, Prod.mk.injEq] at H
        obtain ⟨rfl, rfl, rfl, rfl, rfl, rfl, rfl, rfl, rfl, rfl, rfl, rfl, rfl, rfl, rfl, rfl, rfl, rfl⟩ := H
        have hnb67 := NB296_297.out
        have hnc67 := NB297_296.out
        have hcz68_0 := cz_ BK296 0 (.bool true)
        have hcz68_1 := cz_ BK296 1 (.int .u8 a0_1)
        have hcz68_2 := cz_ BK296 2 (.int .u8 a0_2)
        have hcz68_3 := cz_ BK296 3 (.int .u8 a0_3)
        have hcz68_4 := cz_ BK296 4 (.int .u8 a0_4)
        have hcz68_5 := cz_ BK296 5 (.int .u8 a0_5)
        have hcz68_6 := cz_ BK296 6 (.int .u8 a0_6)
        have hcz68_7 := cz_ BK296 7 (.int .u8 a0_7)
        have hcz68_8 := cz_ BK296 8 (.int .u8 a0_8)
        have hcz68_9 := cz_ BK296 9 (.int .u8 a0_9)
        have hcz68_10 := cz_ BK296 10 (.int .u8 a0_10)
        have hcz68_11 := cz_ BK296 11 (.int .u8 a0_11)
        have hcz68_12 := cz_ BK296 12 (.int .u8 a0_12)
        have hcz68_13 := cz_ BK296 13 (.int .u8 a0_13)
        have hcz68_14 := cz_ BK296 14 (.int .u8 a0_14)
        have hcz68_15 := cz_ BK296 15 (.int .u8 a0_15)
        have hcz68_16 := cz_ BK296 16 (.int .u8 a0_16)
        have hcz69_0 := cz_ BK297 0 (.bool false)
        have hcz69_1 := cz_ BK297 1 (.int .u8 0)
        have hcz69_2 := cz_ BK297 2 (.int .u8 0)
        have hcz69_3 := cz_ BK297 3 (.int .u8 0)
        have hcz69_4 := cz_ BK297 4 (.int .u8 0)
        have hcz69_5 := cz_ BK297 5 (.int .u8 0)
        have hcz69_6 := cz_ BK297 6 (.int .u8 0)
        have hcz69_7 := cz_ BK297 7 (.int .u8 0)
        have hcz69_8 := cz_ BK297 8 (.int .u8 0)
        have hcz69_9 := cz_ BK297 9 (.int .u8 0)
        have hcz69_10 := cz_ BK297 10 (.int .u8 0)
        have hcz69_11 := cz_ BK297 11 (.int .u8 0)
        have hcz69_12 := cz_ BK297 12 (.int .u8 0)
        have hcz69_13 := cz_ BK297 13 (.int .u8 0)
        have hcz69_14 := cz_ BK297 14 (.int .u8 0)
        have hcz69_15 := cz_ BK297 15 (.int .u8 0)
        have hcz69_16 := cz_ BK297 16 (.int .u8 0)
        go_wp2_with (first | ((with_reducible refine gate_store (t := 24) (p := 2) rfl ?_); refine store_all ?hg 24 2 _ rfl rfl gb297 ay_ ay_ BK297.out rfl rfl rfl (by kernel_rfl) rfl ?_; (case hg => rfl); intro w70 hw; have n0_ : Aside0 (w70.heap[gb296]? = some (.cells (ag_ true a0_1 a0_2 a0_3 a0_4 a0_5 a0_6 a0_7 a0_8 a0_9 a0_10 a0_11 a0_12 a0_13 a0_14 a0_15 a0_16) 24 (0, 0))) := ⟨(by rw [hw]; exact (by (with_reducible repeat (first | refine blk_drewN ?_ _ | refine blk_drew ?_ | refine blk_alloc ?_ _)); refine blk_farC NB296_297.out _ _ ?_; (with_reducible repeat (first | refine blk_drewN ?_ _ | refine blk_drew ?_ | refine blk_alloc ?_ _)); exact BK296.out))⟩; have n1_ : Aside0 (w70.heap[gb297]? = some (.cells az_ 24 (0, 0))) := ⟨(by rw [hw]; exact (by (with_reducible repeat (first | refine blk_drewN ?_ _ | refine blk_drew ?_ | refine blk_alloc ?_ _)); refine blk_part ay_ ay_ [] [] (cs := az_) ?_ rfl rfl rfl; (with_reducible repeat (first | refine blk_drewN ?_ _ | refine blk_drew ?_ | refine blk_alloc ?_ _)); exact BK297.out))⟩; have n2_ : Aside0 (Below w.heap.size w w70) := ⟨(by rw [hw]; exact (by repeat (first | (with_reducible first | exact HB.out | apply below_alloc | apply pw_below_drewN | apply below_drew1 | refine below_set ?_ GE296.out | refine below_set ?_ GE297.out | refine below_setC GE296.out _ _ ?_ | refine below_setC GE297.out _ _ ?_) | exact HB.out)))⟩; clear hw; clear BK296; clear BK297; clear HB; have BK296 := n0_; have BK297 := n1_; have HB := n2_; clear n0_ n1_ n2_))
        refine bodyPost_ret (results_ct rfl _ _ gb297 24 az_ (0, 0) _ rfl bk_ Tryd.underlying24 rfl (by kernel_rfl)) rfl ?_
        exact ⟨rq_, bg_⟩
      ·rw [if_neg c59] at H
       have c59b0 : (a0_1 == 32) = false := beq_eq_false_iff_ne.mpr c59
       have c59b1 : (a0_1 != 32) = true := bne_iff_ne.mpr c59
       simp only [Option.some.injEq, Prod.mk.injEq] at H
       obtain ⟨rfl, rfl, rfl, rfl, rfl, rfl, rfl, rfl, rfl, rfl, rfl, rfl, rfl, rfl, rfl, rfl, rfl, rfl⟩ := H
       have hnb71 := NB296_297.out
       have hnc71 := NB297_296.out
       have hcz72_0 := cz_ BK296 0 (.bool true)
       have hcz72_1 := cz_ BK296 1 (.int .u8 a0_1)
       have hcz72_2 := cz_ BK296 2 (.int .u8 a0_2)
       have hcz72_3 := cz_ BK296 3 (.int .u8 a0_3)
       have hcz72_4 := cz_ BK296 4 (.int .u8 a0_4)
       have hcz72_5 := cz_ BK296 5 (.int .u8 a0_5)
       have hcz72_6 := cz_ BK296 6 (.int .u8 a0_6)
       have hcz72_7 := cz_ BK296 7 (.int .u8 a0_7)
       have hcz72_8 := cz_ BK296 8 (.int .u8 a0_8)
       have hcz72_9 := cz_ BK296 9 (.int .u8 a0_9)
       have hcz72_10 := cz_ BK296 10 (.int .u8 a0_10)
       have hcz72_11 := cz_ BK296 11 (.int .u8 a0_11)
       have hcz72_12 := cz_ BK296 12 (.int .u8 a0_12)
       have hcz72_13 := cz_ BK296 13 (.int .u8 a0_13)
       have hcz72_14 := cz_ BK296 14 (.int .u8 a0_14)
       have hcz72_15 := cz_ BK296 15 (.int .u8 a0_15)
       have hcz72_16 := cz_ BK296 16 (.int .u8 a0_16)
       have hcz73_0 := cz_ BK297 0 (.bool false)
       have hcz73_1 := cz_ BK297 1 (.int .u8 0)
       have hcz73_2 := cz_ BK297 2 (.int .u8 0)
       have hcz73_3 := cz_ BK297 3 (.int .u8 0)
       have hcz73_4 := cz_ BK297 4 (.int .u8 0)
       have hcz73_5 := cz_ BK297 5 (.int .u8 0)
       have hcz73_6 := cz_ BK297 6 (.int .u8 0)
       have hcz73_7 := cz_ BK297 7 (.int .u8 0)
       have hcz73_8 := cz_ BK297 8 (.int .u8 0)
       have hcz73_9 := cz_ BK297 9 (.int .u8 0)
       have hcz73_10 := cz_ BK297 10 (.int .u8 0)
       have hcz73_11 := cz_ BK297 11 (.int .u8 0)
       have hcz73_12 := cz_ BK297 12 (.int .u8 0)
       have hcz73_13 := cz_ BK297 13 (.int .u8 0)
       have hcz73_14 := cz_ BK297 14 (.int .u8 0)
       have hcz73_15 := cz_ BK297 15 (.int .u8 0)
       have hcz73_16 := cz_ BK297 16 (.int .u8 0)
       go_wp2_with (first | ((with_reducible refine gate_store (t := 24) (p := 2) rfl ?_); refine store_all ?hg 24 2 _ rfl rfl gb297 ay_ ay_ BK297.out rfl rfl rfl (by kernel_rfl) rfl ?_; (case hg => rfl); intro w74 hw; have n0_ : Aside0 (w74.heap[gb296]? = some (.cells (ag_ true a0_1 a0_2 a0_3 a0_4 a0_5 a0_6 a0_7 a0_8 a0_9 a0_10 a0_11 a0_12 a0_13 a0_14 a0_15 a0_16) 24 (0, 0))) := ⟨(by rw [hw]; exact (by (with_reducible repeat (first | refine blk_drewN ?_ _ | refine blk_drew ?_ | refine blk_alloc ?_ _)); refine blk_farC NB296_297.out _ _ ?_; (with_reducible repeat (first | refine blk_drewN ?_ _ | refine blk_drew ?_ | refine blk_alloc ?_ _)); exact BK296.out))⟩; have n1_ : Aside0 (w74.heap[gb297]? = some (.cells az_ 24 (0, 0))) := ⟨(by rw [hw]; exact (by (with_reducible repeat (first | refine blk_drewN ?_ _ | refine blk_drew ?_ | refine blk_alloc ?_ _)); refine blk_part ay_ ay_ [] [] (cs := az_) ?_ rfl rfl rfl; (with_reducible repeat (first | refine blk_drewN ?_ _ | refine blk_drew ?_ | refine blk_alloc ?_ _)); exact BK297.out))⟩; have n2_ : Aside0 (Below w.heap.size w w74) := ⟨(by rw [hw]; exact (by repeat (first | (with_reducible first | exact HB.out | apply below_alloc | apply pw_below_drewN | apply below_drew1 | refine below_set ?_ GE296.out | refine below_set ?_ GE297.out | refine below_setC GE296.out _ _ ?_ | refine below_setC GE297.out _ _ ?_) | exact HB.out)))⟩; clear hw; clear BK296; clear BK297; clear HB; have BK296 := n0_; have BK297 := n1_; have HB := n2_; clear n0_ n1_ n2_))
       refine bodyPost_ret (results_ct rfl _ _ gb297 24 az_ (0, 0) _ rfl bk_ Tryd.underlying24 rfl (by kernel_rfl)) rfl ?_
       exact ⟨rq_, bg_⟩
 ·replace c2 := Bool.eq_false_iff.mpr c2
  subst c2
  replace H := ifF_ H
  simp only [Option.some.injEq, Prod.mk.injEq] at H
  obtain ⟨rfl, rfl, rfl, rfl, rfl, rfl, rfl, rfl, rfl, rfl, rfl, rfl, rfl, rfl, rfl, rfl, rfl, rfl⟩ := H
  go_enter Tryd.func25, Tryd.ntmps25
  go_wp2_with (first | ((with_reducible refine gate_dst (N := 1) rfl ?_); refine box_event ?hg (N := 1) ?hd (cs := (ag_ false a0_1 a0_2 a0_3 a0_4 a0_5 a0_6 a0_7 a0_8 a0_9 a0_10 a0_11 a0_12 a0_13 a0_14 a0_15 a0_16)) (t := 24) ?hr ?_; (case hd => rfl); (case hg => rfl); (case hr => first | (go_simp; done) | (go_simp; rfl)); intro gb296 hg w75 hbox hb; have BK296 := Aside0.mk (hbox); have GW296 := Aside0.mk (show w.heap.size ≤ gb296 from ge_ hg); have GE296 := Aside0.mk (show w.heap.size ≤ gb296 from ge_ hg); replace HB := Aside0.mk (below_step bq_ hb); clear hb hbox hg) | ((with_reducible refine gate_dst (N := 2) rfl ?_); refine box_event ?hg (N := 2) ?hd (cs := az_) (t := 24) ?hr ?_; (case hd => rfl); (case hg => rfl); (case hr => first | (go_simp; done) | (go_simp; rfl)); intro gb297 hg w76 hbox hb; have n0_ := Aside0.mk (bb_ BK296 hb); have n1_ := Aside0.mk (below_step bg_ hb); have n2_ := Aside0.mk (hbox); have n3_ := Aside0.mk (show w.heap.size ≤ gb297 from gg_ hg); have n4_ := Aside0.mk (show w.heap.size ≤ gb297 from gg_ hg); have n5_ := Aside0.mk (show gb296 ≠ gb297 from nl_ BK296 hg); have n6_ := Aside0.mk (show gb297 ≠ gb296 from ng_ BK296 hg); clear BK296; clear HB; have BK296 := n0_; have HB := n1_; have BK297 := n2_; have GW297 := n3_; have GE297 := n4_; have NB296_297 := n5_; have NB297_296 := n6_; clear n0_ n1_ n2_ n3_ n4_ n5_ n6_; clear hb hbox hg; have HR298 := Aside0.mk (C_arr BK296.out .u8 [.bool false] [a0_1, a0_2, a0_3, a0_4, a0_5, a0_6, a0_7, a0_8, a0_9, a0_10, a0_11, a0_12] [.int .u8 a0_13, .int .u8 a0_14, .int .u8 a0_15, .int .u8 a0_16] rfl (q := 1) rfl (by show 12 ≤ 9223372036854775807; decide)); have HC298 := Aside0.mk (show ([a0_1, a0_2, a0_3, a0_4, a0_5, a0_6, a0_7, a0_8, a0_9, a0_10, a0_11, a0_12] : List Int).length ≤ 16 from by show 12 ≤ 16; decide); have hl298 : ([a0_1, a0_2, a0_3, a0_4, a0_5, a0_6, a0_7, a0_8, a0_9, a0_10, a0_11, a0_12] : List Int).length = 12 := rfl; have hcv77 := Kd.C_string (P := Tryd.prog) (A := (some ⟨gb296, 1, none⟩)) (c := 16) Tryd.underlying70 Tryd.underlying5 Tryd.underlying9 (by repeat (first | (with_reducible exact HR298.out) | (with_reducible refine Kd.C_alloc ?_ _) | (with_reducible refine Kd.C_drewN ?_ _) | (with_reducible refine Kd.C_drew ?_) | exact HR298.out)); have hcv77b := hcv77; rw [show ([a0_1, a0_2, a0_3, a0_4, a0_5, a0_6, a0_7, a0_8, a0_9, a0_10, a0_11, a0_12] : List Int).length = 12 from rfl] at hcv77b; have hnb78 := NB296_297.out; have hnc78 := NB297_296.out; have hcz79_0 := cz_ BK296 0 (.bool false); have hcz79_1 := cz_ BK296 1 (.int .u8 a0_1); have hcz79_2 := cz_ BK296 2 (.int .u8 a0_2); have hcz79_3 := cz_ BK296 3 (.int .u8 a0_3); have hcz79_4 := cz_ BK296 4 (.int .u8 a0_4); have hcz79_5 := cz_ BK296 5 (.int .u8 a0_5); have hcz79_6 := cz_ BK296 6 (.int .u8 a0_6); have hcz79_7 := cz_ BK296 7 (.int .u8 a0_7); have hcz79_8 := cz_ BK296 8 (.int .u8 a0_8); have hcz79_9 := cz_ BK296 9 (.int .u8 a0_9); have hcz79_10 := cz_ BK296 10 (.int .u8 a0_10); have hcz79_11 := cz_ BK296 11 (.int .u8 a0_11); have hcz79_12 := cz_ BK296 12 (.int .u8 a0_12); have hcz79_13 := cz_ BK296 13 (.int .u8 a0_13); have hcz79_14 := cz_ BK296 14 (.int .u8 a0_14); have hcz79_15 := cz_ BK296 15 (.int .u8 a0_15); have hcz79_16 := cz_ BK296 16 (.int .u8 a0_16); have hcz80_0 := cz_ BK297 0 (.bool false); have hcz80_1 := cz_ BK297 1 (.int .u8 0); have hcz80_2 := cz_ BK297 2 (.int .u8 0); have hcz80_3 := cz_ BK297 3 (.int .u8 0); have hcz80_4 := cz_ BK297 4 (.int .u8 0); have hcz80_5 := cz_ BK297 5 (.int .u8 0); have hcz80_6 := cz_ BK297 6 (.int .u8 0); have hcz80_7 := cz_ BK297 7 (.int .u8 0); have hcz80_8 := cz_ BK297 8 (.int .u8 0); have hcz80_9 := cz_ BK297 9 (.int .u8 0); have hcz80_10 := cz_ BK297 10 (.int .u8 0); have hcz80_11 := cz_ BK297 11 (.int .u8 0); have hcz80_12 := cz_ BK297 12 (.int .u8 0); have hcz80_13 := cz_ BK297 13 (.int .u8 0); have hcz80_14 := cz_ BK297 14 (.int .u8 0); have hcz80_15 := cz_ BK297 15 (.int .u8 0); have hcz80_16 := cz_ BK297 16 (.int .u8 0)) | ((with_reducible refine gate_store (t := 24) (p := 2) rfl ?_); refine store_all ?hg 24 2 _ rfl rfl gb297 ay_ ay_ BK297.out rfl rfl rfl (by kernel_rfl) rfl ?_; (case hg => rfl); intro w81 hw; have n0_ : Aside0 (w81.heap[gb296]? = some (.cells (ag_ false a0_1 a0_2 a0_3 a0_4 a0_5 a0_6 a0_7 a0_8 a0_9 a0_10 a0_11 a0_12 a0_13 a0_14 a0_15 a0_16) 24 (0, 0))) := ⟨(by rw [hw]; exact (by (with_reducible repeat (first | refine blk_drewN ?_ _ | refine blk_drew ?_ | refine blk_alloc ?_ _)); refine blk_farC NB296_297.out _ _ ?_; (with_reducible repeat (first | refine blk_drewN ?_ _ | refine blk_drew ?_ | refine blk_alloc ?_ _)); exact BK296.out))⟩; have n1_ : Aside0 (w81.heap[gb297]? = some (.cells az_ 24 (0, 0))) := ⟨(by rw [hw]; exact (by (with_reducible repeat (first | refine blk_drewN ?_ _ | refine blk_drew ?_ | refine blk_alloc ?_ _)); refine blk_part ay_ ay_ [] [] (cs := az_) ?_ rfl rfl rfl; (with_reducible repeat (first | refine blk_drewN ?_ _ | refine blk_drew ?_ | refine blk_alloc ?_ _)); exact BK297.out))⟩; have n2_ : Aside0 (Below w.heap.size w w81) := ⟨(by rw [hw]; exact (by repeat (first | (with_reducible first | exact HB.out | apply below_alloc | apply pw_below_drewN | apply below_drew1 | refine below_set ?_ GE296.out | refine below_set ?_ GE297.out | refine below_setC GE296.out _ _ ?_ | refine below_setC GE297.out _ _ ?_) | exact HB.out)))⟩; clear hw; clear BK296; clear BK297; clear HB; have BK296 := n0_; have BK297 := n1_; have HB := n2_; clear n0_ n1_ n2_))
  refine bodyPost_ret (results_ct rfl _ _ gb297 24 az_ (0, 0) _ rfl bk_ Tryd.underlying24 rfl (by kernel_rfl)) rfl ?_
  exact ⟨rq_, bg_⟩

end Go.Proofs.YtdopafhppaalfaaDoor.P
