-- Written by a program of this session (wip/gen/lprint.py over the kit's print.py) out of the translation. Lean checks it.
import Derived.Test.YtdopafhppaalfaaDoorP0
import Derived.Test.YtdopafhppaalfaaDoorP1
import Derived.Test.YtdopafhppaalfaaDoorP2
import Derived.Test.YtdopafhppaalfaaDoorP4
import Derived.Test.YtdopafhppaalfaaDoorZ
namespace Go.Proofs.YtdopafhppaalfaaDoor.P
open Go.Proofs.YtdopafhppaalfaaDoorZ
open Go.Proofs.YtdopafhppaalfaaDoor.E Go.Proofs.YtdopafhppaalfaaDoorV
open Go.RowKit Go.Proofs.YtdopafhppaalfaaDoorW.PrintWords Go.Proofs.YtdopafhppaalfaaDoorW.PrintLast Go.Proofs.YtdopafhppaalfaaDoorW.PrintMore
attribute [local go_sem] max2_int min2_int max_two min_two max_three min_three max_four min_four   -- for this text's walks alone
set_option linter.unusedVariables false
set_option linter.unusedSimpArgs false

attribute [local go_sem high] eqA24
def ip_Embeds.j0 : Nat → ByteArray → Bool → Bool → Int → Int → Int → Int → Int → Int → Int → Int → Int → Int → Int → Int → Int → Int → Int → Int → Option (Bool × Int × Int × Int × Int × Int × Int × Int × Int × Int × Int × Int × Int × Int × Int × Int × Int × Bool)
 | 0, _, _, _, _, _, _, _, _, _, _, _, _, _, _, _, _, _, _, _ => none
 | k + 1, x4, x14, V0, V1, V2, V3, V4, V5, V6, V7, V8, V9, V10, V11, V12, V13, V14, V15, V16 => if x14 = true then ((ip_last.f ([V13, V14, V15, V16] : List Int)).bind fun bt301 => (some (bt301.1, bt301.2.1, bt301.2.2.1, bt301.2.2.2.1, bt301.2.2.2.2.1, bt301.2.2.2.2.2.1, bt301.2.2.2.2.2.2.1, bt301.2.2.2.2.2.2.2.1, bt301.2.2.2.2.2.2.2.2.1, bt301.2.2.2.2.2.2.2.2.2.1, bt301.2.2.2.2.2.2.2.2.2.2.1, bt301.2.2.2.2.2.2.2.2.2.2.2.1, bt301.2.2.2.2.2.2.2.2.2.2.2.2.1, bt301.2.2.2.2.2.2.2.2.2.2.2.2.2.1, bt301.2.2.2.2.2.2.2.2.2.2.2.2.2.2.1, bt301.2.2.2.2.2.2.2.2.2.2.2.2.2.2.2.1, bt301.2.2.2.2.2.2.2.2.2.2.2.2.2.2.2.2, true))) else (if x4.toList = ([0, 0, 0, 0, 0, 0, 0, 0, 0, 0, 0, 0] : List UInt8) then ((ip_last.f ([V13, V14, V15, V16] : List Int)).bind fun bt319 => ((ip_V4.f 0 0 0 0).bind fun bt337 => (if (bt319.1 == bt337.1 && ((bt319.2.1 == bt337.2.1 && (bt319.2.2.1 == bt337.2.2.1 && (bt319.2.2.2.1 == bt337.2.2.2.1 && (bt319.2.2.2.2.1 == bt337.2.2.2.2.1 && (bt319.2.2.2.2.2.1 == bt337.2.2.2.2.2.1 && (bt319.2.2.2.2.2.2.1 == bt337.2.2.2.2.2.2.1 && (bt319.2.2.2.2.2.2.2.1 == bt337.2.2.2.2.2.2.2.1 && (bt319.2.2.2.2.2.2.2.2.1 == bt337.2.2.2.2.2.2.2.2.1 && (bt319.2.2.2.2.2.2.2.2.2.1 == bt337.2.2.2.2.2.2.2.2.2.1 && (bt319.2.2.2.2.2.2.2.2.2.2.1 == bt337.2.2.2.2.2.2.2.2.2.2.1 && (bt319.2.2.2.2.2.2.2.2.2.2.2.1 == bt337.2.2.2.2.2.2.2.2.2.2.2.1 && (bt319.2.2.2.2.2.2.2.2.2.2.2.2.1 == bt337.2.2.2.2.2.2.2.2.2.2.2.2.1 && (bt319.2.2.2.2.2.2.2.2.2.2.2.2.2.1 == bt337.2.2.2.2.2.2.2.2.2.2.2.2.2.1 && (bt319.2.2.2.2.2.2.2.2.2.2.2.2.2.2.1 == bt337.2.2.2.2.2.2.2.2.2.2.2.2.2.2.1 && (bt319.2.2.2.2.2.2.2.2.2.2.2.2.2.2.2.1 == bt337.2.2.2.2.2.2.2.2.2.2.2.2.2.2.2.1 && (bt319.2.2.2.2.2.2.2.2.2.2.2.2.2.2.2.2 == bt337.2.2.2.2.2.2.2.2.2.2.2.2.2.2.2.2)))))))))))))))))) = true then (some (false, 0, 0, 0, 0, 0, 0, 0, 0, 0, 0, 0, 0, 0, 0, 0, 0, false)) else ((ip_V4.f 0 0 0 1).bind fun bt354 => (if (bt319.1 == bt354.1 && ((bt319.2.1 == bt354.2.1 && (bt319.2.2.1 == bt354.2.2.1 && (bt319.2.2.2.1 == bt354.2.2.2.1 && (bt319.2.2.2.2.1 == bt354.2.2.2.2.1 && (bt319.2.2.2.2.2.1 == bt354.2.2.2.2.2.1 && (bt319.2.2.2.2.2.2.1 == bt354.2.2.2.2.2.2.1 && (bt319.2.2.2.2.2.2.2.1 == bt354.2.2.2.2.2.2.2.1 && (bt319.2.2.2.2.2.2.2.2.1 == bt354.2.2.2.2.2.2.2.2.1 && (bt319.2.2.2.2.2.2.2.2.2.1 == bt354.2.2.2.2.2.2.2.2.2.1 && (bt319.2.2.2.2.2.2.2.2.2.2.1 == bt354.2.2.2.2.2.2.2.2.2.2.1 && (bt319.2.2.2.2.2.2.2.2.2.2.2.1 == bt354.2.2.2.2.2.2.2.2.2.2.2.1 && (bt319.2.2.2.2.2.2.2.2.2.2.2.2.1 == bt354.2.2.2.2.2.2.2.2.2.2.2.2.1 && (bt319.2.2.2.2.2.2.2.2.2.2.2.2.2.1 == bt354.2.2.2.2.2.2.2.2.2.2.2.2.2.1 && (bt319.2.2.2.2.2.2.2.2.2.2.2.2.2.2.1 == bt354.2.2.2.2.2.2.2.2.2.2.2.2.2.2.1 && (bt319.2.2.2.2.2.2.2.2.2.2.2.2.2.2.2.1 == bt354.2.2.2.2.2.2.2.2.2.2.2.2.2.2.2.1 && (bt319.2.2.2.2.2.2.2.2.2.2.2.2.2.2.2.2 == bt354.2.2.2.2.2.2.2.2.2.2.2.2.2.2.2.2)))))))))))))))))) = true then (some (false, 0, 0, 0, 0, 0, 0, 0, 0, 0, 0, 0, 0, 0, 0, 0, 0, false)) else (some (bt319.1, bt319.2.1, bt319.2.2.1, bt319.2.2.2.1, bt319.2.2.2.2.1, bt319.2.2.2.2.2.1, bt319.2.2.2.2.2.2.1, bt319.2.2.2.2.2.2.2.1, bt319.2.2.2.2.2.2.2.2.1, bt319.2.2.2.2.2.2.2.2.2.1, bt319.2.2.2.2.2.2.2.2.2.2.1, bt319.2.2.2.2.2.2.2.2.2.2.2.1, bt319.2.2.2.2.2.2.2.2.2.2.2.2.1, bt319.2.2.2.2.2.2.2.2.2.2.2.2.2.1, bt319.2.2.2.2.2.2.2.2.2.2.2.2.2.2.1, bt319.2.2.2.2.2.2.2.2.2.2.2.2.2.2.2.1, bt319.2.2.2.2.2.2.2.2.2.2.2.2.2.2.2.2, true))))))) else (if V1 = 32 then (if V2 = 2 then ((ip_last.f ([V3, V4, V5, V6] : List Int)).bind fun bt372 => (some (bt372.1, bt372.2.1, bt372.2.2.1, bt372.2.2.2.1, bt372.2.2.2.2.1, bt372.2.2.2.2.2.1, bt372.2.2.2.2.2.2.1, bt372.2.2.2.2.2.2.2.1, bt372.2.2.2.2.2.2.2.2.1, bt372.2.2.2.2.2.2.2.2.2.1, bt372.2.2.2.2.2.2.2.2.2.2.1, bt372.2.2.2.2.2.2.2.2.2.2.2.1, bt372.2.2.2.2.2.2.2.2.2.2.2.2.1, bt372.2.2.2.2.2.2.2.2.2.2.2.2.2.1, bt372.2.2.2.2.2.2.2.2.2.2.2.2.2.2.1, bt372.2.2.2.2.2.2.2.2.2.2.2.2.2.2.2.1, bt372.2.2.2.2.2.2.2.2.2.2.2.2.2.2.2.2, true))) else (some (false, 0, 0, 0, 0, 0, 0, 0, 0, 0, 0, 0, 0, 0, 0, 0, 0, false))) else (some (false, 0, 0, 0, 0, 0, 0, 0, 0, 0, 0, 0, 0, 0, 0, 0, 0, false))))
def ip_Embeds.f (k : Nat) (z0 : Bool) (z1 : Int) (z2 : Int) (z3 : Int) (z4 : Int) (z5 : Int) (z6 : Int) (z7 : Int) (z8 : Int) (z9 : Int) (za : Int) (zb : Int) (zc : Int) (zd : Int) (ze : Int) (zf : Int) (zg : Int) : Option (Bool × Int × Int × Int × Int × Int × Int × Int × Int × Int × Int × Int × Int × Int × Int × Int × Int × Bool) := if z0 = true then ((ip_mapped.f z0 z1 z2 z3 z4 z5 z6 z7 z8 z9 za zb zc zd ze zf zg).bind fun t299 => (if t299 = true then (ip_Embeds.j0 k (strOfNums ([z1, z2, z3, z4, z5, z6, z7, z8, z9, za, zb, zc] : List Int)) t299 z0 z1 z2 z3 z4 z5 z6 z7 z8 z9 za zb zc zd ze zf zg) else (ip_Embeds.j0 k (strOfNums ([z1, z2, z3, z4, z5, z6, z7, z8, z9, za, zb, zc] : List Int)) ((strOfNums ([z1, z2, z3, z4, z5, z6, z7, z8, z9, za, zb, zc] : List Int)).toList == ([0, 100, 255, 155, 0, 0, 0, 0, 0, 0, 0, 0] : List UInt8)) z0 z1 z2 z3 z4 z5 z6 z7 z8 z9 za zb zc zd ze zf zg))) else (some (false, 0, 0, 0, 0, 0, 0, 0, 0, 0, 0, 0, 0, 0, 0, 0, 0, false))
theorem ip_Embeds.mono_l : ∀ k, (∀ y0 y1 y2 y3 y4 y5 y6 y7 y8 y9 y10 y11 y12 y13 y14 y15 y16 y17 y18, LeO (ip_Embeds.j0 k y0 y1 y2 y3 y4 y5 y6 y7 y8 y9 y10 y11 y12 y13 y14 y15 y16 y17 y18) (ip_Embeds.j0 (k + 1) y0 y1 y2 y3 y4 y5 y6 y7 y8 y9 y10 y11 y12 y13 y14 y15 y16 y17 y18))
 | 0 => fun _ _ _ _ _ _ _ _ _ _ _ _ _ _ _ _ _ _ _ r h => by simp [ip_Embeds.j0] at h
 | k + 1 => by
  have ih0 := ip_Embeds.mono_l k
  ·intro y0 y1 y2 y3 y4 y5 y6 y7 y8 y9 y10 y11 y12 y13 y14 y15 y16 y17 y18
   unfold ip_Embeds.j0
   repeat' first
   | (with_reducible exact ih0 _ _ _ _ _ _ _ _ _ _ _ _ _ _ _ _ _ _ _)
   | (with_reducible exact LeO.refl _)
   | (with_reducible exact LeO.none _)
   | (with_reducible refine LeO.ite ?_ ?_)
   | (with_reducible refine LeO.bind ?_ (fun _ => ?_))
   | exact ih0 _ _ _ _ _ _ _ _ _ _ _ _ _ _ _ _ _ _ _
   | exact LeO.none _
   | refine LeO.ite ?_ ?_
   | refine LeO.bind ?_ (fun _ => ?_)
theorem ip_Embeds.mono : ∀ a0 a1 a2 a3 a4 a5 a6 a7 a8 a9 a10 a11 a12 a13 a14 a15 a16 k, LeO (ip_Embeds.f k a0 a1 a2 a3 a4 a5 a6 a7 a8 a9 a10 a11 a12 a13 a14 a15 a16) (ip_Embeds.f (k + 1) a0 a1 a2 a3 a4 a5 a6 a7 a8 a9 a10 a11 a12 a13 a14 a15 a16) := by
 intro a0 a1 a2 a3 a4 a5 a6 a7 a8 a9 a10 a11 a12 a13 a14 a15 a16 k
 have ih0 := ip_Embeds.mono_l k
 unfold ip_Embeds.f
 repeat' first
   | (with_reducible exact ih0 _ _ _ _ _ _ _ _ _ _ _ _ _ _ _ _ _ _ _)
   | (with_reducible exact LeO.refl _)
   | (with_reducible exact LeO.none _)
   | (with_reducible refine LeO.ite ?_ ?_)
   | (with_reducible refine LeO.bind ?_ (fun _ => ?_))
   | exact ih0 _ _ _ _ _ _ _ _ _ _ _ _ _ _ _ _ _ _ _
   | exact LeO.none _
   | refine LeO.ite ?_ ?_
   | refine LeO.bind ?_ (fun _ => ?_)
def ip_Embeds.T9 : Bool × List (List Nat × List Nat) := (true, [([], []), ([], []), ([0, 1], [0, 1]), ([2, 1], [2]), ([3], [3]), ([3, 3], [3]), ([4, 5, 3], [3, 4, 5]), ([3, 6], [3, 6])])
def ip_Embeds.B9 : List Nat := [0, 0, 3, 7, 15, 15, 63, 127]
theorem ip_Embeds.tab9 : rtab .any (opsOf Tryd.f25 9) = ip_Embeds.T9 := by kernel_rfl
theorem ip_Embeds.bits9 : waitsOk ip_Embeds.T9.2 ip_Embeds.B9 = true := by kernel_rfl
set_option maxHeartbeats 8000000 in
set_option maxRecDepth 100000 in
theorem ip_Embeds.calls (k : Nat) (z0 : Bool) (z1 : Int) (z2 : Int) (z3 : Int) (z4 : Int) (z5 : Int) (z6 : Int) (z7 : Int) (z8 : Int) (z9 : Int) (za : Int) (zb : Int) (zc : Int) (zd : Int) (ze : Int) (zf : Int) (zg : Int) (r1 : Bool) (r2 : Int) (r3 : Int) (r4 : Int) (r5 : Int) (r6 : Int) (r7 : Int) (r8 : Int) (r9 : Int) (r10 : Int) (r11 : Int) (r12 : Int) (r13 : Int) (r14 : Int) (r15 : Int) (r16 : Int) (r17 : Int) (r18 : Bool) (w : World) (hLW : LW w) (h : ip_Embeds.f k z0 z1 z2 z3 z4 z5 z6 z7 z8 z9 za zb zc zd ze zf zg = some (r1, r2, r3, r4, r5, r6, r7, r8, r9, r10, r11, r12, r13, r14, r15, r16, r17, r18)) :
  Calls Tryd.prog 25 #[.agg (ag_ z0 z1 z2 z3 z4 z5 z6 z7 z8 z9 za zb zc zd ze zf zg)] w fun e w' => e = .returned (.tuple #[.agg (ag_ r1 r2 r3 r4 r5 r6 r7 r8 r9 r10 r11 r12 r13 r14 r15 r16 r17), .bool r18]) ∧ Below w.heap.size w w' := by
 have hu24 := Tryd.underlying24
 have HLW := Aside0.mk hLW
 clear hLW
 have HB := Aside0.mk (Below.refl w.heap.size w)
 have H := h
 unfold ip_Embeds.f at H
 clear h
 by_cases c2 : z0 = true
 ·subst c2
  replace H := ifT_ H
  replace H := Option.bind_eq_some_iff.mp H
  obtain ⟨t299, A30, H⟩ := H
  (try dsimp only at H)
  have A3 := Aside0.mk A30
  clear A30
  have HC4 := Aside0.mk H
  clear H
  go_enter Tryd.func25, Tryd.ntmps25
  go_upto_if 14 with (first | ((with_reducible refine gate_dst (N := 1) rfl ?_); refine bx_ 1 (ag_ true z1 z2 z3 z4 z5 z6 z7 z8 z9 za zb zc zd ze zf zg) 24 ?_; intro gb296 hg w5 hbox hb; have BK296 := Aside0.mk (hbox); have GW296 := Aside0.mk (ge_ (w := w) hg); have GE296 := Aside0.mk (ge_ (w := w) hg); replace HB := Aside0.mk (below_step bq_ hb); clear hb hbox hg) | ((with_reducible refine gate_dst (N := 2) rfl ?_); refine bx_ 2 az_ 24 ?_; intro gb297 hg w6 hbox hb; have n0_ := Aside0.mk (bb_ BK296 hb); have n1_ := Aside0.mk (below_step bg_ hb); have n2_ := Aside0.mk (hbox); have n3_ := Aside0.mk (gg_ (w := w) hg); have n4_ := Aside0.mk (gg_ (w := w) hg); have n5_ := Aside0.mk (nl_ BK296 hg); have n6_ := Aside0.mk (ng_ BK296 hg); clear BK296; clear HB; have BK296 := n0_; have HB := n1_; have BK297 := n2_; have GW297 := n3_; have GE297 := n4_; have NB296_297 := n5_; have NB297_296 := n6_; clear n0_ n1_ n2_ n3_ n4_ n5_ n6_; clear hb hbox hg; have HR298 := Aside0.mk (C_arr BK296.out .u8 [.bool true] [z1, z2, z3, z4, z5, z6, z7, z8, z9, za, zb, zc] [.int .u8 zd, .int .u8 ze, .int .u8 zf, .int .u8 zg] rfl (q := 1) rfl (by show 12 ≤ 9223372036854775807; decide)); have HC298 := Aside0.mk (show ([z1, z2, z3, z4, z5, z6, z7, z8, z9, za, zb, zc] : List Int).length ≤ 16 from by show 12 ≤ 16; decide); have hl298 : ([z1, z2, z3, z4, z5, z6, z7, z8, z9, za, zb, zc] : List Int).length = 12 := rfl; have hcv7 := Kd.C_string (P := Tryd.prog) (A := (some ⟨gb296, 1, none⟩)) (c := 16) Tryd.underlying70 Tryd.underlying5 Tryd.underlying9 (by repeat (first | (with_reducible exact HR298.out) | (with_reducible refine Kd.C_alloc ?_ _) | (with_reducible refine Kd.C_drewN ?_ _) | (with_reducible refine Kd.C_drew ?_) | exact HR298.out)); have hcv7b := hcv7; rw [show ([z1, z2, z3, z4, z5, z6, z7, z8, z9, za, zb, zc] : List Int).length = 12 from rfl] at hcv7b; have hnb8 := NB296_297.out; have hnc8 := NB297_296.out; obtain ⟨hcz9_0, hcz9_1, hcz9_2, hcz9_3, hcz9_4, hcz9_5, hcz9_6, hcz9_7, hcz9_8, hcz9_9, hcz9_10, hcz9_11, hcz9_12, hcz9_13, hcz9_14, hcz9_15, hcz9_16⟩ := c17_ BK296) | ((with_reducible refine gate_dst (N := 15) rfl ?_); (try (refine gate_guard (by rfl) ?_; dsimp only)); refine load_box ?hg 24 (.tmp 1) rfl BK296.out [] (al_ true z1 z2 z3 z4 z5 z6 z7 z8 z9 za zb zc zd ze zf zg) [] rfl 0 rfl rfl Tryd.underlying24 rfl (by kernel_rfl) ?_; (case hg => rfl)) | ((with_reducible refine gate_callee (f := 41) rfl ?_); refine goesL_ (some 16) rfl rfl Tryd.func41 (by kernel_rfl) rfl #[.agg (ag_ true z1 z2 z3 z4 z5 z6 z7 z8 z9 za zb zc zd ze zf zg)] rfl lq_ ?_; (with_reducible refine (ip_mapped.calls true z1 z2 z3 z4 z5 z6 z7 z8 z9 za zb zc zd ze zf zg t299 _ ?side1 A3.out).mono ?_); (case side1 => exact lg_); rintro e w10 ⟨rfl, hb⟩; refine ⟨_, rfl, ?_⟩; replace BK296 := Aside0.mk (bb_ BK296 hb); replace BK297 := Aside0.mk (bb_ BK297 hb); replace HR298 := Aside0.mk (cb_ HR298 hb); replace HB := Aside0.mk (below_step bg_ hb); (try clear hb); (try clear hb2); (try clear hk); (try clear hi)))
  (try simp only [Act.put, List.setIfInBounds_toArray, List.set_cons_zero, List.set_cons_succ])
  go_cut [14] (fun v14 wc => ∃ (kq : Nat) (x14_3 : Bool), v14 = .bool x14_3 ∧ Aside0 (ip_Embeds.j0 kq (strOfNums ([z1, z2, z3, z4, z5, z6, z7, z8, z9, za, zb, zc] : List Int)) x14_3 true z1 z2 z3 z4 z5 z6 z7 z8 z9 za zb zc zd ze zf zg = some (r1, r2, r3, r4, r5, r6, r7, r8, r9, r10, r11, r12, r13, r14, r15, r16, r17, r18)) ∧ Aside0 (kq ≤ k) ∧ Aside0 (wc.heap[gb296]? = some (.cells (ag_ true z1 z2 z3 z4 z5 z6 z7 z8 z9 za zb zc zd ze zf zg) 24 (0, 0))) ∧ Aside0 (wc.heap[gb297]? = some (.cells az_ 24 (0, 0))) ∧ Aside0 (Kd.C (Kd.int .u8) wc (some ⟨gb296, 1, none⟩) ([z1, z2, z3, z4, z5, z6, z7, z8, z9, za, zb, zc] : List Int).length ([z1, z2, z3, z4, z5, z6, z7, z8, z9, za, zb, zc] : List Int)) ∧ Aside0 (Below w.heap.size w wc))
  case first =>
   have H := HC4.out
   clear HC4
   by_cases c11 : t299 = true
   ·subst c11
    replace H := ifT_ H
    have H' := Aside0.mk H
    clear H
    go_wp2
    go_meet
    case rel => exact ⟨_, (true), sq_, H', ⟨by first | omega | exact Nat.le_refl _⟩, ⟨bk_⟩, ⟨bk_⟩, ⟨by repeat (first | (with_reducible exact HR298.out) | (with_reducible refine Kd.C_alloc ?_ _) | (with_reducible refine Kd.C_drewN ?_ _) | (with_reducible refine Kd.C_drew ?_) | exact HR298.out)⟩, ⟨bg_⟩⟩
   ·replace c11 := Bool.eq_false_iff.mpr c11
    subst c11
    replace H := ifF_ H
    have H' := Aside0.mk H
    clear H
    go_wp2
    go_meet
    case rel => exact ⟨_, (((strOfNums ([z1, z2, z3, z4, z5, z6, z7, z8, z9, za, zb, zc] : List Int)).toList == ([0, 100, 255, 155, 0, 0, 0, 0, 0, 0, 0, 0] : List UInt8))), sq_, H', ⟨by first | omega | exact Nat.le_refl _⟩, ⟨bk_⟩, ⟨bk_⟩, ⟨by repeat (first | (with_reducible exact HR298.out) | (with_reducible refine Kd.C_alloc ?_ _) | (with_reducible refine Kd.C_drewN ?_ _) | (with_reducible refine Kd.C_drew ?_) | exact HR298.out)⟩, ⟨bg_⟩⟩
  case rest =>
   clear HC4
   try clear c1
   try clear c2
   try clear p2
   try clear c4
   try clear hcv7
   try clear c8
   try clear c11
   try clear hcz9_0
   try clear hcz9_1
   try clear hcz9_10
   try clear hcz9_11
   try clear hcz9_12
   try clear hcz9_13
   try clear hcz9_14
   try clear hcz9_15
   try clear hcz9_16
   try clear hcz9_2
   try clear hcz9_3
   try clear hcz9_4
   try clear hcz9_5
   try clear hcz9_6
   try clear hcz9_7
   try clear hcz9_8
   try clear hcz9_9
   obtain ⟨kq, x14_3, rfl, HA, HJ3, BK296, BK297, HR298, HB⟩ := hcut
   cases kq with
   | zero => exact absurd HA.out (by simp [ip_Embeds.j0])
   | succ kj3 =>
    have H := HA.out
    clear HA
    simp only [ip_Embeds.j0] at H
    by_cases c12 : x14_3 = true
    ·subst c12
     replace H := ifT_ H
     replace H := Option.bind_eq_some_iff.mp H
     obtain ⟨⟨t301, t302, t303, t304, t305, t306, t307, t308, t309, t310, t311, t312, t313, t314, t315, t316, t317⟩, A130, H⟩ := H
     (try dsimp only at H)
     have A13 := Aside0.mk A130
     clear A130
     simp only [Option.some.injEq, Prod.mk.injEq] at H
     obtain ⟨rfl, rfl, rfl, rfl, rfl, rfl, rfl, rfl, rfl, rfl, rfl, rfl, rfl, rfl, rfl, rfl, rfl, rfl⟩ := H
     have HR300 := Aside0.mk (C_arr BK296.out .u8 [.bool true, .int .u8 z1, .int .u8 z2, .int .u8 z3, .int .u8 z4, .int .u8 z5, .int .u8 z6, .int .u8 z7, .int .u8 z8, .int .u8 z9, .int .u8 za, .int .u8 zb, .int .u8 zc] [zd, ze, zf, zg] [] rfl (q := 13) rfl (by show 4 ≤ 9223372036854775807; decide))
     have HC300 := Aside0.mk (show ([zd, ze, zf, zg] : List Int).length ≤ 4 from by show 4 ≤ 4; decide)
     have hl300 : ([zd, ze, zf, zg] : List Int).length = 4 := rfl
     go_wp2_with (first | ((with_reducible refine gate_callee (f := 42) rfl ?_); refine goesL_ (some 21) rfl rfl Tryd.func42 (by kernel_rfl) rfl #[.slice (some ⟨gb296, 13, none⟩) ([zd, ze, zf, zg] : List Int).length 4] rfl (by (try simp only [List.map_toArray, List.map_cons, List.map_nil]); first | done | (rw [show ([zd, ze, zf, zg] : List Int).length = 4 from rfl] <;> rfl) | rfl | (simp only [List.length_drop, List.length_take]; rfl)) ?_; (with_reducible refine (ip_last.calls _ _ ([zd, ze, zf, zg] : List Int) t301 t302 t303 t304 t305 t306 t307 t308 t309 t310 t311 t312 t313 t314 t315 t316 t317 _ ?side3 ?side1 ?side2 A13.out).mono ?_); (case side1 => repeat (first | exact (by repeat (first | (with_reducible exact HR300.out) | (with_reducible refine Kd.C_alloc ?_ _) | (with_reducible refine Kd.C_drewN ?_ _) | (with_reducible refine Kd.C_drew ?_) | exact HR300.out)) | (with_reducible refine Kd.C_alloc ?_ _) | (with_reducible refine Kd.C_drewN ?_ _) | (with_reducible refine Kd.C_drew ?_))); (case side2 => exact HC300.out); (case side3 => exact lg_); rintro e w14 ⟨rfl, hb⟩; refine ⟨_, rfl, ?_⟩; replace BK296 := Aside0.mk (bb_ BK296 hb); replace BK297 := Aside0.mk (bb_ BK297 hb); replace HR298 := Aside0.mk (cb_ HR298 hb); replace HR300 := Aside0.mk (cb_ HR300 hb); replace HB := Aside0.mk (below_step bg_ hb); (try clear hb); (try clear hb2); (try clear hk); (try clear hi); have hnb15 := NB297_296.out; have hnc15 := NB296_297.out; obtain ⟨hcz16_0, hcz16_1, hcz16_2, hcz16_3, hcz16_4, hcz16_5, hcz16_6, hcz16_7, hcz16_8, hcz16_9, hcz16_10, hcz16_11, hcz16_12, hcz16_13, hcz16_14, hcz16_15, hcz16_16⟩ := c17_ BK297) | ((with_reducible refine gate_store (t := 24) (p := 2) rfl ?_); refine store_all ?hg 24 2 _ rfl rfl gb297 ay_ (al_ t301 t302 t303 t304 t305 t306 t307 t308 t309 t310 t311 t312 t313 t314 t315 t316 t317) BK297.out rfl rfl rfl (by kernel_rfl) rfl ?_; (case hg => rfl); intro w17 hw; replace BK296 := Aside0.mk (sf_ BK296 NB296_297 hw); replace BK297 := Aside0.mk (show w17.heap[gb297]? = some (.cells (ag_ t301 t302 t303 t304 t305 t306 t307 t308 t309 t310 t311 t312 t313 t314 t315 t316 t317) 24 (0, 0)) from ss_ BK297 hw); replace HB := Aside0.mk (sb_ hw); clear hw))
     refine bodyPost_ret (results_ct rfl _ _ gb297 24 (ag_ t301 t302 t303 t304 t305 t306 t307 t308 t309 t310 t311 t312 t313 t314 t315 t316 t317) (0, 0) _ rfl bk_ Tryd.underlying24 rfl (by kernel_rfl)) rfl ?_
     exact ⟨rq_, bg_⟩
    ·replace c12 := Bool.eq_false_iff.mpr c12
     subst c12
     replace H := ifF_ H
     by_cases c18 : (strOfNums ([z1, z2, z3, z4, z5, z6, z7, z8, z9, za, zb, zc] : List Int)).toList = ([0, 0, 0, 0, 0, 0, 0, 0, 0, 0, 0, 0] : List UInt8)
     ·rw [if_pos c18] at H
      have c18b0 := beq_iff_eq.mpr c18
      have c18b1 := bne_eq_false_iff_eq.mpr c18
      clear c18
      replace H := Option.bind_eq_some_iff.mp H
      obtain ⟨⟨t319, t320, t321, t322, t323, t324, t325, t326, t327, t328, t329, t330, t331, t332, t333, t334, t335⟩, A190, H⟩ := H
      (try dsimp only at H)
      have A19 := Aside0.mk A190
      clear A190
      replace H := Option.bind_eq_some_iff.mp H
      obtain ⟨⟨t337, t338, t339, t340, t341, t342, t343, t344, t345, t346, t347, t348, t349, t350, t351, t352, t353⟩, A200, H⟩ := H
      (try dsimp only at H)
      have A20 := Aside0.mk A200
      clear A200
      by_cases c21 : (t319 == t337 && ((t320 == t338 && (t321 == t339 && (t322 == t340 && (t323 == t341 && (t324 == t342 && (t325 == t343 && (t326 == t344 && (t327 == t345 && (t328 == t346 && (t329 == t347 && (t330 == t348 && (t331 == t349 && (t332 == t350 && (t333 == t351 && (t334 == t352 && (t335 == t353)))))))))))))))))) = true
      ·rw [if_pos c21] at H
       have c21b0 : (t319 == t337 && ((t320 == t338 && (t321 == t339 && (t322 == t340 && (t323 == t341 && (t324 == t342 && (t325 == t343 && (t326 == t344 && (t327 == t345 && (t328 == t346 && (t329 == t347 && (t330 == t348 && (t331 == t349 && (t332 == t350 && (t333 == t351 && (t334 == t352 && (t335 == t353)))))))))))))))))) = true := c21
       clear c21
       simp only [Option.some.injEq, Prod.mk.injEq] at H
       obtain ⟨rfl, rfl, rfl, rfl, rfl, rfl, rfl, rfl, rfl, rfl, rfl, rfl, rfl, rfl, rfl, rfl, rfl, rfl⟩ := H
       have HR318 := Aside0.mk (C_arr BK296.out .u8 [.bool true, .int .u8 z1, .int .u8 z2, .int .u8 z3, .int .u8 z4, .int .u8 z5, .int .u8 z6, .int .u8 z7, .int .u8 z8, .int .u8 z9, .int .u8 za, .int .u8 zb, .int .u8 zc] [zd, ze, zf, zg] [] rfl (q := 13) rfl (by show 4 ≤ 9223372036854775807; decide))
       have HC318 := Aside0.mk (show ([zd, ze, zf, zg] : List Int).length ≤ 4 from by show 4 ≤ 4; decide)
       have hl318 : ([zd, ze, zf, zg] : List Int).length = 4 := rfl
       try go_wp2_with (first | ((with_reducible refine gate_callee (f := 42) rfl ?_); refine goesL_ (some 27) rfl rfl Tryd.func42 (by kernel_rfl) rfl #[.slice (some ⟨gb296, 13, none⟩) ([zd, ze, zf, zg] : List Int).length 4] rfl (by (try simp only [List.map_toArray, List.map_cons, List.map_nil]); first | done | (rw [show ([zd, ze, zf, zg] : List Int).length = 4 from rfl] <;> rfl) | rfl | (simp only [List.length_drop, List.length_take]; rfl)) ?_; (with_reducible refine (ip_last.calls _ _ ([zd, ze, zf, zg] : List Int) t319 t320 t321 t322 t323 t324 t325 t326 t327 t328 t329 t330 t331 t332 t333 t334 t335 _ ?side3 ?side1 ?side2 A19.out).mono ?_); (case side1 => repeat (first | exact (by repeat (first | (with_reducible exact HR318.out) | (with_reducible refine Kd.C_alloc ?_ _) | (with_reducible refine Kd.C_drewN ?_ _) | (with_reducible refine Kd.C_drew ?_) | exact HR318.out)) | (with_reducible refine Kd.C_alloc ?_ _) | (with_reducible refine Kd.C_drewN ?_ _) | (with_reducible refine Kd.C_drew ?_))); (case side2 => exact HC318.out); (case side3 => exact lg_); rintro e w22 ⟨rfl, hb⟩; refine ⟨_, rfl, ?_⟩; replace BK296 := Aside0.mk (bb_ BK296 hb); replace BK297 := Aside0.mk (bb_ BK297 hb); replace HR298 := Aside0.mk (cb_ HR298 hb); replace HR318 := Aside0.mk (cb_ HR318 hb); replace HB := Aside0.mk (below_step bg_ hb); (try clear hb); (try clear hb2); (try clear hk); (try clear hi)) | ((with_reducible refine gate_dst (N := 5) rfl ?_); refine bx_ 5 az_ 24 ?_; intro gb336 hg w23 hbox hb; have n0_ := Aside0.mk (bb_ BK296 hb); have n1_ := Aside0.mk (bb_ BK297 hb); have n2_ := Aside0.mk (cb_ HR298 hb); have n3_ := Aside0.mk (cb_ HR318 hb); have n4_ := Aside0.mk (below_step bg_ hb); have n5_ := Aside0.mk (hbox); have n6_ := Aside0.mk (gg_ (w := w) hg); have n7_ := Aside0.mk (gg_ (w := w) hg); have n8_ := Aside0.mk (nl_ BK296 hg); have n9_ := Aside0.mk (ng_ BK296 hg); have n10_ := Aside0.mk (nl_ BK297 hg); have n11_ := Aside0.mk (ng_ BK297 hg); clear BK296; clear BK297; clear HR298; clear HR318; clear HB; have BK296 := n0_; have BK297 := n1_; have HR298 := n2_; have HR318 := n3_; have HB := n4_; have BK336 := n5_; have GW336 := n6_; have GE336 := n7_; have NB296_336 := n8_; have NB336_296 := n9_; have NB297_336 := n10_; have NB336_297 := n11_; clear n0_ n1_ n2_ n3_ n4_ n5_ n6_ n7_ n8_ n9_ n10_ n11_; clear hb hbox hg; have hnb24 := NB336_296.out; have hnc24 := NB296_336.out; have hnb25 := NB336_297.out; have hnc25 := NB297_336.out; obtain ⟨hcz26_0, hcz26_1, hcz26_2, hcz26_3, hcz26_4, hcz26_5, hcz26_6, hcz26_7, hcz26_8, hcz26_9, hcz26_10, hcz26_11, hcz26_12, hcz26_13, hcz26_14, hcz26_15, hcz26_16⟩ := c17_ BK336) | ((with_reducible refine gate_store (t := 24) (p := 5) rfl ?_); refine store_all ?hg 24 5 _ rfl rfl gb336 ay_ (al_ t319 t320 t321 t322 t323 t324 t325 t326 t327 t328 t329 t330 t331 t332 t333 t334 t335) BK336.out rfl rfl rfl (by kernel_rfl) rfl ?_; (case hg => rfl); intro w27 hw; replace BK296 := Aside0.mk (sf_ BK296 NB296_336 hw); replace BK297 := Aside0.mk (sf_ BK297 NB297_336 hw); replace BK336 := Aside0.mk (show w27.heap[gb336]? = some (.cells (ag_ t319 t320 t321 t322 t323 t324 t325 t326 t327 t328 t329 t330 t331 t332 t333 t334 t335) 24 (0, 0)) from ss_ BK336 hw); replace HB := Aside0.mk (sb_ hw); clear hw))
       replace BK296 := Aside0.mk (blk_drew BK296.out)
       replace BK297 := Aside0.mk (blk_drew BK297.out)
       replace BK336 := Aside0.mk (blk_drew BK336.out)
       replace HB := Aside0.mk (below_drew1 HB.out)
       refine start_ (n := 8) (S := fun w' => (Instr.loadAt 24 (.pointer (some ⟨gb336, 0, none⟩))).run Tryd.prog w' = .ok (.agg (ag_ t319 t320 t321 t322 t323 t324 t325 t326 t327 t328 t329 t330 t331 t332 t333 t334 t335)) w') (ds := []) (bv_ 0 8) (by kernel_rfl) rfl rfl ((run_load_box BK336.out 24 [] (al_ t319 t320 t321 t322 t323 t324 t325 t326 t327 t328 t329 t330 t331 t332 t333 t334 t335) [] rfl 0 rfl Tryd.underlying24 rfl (by kernel_rfl))) (fun hHeld => ?_); refine with_tabW ip_Embeds.tab9 ip_Embeds.bits9 (fun HT_ HW_ => ?_)
       generalize w27.drew = w28 at BK296 BK297 BK336 HB hHeld ⊢
       refine tl_ 0 28 ?_ 1 7 HT_ HW_ ?_ hHeld ?_ ?_ ?_
       rotate_left
       ·intro w' s0
        refine (load_exec rfl rfl s0).trans ?_; with_reducible rfl
       rotate_left
       ·simp only [Act.put, sa_, s0_, s1_, i64_w, i32_w]
        rfl
       refine one_ (i := 1) (N := some 29) (bv_ 2 6) rfl rfl (one_of HT_.out (by kernel_rfl)) (by decide) (fun K hK => ?_)
       refine goes_ Tryd.func38 (by kernel_rfl) rfl #[.int .u8 0, .int .u8 0, .int .u8 0, .int .u8 0] (by rfl) rfl rfl lq_ ?_
       with_reducible refine (ip_V4.calls 0 0 0 0 t337 t338 t339 t340 t341 t342 t343 t344 t345 t346 t347 t348 t349 t350 t351 t352 t353 _ ?side1 A20.out).mono ?_
       (case side1 => exact lg_)
       rintro e w29 ⟨rfl, hb⟩
       refine ⟨_, rfl, ?_⟩
       replace BK296 := Aside0.mk (bb_ BK296 hb)
       replace BK297 := Aside0.mk (bb_ BK297 hb)
       replace BK336 := Aside0.mk (bb_ BK336 hb)
       replace HB := Aside0.mk (below_step bg_ hb)
       (try clear hb)
       (try clear hb2)
       (try clear hk)
       (try clear hi)
       refine hK.out _ _ ((run_load_box BK336.out 24 [] (al_ t319 t320 t321 t322 t323 t324 t325 t326 t327 t328 t329 t330 t331 t332 t333 t334 t335) [] rfl 0 rfl Tryd.underlying24 rfl (by kernel_rfl))) (fun hHeld => ?_)
       clear hK K
       refine norm_ (a' := ?_) ?_ ?_
       rotate_left
       ·show Act.put _ (some 29) _ = _
        simp only [Act.put, sa_, s0_, s1_, i64_w, i32_w]
        rfl
       refine pl_ 2 30 ?_ 3 5 HT_ ?_ ?_ ?_ ?_
       rotate_left
       ·intro w'
        go_simp
        with_reducible rfl
       rotate_left
       ·simp only [Act.put, sa_, s0_, s1_, i64_w, i32_w]
        rfl
       refine pl_ 3 31 ?_ 4 4 HT_ ?_ ?_ ?_ ?_
       rotate_left
       ·intro w'
        go_simp
        with_reducible rfl
       rotate_left
       ·simp only [Act.put, sa_, s0_, s1_, i64_w, i32_w]
        rfl
       refine pr_ 4 32 5 3 HT_ ?_ ?_ ?_
       rotate_left
       ·simp only [Act.put, sa_, s0_, s1_, i64_w, i32_w]
        rfl
       refine pr_ 5 33 6 2 HT_ ?_ ?_ ?_
       rotate_left
       ·simp only [Act.put, sa_, s0_, s1_, i64_w, i32_w]
        rfl
       refine pr_ 6 34 7 1 HT_ ?_ ?_ ?_
       rotate_left
       ·simp only [Act.put, sa_, s0_, s1_, i64_w, i32_w]
        rfl
       refine pl_ 7 35 ?_ 8 0 HT_ ?_ ?_ ?_ ?_
       rotate_left
       ·intro w'
        go_simp
        with_reducible rfl
       rotate_left
       ·simp only [Act.put, sa_, s0_, s1_, i64_w, i32_w]
        rfl
       refine done_ (done_of HT_.out (by kernel_rfl)) ?_
       have hnb30 := NB297_296.out
       have hnc30 := NB296_297.out
       obtain ⟨hcz31_0, hcz31_1, hcz31_2, hcz31_3, hcz31_4, hcz31_5, hcz31_6, hcz31_7, hcz31_8, hcz31_9, hcz31_10, hcz31_11, hcz31_12, hcz31_13, hcz31_14, hcz31_15, hcz31_16⟩ := c17_ BK297
       try go_wp2_with (first | ((with_reducible refine gate_store (t := 24) (p := 2) rfl ?_); refine store_all ?hg 24 2 _ rfl rfl gb297 ay_ ay_ BK297.out rfl rfl rfl (by kernel_rfl) rfl ?_; (case hg => rfl); intro w32 hw; replace BK296 := Aside0.mk (sf_ BK296 NB296_297 hw); replace BK297 := Aside0.mk (show w32.heap[gb297]? = some (.cells az_ 24 (0, 0)) from ss_ BK297 hw); replace BK336 := Aside0.mk (sf_ BK336 NB336_297 hw); replace HB := Aside0.mk (sb_ hw); clear hw))
       refine bodyPost_ret (results_ct rfl _ _ gb297 24 az_ (0, 0) _ rfl bk_ Tryd.underlying24 rfl (by kernel_rfl)) rfl ?_
       exact ⟨rq_, bg_⟩
      ·rw [if_neg c21] at H
       have c21b0 : (t319 == t337 && ((t320 == t338 && (t321 == t339 && (t322 == t340 && (t323 == t341 && (t324 == t342 && (t325 == t343 && (t326 == t344 && (t327 == t345 && (t328 == t346 && (t329 == t347 && (t330 == t348 && (t331 == t349 && (t332 == t350 && (t333 == t351 && (t334 == t352 && (t335 == t353)))))))))))))))))) = false := by simpa using c21
       (try (have c21b3 : ¬ (t319 = t337 && ((t320 == t338 && (t321 == t339 && (t322 == t340 && (t323 == t341 && (t324 == t342 && (t325 == t343 && (t326 == t344 && (t327 == t345 && (t328 == t346 && (t329 == t347 && (t330 == t348 && (t331 == t349 && (t332 == t350 && (t333 == t351 && (t334 == t352 && (t335 == t353)))))))))))))))))) := by simpa using c21))
       clear c21
       replace H := Option.bind_eq_some_iff.mp H
       obtain ⟨⟨t354, t355, t356, t357, t358, t359, t360, t361, t362, t363, t364, t365, t366, t367, t368, t369, t370⟩, A330, H⟩ := H
       (try dsimp only at H)
       have A33 := Aside0.mk A330
       clear A330
       by_cases c34 : (t319 == t354 && ((t320 == t355 && (t321 == t356 && (t322 == t357 && (t323 == t358 && (t324 == t359 && (t325 == t360 && (t326 == t361 && (t327 == t362 && (t328 == t363 && (t329 == t364 && (t330 == t365 && (t331 == t366 && (t332 == t367 && (t333 == t368 && (t334 == t369 && (t335 == t370)))))))))))))))))) = true
       ·rw [if_pos c34] at H
        have c34b0 : (t319 == t354 && ((t320 == t355 && (t321 == t356 && (t322 == t357 && (t323 == t358 && (t324 == t359 && (t325 == t360 && (t326 == t361 && (t327 == t362 && (t328 == t363 && (t329 == t364 && (t330 == t365 && (t331 == t366 && (t332 == t367 && (t333 == t368 && (t334 == t369 && (t335 == t370)))))))))))))))))) = true := c34
        clear c34
        simp only [Option.some.injEq, Prod.mk.injEq] at H
        obtain ⟨rfl, rfl, rfl, rfl, rfl, rfl, rfl, rfl, rfl, rfl, rfl, rfl, rfl, rfl, rfl, rfl, rfl, rfl⟩ := H
        have HR318 := Aside0.mk (C_arr BK296.out .u8 [.bool true, .int .u8 z1, .int .u8 z2, .int .u8 z3, .int .u8 z4, .int .u8 z5, .int .u8 z6, .int .u8 z7, .int .u8 z8, .int .u8 z9, .int .u8 za, .int .u8 zb, .int .u8 zc] [zd, ze, zf, zg] [] rfl (q := 13) rfl (by show 4 ≤ 9223372036854775807; decide))
        have HC318 := Aside0.mk (show ([zd, ze, zf, zg] : List Int).length ≤ 4 from by show 4 ≤ 4; decide)
        have hl318 : ([zd, ze, zf, zg] : List Int).length = 4 := rfl
        try go_wp2_with (first | ((with_reducible refine gate_callee (f := 42) rfl ?_); refine goesL_ (some 27) rfl rfl Tryd.func42 (by kernel_rfl) rfl #[.slice (some ⟨gb296, 13, none⟩) ([zd, ze, zf, zg] : List Int).length 4] rfl (by (try simp only [List.map_toArray, List.map_cons, List.map_nil]); first | done | (rw [show ([zd, ze, zf, zg] : List Int).length = 4 from rfl] <;> rfl) | rfl | (simp only [List.length_drop, List.length_take]; rfl)) ?_; (with_reducible refine (ip_last.calls _ _ ([zd, ze, zf, zg] : List Int) t319 t320 t321 t322 t323 t324 t325 t326 t327 t328 t329 t330 t331 t332 t333 t334 t335 _ ?side3 ?side1 ?side2 A19.out).mono ?_); (case side1 => repeat (first | exact (by repeat (first | (with_reducible exact HR318.out) | (with_reducible refine Kd.C_alloc ?_ _) | (with_reducible refine Kd.C_drewN ?_ _) | (with_reducible refine Kd.C_drew ?_) | exact HR318.out)) | (with_reducible refine Kd.C_alloc ?_ _) | (with_reducible refine Kd.C_drewN ?_ _) | (with_reducible refine Kd.C_drew ?_))); (case side2 => exact HC318.out); (case side3 => exact lg_); rintro e w35 ⟨rfl, hb⟩; refine ⟨_, rfl, ?_⟩; replace BK296 := Aside0.mk (bb_ BK296 hb); replace BK297 := Aside0.mk (bb_ BK297 hb); replace HR298 := Aside0.mk (cb_ HR298 hb); replace HR318 := Aside0.mk (cb_ HR318 hb); replace HB := Aside0.mk (below_step bg_ hb); (try clear hb); (try clear hb2); (try clear hk); (try clear hi)) | ((with_reducible refine gate_dst (N := 5) rfl ?_); refine bx_ 5 az_ 24 ?_; intro gb336 hg w36 hbox hb; have n0_ := Aside0.mk (bb_ BK296 hb); have n1_ := Aside0.mk (bb_ BK297 hb); have n2_ := Aside0.mk (cb_ HR298 hb); have n3_ := Aside0.mk (cb_ HR318 hb); have n4_ := Aside0.mk (below_step bg_ hb); have n5_ := Aside0.mk (hbox); have n6_ := Aside0.mk (gg_ (w := w) hg); have n7_ := Aside0.mk (gg_ (w := w) hg); have n8_ := Aside0.mk (nl_ BK296 hg); have n9_ := Aside0.mk (ng_ BK296 hg); have n10_ := Aside0.mk (nl_ BK297 hg); have n11_ := Aside0.mk (ng_ BK297 hg); clear BK296; clear BK297; clear HR298; clear HR318; clear HB; have BK296 := n0_; have BK297 := n1_; have HR298 := n2_; have HR318 := n3_; have HB := n4_; have BK336 := n5_; have GW336 := n6_; have GE336 := n7_; have NB296_336 := n8_; have NB336_296 := n9_; have NB297_336 := n10_; have NB336_297 := n11_; clear n0_ n1_ n2_ n3_ n4_ n5_ n6_ n7_ n8_ n9_ n10_ n11_; clear hb hbox hg; have hnb37 := NB336_296.out; have hnc37 := NB296_336.out; have hnb38 := NB336_297.out; have hnc38 := NB297_336.out; obtain ⟨hcz39_0, hcz39_1, hcz39_2, hcz39_3, hcz39_4, hcz39_5, hcz39_6, hcz39_7, hcz39_8, hcz39_9, hcz39_10, hcz39_11, hcz39_12, hcz39_13, hcz39_14, hcz39_15, hcz39_16⟩ := c17_ BK336) | ((with_reducible refine gate_store (t := 24) (p := 5) rfl ?_); refine store_all ?hg 24 5 _ rfl rfl gb336 ay_ (al_ t319 t320 t321 t322 t323 t324 t325 t326 t327 t328 t329 t330 t331 t332 t333 t334 t335) BK336.out rfl rfl rfl (by kernel_rfl) rfl ?_; (case hg => rfl); intro w40 hw; replace BK296 := Aside0.mk (sf_ BK296 NB296_336 hw); replace BK297 := Aside0.mk (sf_ BK297 NB297_336 hw); replace BK336 := Aside0.mk (show w40.heap[gb336]? = some (.cells (ag_ t319 t320 t321 t322 t323 t324 t325 t326 t327 t328 t329 t330 t331 t332 t333 t334 t335) 24 (0, 0)) from ss_ BK336 hw); replace HB := Aside0.mk (sb_ hw); clear hw))
        replace BK296 := Aside0.mk (blk_drew BK296.out)
        replace BK297 := Aside0.mk (blk_drew BK297.out)
        replace BK336 := Aside0.mk (blk_drew BK336.out)
        replace HB := Aside0.mk (below_drew1 HB.out)
        refine start_ (n := 8) (S := fun w' => (Instr.loadAt 24 (.pointer (some ⟨gb336, 0, none⟩))).run Tryd.prog w' = .ok (.agg (ag_ t319 t320 t321 t322 t323 t324 t325 t326 t327 t328 t329 t330 t331 t332 t333 t334 t335)) w' ∧ (Instr.loadAt 24 (.pointer (some ⟨gb336, 0, none⟩))).run Tryd.prog w' = .ok (.agg (ag_ t319 t320 t321 t322 t323 t324 t325 t326 t327 t328 t329 t330 t331 t332 t333 t334 t335)) w') (ds := []) (bv_ 0 8) (by kernel_rfl) rfl rfl ⟨(run_load_box BK336.out 24 [] (al_ t319 t320 t321 t322 t323 t324 t325 t326 t327 t328 t329 t330 t331 t332 t333 t334 t335) [] rfl 0 rfl Tryd.underlying24 rfl (by kernel_rfl)), (run_load_box BK336.out 24 [] (al_ t319 t320 t321 t322 t323 t324 t325 t326 t327 t328 t329 t330 t331 t332 t333 t334 t335) [] rfl 0 rfl Tryd.underlying24 rfl (by kernel_rfl))⟩ (fun hHeld => ?_); refine with_tabW ip_Embeds.tab9 ip_Embeds.bits9 (fun HT_ HW_ => ?_)
        generalize w40.drew = w41 at BK296 BK297 BK336 HB hHeld ⊢
        refine tl_ 0 28 ?_ 1 7 HT_ HW_ ?_ hHeld ?_ ?_ ?_
        rotate_left
        ·rintro w' ⟨s0, s1⟩
         first | (refine (load_exec rfl rfl s0).trans ?_; with_reducible rfl) | (refine (load_exec rfl rfl s1).trans ?_; with_reducible rfl) | (go_simp; with_reducible rfl)
        rotate_left
        ·simp only [Act.put, sa_, s0_, s1_, i64_w, i32_w]
         rfl
        refine one_ (i := 1) (N := some 29) (bv_ 2 6) rfl rfl (one_of HT_.out (by kernel_rfl)) (by decide) (fun K hK => ?_)
        refine goes_ Tryd.func38 (by kernel_rfl) rfl #[.int .u8 0, .int .u8 0, .int .u8 0, .int .u8 0] (by rfl) rfl rfl lq_ ?_
        with_reducible refine (ip_V4.calls 0 0 0 0 t337 t338 t339 t340 t341 t342 t343 t344 t345 t346 t347 t348 t349 t350 t351 t352 t353 _ ?side1 A20.out).mono ?_
        (case side1 => exact lg_)
        rintro e w42 ⟨rfl, hb⟩
        refine ⟨_, rfl, ?_⟩
        replace BK296 := Aside0.mk (bb_ BK296 hb)
        replace BK297 := Aside0.mk (bb_ BK297 hb)
        replace BK336 := Aside0.mk (bb_ BK336 hb)
        replace HB := Aside0.mk (below_step bg_ hb)
        (try clear hb)
        (try clear hb2)
        (try clear hk)
        (try clear hi)
        refine hK.out _ _ ⟨(run_load_box BK336.out 24 [] (al_ t319 t320 t321 t322 t323 t324 t325 t326 t327 t328 t329 t330 t331 t332 t333 t334 t335) [] rfl 0 rfl Tryd.underlying24 rfl (by kernel_rfl)), (run_load_box BK336.out 24 [] (al_ t319 t320 t321 t322 t323 t324 t325 t326 t327 t328 t329 t330 t331 t332 t333 t334 t335) [] rfl 0 rfl Tryd.underlying24 rfl (by kernel_rfl))⟩ (fun hHeld => ?_)
        clear hK K
        refine norm_ (a' := ?_) ?_ ?_
        rotate_left
        ·show Act.put _ (some 29) _ = _
         simp only [Act.put, sa_, s0_, s1_, i64_w, i32_w]
         rfl
        refine pl_ 2 30 ?_ 3 5 HT_ ?_ ?_ ?_ ?_
        rotate_left
        ·intro w'
         go_simp
         with_reducible rfl
        rotate_left
        ·simp only [Act.put, sa_, s0_, s1_, i64_w, i32_w]
         rfl
        refine pl_ 3 31 ?_ 4 4 HT_ ?_ ?_ ?_ ?_
        rotate_left
        ·intro w'
         go_simp
         with_reducible rfl
        rotate_left
        ·simp only [Act.put, sa_, s0_, s1_, i64_w, i32_w]
         rfl
        refine tl_ 4 32 ?_ 5 3 HT_ HW_ ?_ hHeld ?_ ?_ ?_
        rotate_left
        ·rintro w' ⟨s0, s1⟩
         first | (refine (load_exec rfl rfl s0).trans ?_; with_reducible rfl) | (refine (load_exec rfl rfl s1).trans ?_; with_reducible rfl) | (go_simp; with_reducible rfl)
        rotate_left
        ·simp only [Act.put, sa_, s0_, s1_, i64_w, i32_w]
         rfl
        refine one_ (i := 5) (N := some 33) (bv_ 6 2) rfl rfl (one_of HT_.out (by kernel_rfl)) (by decide) (fun K hK => ?_)
        refine goes_ Tryd.func38 (by kernel_rfl) rfl #[.int .u8 0, .int .u8 0, .int .u8 0, .int .u8 1] (by rfl) rfl rfl lq_ ?_
        with_reducible refine (ip_V4.calls 0 0 0 1 t354 t355 t356 t357 t358 t359 t360 t361 t362 t363 t364 t365 t366 t367 t368 t369 t370 _ ?side1 A33.out).mono ?_
        (case side1 => exact lg_)
        rintro e w43 ⟨rfl, hb⟩
        refine ⟨_, rfl, ?_⟩
        replace BK296 := Aside0.mk (bb_ BK296 hb)
        replace BK297 := Aside0.mk (bb_ BK297 hb)
        replace BK336 := Aside0.mk (bb_ BK336 hb)
        replace HB := Aside0.mk (below_step bg_ hb)
        (try clear hb)
        (try clear hb2)
        (try clear hk)
        (try clear hi)
        refine hK.out _ _ ⟨(run_load_box BK336.out 24 [] (al_ t319 t320 t321 t322 t323 t324 t325 t326 t327 t328 t329 t330 t331 t332 t333 t334 t335) [] rfl 0 rfl Tryd.underlying24 rfl (by kernel_rfl)), (run_load_box BK336.out 24 [] (al_ t319 t320 t321 t322 t323 t324 t325 t326 t327 t328 t329 t330 t331 t332 t333 t334 t335) [] rfl 0 rfl Tryd.underlying24 rfl (by kernel_rfl))⟩ (fun hHeld => ?_)
        clear hK K
        refine norm_ (a' := ?_) ?_ ?_
        rotate_left
        ·show Act.put _ (some 33) _ = _
         simp only [Act.put, sa_, s0_, s1_, i64_w, i32_w]
         rfl
        refine pl_ 6 34 ?_ 7 1 HT_ ?_ ?_ ?_ ?_
        rotate_left
        ·intro w'
         go_simp
         with_reducible rfl
        rotate_left
        ·simp only [Act.put, sa_, s0_, s1_, i64_w, i32_w]
         rfl
        refine pl_ 7 35 ?_ 8 0 HT_ ?_ ?_ ?_ ?_
        rotate_left
        ·intro w'
         go_simp
         with_reducible rfl
        rotate_left
        ·simp only [Act.put, sa_, s0_, s1_, i64_w, i32_w]
         rfl
        refine done_ (done_of HT_.out (by kernel_rfl)) ?_
        have hnb44 := NB297_296.out
        have hnc44 := NB296_297.out
        obtain ⟨hcz45_0, hcz45_1, hcz45_2, hcz45_3, hcz45_4, hcz45_5, hcz45_6, hcz45_7, hcz45_8, hcz45_9, hcz45_10, hcz45_11, hcz45_12, hcz45_13, hcz45_14, hcz45_15, hcz45_16⟩ := c17_ BK297
        try go_wp2_with (first | ((with_reducible refine gate_store (t := 24) (p := 2) rfl ?_); refine store_all ?hg 24 2 _ rfl rfl gb297 ay_ ay_ BK297.out rfl rfl rfl (by kernel_rfl) rfl ?_; (case hg => rfl); intro w46 hw; replace BK296 := Aside0.mk (sf_ BK296 NB296_297 hw); replace BK297 := Aside0.mk (show w46.heap[gb297]? = some (.cells az_ 24 (0, 0)) from ss_ BK297 hw); replace BK336 := Aside0.mk (sf_ BK336 NB336_297 hw); replace HB := Aside0.mk (sb_ hw); clear hw))
        refine bodyPost_ret (results_ct rfl _ _ gb297 24 az_ (0, 0) _ rfl bk_ Tryd.underlying24 rfl (by kernel_rfl)) rfl ?_
        exact ⟨rq_, bg_⟩
       ·rw [if_neg c34] at H
        have c34b0 : (t319 == t354 && ((t320 == t355 && (t321 == t356 && (t322 == t357 && (t323 == t358 && (t324 == t359 && (t325 == t360 && (t326 == t361 && (t327 == t362 && (t328 == t363 && (t329 == t364 && (t330 == t365 && (t331 == t366 && (t332 == t367 && (t333 == t368 && (t334 == t369 && (t335 == t370)))))))))))))))))) = false := by simpa using c34
        (try (have c34b3 : ¬ (t319 = t354 && ((t320 == t355 && (t321 == t356 && (t322 == t357 && (t323 == t358 && (t324 == t359 && (t325 == t360 && (t326 == t361 && (t327 == t362 && (t328 == t363 && (t329 == t364 && (t330 == t365 && (t331 == t366 && (t332 == t367 && (t333 == t368 && (t334 == t369 && (t335 == t370)))))))))))))))))) := by simpa using c34))
        clear c34
        simp only [Option.some.injEq, Prod.mk.injEq] at H
        obtain ⟨rfl, rfl, rfl, rfl, rfl, rfl, rfl, rfl, rfl, rfl, rfl, rfl, rfl, rfl, rfl, rfl, rfl, rfl⟩ := H
        have HR318 := Aside0.mk (C_arr BK296.out .u8 [.bool true, .int .u8 z1, .int .u8 z2, .int .u8 z3, .int .u8 z4, .int .u8 z5, .int .u8 z6, .int .u8 z7, .int .u8 z8, .int .u8 z9, .int .u8 za, .int .u8 zb, .int .u8 zc] [zd, ze, zf, zg] [] rfl (q := 13) rfl (by show 4 ≤ 9223372036854775807; decide))
        have HC318 := Aside0.mk (show ([zd, ze, zf, zg] : List Int).length ≤ 4 from by show 4 ≤ 4; decide)
        have hl318 : ([zd, ze, zf, zg] : List Int).length = 4 := rfl
        try go_wp2_with (first | ((with_reducible refine gate_callee (f := 42) rfl ?_); refine goesL_ (some 27) rfl rfl Tryd.func42 (by kernel_rfl) rfl #[.slice (some ⟨gb296, 13, none⟩) ([zd, ze, zf, zg] : List Int).length 4] rfl (by (try simp only [List.map_toArray, List.map_cons, List.map_nil]); first | done | (rw [show ([zd, ze, zf, zg] : List Int).length = 4 from rfl] <;> rfl) | rfl | (simp only [List.length_drop, List.length_take]; rfl)) ?_; (with_reducible refine (ip_last.calls _ _ ([zd, ze, zf, zg] : List Int) t319 t320 t321 t322 t323 t324 t325 t326 t327 t328 t329 t330 t331 t332 t333 t334 t335 _ ?side3 ?side1 ?side2 A19.out).mono ?_); (case side1 => repeat (first | exact (by repeat (first | (with_reducible exact HR318.out) | (with_reducible refine Kd.C_alloc ?_ _) | (with_reducible refine Kd.C_drewN ?_ _) | (with_reducible refine Kd.C_drew ?_) | exact HR318.out)) | (with_reducible refine Kd.C_alloc ?_ _) | (with_reducible refine Kd.C_drewN ?_ _) | (with_reducible refine Kd.C_drew ?_))); (case side2 => exact HC318.out); (case side3 => exact lg_); rintro e w47 ⟨rfl, hb⟩; refine ⟨_, rfl, ?_⟩; replace BK296 := Aside0.mk (bb_ BK296 hb); replace BK297 := Aside0.mk (bb_ BK297 hb); replace HR298 := Aside0.mk (cb_ HR298 hb); replace HR318 := Aside0.mk (cb_ HR318 hb); replace HB := Aside0.mk (below_step bg_ hb); (try clear hb); (try clear hb2); (try clear hk); (try clear hi)) | ((with_reducible refine gate_dst (N := 5) rfl ?_); refine bx_ 5 az_ 24 ?_; intro gb336 hg w48 hbox hb; have n0_ := Aside0.mk (bb_ BK296 hb); have n1_ := Aside0.mk (bb_ BK297 hb); have n2_ := Aside0.mk (cb_ HR298 hb); have n3_ := Aside0.mk (cb_ HR318 hb); have n4_ := Aside0.mk (below_step bg_ hb); have n5_ := Aside0.mk (hbox); have n6_ := Aside0.mk (gg_ (w := w) hg); have n7_ := Aside0.mk (gg_ (w := w) hg); have n8_ := Aside0.mk (nl_ BK296 hg); have n9_ := Aside0.mk (ng_ BK296 hg); have n10_ := Aside0.mk (nl_ BK297 hg); have n11_ := Aside0.mk (ng_ BK297 hg); clear BK296; clear BK297; clear HR298; clear HR318; clear HB; have BK296 := n0_; have BK297 := n1_; have HR298 := n2_; have HR318 := n3_; have HB := n4_; have BK336 := n5_; have GW336 := n6_; have GE336 := n7_; have NB296_336 := n8_; have NB336_296 := n9_; have NB297_336 := n10_; have NB336_297 := n11_; clear n0_ n1_ n2_ n3_ n4_ n5_ n6_ n7_ n8_ n9_ n10_ n11_; clear hb hbox hg; have hnb49 := NB336_296.out; have hnc49 := NB296_336.out; have hnb50 := NB336_297.out; have hnc50 := NB297_336.out; obtain ⟨hcz51_0, hcz51_1, hcz51_2, hcz51_3, hcz51_4, hcz51_5, hcz51_6, hcz51_7, hcz51_8, hcz51_9, hcz51_10, hcz51_11, hcz51_12, hcz51_13, hcz51_14, hcz51_15, hcz51_16⟩ := c17_ BK336) | ((with_reducible refine gate_store (t := 24) (p := 5) rfl ?_); refine store_all ?hg 24 5 _ rfl rfl gb336 ay_ (al_ t319 t320 t321 t322 t323 t324 t325 t326 t327 t328 t329 t330 t331 t332 t333 t334 t335) BK336.out rfl rfl rfl (by kernel_rfl) rfl ?_; (case hg => rfl); intro w52 hw; replace BK296 := Aside0.mk (sf_ BK296 NB296_336 hw); replace BK297 := Aside0.mk (sf_ BK297 NB297_336 hw); replace BK336 := Aside0.mk (show w52.heap[gb336]? = some (.cells (ag_ t319 t320 t321 t322 t323 t324 t325 t326 t327 t328 t329 t330 t331 t332 t333 t334 t335) 24 (0, 0)) from ss_ BK336 hw); replace HB := Aside0.mk (sb_ hw); clear hw))
        replace BK296 := Aside0.mk (blk_drew BK296.out)
        replace BK297 := Aside0.mk (blk_drew BK297.out)
        replace BK336 := Aside0.mk (blk_drew BK336.out)
        replace HB := Aside0.mk (below_drew1 HB.out)
        refine start_ (n := 8) (S := fun w' => (Instr.loadAt 24 (.pointer (some ⟨gb336, 0, none⟩))).run Tryd.prog w' = .ok (.agg (ag_ t319 t320 t321 t322 t323 t324 t325 t326 t327 t328 t329 t330 t331 t332 t333 t334 t335)) w' ∧ (Instr.loadAt 24 (.pointer (some ⟨gb336, 0, none⟩))).run Tryd.prog w' = .ok (.agg (ag_ t319 t320 t321 t322 t323 t324 t325 t326 t327 t328 t329 t330 t331 t332 t333 t334 t335)) w') (ds := []) (bv_ 0 8) (by kernel_rfl) rfl rfl ⟨(run_load_box BK336.out 24 [] (al_ t319 t320 t321 t322 t323 t324 t325 t326 t327 t328 t329 t330 t331 t332 t333 t334 t335) [] rfl 0 rfl Tryd.underlying24 rfl (by kernel_rfl)), (run_load_box BK336.out 24 [] (al_ t319 t320 t321 t322 t323 t324 t325 t326 t327 t328 t329 t330 t331 t332 t333 t334 t335) [] rfl 0 rfl Tryd.underlying24 rfl (by kernel_rfl))⟩ (fun hHeld => ?_); refine with_tabW ip_Embeds.tab9 ip_Embeds.bits9 (fun HT_ HW_ => ?_)
        generalize w52.drew = w53 at BK296 BK297 BK336 HB hHeld ⊢
        refine tl_ 0 28 ?_ 1 7 HT_ HW_ ?_ hHeld ?_ ?_ ?_
        rotate_left
        ·rintro w' ⟨s0, s1⟩
         first | (refine (load_exec rfl rfl s0).trans ?_; with_reducible rfl) | (refine (load_exec rfl rfl s1).trans ?_; with_reducible rfl) | (go_simp; with_reducible rfl)
        rotate_left
        ·simp only [Act.put, sa_, s0_, s1_, i64_w, i32_w]
         rfl
        refine one_ (i := 1) (N := some 29) (bv_ 2 6) rfl rfl (one_of HT_.out (by kernel_rfl)) (by decide) (fun K hK => ?_)
        refine goes_ Tryd.func38 (by kernel_rfl) rfl #[.int .u8 0, .int .u8 0, .int .u8 0, .int .u8 0] (by rfl) rfl rfl lq_ ?_
        with_reducible refine (ip_V4.calls 0 0 0 0 t337 t338 t339 t340 t341 t342 t343 t344 t345 t346 t347 t348 t349 t350 t351 t352 t353 _ ?side1 A20.out).mono ?_
        (case side1 => exact lg_)
        rintro e w54 ⟨rfl, hb⟩
        refine ⟨_, rfl, ?_⟩
        replace BK296 := Aside0.mk (bb_ BK296 hb)
        replace BK297 := Aside0.mk (bb_ BK297 hb)
        replace BK336 := Aside0.mk (bb_ BK336 hb)
        replace HB := Aside0.mk (below_step bg_ hb)
        (try clear hb)
        (try clear hb2)
        (try clear hk)
        (try clear hi)
        refine hK.out _ _ ⟨(run_load_box BK336.out 24 [] (al_ t319 t320 t321 t322 t323 t324 t325 t326 t327 t328 t329 t330 t331 t332 t333 t334 t335) [] rfl 0 rfl Tryd.underlying24 rfl (by kernel_rfl)), (run_load_box BK336.out 24 [] (al_ t319 t320 t321 t322 t323 t324 t325 t326 t327 t328 t329 t330 t331 t332 t333 t334 t335) [] rfl 0 rfl Tryd.underlying24 rfl (by kernel_rfl))⟩ (fun hHeld => ?_)
        clear hK K
        refine norm_ (a' := ?_) ?_ ?_
        rotate_left
        ·show Act.put _ (some 29) _ = _
         simp only [Act.put, sa_, s0_, s1_, i64_w, i32_w]
         rfl
        refine pl_ 2 30 ?_ 3 5 HT_ ?_ ?_ ?_ ?_
        rotate_left
        ·intro w'
         go_simp
         with_reducible rfl
        rotate_left
        ·simp only [Act.put, sa_, s0_, s1_, i64_w, i32_w]
         rfl
        refine pl_ 3 31 ?_ 4 4 HT_ ?_ ?_ ?_ ?_
        rotate_left
        ·intro w'
         go_simp
         with_reducible rfl
        rotate_left
        ·simp only [Act.put, sa_, s0_, s1_, i64_w, i32_w]
         rfl
        refine tl_ 4 32 ?_ 5 3 HT_ HW_ ?_ hHeld ?_ ?_ ?_
        rotate_left
        ·rintro w' ⟨s0, s1⟩
         first | (refine (load_exec rfl rfl s0).trans ?_; with_reducible rfl) | (refine (load_exec rfl rfl s1).trans ?_; with_reducible rfl) | (go_simp; with_reducible rfl)
        rotate_left
        ·simp only [Act.put, sa_, s0_, s1_, i64_w, i32_w]
         rfl
        refine one_ (i := 5) (N := some 33) (bv_ 6 2) rfl rfl (one_of HT_.out (by kernel_rfl)) (by decide) (fun K hK => ?_)
        refine goes_ Tryd.func38 (by kernel_rfl) rfl #[.int .u8 0, .int .u8 0, .int .u8 0, .int .u8 1] (by rfl) rfl rfl lq_ ?_
        with_reducible refine (ip_V4.calls 0 0 0 1 t354 t355 t356 t357 t358 t359 t360 t361 t362 t363 t364 t365 t366 t367 t368 t369 t370 _ ?side1 A33.out).mono ?_
        (case side1 => exact lg_)
        rintro e w55 ⟨rfl, hb⟩
        refine ⟨_, rfl, ?_⟩
        replace BK296 := Aside0.mk (bb_ BK296 hb)
        replace BK297 := Aside0.mk (bb_ BK297 hb)
        replace BK336 := Aside0.mk (bb_ BK336 hb)
        replace HB := Aside0.mk (below_step bg_ hb)
        (try clear hb)
        (try clear hb2)
        (try clear hk)
        (try clear hi)
        refine hK.out _ _ ⟨(run_load_box BK336.out 24 [] (al_ t319 t320 t321 t322 t323 t324 t325 t326 t327 t328 t329 t330 t331 t332 t333 t334 t335) [] rfl 0 rfl Tryd.underlying24 rfl (by kernel_rfl)), (run_load_box BK336.out 24 [] (al_ t319 t320 t321 t322 t323 t324 t325 t326 t327 t328 t329 t330 t331 t332 t333 t334 t335) [] rfl 0 rfl Tryd.underlying24 rfl (by kernel_rfl))⟩ (fun hHeld => ?_)
        clear hK K
        refine norm_ (a' := ?_) ?_ ?_
        rotate_left
        ·show Act.put _ (some 33) _ = _
         simp only [Act.put, sa_, s0_, s1_, i64_w, i32_w]
         rfl
        refine pl_ 6 34 ?_ 7 1 HT_ ?_ ?_ ?_ ?_
        rotate_left
        ·intro w'
         go_simp
         with_reducible rfl
        rotate_left
        ·simp only [Act.put, sa_, s0_, s1_, i64_w, i32_w]
         rfl
        refine pl_ 7 35 ?_ 8 0 HT_ ?_ ?_ ?_ ?_
        rotate_left
        ·intro w'
         go_simp
         with_reducible rfl
        rotate_left
        ·simp only [Act.put, sa_, s0_, s1_, i64_w, i32_w]
         rfl
        refine done_ (done_of HT_.out (by kernel_rfl)) ?_
        have hnb56 := NB297_296.out
        have hnc56 := NB296_297.out
        obtain ⟨hcz57_0, hcz57_1, hcz57_2, hcz57_3, hcz57_4, hcz57_5, hcz57_6, hcz57_7, hcz57_8, hcz57_9, hcz57_10, hcz57_11, hcz57_12, hcz57_13, hcz57_14, hcz57_15, hcz57_16⟩ := c17_ BK297
        try go_wp2_with (first | ((with_reducible refine gate_dst (N := 37) rfl ?_); (try (refine gate_guard (by rfl) ?_; dsimp only)); refine load_box ?hg 24 (.tmp 5) rfl BK336.out [] (al_ t319 t320 t321 t322 t323 t324 t325 t326 t327 t328 t329 t330 t331 t332 t333 t334 t335) [] rfl 0 rfl rfl Tryd.underlying24 rfl (by kernel_rfl) ?_; (case hg => rfl)) | ((with_reducible refine gate_store (t := 24) (p := 2) rfl ?_); refine store_all ?hg 24 2 _ rfl rfl gb297 ay_ (al_ t319 t320 t321 t322 t323 t324 t325 t326 t327 t328 t329 t330 t331 t332 t333 t334 t335) BK297.out rfl rfl rfl (by kernel_rfl) rfl ?_; (case hg => rfl); intro w58 hw; replace BK296 := Aside0.mk (sf_ BK296 NB296_297 hw); replace BK297 := Aside0.mk (show w58.heap[gb297]? = some (.cells (ag_ t319 t320 t321 t322 t323 t324 t325 t326 t327 t328 t329 t330 t331 t332 t333 t334 t335) 24 (0, 0)) from ss_ BK297 hw); replace BK336 := Aside0.mk (sf_ BK336 NB336_297 hw); replace HB := Aside0.mk (sb_ hw); clear hw))
        refine bodyPost_ret (results_ct rfl _ _ gb297 24 (ag_ t319 t320 t321 t322 t323 t324 t325 t326 t327 t328 t329 t330 t331 t332 t333 t334 t335) (0, 0) _ rfl bk_ Tryd.underlying24 rfl (by kernel_rfl)) rfl ?_
        exact ⟨rq_, bg_⟩
     ·rw [if_neg c18] at H
      have c18b0 := beq_eq_false_iff_ne.mpr c18
      have c18b1 := bne_iff_ne.mpr c18
      by_cases c59 : z1 = 32
      ·rw [if_pos c59] at H
       have c59b0 := beq_iff_eq.mpr c59
       have c59b1 := bne_eq_false_iff_eq.mpr c59
       clear c59
       by_cases c60 : z2 = 2
       ·rw [if_pos c60] at H
        have c60b0 := beq_iff_eq.mpr c60
        have c60b1 := bne_eq_false_iff_eq.mpr c60
        clear c60
        replace H := Option.bind_eq_some_iff.mp H
        obtain ⟨⟨t372, t373, t374, t375, t376, t377, t378, t379, t380, t381, t382, t383, t384, t385, t386, t387, t388⟩, A610, H⟩ := H
        (try dsimp only at H)
        have A61 := Aside0.mk A610
        clear A610
        simp only [Option.some.injEq, Prod.mk.injEq] at H
        obtain ⟨rfl, rfl, rfl, rfl, rfl, rfl, rfl, rfl, rfl, rfl, rfl, rfl, rfl, rfl, rfl, rfl, rfl, rfl⟩ := H
        have hnb62 := NB296_297.out
        have hnc62 := NB297_296.out
        obtain ⟨hcz63_0, hcz63_1, hcz63_2, hcz63_3, hcz63_4, hcz63_5, hcz63_6, hcz63_7, hcz63_8, hcz63_9, hcz63_10, hcz63_11, hcz63_12, hcz63_13, hcz63_14, hcz63_15, hcz63_16⟩ := c17_ BK296
        have HR371 := Aside0.mk (C_arr BK296.out .u8 [.bool true, .int .u8 z1, .int .u8 z2] [z3, z4, z5, z6] [.int .u8 z7, .int .u8 z8, .int .u8 z9, .int .u8 za, .int .u8 zb, .int .u8 zc, .int .u8 zd, .int .u8 ze, .int .u8 zf, .int .u8 zg] rfl (q := 3) rfl (by show 4 ≤ 9223372036854775807; decide))
        have HC371 := Aside0.mk (show ([z3, z4, z5, z6] : List Int).length ≤ 14 from by show 4 ≤ 14; decide)
        have hl371 : ([z3, z4, z5, z6] : List Int).length = 4 := rfl
        go_wp2_with (first | ((with_reducible refine gate_callee (f := 42) rfl ?_); refine goesL_ (some 51) rfl rfl Tryd.func42 (by kernel_rfl) rfl #[.slice (some ⟨gb296, 3, none⟩) ([z3, z4, z5, z6] : List Int).length 14] rfl (by (try simp only [List.map_toArray, List.map_cons, List.map_nil]); first | done | (rw [show ([z3, z4, z5, z6] : List Int).length = 4 from rfl] <;> rfl) | rfl | (simp only [List.length_drop, List.length_take]; rfl)) ?_; (with_reducible refine (ip_last.calls _ _ ([z3, z4, z5, z6] : List Int) t372 t373 t374 t375 t376 t377 t378 t379 t380 t381 t382 t383 t384 t385 t386 t387 t388 _ ?side3 ?side1 ?side2 A61.out).mono ?_); (case side1 => repeat (first | exact (by repeat (first | (with_reducible exact HR371.out) | (with_reducible refine Kd.C_alloc ?_ _) | (with_reducible refine Kd.C_drewN ?_ _) | (with_reducible refine Kd.C_drew ?_) | exact HR371.out)) | (with_reducible refine Kd.C_alloc ?_ _) | (with_reducible refine Kd.C_drewN ?_ _) | (with_reducible refine Kd.C_drew ?_))); (case side2 => exact HC371.out); (case side3 => exact lg_); rintro e w64 ⟨rfl, hb⟩; refine ⟨_, rfl, ?_⟩; replace BK296 := Aside0.mk (bb_ BK296 hb); replace BK297 := Aside0.mk (bb_ BK297 hb); replace HR298 := Aside0.mk (cb_ HR298 hb); replace HR371 := Aside0.mk (cb_ HR371 hb); replace HB := Aside0.mk (below_step bg_ hb); (try clear hb); (try clear hb2); (try clear hk); (try clear hi); obtain ⟨hcz65_0, hcz65_1, hcz65_2, hcz65_3, hcz65_4, hcz65_5, hcz65_6, hcz65_7, hcz65_8, hcz65_9, hcz65_10, hcz65_11, hcz65_12, hcz65_13, hcz65_14, hcz65_15, hcz65_16⟩ := c17_ BK297) | ((with_reducible refine gate_store (t := 24) (p := 2) rfl ?_); refine store_all ?hg 24 2 _ rfl rfl gb297 ay_ (al_ t372 t373 t374 t375 t376 t377 t378 t379 t380 t381 t382 t383 t384 t385 t386 t387 t388) BK297.out rfl rfl rfl (by kernel_rfl) rfl ?_; (case hg => rfl); intro w66 hw; replace BK296 := Aside0.mk (sf_ BK296 NB296_297 hw); replace BK297 := Aside0.mk (show w66.heap[gb297]? = some (.cells (ag_ t372 t373 t374 t375 t376 t377 t378 t379 t380 t381 t382 t383 t384 t385 t386 t387 t388) 24 (0, 0)) from ss_ BK297 hw); replace HB := Aside0.mk (sb_ hw); clear hw))
        refine bodyPost_ret (results_ct rfl _ _ gb297 24 (ag_ t372 t373 t374 t375 t376 t377 t378 t379 t380 t381 t382 t383 t384 t385 t386 t387 t388) (0, 0) _ rfl bk_ Tryd.underlying24 rfl (by kernel_rfl)) rfl ?_
        exact ⟨rq_, bg_⟩
       ·rw [if_neg c60] at H
        have c60b0 := beq_eq_false_iff_ne.mpr c60
        have c60b1 := bne_iff_ne.mpr c60
        simp only [Option.some.injEq, Prod.mk.injEq] at H
        obtain ⟨rfl, rfl, rfl, rfl, rfl, rfl, rfl, rfl, rfl, rfl, rfl, rfl, rfl, rfl, rfl, rfl, rfl, rfl⟩ := H
        have hnb67 := NB296_297.out
        have hnc67 := NB297_296.out
        obtain ⟨hcz68_0, hcz68_1, hcz68_2, hcz68_3, hcz68_4, hcz68_5, hcz68_6, hcz68_7, hcz68_8, hcz68_9, hcz68_10, hcz68_11, hcz68_12, hcz68_13, hcz68_14, hcz68_15, hcz68_16⟩ := c17_ BK296
        obtain ⟨hcz69_0, hcz69_1, hcz69_2, hcz69_3, hcz69_4, hcz69_5, hcz69_6, hcz69_7, hcz69_8, hcz69_9, hcz69_10, hcz69_11, hcz69_12, hcz69_13, hcz69_14, hcz69_15, hcz69_16⟩ := c17_ BK297
        go_wp2_with (first | ((with_reducible refine gate_store (t := 24) (p := 2) rfl ?_); refine store_all ?hg 24 2 _ rfl rfl gb297 ay_ ay_ BK297.out rfl rfl rfl (by kernel_rfl) rfl ?_; (case hg => rfl); intro w70 hw; replace BK296 := Aside0.mk (sf_ BK296 NB296_297 hw); replace BK297 := Aside0.mk (show w70.heap[gb297]? = some (.cells az_ 24 (0, 0)) from ss_ BK297 hw); replace HB := Aside0.mk (sb_ hw); clear hw))
        refine bodyPost_ret (results_ct rfl _ _ gb297 24 az_ (0, 0) _ rfl bk_ Tryd.underlying24 rfl (by kernel_rfl)) rfl ?_
        exact ⟨rq_, bg_⟩
      ·rw [if_neg c59] at H
       have c59b0 := beq_eq_false_iff_ne.mpr c59
       have c59b1 := bne_iff_ne.mpr c59
       simp only [Option.some.injEq, Prod.mk.injEq] at H
       obtain ⟨rfl, rfl, rfl, rfl, rfl, rfl, rfl, rfl, rfl, rfl, rfl, rfl, rfl, rfl, rfl, rfl, rfl, rfl⟩ := H
       have hnb71 := NB296_297.out
       have hnc71 := NB297_296.out
       obtain ⟨hcz72_0, hcz72_1, hcz72_2, hcz72_3, hcz72_4, hcz72_5, hcz72_6, hcz72_7, hcz72_8, hcz72_9, hcz72_10, hcz72_11, hcz72_12, hcz72_13, hcz72_14, hcz72_15, hcz72_16⟩ := c17_ BK296
       obtain ⟨hcz73_0, hcz73_1, hcz73_2, hcz73_3, hcz73_4, hcz73_5, hcz73_6, hcz73_7, hcz73_8, hcz73_9, hcz73_10, hcz73_11, hcz73_12, hcz73_13, hcz73_14, hcz73_15, hcz73_16⟩ := c17_ BK297
       go_wp2_with (first | ((with_reducible refine gate_store (t := 24) (p := 2) rfl ?_); refine store_all ?hg 24 2 _ rfl rfl gb297 ay_ ay_ BK297.out rfl rfl rfl (by kernel_rfl) rfl ?_; (case hg => rfl); intro w74 hw; replace BK296 := Aside0.mk (sf_ BK296 NB296_297 hw); replace BK297 := Aside0.mk (show w74.heap[gb297]? = some (.cells az_ 24 (0, 0)) from ss_ BK297 hw); replace HB := Aside0.mk (sb_ hw); clear hw))
       refine bodyPost_ret (results_ct rfl _ _ gb297 24 az_ (0, 0) _ rfl bk_ Tryd.underlying24 rfl (by kernel_rfl)) rfl ?_
       exact ⟨rq_, bg_⟩
 ·replace c2 := Bool.eq_false_iff.mpr c2
  subst c2
  replace H := ifF_ H
  simp only [Option.some.injEq, Prod.mk.injEq] at H
  obtain ⟨rfl, rfl, rfl, rfl, rfl, rfl, rfl, rfl, rfl, rfl, rfl, rfl, rfl, rfl, rfl, rfl, rfl, rfl⟩ := H
  go_enter Tryd.func25, Tryd.ntmps25
  go_wp2_with (first | ((with_reducible refine gate_dst (N := 1) rfl ?_); refine bx_ 1 (ag_ false z1 z2 z3 z4 z5 z6 z7 z8 z9 za zb zc zd ze zf zg) 24 ?_; intro gb296 hg w75 hbox hb; have BK296 := Aside0.mk (hbox); have GW296 := Aside0.mk (ge_ (w := w) hg); have GE296 := Aside0.mk (ge_ (w := w) hg); replace HB := Aside0.mk (below_step bq_ hb); clear hb hbox hg) | ((with_reducible refine gate_dst (N := 2) rfl ?_); refine bx_ 2 az_ 24 ?_; intro gb297 hg w76 hbox hb; have n0_ := Aside0.mk (bb_ BK296 hb); have n1_ := Aside0.mk (below_step bg_ hb); have n2_ := Aside0.mk (hbox); have n3_ := Aside0.mk (gg_ (w := w) hg); have n4_ := Aside0.mk (gg_ (w := w) hg); have n5_ := Aside0.mk (nl_ BK296 hg); have n6_ := Aside0.mk (ng_ BK296 hg); clear BK296; clear HB; have BK296 := n0_; have HB := n1_; have BK297 := n2_; have GW297 := n3_; have GE297 := n4_; have NB296_297 := n5_; have NB297_296 := n6_; clear n0_ n1_ n2_ n3_ n4_ n5_ n6_; clear hb hbox hg; have HR298 := Aside0.mk (C_arr BK296.out .u8 [.bool false] [z1, z2, z3, z4, z5, z6, z7, z8, z9, za, zb, zc] [.int .u8 zd, .int .u8 ze, .int .u8 zf, .int .u8 zg] rfl (q := 1) rfl (by show 12 ≤ 9223372036854775807; decide)); have HC298 := Aside0.mk (show ([z1, z2, z3, z4, z5, z6, z7, z8, z9, za, zb, zc] : List Int).length ≤ 16 from by show 12 ≤ 16; decide); have hl298 : ([z1, z2, z3, z4, z5, z6, z7, z8, z9, za, zb, zc] : List Int).length = 12 := rfl; have hcv77 := Kd.C_string (P := Tryd.prog) (A := (some ⟨gb296, 1, none⟩)) (c := 16) Tryd.underlying70 Tryd.underlying5 Tryd.underlying9 (by repeat (first | (with_reducible exact HR298.out) | (with_reducible refine Kd.C_alloc ?_ _) | (with_reducible refine Kd.C_drewN ?_ _) | (with_reducible refine Kd.C_drew ?_) | exact HR298.out)); have hcv77b := hcv77; rw [show ([z1, z2, z3, z4, z5, z6, z7, z8, z9, za, zb, zc] : List Int).length = 12 from rfl] at hcv77b; have hnb78 := NB296_297.out; have hnc78 := NB297_296.out; obtain ⟨hcz79_0, hcz79_1, hcz79_2, hcz79_3, hcz79_4, hcz79_5, hcz79_6, hcz79_7, hcz79_8, hcz79_9, hcz79_10, hcz79_11, hcz79_12, hcz79_13, hcz79_14, hcz79_15, hcz79_16⟩ := c17_ BK296; obtain ⟨hcz80_0, hcz80_1, hcz80_2, hcz80_3, hcz80_4, hcz80_5, hcz80_6, hcz80_7, hcz80_8, hcz80_9, hcz80_10, hcz80_11, hcz80_12, hcz80_13, hcz80_14, hcz80_15, hcz80_16⟩ := c17_ BK297) | ((with_reducible refine gate_store (t := 24) (p := 2) rfl ?_); refine store_all ?hg 24 2 _ rfl rfl gb297 ay_ ay_ BK297.out rfl rfl rfl (by kernel_rfl) rfl ?_; (case hg => rfl); intro w81 hw; replace BK296 := Aside0.mk (sf_ BK296 NB296_297 hw); replace BK297 := Aside0.mk (show w81.heap[gb297]? = some (.cells az_ 24 (0, 0)) from ss_ BK297 hw); replace HB := Aside0.mk (sb_ hw); clear hw))
  refine bodyPost_ret (results_ct rfl _ _ gb297 24 az_ (0, 0) _ rfl bk_ Tryd.underlying24 rfl (by kernel_rfl)) rfl ?_
  exact ⟨rq_, bg_⟩

end Go.Proofs.YtdopafhppaalfaaDoor.P
