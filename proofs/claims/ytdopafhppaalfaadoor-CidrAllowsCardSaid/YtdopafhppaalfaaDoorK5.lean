-- Written by a program of this session (wip/gen/lprint.py over the kit's print.py) out of the translation. Lean checks it.
import Derived.Test.YtdopafhppaalfaaDoorK0
import Derived.Test.YtdopafhppaalfaaDoorK3
import Derived.Test.YtdopafhppaalfaaDoorZ
namespace Go.Proofs.YtdopafhppaalfaaDoor.K
open Go.Proofs.YtdopafhppaalfaaDoorZ
open Go.Proofs.YtdopafhppaalfaaDoor.E Go.Proofs.YtdopafhppaalfaaDoorV
open Go.Proofs.YtdopafhppaalfaaDoor.P
open Go.Proofs.YtdopafhppaalfaaDoor.G
open Go.Proofs.YtdopafhppaalfaaDoor.L
open Go.RowKit Go.Proofs.YtdopafhppaalfaaDoorW.PrintWords Go.Proofs.YtdopafhppaalfaaDoorW.PrintLast Go.Proofs.YtdopafhppaalfaaDoorW.PrintMore
attribute [local go_sem] max2_int min2_int max_two min_two max_three min_three max_four min_four   -- for this text's walks alone
set_option linter.unusedVariables false
set_option linter.unusedSimpArgs false

def lanternref06_Has.l0 : Nat → Int → Bool → Int → Int → Int → Int → Int → Int → Int → Int → Int → Int → Int → Int → Int → Int → Int → Int → Int → Bool → Int → Int → Int → Int → Int → Int → Int → Int → Int → Int → Int → Int → Int → Int → Int → Int → Option (Bool)
 | 0, _, _, _, _, _, _, _, _, _, _, _, _, _, _, _, _, _, _, _, _, _, _, _, _, _, _, _, _, _, _, _, _, _, _, _, _ => none
 | k + 1, x5, V0, V1, V2, V3, V4, V5, V6, V7, V8, V9, V10, V11, V12, V13, V14, V15, V16, V17, V18, V19, V20, V21, V22, V23, V24, V25, V26, V27, V28, V29, V30, V31, V32, V33, V34 => if x5 < V17 then ((lanternref06_bit.f V0 V1 V2 V3 V4 V5 V6 V7 V8 V9 V10 V11 V12 V13 V14 V15 V16 x5).bind fun t157 => ((lanternref06_bit.f V18 V19 V20 V21 V22 V23 V24 V25 V26 V27 V28 V29 V30 V31 V32 V33 V34 x5).bind fun t158 => (if t157 = t158 then (lanternref06_Has.l0 k (wrap64 (x5 + 1)) V0 V1 V2 V3 V4 V5 V6 V7 V8 V9 V10 V11 V12 V13 V14 V15 V16 V17 V18 V19 V20 V21 V22 V23 V24 V25 V26 V27 V28 V29 V30 V31 V32 V33 V34) else (some false)))) else (some true)
def lanternref06_Has.f (k : Nat) (z0 : Bool) (z1 : Int) (z2 : Int) (z3 : Int) (z4 : Int) (z5 : Int) (z6 : Int) (z7 : Int) (z8 : Int) (z9 : Int) (za : Int) (zb : Int) (zc : Int) (zd : Int) (ze : Int) (zf : Int) (zg : Int) (zh : Int) (Z0 : Bool) (Z1 : Int) (Z2 : Int) (Z3 : Int) (Z4 : Int) (Z5 : Int) (Z6 : Int) (Z7 : Int) (Z8 : Int) (Z9 : Int) (Za : Int) (Zb : Int) (Zc : Int) (Zd : Int) (Ze : Int) (Zf : Int) (Zg : Int) : Option (Bool) := if (z0 != Z0) = true then (some false) else (lanternref06_Has.l0 k 0 z0 z1 z2 z3 z4 z5 z6 z7 z8 z9 za zb zc zd ze zf zg zh Z0 Z1 Z2 Z3 Z4 Z5 Z6 Z7 Z8 Z9 Za Zb Zc Zd Ze Zf Zg)
theorem lanternref06_Has.mono_l : ∀ k, (∀ y0 y1 y2 y3 y4 y5 y6 y7 y8 y9 y10 y11 y12 y13 y14 y15 y16 y17 y18 y19 y20 y21 y22 y23 y24 y25 y26 y27 y28 y29 y30 y31 y32 y33 y34 y35, LeO (lanternref06_Has.l0 k y0 y1 y2 y3 y4 y5 y6 y7 y8 y9 y10 y11 y12 y13 y14 y15 y16 y17 y18 y19 y20 y21 y22 y23 y24 y25 y26 y27 y28 y29 y30 y31 y32 y33 y34 y35) (lanternref06_Has.l0 (k + 1) y0 y1 y2 y3 y4 y5 y6 y7 y8 y9 y10 y11 y12 y13 y14 y15 y16 y17 y18 y19 y20 y21 y22 y23 y24 y25 y26 y27 y28 y29 y30 y31 y32 y33 y34 y35))
 | 0 => fun _ _ _ _ _ _ _ _ _ _ _ _ _ _ _ _ _ _ _ _ _ _ _ _ _ _ _ _ _ _ _ _ _ _ _ _ r h => by simp [lanternref06_Has.l0] at h
 | k + 1 => by
  have ih0 := lanternref06_Has.mono_l k
  ·intro y0 y1 y2 y3 y4 y5 y6 y7 y8 y9 y10 y11 y12 y13 y14 y15 y16 y17 y18 y19 y20 y21 y22 y23 y24 y25 y26 y27 y28 y29 y30 y31 y32 y33 y34 y35
   unfold lanternref06_Has.l0
   repeat' first
   | (with_reducible exact ih0 _ _ _ _ _ _ _ _ _ _ _ _ _ _ _ _ _ _ _ _ _ _ _ _ _ _ _ _ _ _ _ _ _ _ _ _)
   | (with_reducible exact LeO.refl _)
   | (with_reducible exact LeO.none _)
   | (with_reducible refine LeO.ite ?_ ?_)
   | (with_reducible refine LeO.bind ?_ (fun _ => ?_))
   | exact ih0 _ _ _ _ _ _ _ _ _ _ _ _ _ _ _ _ _ _ _ _ _ _ _ _ _ _ _ _ _ _ _ _ _ _ _ _
   | exact LeO.none _
   | refine LeO.ite ?_ ?_
   | refine LeO.bind ?_ (fun _ => ?_)
theorem lanternref06_Has.mono : ∀ a0 a1 a2 a3 a4 a5 a6 a7 a8 a9 a10 a11 a12 a13 a14 a15 a16 a17 a18 a19 a20 a21 a22 a23 a24 a25 a26 a27 a28 a29 a30 a31 a32 a33 a34 k, LeO (lanternref06_Has.f k a0 a1 a2 a3 a4 a5 a6 a7 a8 a9 a10 a11 a12 a13 a14 a15 a16 a17 a18 a19 a20 a21 a22 a23 a24 a25 a26 a27 a28 a29 a30 a31 a32 a33 a34) (lanternref06_Has.f (k + 1) a0 a1 a2 a3 a4 a5 a6 a7 a8 a9 a10 a11 a12 a13 a14 a15 a16 a17 a18 a19 a20 a21 a22 a23 a24 a25 a26 a27 a28 a29 a30 a31 a32 a33 a34) := by
 intro a0 a1 a2 a3 a4 a5 a6 a7 a8 a9 a10 a11 a12 a13 a14 a15 a16 a17 a18 a19 a20 a21 a22 a23 a24 a25 a26 a27 a28 a29 a30 a31 a32 a33 a34 k
 have ih0 := lanternref06_Has.mono_l k
 unfold lanternref06_Has.f
 repeat' first
   | (with_reducible exact ih0 _ _ _ _ _ _ _ _ _ _ _ _ _ _ _ _ _ _ _ _ _ _ _ _ _ _ _ _ _ _ _ _ _ _ _ _)
   | (with_reducible exact LeO.refl _)
   | (with_reducible exact LeO.none _)
   | (with_reducible refine LeO.ite ?_ ?_)
   | (with_reducible refine LeO.bind ?_ (fun _ => ?_))
   | exact ih0 _ _ _ _ _ _ _ _ _ _ _ _ _ _ _ _ _ _ _ _ _ _ _ _ _ _ _ _ _ _ _ _ _ _ _ _
   | exact LeO.none _
   | refine LeO.ite ?_ ?_
   | refine LeO.bind ?_ (fun _ => ?_)
def lanternref06_Has.T6 : Bool × List (List Nat × List Nat) := (true, [([], []), ([0], [0]), ([], []), ([1, 2], [1, 2]), ([], []), ([], []), ([4, 5, 3], [4, 5]), ([3, 6], [3, 6])])
def lanternref06_Has.B6 : List Nat := [0, 1, 0, 7, 0, 0, 63, 127]
theorem lanternref06_Has.tab6 : rtab .any (opsOf Tryd.f16 6) = lanternref06_Has.T6 := by kernel_rfl
theorem lanternref06_Has.bits6 : waitsOk lanternref06_Has.T6.2 lanternref06_Has.B6 = true := by kernel_rfl
set_option maxHeartbeats 8000000 in
set_option maxRecDepth 100000 in
theorem lanternref06_Has.calls (k : Nat) (z0 : Bool) (z1 : Int) (z2 : Int) (z3 : Int) (z4 : Int) (z5 : Int) (z6 : Int) (z7 : Int) (z8 : Int) (z9 : Int) (za : Int) (zb : Int) (zc : Int) (zd : Int) (ze : Int) (zf : Int) (zg : Int) (zh : Int) (Z0 : Bool) (Z1 : Int) (Z2 : Int) (Z3 : Int) (Z4 : Int) (Z5 : Int) (Z6 : Int) (Z7 : Int) (Z8 : Int) (Z9 : Int) (Za : Int) (Zb : Int) (Zc : Int) (Zd : Int) (Ze : Int) (Zf : Int) (Zg : Int) (r : Bool) (w : World) (hLW : LW w) (h : lanternref06_Has.f k z0 z1 z2 z3 z4 z5 z6 z7 z8 z9 za zb zc zd ze zf zg zh Z0 Z1 Z2 Z3 Z4 Z5 Z6 Z7 Z8 Z9 Za Zb Zc Zd Ze Zf Zg = some r) :
  Calls Tryd.prog 16 #[.agg (nr_ z0 z1 z2 z3 z4 z5 z6 z7 z8 z9 za zb zc zd ze zf zg zh), .agg (ag_ Z0 Z1 Z2 Z3 Z4 Z5 Z6 Z7 Z8 Z9 Za Zb Zc Zd Ze Zf Zg)] w fun e w' => e = .returned (.bool r) ∧ Below w.heap.size w w' := by
 have hu34 := Tryd.underlying34
 have hu24 := Tryd.underlying24
 have HLW := Aside0.mk hLW
 clear hLW
 have HB := Aside0.mk (Below.refl w.heap.size w)
 have H := h
 unfold lanternref06_Has.f at H
 clear h
 by_cases c3 : (z0 != Z0) = true
 ·rw [if_pos c3] at H
  have c3b0 : (z0 != Z0) = true := c3
  (try (have c3b1 : decide (z0 = Z0) = false := by simpa using c3))
  (try (have c3b2 : (z0 == Z0) = false := by simpa using c3))
  (try (have c3b3 : ¬ (z0 = Z0) := by simpa using c3))
  clear c3
  obtain rfl := Option.some.inj H
  go_enter Tryd.func16, Tryd.ntmps16
  go_wp2_with (first | ((with_reducible refine gate_dst (N := 2) rfl ?_); refine bx_ 2 (nr_ z0 z1 z2 z3 z4 z5 z6 z7 z8 z9 za zb zc zd ze zf zg zh) 34 ?_; intro gb155 hg w4 hbox hb; have BK155 := Aside0.mk (hbox); have GW155 := Aside0.mk (ge_ (w := w) hg); have GE155 := Aside0.mk (ge_ (w := w) hg); replace HB := Aside0.mk (below_step bq_ hb); clear hb hbox hg) | ((with_reducible refine gate_dst (N := 3) rfl ?_); refine bx_ 3 (ag_ Z0 Z1 Z2 Z3 Z4 Z5 Z6 Z7 Z8 Z9 Za Zb Zc Zd Ze Zf Zg) 24 ?_; intro gb156 hg w5 hbox hb; have n0_ := Aside0.mk (bb_ BK155 hb); have n1_ := Aside0.mk (below_step bg_ hb); have n2_ := Aside0.mk (hbox); have n3_ := Aside0.mk (gg_ (w := w) hg); have n4_ := Aside0.mk (gg_ (w := w) hg); have n5_ := Aside0.mk (nl_ BK155 hg); have n6_ := Aside0.mk (ng_ BK155 hg); clear BK155; clear HB; have BK155 := n0_; have HB := n1_; have BK156 := n2_; have GW156 := n3_; have GE156 := n4_; have NB155_156 := n5_; have NB156_155 := n6_; clear n0_ n1_ n2_ n3_ n4_ n5_ n6_; clear hb hbox hg; have hnb6 := NB155_156.out; have hnc6 := NB156_155.out; obtain ⟨hcz7_0, hcz7_1, hcz7_2, hcz7_3, hcz7_4, hcz7_5, hcz7_6, hcz7_7, hcz7_8, hcz7_9, hcz7_10, hcz7_11, hcz7_12, hcz7_13, hcz7_14, hcz7_15, hcz7_16, hcz7_17⟩ := c18_ BK155; have hfz7_0 := bf_ BK155 0; have hfz7_1 := bf_ BK155 1; have hfz7_2 := bf_ BK155 2; have hfz7_3 := bf_ BK155 3; have hfz7_4 := bf_ BK155 4; have hfz7_5 := bf_ BK155 5; have hfz7_6 := bf_ BK155 6; have hfz7_7 := bf_ BK155 7; have hfz7_8 := bf_ BK155 8; have hfz7_9 := bf_ BK155 9; have hfz7_10 := bf_ BK155 10; have hfz7_11 := bf_ BK155 11; have hfz7_12 := bf_ BK155 12; have hfz7_13 := bf_ BK155 13; have hfz7_14 := bf_ BK155 14; have hfz7_15 := bf_ BK155 15; have hfz7_16 := bf_ BK155 16; have hfz7_17 := bf_ BK155 17; obtain ⟨hcz8_0, hcz8_1, hcz8_2, hcz8_3, hcz8_4, hcz8_5, hcz8_6, hcz8_7, hcz8_8, hcz8_9, hcz8_10, hcz8_11, hcz8_12, hcz8_13, hcz8_14, hcz8_15, hcz8_16⟩ := c17_ BK156; obtain ⟨hfz8_0, hfz8_1, hfz8_2, hfz8_3, hfz8_4, hfz8_5, hfz8_6, hfz8_7, hfz8_8, hfz8_9, hfz8_10, hfz8_11, hfz8_12, hfz8_13, hfz8_14, hfz8_15, hfz8_16⟩ := f17_ BK156))
  go_ret
  exact ⟨rq_, bg_⟩
 ·rw [if_neg c3] at H
  have c3b0 : (z0 != Z0) = false := by simpa using c3
  (try (have c3b1 : decide (z0 = Z0) = true := by simpa using c3))
  (try (have c3b2 : (z0 == Z0) = true := by simpa using c3))
  clear c3
  have H' := Aside0.mk H
  clear H
  go_enter Tryd.func16, Tryd.ntmps16
  go_wp2_with (first | ((with_reducible refine gate_dst (N := 2) rfl ?_); refine bx_ 2 (nr_ z0 z1 z2 z3 z4 z5 z6 z7 z8 z9 za zb zc zd ze zf zg zh) 34 ?_; intro gb155 hg w9 hbox hb; have BK155 := Aside0.mk (hbox); have GW155 := Aside0.mk (ge_ (w := w) hg); have GE155 := Aside0.mk (ge_ (w := w) hg); replace HB := Aside0.mk (below_step bq_ hb); clear hb hbox hg) | ((with_reducible refine gate_dst (N := 3) rfl ?_); refine bx_ 3 (ag_ Z0 Z1 Z2 Z3 Z4 Z5 Z6 Z7 Z8 Z9 Za Zb Zc Zd Ze Zf Zg) 24 ?_; intro gb156 hg w10 hbox hb; have n0_ := Aside0.mk (bb_ BK155 hb); have n1_ := Aside0.mk (below_step bg_ hb); have n2_ := Aside0.mk (hbox); have n3_ := Aside0.mk (gg_ (w := w) hg); have n4_ := Aside0.mk (gg_ (w := w) hg); have n5_ := Aside0.mk (nl_ BK155 hg); have n6_ := Aside0.mk (ng_ BK155 hg); clear BK155; clear HB; have BK155 := n0_; have HB := n1_; have BK156 := n2_; have GW156 := n3_; have GE156 := n4_; have NB155_156 := n5_; have NB156_155 := n6_; clear n0_ n1_ n2_ n3_ n4_ n5_ n6_; clear hb hbox hg; have hnb11 := NB155_156.out; have hnc11 := NB156_155.out; obtain ⟨hcz12_0, hcz12_1, hcz12_2, hcz12_3, hcz12_4, hcz12_5, hcz12_6, hcz12_7, hcz12_8, hcz12_9, hcz12_10, hcz12_11, hcz12_12, hcz12_13, hcz12_14, hcz12_15, hcz12_16, hcz12_17⟩ := c18_ BK155; have hfz12_0 := bf_ BK155 0; have hfz12_1 := bf_ BK155 1; have hfz12_2 := bf_ BK155 2; have hfz12_3 := bf_ BK155 3; have hfz12_4 := bf_ BK155 4; have hfz12_5 := bf_ BK155 5; have hfz12_6 := bf_ BK155 6; have hfz12_7 := bf_ BK155 7; have hfz12_8 := bf_ BK155 8; have hfz12_9 := bf_ BK155 9; have hfz12_10 := bf_ BK155 10; have hfz12_11 := bf_ BK155 11; have hfz12_12 := bf_ BK155 12; have hfz12_13 := bf_ BK155 13; have hfz12_14 := bf_ BK155 14; have hfz12_15 := bf_ BK155 15; have hfz12_16 := bf_ BK155 16; have hfz12_17 := bf_ BK155 17; obtain ⟨hcz13_0, hcz13_1, hcz13_2, hcz13_3, hcz13_4, hcz13_5, hcz13_6, hcz13_7, hcz13_8, hcz13_9, hcz13_10, hcz13_11, hcz13_12, hcz13_13, hcz13_14, hcz13_15, hcz13_16⟩ := c17_ BK156; obtain ⟨hfz13_0, hfz13_1, hfz13_2, hfz13_3, hfz13_4, hfz13_5, hfz13_6, hfz13_7, hfz13_8, hfz13_9, hfz13_10, hfz13_11, hfz13_12, hfz13_13, hfz13_14, hfz13_15, hfz13_16⟩ := f17_ BK156))
  go_loopg [5] k (fun kq v5 w' => ∃ (x5_1 : Int), v5 = .int .i64 x5_1 ∧ Aside0 (lanternref06_Has.l0 kq x5_1 z0 z1 z2 z3 z4 z5 z6 z7 z8 z9 za zb zc zd ze zf zg zh Z0 Z1 Z2 Z3 Z4 Z5 Z6 Z7 Z8 Z9 Za Zb Zc Zd Ze Zf Zg = some r) ∧ Aside0 (kq ≤ k) ∧ Aside0 (w'.heap[gb155]? = some (.cells (nr_ z0 z1 z2 z3 z4 z5 z6 z7 z8 z9 za zb zc zd ze zf zg zh) 34 (0, 0))) ∧ Aside0 (w'.heap[gb156]? = some (.cells (ag_ Z0 Z1 Z2 Z3 Z4 Z5 Z6 Z7 Z8 Z9 Za Zb Zc Zd Ze Zf Zg) 24 (0, 0))) ∧ Aside0 (Below w.heap.size w w'))
  case atStart => exact ⟨(0), sq_, H', ⟨Nat.le_refl _⟩, ⟨bk_⟩, ⟨bk_⟩, ⟨bg_⟩⟩
  case round =>
   clear H'
   try clear c1
   try clear p2
   try clear c3
   try clear c3b0
   try clear c3b1
   try clear c3b2
   try clear c6
   try clear c11
   try clear hcz12_0
   try clear hcz12_1
   try clear hcz12_10
   try clear hcz12_11
   try clear hcz12_12
   try clear hcz12_13
   try clear hcz12_14
   try clear hcz12_15
   try clear hcz12_16
   try clear hcz12_17
   try clear hcz12_2
   try clear hcz12_3
   try clear hcz12_4
   try clear hcz12_5
   try clear hcz12_6
   try clear hcz12_7
   try clear hcz12_8
   try clear hcz12_9
   try clear hcz13_0
   try clear hcz13_1
   try clear hcz13_10
   try clear hcz13_11
   try clear hcz13_12
   try clear hcz13_13
   try clear hcz13_14
   try clear hcz13_15
   try clear hcz13_16
   try clear hcz13_2
   try clear hcz13_3
   try clear hcz13_4
   try clear hcz13_5
   try clear hcz13_6
   try clear hcz13_7
   try clear hcz13_8
   try clear hcz13_9
   try clear hcz7_0
   try clear hcz7_1
   try clear hcz7_10
   try clear hcz7_11
   try clear hcz7_12
   try clear hcz7_13
   try clear hcz7_14
   try clear hcz7_15
   try clear hcz7_16
   try clear hcz7_17
   try clear hcz7_2
   try clear hcz7_3
   try clear hcz7_4
   try clear hcz7_5
   try clear hcz7_6
   try clear hcz7_7
   try clear hcz7_8
   try clear hcz7_9
   try clear hcz8_0
   try clear hcz8_1
   try clear hcz8_10
   try clear hcz8_11
   try clear hcz8_12
   try clear hcz8_13
   try clear hcz8_14
   try clear hcz8_15
   try clear hcz8_16
   try clear hcz8_2
   try clear hcz8_3
   try clear hcz8_4
   try clear hcz8_5
   try clear hcz8_6
   try clear hcz8_7
   try clear hcz8_8
   try clear hcz8_9
   try clear hfz12_0
   try clear hfz12_1
   try clear hfz12_10
   try clear hfz12_11
   try clear hfz12_12
   try clear hfz12_13
   try clear hfz12_14
   try clear hfz12_15
   try clear hfz12_16
   try clear hfz12_17
   try clear hfz12_2
   try clear hfz12_3
   try clear hfz12_4
   try clear hfz12_5
   try clear hfz12_6
   try clear hfz12_7
   try clear hfz12_8
   try clear hfz12_9
   try clear hfz13_0
   try clear hfz13_1
   try clear hfz13_10
   try clear hfz13_11
   try clear hfz13_12
   try clear hfz13_13
   try clear hfz13_14
   try clear hfz13_15
   try clear hfz13_16
   try clear hfz13_2
   try clear hfz13_3
   try clear hfz13_4
   try clear hfz13_5
   try clear hfz13_6
   try clear hfz13_7
   try clear hfz13_8
   try clear hfz13_9
   try clear hfz7_0
   try clear hfz7_1
   try clear hfz7_10
   try clear hfz7_11
   try clear hfz7_12
   try clear hfz7_13
   try clear hfz7_14
   try clear hfz7_15
   try clear hfz7_16
   try clear hfz7_17
   try clear hfz7_2
   try clear hfz7_3
   try clear hfz7_4
   try clear hfz7_5
   try clear hfz7_6
   try clear hfz7_7
   try clear hfz7_8
   try clear hfz7_9
   try clear hfz8_0
   try clear hfz8_1
   try clear hfz8_10
   try clear hfz8_11
   try clear hfz8_12
   try clear hfz8_13
   try clear hfz8_14
   try clear hfz8_15
   try clear hfz8_16
   try clear hfz8_2
   try clear hfz8_3
   try clear hfz8_4
   try clear hfz8_5
   try clear hfz8_6
   try clear hfz8_7
   try clear hfz8_8
   try clear hfz8_9
   obtain ⟨x5_1, rfl, HA, HK1, BK155, BK156, HB⟩ := hrel
   cases gk with
   | zero => exact absurd HA.out (by simp [lanternref06_Has.l0])
   | succ k1 =>
    have H := HA.out
    clear HA
    simp only [lanternref06_Has.l0] at H
    by_cases c14 : x5_1 < zh
    ·rw [if_pos c14] at H
     have c14b0 := decide_eq_true c14
     clear c14
     replace H := Option.bind_eq_some_iff.mp H
     obtain ⟨t157, A150, H⟩ := H
     (try dsimp only at H)
     have A15 := Aside0.mk A150
     clear A150
     replace H := Option.bind_eq_some_iff.mp H
     obtain ⟨t158, A160, H⟩ := H
     (try dsimp only at H)
     have A16 := Aside0.mk A160
     clear A160
     by_cases c17 : t157 = t158
     ·rw [if_pos c17] at H
      have c17b0 := beq_iff_eq.mpr c17
      have c17b1 := bne_eq_false_iff_eq.mpr c17
      clear c17
      have H' := Aside0.mk H
      clear H
      have hnb18 := NB155_156.out
      have hnc18 := NB156_155.out
      obtain ⟨hcz19_0, hcz19_1, hcz19_2, hcz19_3, hcz19_4, hcz19_5, hcz19_6, hcz19_7, hcz19_8, hcz19_9, hcz19_10, hcz19_11, hcz19_12, hcz19_13, hcz19_14, hcz19_15, hcz19_16, hcz19_17⟩ := c18_ BK155
      have hfz19_0 := bf_ BK155 0
      have hfz19_1 := bf_ BK155 1
      have hfz19_2 := bf_ BK155 2
      have hfz19_3 := bf_ BK155 3
      have hfz19_4 := bf_ BK155 4
      have hfz19_5 := bf_ BK155 5
      have hfz19_6 := bf_ BK155 6
      have hfz19_7 := bf_ BK155 7
      have hfz19_8 := bf_ BK155 8
      have hfz19_9 := bf_ BK155 9
      have hfz19_10 := bf_ BK155 10
      have hfz19_11 := bf_ BK155 11
      have hfz19_12 := bf_ BK155 12
      have hfz19_13 := bf_ BK155 13
      have hfz19_14 := bf_ BK155 14
      have hfz19_15 := bf_ BK155 15
      have hfz19_16 := bf_ BK155 16
      have hfz19_17 := bf_ BK155 17
      try go_wp2
      replace BK155 := Aside0.mk (blk_drew BK155.out)
      replace BK156 := Aside0.mk (blk_drew BK156.out)
      replace HB := Aside0.mk (below_drew1 HB.out)
      refine start_ (n := 8) (S := fun w' => (Instr.loadAt 24 (.pointer (some ⟨gb155, 0, none⟩))).run Tryd.prog w' = .ok (.agg (ag_ z0 z1 z2 z3 z4 z5 z6 z7 z8 z9 za zb zc zd ze zf zg)) w' ∧ (Instr.loadAt 24 (.pointer (some ⟨gb156, 0, none⟩))).run Tryd.prog w' = .ok (.agg (ag_ Z0 Z1 Z2 Z3 Z4 Z5 Z6 Z7 Z8 Z9 Za Zb Zc Zd Ze Zf Zg)) w') (ds := []) (bv_ 0 8) (by kernel_rfl) rfl rfl ⟨(run_load_box BK155.out 24 [] (al_ z0 z1 z2 z3 z4 z5 z6 z7 z8 z9 za zb zc zd ze zf zg) [.int .i64 zh] rfl 0 rfl Tryd.underlying24 rfl (by kernel_rfl)), (run_load_box BK156.out 24 [] (al_ Z0 Z1 Z2 Z3 Z4 Z5 Z6 Z7 Z8 Z9 Za Zb Zc Zd Ze Zf Zg) [] rfl 0 rfl Tryd.underlying24 rfl (by kernel_rfl))⟩ (fun hHeld => ?_); refine with_tabW lanternref06_Has.tab6 lanternref06_Has.bits6 (fun HT_ HW_ => ?_)
      generalize wr.drew = w20 at BK155 BK156 HB hHeld ⊢
      refine pl_ 0 18 ?_ 1 7 HT_ ?_ ?_ ?_ ?_
      rotate_left
      ·intro w'
       go_simp
       with_reducible rfl
      rotate_left
      ·simp only [Act.put, sa_, s0_, s1_, i64_w, i32_w]
       rfl
      refine pure_ (i := 2) (N := some 20) (v := ?_) (a' := ?_) #[true, false, true, false, false, false, false, false] rfl rfl (any_of HT_.out (by kernel_rfl)) (fun _ _ _ h => h) (Or.inl ⟨by rfl, ?_⟩) ?_ ?_
      rotate_left
      ·intro w'
       go_simp
       with_reducible rfl
      rotate_left
      ·simp only [Act.put, sa_, s0_, s1_, i64_w, i32_w]
       rfl
      refine pure_ (i := 5) (N := some 23) (v := ?_) (a' := ?_) #[true, false, true, false, false, true, false, false] rfl rfl (any_of HT_.out (by kernel_rfl)) (fun _ _ _ h => h) (Or.inl ⟨by rfl, ?_⟩) ?_ ?_
      rotate_left
      ·intro w'
       go_simp
       with_reducible rfl
      rotate_left
      ·simp only [Act.put, sa_, s0_, s1_, i64_w, i32_w]
       rfl
      refine take_ (i := 1) (N := some 19) (v := ?_) (a' := ?_) #[true, true, true, false, false, true, false, false] rfl rfl (take_ofW HT_.out HW_.out (by kernel_rfl)) (fun _ _ _ h => h) (Or.inl ⟨by rfl, ?_⟩) hHeld ?_ ?_
      rotate_left
      ·rintro w' ⟨s0, s1⟩
       refine (load_exec rfl rfl s0).trans ?_; with_reducible rfl
      rotate_left
      ·simp only [Act.put, sa_, s0_, s1_, i64_w, i32_w]
       rfl
      refine take_ (i := 4) (N := some 22) (v := ?_) (a' := ?_) #[true, true, true, false, true, true, false, false] rfl rfl (take_ofW HT_.out HW_.out (by kernel_rfl)) (fun _ _ _ h => h) (Or.inl ⟨by rfl, ?_⟩) hHeld ?_ ?_
      rotate_left
      ·rintro w' ⟨s0, s1⟩
       refine (load_exec rfl rfl s1).trans ?_; with_reducible rfl
      rotate_left
      ·simp only [Act.put, sa_, s0_, s1_, i64_w, i32_w]
       rfl
      refine one_ (i := 3) (N := some 21) (bv_ 6 2) rfl rfl (one_of HT_.out (by kernel_rfl)) (by decide) (fun K hK => ?_)
      refine goes_ Tryd.func34 (by kernel_rfl) rfl #[.agg (ag_ z0 z1 z2 z3 z4 z5 z6 z7 z8 z9 za zb zc zd ze zf zg), .int .i64 x5_1] (by rfl) rfl rfl lq_ ?_
      with_reducible refine (lanternref06_bit.calls z0 z1 z2 z3 z4 z5 z6 z7 z8 z9 za zb zc zd ze zf zg x5_1 t157 _ ?side1 A15.out).mono ?_
      (case side1 => exact lg_)
      rintro e w21 ⟨rfl, hb⟩
      refine ⟨_, rfl, ?_⟩
      replace BK155 := Aside0.mk (bb_ BK155 hb)
      replace BK156 := Aside0.mk (bb_ BK156 hb)
      replace HB := Aside0.mk (below_step bg_ hb)
      (try clear hb)
      (try clear hb2)
      (try clear hk)
      (try clear hi)
      refine hK.out _ _ ⟨(run_load_box BK155.out 24 [] (al_ z0 z1 z2 z3 z4 z5 z6 z7 z8 z9 za zb zc zd ze zf zg) [.int .i64 zh] rfl 0 rfl Tryd.underlying24 rfl (by kernel_rfl)), (run_load_box BK156.out 24 [] (al_ Z0 Z1 Z2 Z3 Z4 Z5 Z6 Z7 Z8 Z9 Za Zb Zc Zd Ze Zf Zg) [] rfl 0 rfl Tryd.underlying24 rfl (by kernel_rfl))⟩ (fun hHeld => ?_)
      clear hK K
      refine norm_ (a' := ?_) ?_ ?_
      rotate_left
      ·show Act.put _ (some 21) _ = _
       simp only [Act.put, sa_, s0_, s1_, i64_w, i32_w]
       rfl
      refine one_ (i := 6) (N := some 24) (bv_ 7 1) rfl rfl (one_of HT_.out (by kernel_rfl)) (by decide) (fun K hK => ?_)
      refine goes_ Tryd.func34 (by kernel_rfl) rfl #[.agg (ag_ Z0 Z1 Z2 Z3 Z4 Z5 Z6 Z7 Z8 Z9 Za Zb Zc Zd Ze Zf Zg), .int .i64 x5_1] (by rfl) rfl rfl lq_ ?_
      with_reducible refine (lanternref06_bit.calls Z0 Z1 Z2 Z3 Z4 Z5 Z6 Z7 Z8 Z9 Za Zb Zc Zd Ze Zf Zg x5_1 t158 _ ?side1 A16.out).mono ?_
      (case side1 => exact lg_)
      rintro e w22 ⟨rfl, hb⟩
      refine ⟨_, rfl, ?_⟩
      replace BK155 := Aside0.mk (bb_ BK155 hb)
      replace BK156 := Aside0.mk (bb_ BK156 hb)
      replace HB := Aside0.mk (below_step bg_ hb)
      (try clear hb)
      (try clear hb2)
      (try clear hk)
      (try clear hi)
      refine hK.out _ _ ⟨(run_load_box BK155.out 24 [] (al_ z0 z1 z2 z3 z4 z5 z6 z7 z8 z9 za zb zc zd ze zf zg) [.int .i64 zh] rfl 0 rfl Tryd.underlying24 rfl (by kernel_rfl)), (run_load_box BK156.out 24 [] (al_ Z0 Z1 Z2 Z3 Z4 Z5 Z6 Z7 Z8 Z9 Za Zb Zc Zd Ze Zf Zg) [] rfl 0 rfl Tryd.underlying24 rfl (by kernel_rfl))⟩ (fun hHeld => ?_)
      clear hK K
      refine norm_ (a' := ?_) ?_ ?_
      rotate_left
      ·show Act.put _ (some 24) _ = _
       simp only [Act.put, sa_, s0_, s1_, i64_w, i32_w]
       rfl
      refine pl_ 7 25 ?_ 8 0 HT_ ?_ ?_ ?_ ?_
      rotate_left
      ·intro w'
       go_simp
       with_reducible rfl
      rotate_left
      ·simp only [Act.put, sa_, s0_, s1_, i64_w, i32_w]
       rfl
      refine done_ (done_of HT_.out (by kernel_rfl)) ?_
      try go_wp2
      go_roundg k1
      case measure => have := HK1.out; omega
      case rel => exact ⟨(wrap64 (x5_1 + 1)), sq_, H', ⟨by have := HK1.out; omega⟩, ⟨bk_⟩, ⟨bk_⟩, ⟨bg_⟩⟩
     ·rw [if_neg c17] at H
      have c17b0 := beq_eq_false_iff_ne.mpr c17
      have c17b1 := bne_iff_ne.mpr c17
      obtain rfl := Option.some.inj H
      have hnb23 := NB155_156.out
      have hnc23 := NB156_155.out
      obtain ⟨hcz24_0, hcz24_1, hcz24_2, hcz24_3, hcz24_4, hcz24_5, hcz24_6, hcz24_7, hcz24_8, hcz24_9, hcz24_10, hcz24_11, hcz24_12, hcz24_13, hcz24_14, hcz24_15, hcz24_16, hcz24_17⟩ := c18_ BK155
      have hfz24_0 := bf_ BK155 0
      have hfz24_1 := bf_ BK155 1
      have hfz24_2 := bf_ BK155 2
      have hfz24_3 := bf_ BK155 3
      have hfz24_4 := bf_ BK155 4
      have hfz24_5 := bf_ BK155 5
      have hfz24_6 := bf_ BK155 6
      have hfz24_7 := bf_ BK155 7
      have hfz24_8 := bf_ BK155 8
      have hfz24_9 := bf_ BK155 9
      have hfz24_10 := bf_ BK155 10
      have hfz24_11 := bf_ BK155 11
      have hfz24_12 := bf_ BK155 12
      have hfz24_13 := bf_ BK155 13
      have hfz24_14 := bf_ BK155 14
      have hfz24_15 := bf_ BK155 15
      have hfz24_16 := bf_ BK155 16
      have hfz24_17 := bf_ BK155 17
      try go_wp2
      replace BK155 := Aside0.mk (blk_drew BK155.out)
      replace BK156 := Aside0.mk (blk_drew BK156.out)
      replace HB := Aside0.mk (below_drew1 HB.out)
      refine start_ (n := 8) (S := fun w' => (Instr.loadAt 24 (.pointer (some ⟨gb155, 0, none⟩))).run Tryd.prog w' = .ok (.agg (ag_ z0 z1 z2 z3 z4 z5 z6 z7 z8 z9 za zb zc zd ze zf zg)) w' ∧ (Instr.loadAt 24 (.pointer (some ⟨gb156, 0, none⟩))).run Tryd.prog w' = .ok (.agg (ag_ Z0 Z1 Z2 Z3 Z4 Z5 Z6 Z7 Z8 Z9 Za Zb Zc Zd Ze Zf Zg)) w') (ds := []) (bv_ 0 8) (by kernel_rfl) rfl rfl ⟨(run_load_box BK155.out 24 [] (al_ z0 z1 z2 z3 z4 z5 z6 z7 z8 z9 za zb zc zd ze zf zg) [.int .i64 zh] rfl 0 rfl Tryd.underlying24 rfl (by kernel_rfl)), (run_load_box BK156.out 24 [] (al_ Z0 Z1 Z2 Z3 Z4 Z5 Z6 Z7 Z8 Z9 Za Zb Zc Zd Ze Zf Zg) [] rfl 0 rfl Tryd.underlying24 rfl (by kernel_rfl))⟩ (fun hHeld => ?_); refine with_tabW lanternref06_Has.tab6 lanternref06_Has.bits6 (fun HT_ HW_ => ?_)
      generalize wr.drew = w25 at BK155 BK156 HB hHeld ⊢
      refine pl_ 0 18 ?_ 1 7 HT_ ?_ ?_ ?_ ?_
      rotate_left
      ·intro w'
       go_simp
       with_reducible rfl
      rotate_left
      ·simp only [Act.put, sa_, s0_, s1_, i64_w, i32_w]
       rfl
      refine pure_ (i := 2) (N := some 20) (v := ?_) (a' := ?_) #[true, false, true, false, false, false, false, false] rfl rfl (any_of HT_.out (by kernel_rfl)) (fun _ _ _ h => h) (Or.inl ⟨by rfl, ?_⟩) ?_ ?_
      rotate_left
      ·intro w'
       go_simp
       with_reducible rfl
      rotate_left
      ·simp only [Act.put, sa_, s0_, s1_, i64_w, i32_w]
       rfl
      refine pure_ (i := 5) (N := some 23) (v := ?_) (a' := ?_) #[true, false, true, false, false, true, false, false] rfl rfl (any_of HT_.out (by kernel_rfl)) (fun _ _ _ h => h) (Or.inl ⟨by rfl, ?_⟩) ?_ ?_
      rotate_left
      ·intro w'
       go_simp
       with_reducible rfl
      rotate_left
      ·simp only [Act.put, sa_, s0_, s1_, i64_w, i32_w]
       rfl
      refine take_ (i := 1) (N := some 19) (v := ?_) (a' := ?_) #[true, true, true, false, false, true, false, false] rfl rfl (take_ofW HT_.out HW_.out (by kernel_rfl)) (fun _ _ _ h => h) (Or.inl ⟨by rfl, ?_⟩) hHeld ?_ ?_
      rotate_left
      ·rintro w' ⟨s0, s1⟩
       refine (load_exec rfl rfl s0).trans ?_; with_reducible rfl
      rotate_left
      ·simp only [Act.put, sa_, s0_, s1_, i64_w, i32_w]
       rfl
      refine take_ (i := 4) (N := some 22) (v := ?_) (a' := ?_) #[true, true, true, false, true, true, false, false] rfl rfl (take_ofW HT_.out HW_.out (by kernel_rfl)) (fun _ _ _ h => h) (Or.inl ⟨by rfl, ?_⟩) hHeld ?_ ?_
      rotate_left
      ·rintro w' ⟨s0, s1⟩
       refine (load_exec rfl rfl s1).trans ?_; with_reducible rfl
      rotate_left
      ·simp only [Act.put, sa_, s0_, s1_, i64_w, i32_w]
       rfl
      refine one_ (i := 3) (N := some 21) (bv_ 6 2) rfl rfl (one_of HT_.out (by kernel_rfl)) (by decide) (fun K hK => ?_)
      refine goes_ Tryd.func34 (by kernel_rfl) rfl #[.agg (ag_ z0 z1 z2 z3 z4 z5 z6 z7 z8 z9 za zb zc zd ze zf zg), .int .i64 x5_1] (by rfl) rfl rfl lq_ ?_
      with_reducible refine (lanternref06_bit.calls z0 z1 z2 z3 z4 z5 z6 z7 z8 z9 za zb zc zd ze zf zg x5_1 t157 _ ?side1 A15.out).mono ?_
      (case side1 => exact lg_)
      rintro e w26 ⟨rfl, hb⟩
      refine ⟨_, rfl, ?_⟩
      replace BK155 := Aside0.mk (bb_ BK155 hb)
      replace BK156 := Aside0.mk (bb_ BK156 hb)
      replace HB := Aside0.mk (below_step bg_ hb)
      (try clear hb)
      (try clear hb2)
      (try clear hk)
      (try clear hi)
      refine hK.out _ _ ⟨(run_load_box BK155.out 24 [] (al_ z0 z1 z2 z3 z4 z5 z6 z7 z8 z9 za zb zc zd ze zf zg) [.int .i64 zh] rfl 0 rfl Tryd.underlying24 rfl (by kernel_rfl)), (run_load_box BK156.out 24 [] (al_ Z0 Z1 Z2 Z3 Z4 Z5 Z6 Z7 Z8 Z9 Za Zb Zc Zd Ze Zf Zg) [] rfl 0 rfl Tryd.underlying24 rfl (by kernel_rfl))⟩ (fun hHeld => ?_)
      clear hK K
      refine norm_ (a' := ?_) ?_ ?_
      rotate_left
      ·show Act.put _ (some 21) _ = _
       simp only [Act.put, sa_, s0_, s1_, i64_w, i32_w]
       rfl
      refine one_ (i := 6) (N := some 24) (bv_ 7 1) rfl rfl (one_of HT_.out (by kernel_rfl)) (by decide) (fun K hK => ?_)
      refine goes_ Tryd.func34 (by kernel_rfl) rfl #[.agg (ag_ Z0 Z1 Z2 Z3 Z4 Z5 Z6 Z7 Z8 Z9 Za Zb Zc Zd Ze Zf Zg), .int .i64 x5_1] (by rfl) rfl rfl lq_ ?_
      with_reducible refine (lanternref06_bit.calls Z0 Z1 Z2 Z3 Z4 Z5 Z6 Z7 Z8 Z9 Za Zb Zc Zd Ze Zf Zg x5_1 t158 _ ?side1 A16.out).mono ?_
      (case side1 => exact lg_)
      rintro e w27 ⟨rfl, hb⟩
      refine ⟨_, rfl, ?_⟩
      replace BK155 := Aside0.mk (bb_ BK155 hb)
      replace BK156 := Aside0.mk (bb_ BK156 hb)
      replace HB := Aside0.mk (below_step bg_ hb)
      (try clear hb)
      (try clear hb2)
      (try clear hk)
      (try clear hi)
      refine hK.out _ _ ⟨(run_load_box BK155.out 24 [] (al_ z0 z1 z2 z3 z4 z5 z6 z7 z8 z9 za zb zc zd ze zf zg) [.int .i64 zh] rfl 0 rfl Tryd.underlying24 rfl (by kernel_rfl)), (run_load_box BK156.out 24 [] (al_ Z0 Z1 Z2 Z3 Z4 Z5 Z6 Z7 Z8 Z9 Za Zb Zc Zd Ze Zf Zg) [] rfl 0 rfl Tryd.underlying24 rfl (by kernel_rfl))⟩ (fun hHeld => ?_)
      clear hK K
      refine norm_ (a' := ?_) ?_ ?_
      rotate_left
      ·show Act.put _ (some 24) _ = _
       simp only [Act.put, sa_, s0_, s1_, i64_w, i32_w]
       rfl
      refine pl_ 7 25 ?_ 8 0 HT_ ?_ ?_ ?_ ?_
      rotate_left
      ·intro w'
       go_simp
       with_reducible rfl
      rotate_left
      ·simp only [Act.put, sa_, s0_, s1_, i64_w, i32_w]
       rfl
      refine done_ (done_of HT_.out (by kernel_rfl)) ?_
      try go_wp2
      go_ret
      exact ⟨rq_, bg_⟩
    ·rw [if_neg c14] at H
     have c14b0 := decide_eq_false c14
     clear c14
     obtain rfl := Option.some.inj H
     have hnb28 := NB155_156.out
     have hnc28 := NB156_155.out
     obtain ⟨hcz29_0, hcz29_1, hcz29_2, hcz29_3, hcz29_4, hcz29_5, hcz29_6, hcz29_7, hcz29_8, hcz29_9, hcz29_10, hcz29_11, hcz29_12, hcz29_13, hcz29_14, hcz29_15, hcz29_16, hcz29_17⟩ := c18_ BK155
     have hfz29_0 := bf_ BK155 0
     have hfz29_1 := bf_ BK155 1
     have hfz29_2 := bf_ BK155 2
     have hfz29_3 := bf_ BK155 3
     have hfz29_4 := bf_ BK155 4
     have hfz29_5 := bf_ BK155 5
     have hfz29_6 := bf_ BK155 6
     have hfz29_7 := bf_ BK155 7
     have hfz29_8 := bf_ BK155 8
     have hfz29_9 := bf_ BK155 9
     have hfz29_10 := bf_ BK155 10
     have hfz29_11 := bf_ BK155 11
     have hfz29_12 := bf_ BK155 12
     have hfz29_13 := bf_ BK155 13
     have hfz29_14 := bf_ BK155 14
     have hfz29_15 := bf_ BK155 15
     have hfz29_16 := bf_ BK155 16
     have hfz29_17 := bf_ BK155 17
     go_wp2
     go_ret
     exact ⟨rq_, bg_⟩

end Go.Proofs.YtdopafhppaalfaaDoor.K
