-- Written by a program of this session (wip/gen/lprint.py over the kit's print.py) out of the translation. Lean checks it.
import Derived.Test.YtfiefecjcmcejaaDoorP0
namespace Go.Proofs.YtfiefecjcmcejaaDoor.P
open Go.Proofs.YtfiefecjcmcejaaDoor.E Go.Proofs.YtfiefecjcmcejaaDoorV
open Go.RowKit Go.Proofs.YtfiefecjcmcejaaDoorW.PrintWords Go.Proofs.YtfiefecjcmcejaaDoorW.PrintLast Go.Proofs.YtfiefecjcmcejaaDoorW.PrintMore
attribute [local go_sem] max2_int min2_int max_two min_two max_three min_three max_four min_four   -- for this text's walks alone
set_option linter.unusedVariables false
set_option linter.unusedSimpArgs false

def lanternref05_V4.l0 : Nat → Int → Int → Bool → Int → Int → Int → Int → Int → Int → Int → Int → Int → Int → Int → Int → Int → Int → Int → Int → Option (Bool × Int × Int × Int × Int × Int × Int × Int × Int × Int × Int × Int × Int × Int × Int × Int × Int)
 | 0, _, _, _, _, _, _, _, _, _, _, _, _, _, _, _, _, _, _, _ => none
 | k + 1, x0, x4, x325000, x325001, x325002, x325003, x325004, x325005, x325006, x325007, x325008, x325009, x325010, x325011, x325012, x325013, x325014, x325015, x325016 => if x4 ≥ 12 then (if 0 ≤ x4 then (if x4 < 16 then (lanternref05_V4.l0 k (IntKind.u64.wrap (Int.tdiv x0 256)) (wrap64 (x4 - 1)) x325000 (upd x4 0 ((Int.tmod x0 256) % 256) x325001) (upd x4 1 ((Int.tmod x0 256) % 256) x325002) (upd x4 2 ((Int.tmod x0 256) % 256) x325003) (upd x4 3 ((Int.tmod x0 256) % 256) x325004) (upd x4 4 ((Int.tmod x0 256) % 256) x325005) (upd x4 5 ((Int.tmod x0 256) % 256) x325006) (upd x4 6 ((Int.tmod x0 256) % 256) x325007) (upd x4 7 ((Int.tmod x0 256) % 256) x325008) (upd x4 8 ((Int.tmod x0 256) % 256) x325009) (upd x4 9 ((Int.tmod x0 256) % 256) x325010) (upd x4 10 ((Int.tmod x0 256) % 256) x325011) (upd x4 11 ((Int.tmod x0 256) % 256) x325012) (upd x4 12 ((Int.tmod x0 256) % 256) x325013) (upd x4 13 ((Int.tmod x0 256) % 256) x325014) (upd x4 14 ((Int.tmod x0 256) % 256) x325015) (upd x4 15 ((Int.tmod x0 256) % 256) x325016)) else (none)) else (none)) else (some (x325000, x325001, x325002, x325003, x325004, x325005, x325006, x325007, x325008, x325009, x325010, x325011, x325012, x325013, x325014, x325015, x325016))
def lanternref05_V4.f (k : Nat) (a0 : Int) : Option (Bool × Int × Int × Int × Int × Int × Int × Int × Int × Int × Int × Int × Int × Int × Int × Int × Int) := lanternref05_V4.l0 k a0 15 false 0 0 0 0 0 0 0 0 0 0 0 0 0 0 0 0
theorem lanternref05_V4.mono_l : ∀ k, (∀ y0 y1 y2 y3 y4 y5 y6 y7 y8 y9 y10 y11 y12 y13 y14 y15 y16 y17 y18, LeO (lanternref05_V4.l0 k y0 y1 y2 y3 y4 y5 y6 y7 y8 y9 y10 y11 y12 y13 y14 y15 y16 y17 y18) (lanternref05_V4.l0 (k + 1) y0 y1 y2 y3 y4 y5 y6 y7 y8 y9 y10 y11 y12 y13 y14 y15 y16 y17 y18))
 | 0 => fun _ _ _ _ _ _ _ _ _ _ _ _ _ _ _ _ _ _ _ r h => by simp [lanternref05_V4.l0] at h
 | k + 1 => by
  have ih0 := lanternref05_V4.mono_l k
  ·intro y0 y1 y2 y3 y4 y5 y6 y7 y8 y9 y10 y11 y12 y13 y14 y15 y16 y17 y18
   unfold lanternref05_V4.l0
   repeat' first
   | (with_reducible exact ih0 _ _ _ _ _ _ _ _ _ _ _ _ _ _ _ _ _ _ _)
   | (with_reducible exact LeO.refl _)
   | (with_reducible exact LeO.none _)
   | (with_reducible refine LeO.ite ?_ ?_)
   | (with_reducible refine LeO.bind ?_ (fun _ => ?_))
   | exact ih0 _ _ _ _ _ _ _ _ _ _ _ _ _ _ _ _ _ _ _
   | exact LeO.none _
   | refine LeO.ite ?_ ?_
   | refine LeO.bind ?_ (fun _ => ?_)
theorem lanternref05_V4.mono : ∀ a0 k, LeO (lanternref05_V4.f k a0) (lanternref05_V4.f (k + 1) a0) := by
 intro a0 k
 have ih0 := lanternref05_V4.mono_l k
 unfold lanternref05_V4.f
 repeat' first
   | (with_reducible exact ih0 _ _ _ _ _ _ _ _ _ _ _ _ _ _ _ _ _ _ _)
   | (with_reducible exact LeO.refl _)
   | (with_reducible exact LeO.none _)
   | (with_reducible refine LeO.ite ?_ ?_)
   | (with_reducible refine LeO.bind ?_ (fun _ => ?_))
   | exact ih0 _ _ _ _ _ _ _ _ _ _ _ _ _ _ _ _ _ _ _
   | exact LeO.none _
   | refine LeO.ite ?_ ?_
   | refine LeO.bind ?_ (fun _ => ?_)
set_option maxHeartbeats 8000000 in
set_option maxRecDepth 100000 in
theorem lanternref05_V4.calls (k : Nat) (a0 : Int) (r1 : Bool) (r2 : Int) (r3 : Int) (r4 : Int) (r5 : Int) (r6 : Int) (r7 : Int) (r8 : Int) (r9 : Int) (r10 : Int) (r11 : Int) (r12 : Int) (r13 : Int) (r14 : Int) (r15 : Int) (r16 : Int) (r17 : Int) (w : World) (hLW : LW w) (h : lanternref05_V4.f k a0 = some (r1, r2, r3, r4, r5, r6, r7, r8, r9, r10, r11, r12, r13, r14, r15, r16, r17)) :
  Calls Tryd.prog 16 #[.int .u64 a0] w fun e w' => e = .returned (.agg #[.bool r1, .int .u8 r2, .int .u8 r3, .int .u8 r4, .int .u8 r5, .int .u8 r6, .int .u8 r7, .int .u8 r8, .int .u8 r9, .int .u8 r10, .int .u8 r11, .int .u8 r12, .int .u8 r13, .int .u8 r14, .int .u8 r15, .int .u8 r16, .int .u8 r17]) ∧ Below w.heap.size w w' := by
 have hu25 := Tryd.underlying25
 have HLW := Aside0.mk hLW
 clear hLW
 have HB := Aside0.mk (Below.refl w.heap.size w)
 have H : (lanternref05_V4.l0 k a0 15 false 0 0 0 0 0 0 0 0 0 0 0 0 0 0 0 0) = some (r1, r2, r3, r4, r5, r6, r7, r8, r9, r10, r11, r12, r13, r14, r15, r16, r17) := h
 clear h
 have H' := Aside0.mk H
 clear H
 go_enter Tryd.func16, Tryd.ntmps16
 go_wp2_with (first | ((with_reducible refine gate_dst (N := 2) rfl ?_); refine box_event ?hg (N := 2) ?hd (cs := #[.bool false, .int .u8 0, .int .u8 0, .int .u8 0, .int .u8 0, .int .u8 0, .int .u8 0, .int .u8 0, .int .u8 0, .int .u8 0, .int .u8 0, .int .u8 0, .int .u8 0, .int .u8 0, .int .u8 0, .int .u8 0, .int .u8 0]) (t := 25) ?hr ?_; (case hd => rfl); (case hg => rfl); (case hr => first | (go_simp; done) | (go_simp; rfl)); intro gb323 hg w2 hbox hb; have n0_ := Aside0.mk (below_step (by repeat (first | (with_reducible first | exact HB.out | apply below_alloc | apply pw_below_drewN | apply below_drew1) | exact HB.out)) hb); have n1_ := Aside0.mk (hbox); have n2_ := Aside0.mk ((by rw [hg]; exact (below_size (by repeat (first | (with_reducible first | exact HB.out | apply below_alloc | apply pw_below_drewN | apply below_drew1) | exact HB.out))) : w.heap.size ≤ gb323)); have n3_ := Aside0.mk ((by rw [hg]; exact (below_size (by repeat (first | (with_reducible first | exact HB.out | apply below_alloc | apply pw_below_drewN | apply below_drew1) | exact HB.out))) : w.heap.size ≤ gb323)); clear HB; have HB := n0_; have BK323 := n1_; have GW323 := n2_; have GE323 := n3_; clear n0_ n1_ n2_ n3_; clear hb hbox hg) | ((with_reducible refine gate_dst (N := 3) rfl ?_); refine box_event ?hg (N := 3) ?hd (cs := #[.bool false, .int .u8 0, .int .u8 0, .int .u8 0, .int .u8 0, .int .u8 0, .int .u8 0, .int .u8 0, .int .u8 0, .int .u8 0, .int .u8 0, .int .u8 0, .int .u8 0, .int .u8 0, .int .u8 0, .int .u8 0, .int .u8 0]) (t := 25) ?hr ?_; (case hd => rfl); (case hg => rfl); (case hr => first | (go_simp; done) | (go_simp; rfl)); intro gb324 hg w3 hbox hb; have n0_ := Aside0.mk (blk_below BK323.out hb); have n1_ := Aside0.mk (below_step (by repeat (first | (with_reducible first | exact HB.out | apply below_alloc | apply pw_below_drewN | apply below_drew1 | refine below_set ?_ GE323.out) | exact HB.out)) hb); have n2_ := Aside0.mk (hbox); have n3_ := Aside0.mk ((by rw [hg]; exact (below_size (by repeat (first | (with_reducible first | exact HB.out | apply below_alloc | apply pw_below_drewN | apply below_drew1 | refine below_set ?_ GE323.out) | exact HB.out))) : w.heap.size ≤ gb324)); have n4_ := Aside0.mk ((by rw [hg]; exact (below_size (by repeat (first | (with_reducible first | exact HB.out | apply below_alloc | apply pw_below_drewN | apply below_drew1 | refine below_set ?_ GE323.out) | exact HB.out))) : w.heap.size ≤ gb324)); have n5_ := Aside0.mk ((by rw [hg]; exact Nat.ne_of_lt (blk_lt (g := gb323) (o := .cells #[.bool false, .int .u8 0, .int .u8 0, .int .u8 0, .int .u8 0, .int .u8 0, .int .u8 0, .int .u8 0, .int .u8 0, .int .u8 0, .int .u8 0, .int .u8 0, .int .u8 0, .int .u8 0, .int .u8 0, .int .u8 0, .int .u8 0] 25 (0, 0)) (by (with_reducible repeat (first | refine blk_drewN ?_ _ | refine blk_drew ?_ | refine blk_alloc ?_ _)); exact BK323.out)) : gb323 ≠ gb324)); have n6_ := Aside0.mk ((by rw [hg]; exact Nat.ne_of_gt (blk_lt (g := gb323) (o := .cells #[.bool false, .int .u8 0, .int .u8 0, .int .u8 0, .int .u8 0, .int .u8 0, .int .u8 0, .int .u8 0, .int .u8 0, .int .u8 0, .int .u8 0, .int .u8 0, .int .u8 0, .int .u8 0, .int .u8 0, .int .u8 0, .int .u8 0] 25 (0, 0)) (by (with_reducible repeat (first | refine blk_drewN ?_ _ | refine blk_drew ?_ | refine blk_alloc ?_ _)); exact BK323.out)) : gb324 ≠ gb323)); clear BK323; clear HB; have BK323 := n0_; have HB := n1_; have BK324 := n2_; have GW324 := n3_; have GE324 := n4_; have NB323_324 := n5_; have NB324_323 := n6_; clear n0_ n1_ n2_ n3_ n4_ n5_ n6_; clear hb hbox hg; have hnb4 := NB324_323.out; have hnc4 := NB323_324.out; have hcz5_0 : w3.cell? ⟨gb324, 0, none⟩ = some (.bool false) := (blk_cell BK324.out 0).trans rfl; have hcz5_1 : w3.cell? ⟨gb324, 1, none⟩ = some (.int .u8 0) := (blk_cell BK324.out 1).trans rfl; have hcz5_2 : w3.cell? ⟨gb324, 2, none⟩ = some (.int .u8 0) := (blk_cell BK324.out 2).trans rfl; have hcz5_3 : w3.cell? ⟨gb324, 3, none⟩ = some (.int .u8 0) := (blk_cell BK324.out 3).trans rfl; have hcz5_4 : w3.cell? ⟨gb324, 4, none⟩ = some (.int .u8 0) := (blk_cell BK324.out 4).trans rfl; have hcz5_5 : w3.cell? ⟨gb324, 5, none⟩ = some (.int .u8 0) := (blk_cell BK324.out 5).trans rfl; have hcz5_6 : w3.cell? ⟨gb324, 6, none⟩ = some (.int .u8 0) := (blk_cell BK324.out 6).trans rfl; have hcz5_7 : w3.cell? ⟨gb324, 7, none⟩ = some (.int .u8 0) := (blk_cell BK324.out 7).trans rfl; have hcz5_8 : w3.cell? ⟨gb324, 8, none⟩ = some (.int .u8 0) := (blk_cell BK324.out 8).trans rfl; have hcz5_9 : w3.cell? ⟨gb324, 9, none⟩ = some (.int .u8 0) := (blk_cell BK324.out 9).trans rfl; have hcz5_10 : w3.cell? ⟨gb324, 10, none⟩ = some (.int .u8 0) := (blk_cell BK324.out 10).trans rfl; have hcz5_11 : w3.cell? ⟨gb324, 11, none⟩ = some (.int .u8 0) := (blk_cell BK324.out 11).trans rfl; have hcz5_12 : w3.cell? ⟨gb324, 12, none⟩ = some (.int .u8 0) := (blk_cell BK324.out 12).trans rfl; have hcz5_13 : w3.cell? ⟨gb324, 13, none⟩ = some (.int .u8 0) := (blk_cell BK324.out 13).trans rfl; have hcz5_14 : w3.cell? ⟨gb324, 14, none⟩ = some (.int .u8 0) := (blk_cell BK324.out 14).trans rfl; have hcz5_15 : w3.cell? ⟨gb324, 15, none⟩ = some (.int .u8 0) := (blk_cell BK324.out 15).trans rfl; have hcz5_16 : w3.cell? ⟨gb324, 16, none⟩ = some (.int .u8 0) := (blk_cell BK324.out 16).trans rfl; have hfz5_0 := blk_frozen BK324.out 0; have hfz5_1 := blk_frozen BK324.out 1; have hfz5_2 := blk_frozen BK324.out 2; have hfz5_3 := blk_frozen BK324.out 3; have hfz5_4 := blk_frozen BK324.out 4; have hfz5_5 := blk_frozen BK324.out 5; have hfz5_6 := blk_frozen BK324.out 6; have hfz5_7 := blk_frozen BK324.out 7; have hfz5_8 := blk_frozen BK324.out 8; have hfz5_9 := blk_frozen BK324.out 9; have hfz5_10 := blk_frozen BK324.out 10; have hfz5_11 := blk_frozen BK324.out 11; have hfz5_12 := blk_frozen BK324.out 12; have hfz5_13 := blk_frozen BK324.out 13; have hfz5_14 := blk_frozen BK324.out 14; have hfz5_15 := blk_frozen BK324.out 15; have hfz5_16 := blk_frozen BK324.out 16) | ((with_reducible refine gate_store (t := 25) (p := 3) rfl ?_); refine store_all ?hg 25 3 _ rfl rfl gb324 [.bool false, .int .u8 0, .int .u8 0, .int .u8 0, .int .u8 0, .int .u8 0, .int .u8 0, .int .u8 0, .int .u8 0, .int .u8 0, .int .u8 0, .int .u8 0, .int .u8 0, .int .u8 0, .int .u8 0, .int .u8 0, .int .u8 0] [.bool false, .int .u8 0, .int .u8 0, .int .u8 0, .int .u8 0, .int .u8 0, .int .u8 0, .int .u8 0, .int .u8 0, .int .u8 0, .int .u8 0, .int .u8 0, .int .u8 0, .int .u8 0, .int .u8 0, .int .u8 0, .int .u8 0] BK324.out rfl rfl rfl (by kernel_rfl) rfl ?_; (case hg => rfl); intro w6 hw; have n0_ : Aside0 (w6.heap[gb323]? = some (.cells #[.bool false, .int .u8 0, .int .u8 0, .int .u8 0, .int .u8 0, .int .u8 0, .int .u8 0, .int .u8 0, .int .u8 0, .int .u8 0, .int .u8 0, .int .u8 0, .int .u8 0, .int .u8 0, .int .u8 0, .int .u8 0, .int .u8 0] 25 (0, 0))) := ⟨(by rw [hw]; exact (by (with_reducible repeat (first | refine blk_drewN ?_ _ | refine blk_drew ?_ | refine blk_alloc ?_ _)); refine blk_farC NB323_324.out _ _ ?_; (with_reducible repeat (first | refine blk_drewN ?_ _ | refine blk_drew ?_ | refine blk_alloc ?_ _)); exact BK323.out))⟩; have n1_ : Aside0 (w6.heap[gb324]? = some (.cells #[.bool false, .int .u8 0, .int .u8 0, .int .u8 0, .int .u8 0, .int .u8 0, .int .u8 0, .int .u8 0, .int .u8 0, .int .u8 0, .int .u8 0, .int .u8 0, .int .u8 0, .int .u8 0, .int .u8 0, .int .u8 0, .int .u8 0] 25 (0, 0))) := ⟨(by rw [hw]; exact (by (with_reducible repeat (first | refine blk_drewN ?_ _ | refine blk_drew ?_ | refine blk_alloc ?_ _)); refine blk_part [.bool false, .int .u8 0, .int .u8 0, .int .u8 0, .int .u8 0, .int .u8 0, .int .u8 0, .int .u8 0, .int .u8 0, .int .u8 0, .int .u8 0, .int .u8 0, .int .u8 0, .int .u8 0, .int .u8 0, .int .u8 0, .int .u8 0] [.bool false, .int .u8 0, .int .u8 0, .int .u8 0, .int .u8 0, .int .u8 0, .int .u8 0, .int .u8 0, .int .u8 0, .int .u8 0, .int .u8 0, .int .u8 0, .int .u8 0, .int .u8 0, .int .u8 0, .int .u8 0, .int .u8 0] [] [] (cs := #[.bool false, .int .u8 0, .int .u8 0, .int .u8 0, .int .u8 0, .int .u8 0, .int .u8 0, .int .u8 0, .int .u8 0, .int .u8 0, .int .u8 0, .int .u8 0, .int .u8 0, .int .u8 0, .int .u8 0, .int .u8 0, .int .u8 0]) ?_ rfl rfl rfl; (with_reducible repeat (first | refine blk_drewN ?_ _ | refine blk_drew ?_ | refine blk_alloc ?_ _)); exact BK324.out))⟩; have n2_ : Aside0 (Below w.heap.size w w6) := ⟨(by rw [hw]; exact (by repeat (first | (with_reducible first | exact HB.out | apply below_alloc | apply pw_below_drewN | apply below_drew1 | refine below_set ?_ GE323.out | refine below_set ?_ GE324.out | refine below_setC GE323.out _ _ ?_ | refine below_setC GE324.out _ _ ?_) | exact HB.out)))⟩; clear hw; clear BK323; clear BK324; clear HB; have BK323 := n0_; have BK324 := n1_; have HB := n2_; clear n0_ n1_ n2_))
 go_loopg [0, 4] k (fun kq v0 v4 w' => ∃ (x0_1 : Int) (x4_1 : Int) (x325001_1 : Int) (x325002_1 : Int) (x325003_1 : Int) (x325004_1 : Int) (x325005_1 : Int) (x325006_1 : Int) (x325007_1 : Int) (x325008_1 : Int) (x325009_1 : Int) (x325010_1 : Int) (x325011_1 : Int) (x325012_1 : Int) (x325013_1 : Int) (x325014_1 : Int) (x325015_1 : Int) (x325016_1 : Int), v0 = .int .u64 x0_1 ∧ v4 = .int .i64 x4_1 ∧ Aside0 (lanternref05_V4.l0 kq x0_1 x4_1 false x325001_1 x325002_1 x325003_1 x325004_1 x325005_1 x325006_1 x325007_1 x325008_1 x325009_1 x325010_1 x325011_1 x325012_1 x325013_1 x325014_1 x325015_1 x325016_1 = some (r1, r2, r3, r4, r5, r6, r7, r8, r9, r10, r11, r12, r13, r14, r15, r16, r17)) ∧ Aside0 (kq ≤ k) ∧ Aside0 (w'.heap[gb323]? = some (.cells #[.bool false, .int .u8 0, .int .u8 0, .int .u8 0, .int .u8 0, .int .u8 0, .int .u8 0, .int .u8 0, .int .u8 0, .int .u8 0, .int .u8 0, .int .u8 0, .int .u8 0, .int .u8 0, .int .u8 0, .int .u8 0, .int .u8 0] 25 (0, 0))) ∧ Aside0 (w'.heap[gb324]? = some (.cells #[.bool false, .int .u8 x325001_1, .int .u8 x325002_1, .int .u8 x325003_1, .int .u8 x325004_1, .int .u8 x325005_1, .int .u8 x325006_1, .int .u8 x325007_1, .int .u8 x325008_1, .int .u8 x325009_1, .int .u8 x325010_1, .int .u8 x325011_1, .int .u8 x325012_1, .int .u8 x325013_1, .int .u8 x325014_1, .int .u8 x325015_1, .int .u8 x325016_1] 25 (0, 0))) ∧ Aside0 (Below w.heap.size w w'))
 case atStart => exact ⟨(a0), (15), (0), (0), (0), (0), (0), (0), (0), (0), (0), (0), (0), (0), (0), (0), (0), (0), (by first | rfl | (simp; done) | (simp [*]; done) | (simp; exact isEmpty_bne _) | (simp; exact isEmpty_beq _)), (by first | rfl | (simp; done) | (simp [*]; done) | (simp; exact isEmpty_bne _) | (simp; exact isEmpty_beq _)), H', ⟨Nat.le_refl _⟩, ⟨by (with_reducible repeat (first | refine blk_drewN ?_ _ | refine blk_drew ?_ | refine blk_alloc ?_ _)); exact BK323.out⟩, ⟨by (with_reducible repeat (first | refine blk_drewN ?_ _ | refine blk_drew ?_ | refine blk_alloc ?_ _)); exact BK324.out⟩, ⟨by repeat (first | (with_reducible first | exact HB.out | apply below_alloc | apply pw_below_drewN | apply below_drew1 | refine below_set ?_ GE323.out | refine below_set ?_ GE324.out) | exact HB.out)⟩⟩
 case round =>
  clear H'
  try clear c1
  try clear p2
  try clear c4
  try clear hcz5_0
  try clear hcz5_1
  try clear hcz5_10
  try clear hcz5_11
  try clear hcz5_12
  try clear hcz5_13
  try clear hcz5_14
  try clear hcz5_15
  try clear hcz5_16
  try clear hcz5_2
  try clear hcz5_3
  try clear hcz5_4
  try clear hcz5_5
  try clear hcz5_6
  try clear hcz5_7
  try clear hcz5_8
  try clear hcz5_9
  try clear hfz5_0
  try clear hfz5_1
  try clear hfz5_10
  try clear hfz5_11
  try clear hfz5_12
  try clear hfz5_13
  try clear hfz5_14
  try clear hfz5_15
  try clear hfz5_16
  try clear hfz5_2
  try clear hfz5_3
  try clear hfz5_4
  try clear hfz5_5
  try clear hfz5_6
  try clear hfz5_7
  try clear hfz5_8
  try clear hfz5_9
  obtain ⟨x0_1, x4_1, x325001_1, x325002_1, x325003_1, x325004_1, x325005_1, x325006_1, x325007_1, x325008_1, x325009_1, x325010_1, x325011_1, x325012_1, x325013_1, x325014_1, x325015_1, x325016_1, rfl, rfl, HA, HK1, BK323, BK324, HB⟩ := hrel
  cases gk with
  | zero => exact absurd HA.out (by simp [lanternref05_V4.l0])
  | succ k1 =>
   have H := HA.out
   clear HA
   simp only [lanternref05_V4.l0] at H
   by_cases c7 : x4_1 ≥ 12
   ·rw [if_pos c7] at H
    have c7b0 : decide (12 ≤ x4_1) = true := decide_eq_true c7
    clear c7
    by_cases c8 : 0 ≤ x4_1
    ·rw [if_pos c8] at H
     have c8b0 : decide (0 ≤ x4_1) = true := decide_eq_true c8
     clear c8
     by_cases c9 : x4_1 < 16
     ·rw [if_pos c9] at H
      have c9b0 : decide (x4_1 < 16) = true := decide_eq_true c9
      clear c9
      have H' := Aside0.mk H
      clear H
      have par10 : (0 ≤ x4_1) = True := eq_true (of_decide_eq_true (by first | (with_reducible assumption) | assumption))
      have qar10 : (x4_1 < 16) = True := eq_true (of_decide_eq_true (by first | (with_reducible assumption) | assumption))
      have hnb11 := NB324_323.out
      have hnc11 := NB323_324.out
      have hcz12_0 : wr.cell? ⟨gb324, 0, none⟩ = some (.bool false) := (blk_cell BK324.out 0).trans rfl
      have hcz12_1 : wr.cell? ⟨gb324, 1, none⟩ = some (.int .u8 x325001_1) := (blk_cell BK324.out 1).trans rfl
      have hcz12_2 : wr.cell? ⟨gb324, 2, none⟩ = some (.int .u8 x325002_1) := (blk_cell BK324.out 2).trans rfl
      have hcz12_3 : wr.cell? ⟨gb324, 3, none⟩ = some (.int .u8 x325003_1) := (blk_cell BK324.out 3).trans rfl
      have hcz12_4 : wr.cell? ⟨gb324, 4, none⟩ = some (.int .u8 x325004_1) := (blk_cell BK324.out 4).trans rfl
      have hcz12_5 : wr.cell? ⟨gb324, 5, none⟩ = some (.int .u8 x325005_1) := (blk_cell BK324.out 5).trans rfl
      have hcz12_6 : wr.cell? ⟨gb324, 6, none⟩ = some (.int .u8 x325006_1) := (blk_cell BK324.out 6).trans rfl
      have hcz12_7 : wr.cell? ⟨gb324, 7, none⟩ = some (.int .u8 x325007_1) := (blk_cell BK324.out 7).trans rfl
      have hcz12_8 : wr.cell? ⟨gb324, 8, none⟩ = some (.int .u8 x325008_1) := (blk_cell BK324.out 8).trans rfl
      have hcz12_9 : wr.cell? ⟨gb324, 9, none⟩ = some (.int .u8 x325009_1) := (blk_cell BK324.out 9).trans rfl
      have hcz12_10 : wr.cell? ⟨gb324, 10, none⟩ = some (.int .u8 x325010_1) := (blk_cell BK324.out 10).trans rfl
      have hcz12_11 : wr.cell? ⟨gb324, 11, none⟩ = some (.int .u8 x325011_1) := (blk_cell BK324.out 11).trans rfl
      have hcz12_12 : wr.cell? ⟨gb324, 12, none⟩ = some (.int .u8 x325012_1) := (blk_cell BK324.out 12).trans rfl
      have hcz12_13 : wr.cell? ⟨gb324, 13, none⟩ = some (.int .u8 x325013_1) := (blk_cell BK324.out 13).trans rfl
      have hcz12_14 : wr.cell? ⟨gb324, 14, none⟩ = some (.int .u8 x325014_1) := (blk_cell BK324.out 14).trans rfl
      have hcz12_15 : wr.cell? ⟨gb324, 15, none⟩ = some (.int .u8 x325015_1) := (blk_cell BK324.out 15).trans rfl
      have hcz12_16 : wr.cell? ⟨gb324, 16, none⟩ = some (.int .u8 x325016_1) := (blk_cell BK324.out 16).trans rfl
      have hfz12_0 := blk_frozen BK324.out 0
      have hfz12_1 := blk_frozen BK324.out 1
      have hfz12_2 := blk_frozen BK324.out 2
      have hfz12_3 := blk_frozen BK324.out 3
      have hfz12_4 := blk_frozen BK324.out 4
      have hfz12_5 := blk_frozen BK324.out 5
      have hfz12_6 := blk_frozen BK324.out 6
      have hfz12_7 := blk_frozen BK324.out 7
      have hfz12_8 := blk_frozen BK324.out 8
      have hfz12_9 := blk_frozen BK324.out 9
      have hfz12_10 := blk_frozen BK324.out 10
      have hfz12_11 := blk_frozen BK324.out 11
      have hfz12_12 := blk_frozen BK324.out 12
      have hfz12_13 := blk_frozen BK324.out 13
      have hfz12_14 := blk_frozen BK324.out 14
      have hfz12_15 := blk_frozen BK324.out 15
      have hfz12_16 := blk_frozen BK324.out 16
      have hxar10 : wr.cell? ⟨gb324, 1 + (x4_1).toNat, none⟩ = some (.int .u8 (rd [x325001_1, x325002_1, x325003_1, x325004_1, x325005_1, x325006_1, x325007_1, x325008_1, x325009_1, x325010_1, x325011_1, x325012_1, x325013_1, x325014_1, x325015_1, x325016_1] x4_1)) := (blk_idx BK324.out .u8 [.bool false] [x325001_1, x325002_1, x325003_1, x325004_1, x325005_1, x325006_1, x325007_1, x325008_1, x325009_1, x325010_1, x325011_1, x325012_1, x325013_1, x325014_1, x325015_1, x325016_1] [] rfl x4_1 (of_decide_eq_true (by first | (with_reducible assumption) | assumption)) (of_decide_eq_true (by first | (with_reducible assumption) | assumption)) rfl)
      have hfar10 := blk_frozen BK324.out (1 + (x4_1).toNat)
      go_wp2_with (first | ((with_reducible refine gate_store (t := 5) (p := 15) rfl ?_); refine store_event (t := 5) (p := 15) (v := ?vo_w13) (w1 := (wr.setCell ⟨gb324, 1 + (x4_1).toNat, none⟩ (.int .u8 ((Int.tmod x0_1 256) % 256)))) ?hg ?ho ?hn ?hr ?_; (case ho => rfl); (case hg => rfl); (case hn => rfl); (case hr => first | (go_simp; done) | (go_simp; rfl)); intro w13 hw; have n0_ : Aside0 (w13.heap[gb323]? = some (.cells #[.bool false, .int .u8 0, .int .u8 0, .int .u8 0, .int .u8 0, .int .u8 0, .int .u8 0, .int .u8 0, .int .u8 0, .int .u8 0, .int .u8 0, .int .u8 0, .int .u8 0, .int .u8 0, .int .u8 0, .int .u8 0, .int .u8 0] 25 (0, 0))) := ⟨(by rw [hw]; exact (by (with_reducible repeat (first | refine blk_drewN ?_ _ | refine blk_drew ?_ | refine blk_alloc ?_ _)); refine blk_far ?_ NB323_324.out _; (with_reducible repeat (first | refine blk_drewN ?_ _ | refine blk_drew ?_ | refine blk_alloc ?_ _)); exact BK323.out))⟩; have n1_ : Aside0 (w13.heap[gb324]? = some (.cells #[.bool false, .int .u8 (upd x4_1 0 ((Int.tmod x0_1 256) % 256) x325001_1), .int .u8 (upd x4_1 1 ((Int.tmod x0_1 256) % 256) x325002_1), .int .u8 (upd x4_1 2 ((Int.tmod x0_1 256) % 256) x325003_1), .int .u8 (upd x4_1 3 ((Int.tmod x0_1 256) % 256) x325004_1), .int .u8 (upd x4_1 4 ((Int.tmod x0_1 256) % 256) x325005_1), .int .u8 (upd x4_1 5 ((Int.tmod x0_1 256) % 256) x325006_1), .int .u8 (upd x4_1 6 ((Int.tmod x0_1 256) % 256) x325007_1), .int .u8 (upd x4_1 7 ((Int.tmod x0_1 256) % 256) x325008_1), .int .u8 (upd x4_1 8 ((Int.tmod x0_1 256) % 256) x325009_1), .int .u8 (upd x4_1 9 ((Int.tmod x0_1 256) % 256) x325010_1), .int .u8 (upd x4_1 10 ((Int.tmod x0_1 256) % 256) x325011_1), .int .u8 (upd x4_1 11 ((Int.tmod x0_1 256) % 256) x325012_1), .int .u8 (upd x4_1 12 ((Int.tmod x0_1 256) % 256) x325013_1), .int .u8 (upd x4_1 13 ((Int.tmod x0_1 256) % 256) x325014_1), .int .u8 (upd x4_1 14 ((Int.tmod x0_1 256) % 256) x325015_1), .int .u8 (upd x4_1 15 ((Int.tmod x0_1 256) % 256) x325016_1)] 25 (0, 0))) := ⟨(by rw [hw]; exact (by (with_reducible repeat (first | refine blk_drewN ?_ _ | refine blk_drew ?_ | refine blk_alloc ?_ _)); refine blk_put (cs := #[.bool false, .int .u8 x325001_1, .int .u8 x325002_1, .int .u8 x325003_1, .int .u8 x325004_1, .int .u8 x325005_1, .int .u8 x325006_1, .int .u8 x325007_1, .int .u8 x325008_1, .int .u8 x325009_1, .int .u8 x325010_1, .int .u8 x325011_1, .int .u8 x325012_1, .int .u8 x325013_1, .int .u8 x325014_1, .int .u8 x325015_1, .int .u8 x325016_1]) ?_ (1 + (x4_1).toNat) _ (upd_set .u8 [.bool false] [x325001_1, x325002_1, x325003_1, x325004_1, x325005_1, x325006_1, x325007_1, x325008_1, x325009_1, x325010_1, x325011_1, x325012_1, x325013_1, x325014_1, x325015_1, x325016_1] [] rfl x4_1 (of_decide_eq_true (by first | (with_reducible assumption) | assumption)) (of_decide_eq_true (by first | (with_reducible assumption) | assumption)) rfl _ rfl); (with_reducible repeat (first | refine blk_drewN ?_ _ | refine blk_drew ?_ | refine blk_alloc ?_ _)); exact BK324.out))⟩; have n2_ : Aside0 (Below w.heap.size w w13) := ⟨(by rw [hw]; exact (by repeat (first | (with_reducible first | exact HB.out | apply below_alloc | apply pw_below_drewN | apply below_drew1 | refine below_set ?_ GE323.out | refine below_set ?_ GE324.out) | exact HB.out)))⟩; clear hw; clear BK323; clear BK324; clear HB; have BK323 := n0_; have BK324 := n1_; have HB := n2_; clear n0_ n1_ n2_))
      go_roundg k1
      case measure => have := HK1.out; omega
      case rel => exact ⟨(IntKind.u64.wrap (Int.tdiv x0_1 256)), (wrap64 (x4_1 - 1)), (upd x4_1 0 ((Int.tmod x0_1 256) % 256) x325001_1), (upd x4_1 1 ((Int.tmod x0_1 256) % 256) x325002_1), (upd x4_1 2 ((Int.tmod x0_1 256) % 256) x325003_1), (upd x4_1 3 ((Int.tmod x0_1 256) % 256) x325004_1), (upd x4_1 4 ((Int.tmod x0_1 256) % 256) x325005_1), (upd x4_1 5 ((Int.tmod x0_1 256) % 256) x325006_1), (upd x4_1 6 ((Int.tmod x0_1 256) % 256) x325007_1), (upd x4_1 7 ((Int.tmod x0_1 256) % 256) x325008_1), (upd x4_1 8 ((Int.tmod x0_1 256) % 256) x325009_1), (upd x4_1 9 ((Int.tmod x0_1 256) % 256) x325010_1), (upd x4_1 10 ((Int.tmod x0_1 256) % 256) x325011_1), (upd x4_1 11 ((Int.tmod x0_1 256) % 256) x325012_1), (upd x4_1 12 ((Int.tmod x0_1 256) % 256) x325013_1), (upd x4_1 13 ((Int.tmod x0_1 256) % 256) x325014_1), (upd x4_1 14 ((Int.tmod x0_1 256) % 256) x325015_1), (upd x4_1 15 ((Int.tmod x0_1 256) % 256) x325016_1), (by first | rfl | (simp; done) | (simp [*]; done) | (simp; exact isEmpty_bne _) | (simp; exact isEmpty_beq _)), (by first | rfl | (simp; done) | (simp [*]; done) | (simp; exact isEmpty_bne _) | (simp; exact isEmpty_beq _)), H', ⟨by have := HK1.out; omega⟩, ⟨by (with_reducible repeat (first | refine blk_drewN ?_ _ | refine blk_drew ?_ | refine blk_alloc ?_ _)); exact BK323.out⟩, ⟨by (with_reducible repeat (first | refine blk_drewN ?_ _ | refine blk_drew ?_ | refine blk_alloc ?_ _)); exact BK324.out⟩, ⟨by repeat (first | (with_reducible first | exact HB.out | apply below_alloc | apply pw_below_drewN | apply below_drew1 | refine below_set ?_ GE323.out | refine below_set ?_ GE324.out) | exact HB.out)⟩⟩
     ·rw [if_neg c9] at H
      exact absurd H (by simp)
    ·rw [if_neg c8] at H
     exact absurd H (by simp)
   ·rw [if_neg c7] at H
    have c7b0 : decide (12 ≤ x4_1) = false := decide_eq_false c7
    clear c7
    simp only [Option.some.injEq, Prod.mk.injEq] at H
    obtain ⟨rfl, rfl, rfl, rfl, rfl, rfl, rfl, rfl, rfl, rfl, rfl, rfl, rfl, rfl, rfl, rfl, rfl⟩ := H
    have hnb14 := NB323_324.out
    have hnc14 := NB324_323.out
    have hcz15_0 : wr.cell? ⟨gb323, 0, none⟩ = some (.bool false) := (blk_cell BK323.out 0).trans rfl
    have hcz15_1 : wr.cell? ⟨gb323, 1, none⟩ = some (.int .u8 0) := (blk_cell BK323.out 1).trans rfl
    have hcz15_2 : wr.cell? ⟨gb323, 2, none⟩ = some (.int .u8 0) := (blk_cell BK323.out 2).trans rfl
    have hcz15_3 : wr.cell? ⟨gb323, 3, none⟩ = some (.int .u8 0) := (blk_cell BK323.out 3).trans rfl
    have hcz15_4 : wr.cell? ⟨gb323, 4, none⟩ = some (.int .u8 0) := (blk_cell BK323.out 4).trans rfl
    have hcz15_5 : wr.cell? ⟨gb323, 5, none⟩ = some (.int .u8 0) := (blk_cell BK323.out 5).trans rfl
    have hcz15_6 : wr.cell? ⟨gb323, 6, none⟩ = some (.int .u8 0) := (blk_cell BK323.out 6).trans rfl
    have hcz15_7 : wr.cell? ⟨gb323, 7, none⟩ = some (.int .u8 0) := (blk_cell BK323.out 7).trans rfl
    have hcz15_8 : wr.cell? ⟨gb323, 8, none⟩ = some (.int .u8 0) := (blk_cell BK323.out 8).trans rfl
    have hcz15_9 : wr.cell? ⟨gb323, 9, none⟩ = some (.int .u8 0) := (blk_cell BK323.out 9).trans rfl
    have hcz15_10 : wr.cell? ⟨gb323, 10, none⟩ = some (.int .u8 0) := (blk_cell BK323.out 10).trans rfl
    have hcz15_11 : wr.cell? ⟨gb323, 11, none⟩ = some (.int .u8 0) := (blk_cell BK323.out 11).trans rfl
    have hcz15_12 : wr.cell? ⟨gb323, 12, none⟩ = some (.int .u8 0) := (blk_cell BK323.out 12).trans rfl
    have hcz15_13 : wr.cell? ⟨gb323, 13, none⟩ = some (.int .u8 0) := (blk_cell BK323.out 13).trans rfl
    have hcz15_14 : wr.cell? ⟨gb323, 14, none⟩ = some (.int .u8 0) := (blk_cell BK323.out 14).trans rfl
    have hcz15_15 : wr.cell? ⟨gb323, 15, none⟩ = some (.int .u8 0) := (blk_cell BK323.out 15).trans rfl
    have hcz15_16 : wr.cell? ⟨gb323, 16, none⟩ = some (.int .u8 0) := (blk_cell BK323.out 16).trans rfl
    have hfz15_0 := blk_frozen BK323.out 0
    have hfz15_1 := blk_frozen BK323.out 1
    have hfz15_2 := blk_frozen BK323.out 2
    have hfz15_3 := blk_frozen BK323.out 3
    have hfz15_4 := blk_frozen BK323.out 4
    have hfz15_5 := blk_frozen BK323.out 5
    have hfz15_6 := blk_frozen BK323.out 6
    have hfz15_7 := blk_frozen BK323.out 7
    have hfz15_8 := blk_frozen BK323.out 8
    have hfz15_9 := blk_frozen BK323.out 9
    have hfz15_10 := blk_frozen BK323.out 10
    have hfz15_11 := blk_frozen BK323.out 11
    have hfz15_12 := blk_frozen BK323.out 12
    have hfz15_13 := blk_frozen BK323.out 13
    have hfz15_14 := blk_frozen BK323.out 14
    have hfz15_15 := blk_frozen BK323.out 15
    have hfz15_16 := blk_frozen BK323.out 16
    go_wp2_with (first | ((with_reducible refine gate_dst (N := 18) rfl ?_); (try (refine gate_guard (by rfl) ?_; dsimp only)); refine load_box ?hg 25 (.tmp 3) rfl BK324.out [] [.bool false, .int .u8 x325001_1, .int .u8 x325002_1, .int .u8 x325003_1, .int .u8 x325004_1, .int .u8 x325005_1, .int .u8 x325006_1, .int .u8 x325007_1, .int .u8 x325008_1, .int .u8 x325009_1, .int .u8 x325010_1, .int .u8 x325011_1, .int .u8 x325012_1, .int .u8 x325013_1, .int .u8 x325014_1, .int .u8 x325015_1, .int .u8 x325016_1] [] rfl 0 rfl rfl Tryd.underlying25 rfl (by kernel_rfl) ?_; (case hg => rfl)) | ((with_reducible refine gate_store (t := 25) (p := 2) rfl ?_); refine store_all ?hg 25 2 _ rfl rfl gb323 [.bool false, .int .u8 0, .int .u8 0, .int .u8 0, .int .u8 0, .int .u8 0, .int .u8 0, .int .u8 0, .int .u8 0, .int .u8 0, .int .u8 0, .int .u8 0, .int .u8 0, .int .u8 0, .int .u8 0, .int .u8 0, .int .u8 0] [.bool false, .int .u8 x325001_1, .int .u8 x325002_1, .int .u8 x325003_1, .int .u8 x325004_1, .int .u8 x325005_1, .int .u8 x325006_1, .int .u8 x325007_1, .int .u8 x325008_1, .int .u8 x325009_1, .int .u8 x325010_1, .int .u8 x325011_1, .int .u8 x325012_1, .int .u8 x325013_1, .int .u8 x325014_1, .int .u8 x325015_1, .int .u8 x325016_1] BK323.out rfl rfl rfl (by kernel_rfl) rfl ?_; (case hg => rfl); intro w16 hw; have n0_ : Aside0 (w16.heap[gb323]? = some (.cells #[.bool false, .int .u8 x325001_1, .int .u8 x325002_1, .int .u8 x325003_1, .int .u8 x325004_1, .int .u8 x325005_1, .int .u8 x325006_1, .int .u8 x325007_1, .int .u8 x325008_1, .int .u8 x325009_1, .int .u8 x325010_1, .int .u8 x325011_1, .int .u8 x325012_1, .int .u8 x325013_1, .int .u8 x325014_1, .int .u8 x325015_1, .int .u8 x325016_1] 25 (0, 0))) := ⟨(by rw [hw]; exact (by (with_reducible repeat (first | refine blk_drewN ?_ _ | refine blk_drew ?_ | refine blk_alloc ?_ _)); refine blk_part [.bool false, .int .u8 x325001_1, .int .u8 x325002_1, .int .u8 x325003_1, .int .u8 x325004_1, .int .u8 x325005_1, .int .u8 x325006_1, .int .u8 x325007_1, .int .u8 x325008_1, .int .u8 x325009_1, .int .u8 x325010_1, .int .u8 x325011_1, .int .u8 x325012_1, .int .u8 x325013_1, .int .u8 x325014_1, .int .u8 x325015_1, .int .u8 x325016_1] [.bool false, .int .u8 0, .int .u8 0, .int .u8 0, .int .u8 0, .int .u8 0, .int .u8 0, .int .u8 0, .int .u8 0, .int .u8 0, .int .u8 0, .int .u8 0, .int .u8 0, .int .u8 0, .int .u8 0, .int .u8 0, .int .u8 0] [] [] (cs := #[.bool false, .int .u8 0, .int .u8 0, .int .u8 0, .int .u8 0, .int .u8 0, .int .u8 0, .int .u8 0, .int .u8 0, .int .u8 0, .int .u8 0, .int .u8 0, .int .u8 0, .int .u8 0, .int .u8 0, .int .u8 0, .int .u8 0]) ?_ rfl rfl rfl; (with_reducible repeat (first | refine blk_drewN ?_ _ | refine blk_drew ?_ | refine blk_alloc ?_ _)); exact BK323.out))⟩; have n1_ : Aside0 (w16.heap[gb324]? = some (.cells #[.bool false, .int .u8 x325001_1, .int .u8 x325002_1, .int .u8 x325003_1, .int .u8 x325004_1, .int .u8 x325005_1, .int .u8 x325006_1, .int .u8 x325007_1, .int .u8 x325008_1, .int .u8 x325009_1, .int .u8 x325010_1, .int .u8 x325011_1, .int .u8 x325012_1, .int .u8 x325013_1, .int .u8 x325014_1, .int .u8 x325015_1, .int .u8 x325016_1] 25 (0, 0))) := ⟨(by rw [hw]; exact (by (with_reducible repeat (first | refine blk_drewN ?_ _ | refine blk_drew ?_ | refine blk_alloc ?_ _)); refine blk_farC NB324_323.out _ _ ?_; (with_reducible repeat (first | refine blk_drewN ?_ _ | refine blk_drew ?_ | refine blk_alloc ?_ _)); exact BK324.out))⟩; have n2_ : Aside0 (Below w.heap.size w w16) := ⟨(by rw [hw]; exact (by repeat (first | (with_reducible first | exact HB.out | apply below_alloc | apply pw_below_drewN | apply below_drew1 | refine below_set ?_ GE323.out | refine below_set ?_ GE324.out | refine below_setC GE323.out _ _ ?_ | refine below_setC GE324.out _ _ ?_) | exact HB.out)))⟩; clear hw; clear BK323; clear BK324; clear HB; have BK323 := n0_; have BK324 := n1_; have HB := n2_; clear n0_ n1_ n2_))
    refine bodyPost_ret (results_cell_row rfl _ _ gb323 25 #[.bool false, .int .u8 x325001_1, .int .u8 x325002_1, .int .u8 x325003_1, .int .u8 x325004_1, .int .u8 x325005_1, .int .u8 x325006_1, .int .u8 x325007_1, .int .u8 x325008_1, .int .u8 x325009_1, .int .u8 x325010_1, .int .u8 x325011_1, .int .u8 x325012_1, .int .u8 x325013_1, .int .u8 x325014_1, .int .u8 x325015_1, .int .u8 x325016_1] (0, 0) _ rfl (by (with_reducible repeat (first | refine blk_drewN ?_ _ | refine blk_drew ?_ | refine blk_alloc ?_ _)); exact BK323.out) Tryd.underlying25 rfl (by kernel_rfl)) rfl ?_
    exact ⟨by first | rfl | (simp [errW_none, errW_some] <;> rfl) | (simp [*, errW_none, errW_some] <;> rfl) | (simp [errW_none, errW_some]; first | exact isEmpty_bne _ | exact isEmpty_beq _ | exact (isEmpty_bne _).symm), by repeat (first | (with_reducible first | exact HB.out | apply below_alloc | apply pw_below_drewN | apply below_drew1 | refine below_set ?_ GE323.out | refine below_set ?_ GE324.out) | exact HB.out)⟩

def lanternref05_cut.l0 : Nat → ByteArray → Int → List ByteArray → Int → Int → Option (List ByteArray)
 | 0, _, _, _, _, _ => none
 | k + 1, x0, x1, x5, x6, x7 => if x7 ≤ (x0.size : Int) then (if x7 = (x0.size : Int) then (if 0 ≤ x6 then (if x6 ≤ x7 then (if x5.length < 8796093022208 then (lanternref05_cut.l0 k x0 x1 (x5 ++ [x0.extract (x6 : Int).toNat (x7 : Int).toNat]) (wrap64 (x7 + 1)) (wrap64 (x7 + 1))) else (none)) else (none)) else (none)) else (if 0 ≤ x7 then (if x7 < (x0.size : Int) then (if (bt x0 x7) = x1 then (if 0 ≤ x6 then (if x6 ≤ x7 then (if x5.length < 8796093022208 then (lanternref05_cut.l0 k x0 x1 (x5 ++ [x0.extract (x6 : Int).toNat (x7 : Int).toNat]) (wrap64 (x7 + 1)) (wrap64 (x7 + 1))) else (none)) else (none)) else (none)) else (lanternref05_cut.l0 k x0 x1 x5 x6 (wrap64 (x7 + 1)))) else (none)) else (none))) else (some x5)
def lanternref05_cut.f (k : Nat) (a0 : ByteArray) (a1 : Int) : Option (List ByteArray) := lanternref05_cut.l0 k a0 a1 (([] : List ByteArray)) 0 0
theorem lanternref05_cut.mono_l : ∀ k, (∀ y0 y1 y2 y3 y4, LeO (lanternref05_cut.l0 k y0 y1 y2 y3 y4) (lanternref05_cut.l0 (k + 1) y0 y1 y2 y3 y4))
 | 0 => fun _ _ _ _ _ r h => by simp [lanternref05_cut.l0] at h
 | k + 1 => by
  have ih0 := lanternref05_cut.mono_l k
  ·intro y0 y1 y2 y3 y4
   unfold lanternref05_cut.l0
   repeat' first
   | (with_reducible exact ih0 _ _ _ _ _)
   | (with_reducible exact LeO.refl _)
   | (with_reducible exact LeO.none _)
   | (with_reducible refine LeO.ite ?_ ?_)
   | (with_reducible refine LeO.bind ?_ (fun _ => ?_))
   | exact ih0 _ _ _ _ _
   | exact LeO.none _
   | refine LeO.ite ?_ ?_
   | refine LeO.bind ?_ (fun _ => ?_)
theorem lanternref05_cut.mono : ∀ a0 a1 k, LeO (lanternref05_cut.f k a0 a1) (lanternref05_cut.f (k + 1) a0 a1) := by
 intro a0 a1 k
 have ih0 := lanternref05_cut.mono_l k
 unfold lanternref05_cut.f
 repeat' first
   | (with_reducible exact ih0 _ _ _ _ _)
   | (with_reducible exact LeO.refl _)
   | (with_reducible exact LeO.none _)
   | (with_reducible refine LeO.ite ?_ ?_)
   | (with_reducible refine LeO.bind ?_ (fun _ => ?_))
   | exact ih0 _ _ _ _ _
   | exact LeO.none _
   | refine LeO.ite ?_ ?_
   | refine LeO.bind ?_ (fun _ => ?_)
mutual
def lanternref05_digit.j0 : Nat → Int → Int → Int → Bool → Option (Int)
 | 0, _, _, _, _ => none
 | k + 1, x0, x1, x5, x11 => if x11 = true then (lanternref05_digit.j1 k x0 x1 ((x0 - 48) % 256)) else (lanternref05_digit.j1 k x0 x1 x5)
def lanternref05_digit.j1 : Nat → Int → Int → Int → Option (Int)
 | 0, _, _, _ => none
 | k + 1, x0, x1, x5 => if x0 ≥ 97 then (lanternref05_digit.j2 k x0 x1 x5 (decide (x0 ≤ 102))) else (lanternref05_digit.j2 k x0 x1 x5 false)
def lanternref05_digit.j2 : Nat → Int → Int → Int → Bool → Option (Int)
 | 0, _, _, _, _ => none
 | k + 1, x0, x1, x5, x20 => if x20 = true then (lanternref05_digit.j3 k x0 x1 (((x0 - 97) % 256) + 10)) else (lanternref05_digit.j3 k x0 x1 x5)
def lanternref05_digit.j3 : Nat → Int → Int → Int → Option (Int)
 | 0, _, _, _ => none
 | k + 1, x0, x1, x5 => if x0 ≥ 65 then (lanternref05_digit.j4 k x0 x1 x5 (decide (x0 ≤ 70))) else (lanternref05_digit.j4 k x0 x1 x5 false)
def lanternref05_digit.j4 : Nat → Int → Int → Int → Bool → Option (Int)
 | 0, _, _, _, _ => none
 | k + 1, x0, x1, x5, x30 => if x30 = true then (if (((x0 - 65) % 256) + 10) ≥ x1 then (some (-1)) else (some (((x0 - 65) % 256) + 10))) else (if x5 ≥ x1 then (some (-1)) else (some x5))
end
def lanternref05_digit.f (k : Nat) (a0 : Int) (a1 : Int) : Option (Int) := if a0 ≥ 48 then (lanternref05_digit.j0 k a0 a1 (-1) (decide (a0 ≤ 57))) else (lanternref05_digit.j0 k a0 a1 (-1) false)
theorem lanternref05_digit.mono_l : ∀ k, (∀ y0 y1 y2 y3, LeO (lanternref05_digit.j0 k y0 y1 y2 y3) (lanternref05_digit.j0 (k + 1) y0 y1 y2 y3)) ∧ (∀ y0 y1 y2, LeO (lanternref05_digit.j1 k y0 y1 y2) (lanternref05_digit.j1 (k + 1) y0 y1 y2)) ∧ (∀ y0 y1 y2 y3, LeO (lanternref05_digit.j2 k y0 y1 y2 y3) (lanternref05_digit.j2 (k + 1) y0 y1 y2 y3)) ∧ (∀ y0 y1 y2, LeO (lanternref05_digit.j3 k y0 y1 y2) (lanternref05_digit.j3 (k + 1) y0 y1 y2)) ∧ (∀ y0 y1 y2 y3, LeO (lanternref05_digit.j4 k y0 y1 y2 y3) (lanternref05_digit.j4 (k + 1) y0 y1 y2 y3))
 | 0 => ⟨fun _ _ _ _ r h => by simp [lanternref05_digit.j0] at h, fun _ _ _ r h => by simp [lanternref05_digit.j1] at h, fun _ _ _ _ r h => by simp [lanternref05_digit.j2] at h, fun _ _ _ r h => by simp [lanternref05_digit.j3] at h, fun _ _ _ _ r h => by simp [lanternref05_digit.j4] at h⟩
 | k + 1 => by
  obtain ⟨ih0, ih1, ih2, ih3, ih4⟩ := lanternref05_digit.mono_l k
  refine ⟨?_, ?_, ?_, ?_, ?_⟩
  ·intro y0 y1 y2 y3
   unfold lanternref05_digit.j0
   repeat' first
   | (with_reducible exact ih0 _ _ _ _)
   | (with_reducible exact ih1 _ _ _)
   | (with_reducible exact ih2 _ _ _ _)
   | (with_reducible exact ih3 _ _ _)
   | (with_reducible exact ih4 _ _ _ _)
   | (with_reducible exact LeO.refl _)
   | (with_reducible exact LeO.none _)
   | (with_reducible refine LeO.ite ?_ ?_)
   | (with_reducible refine LeO.bind ?_ (fun _ => ?_))
   | exact ih0 _ _ _ _
   | exact ih1 _ _ _
   | exact ih2 _ _ _ _
   | exact ih3 _ _ _
   | exact ih4 _ _ _ _
   | exact LeO.none _
   | refine LeO.ite ?_ ?_
   | refine LeO.bind ?_ (fun _ => ?_)
  ·intro y0 y1 y2
   unfold lanternref05_digit.j1
   repeat' first
   | (with_reducible exact ih0 _ _ _ _)
   | (with_reducible exact ih1 _ _ _)
   | (with_reducible exact ih2 _ _ _ _)
   | (with_reducible exact ih3 _ _ _)
   | (with_reducible exact ih4 _ _ _ _)
   | (with_reducible exact LeO.refl _)
   | (with_reducible exact LeO.none _)
   | (with_reducible refine LeO.ite ?_ ?_)
   | (with_reducible refine LeO.bind ?_ (fun _ => ?_))
   | exact ih0 _ _ _ _
   | exact ih1 _ _ _
   | exact ih2 _ _ _ _
   | exact ih3 _ _ _
   | exact ih4 _ _ _ _
   | exact LeO.none _
   | refine LeO.ite ?_ ?_
   | refine LeO.bind ?_ (fun _ => ?_)
  ·intro y0 y1 y2 y3
   unfold lanternref05_digit.j2
   repeat' first
   | (with_reducible exact ih0 _ _ _ _)
   | (with_reducible exact ih1 _ _ _)
   | (with_reducible exact ih2 _ _ _ _)
   | (with_reducible exact ih3 _ _ _)
   | (with_reducible exact ih4 _ _ _ _)
   | (with_reducible exact LeO.refl _)
   | (with_reducible exact LeO.none _)
   | (with_reducible refine LeO.ite ?_ ?_)
   | (with_reducible refine LeO.bind ?_ (fun _ => ?_))
   | exact ih0 _ _ _ _
   | exact ih1 _ _ _
   | exact ih2 _ _ _ _
   | exact ih3 _ _ _
   | exact ih4 _ _ _ _
   | exact LeO.none _
   | refine LeO.ite ?_ ?_
   | refine LeO.bind ?_ (fun _ => ?_)
  ·intro y0 y1 y2
   unfold lanternref05_digit.j3
   repeat' first
   | (with_reducible exact ih0 _ _ _ _)
   | (with_reducible exact ih1 _ _ _)
   | (with_reducible exact ih2 _ _ _ _)
   | (with_reducible exact ih3 _ _ _)
   | (with_reducible exact ih4 _ _ _ _)
   | (with_reducible exact LeO.refl _)
   | (with_reducible exact LeO.none _)
   | (with_reducible refine LeO.ite ?_ ?_)
   | (with_reducible refine LeO.bind ?_ (fun _ => ?_))
   | exact ih0 _ _ _ _
   | exact ih1 _ _ _
   | exact ih2 _ _ _ _
   | exact ih3 _ _ _
   | exact ih4 _ _ _ _
   | exact LeO.none _
   | refine LeO.ite ?_ ?_
   | refine LeO.bind ?_ (fun _ => ?_)
  ·intro y0 y1 y2 y3
   unfold lanternref05_digit.j4
   repeat' first
   | (with_reducible exact ih0 _ _ _ _)
   | (with_reducible exact ih1 _ _ _)
   | (with_reducible exact ih2 _ _ _ _)
   | (with_reducible exact ih3 _ _ _)
   | (with_reducible exact ih4 _ _ _ _)
   | (with_reducible exact LeO.refl _)
   | (with_reducible exact LeO.none _)
   | (with_reducible refine LeO.ite ?_ ?_)
   | (with_reducible refine LeO.bind ?_ (fun _ => ?_))
   | exact ih0 _ _ _ _
   | exact ih1 _ _ _
   | exact ih2 _ _ _ _
   | exact ih3 _ _ _
   | exact ih4 _ _ _ _
   | exact LeO.none _
   | refine LeO.ite ?_ ?_
   | refine LeO.bind ?_ (fun _ => ?_)
theorem lanternref05_digit.mono : ∀ a0 a1 k, LeO (lanternref05_digit.f k a0 a1) (lanternref05_digit.f (k + 1) a0 a1) := by
 intro a0 a1 k
 obtain ⟨ih0, ih1, ih2, ih3, ih4⟩ := lanternref05_digit.mono_l k
 unfold lanternref05_digit.f
 repeat' first
   | (with_reducible exact ih0 _ _ _ _)
   | (with_reducible exact ih1 _ _ _)
   | (with_reducible exact ih2 _ _ _ _)
   | (with_reducible exact ih3 _ _ _)
   | (with_reducible exact ih4 _ _ _ _)
   | (with_reducible exact LeO.refl _)
   | (with_reducible exact LeO.none _)
   | (with_reducible refine LeO.ite ?_ ?_)
   | (with_reducible refine LeO.bind ?_ (fun _ => ?_))
   | exact ih0 _ _ _ _
   | exact ih1 _ _ _
   | exact ih2 _ _ _ _
   | exact ih3 _ _ _
   | exact ih4 _ _ _ _
   | exact LeO.none _
   | refine LeO.ite ?_ ?_
   | refine LeO.bind ?_ (fun _ => ?_)
end Go.Proofs.YtfiefecjcmcejaaDoor.P
