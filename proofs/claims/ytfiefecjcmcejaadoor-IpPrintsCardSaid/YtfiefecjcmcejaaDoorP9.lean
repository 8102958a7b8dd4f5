-- Written by a program of this session (wip/gen/lprint.py over the kit's print.py) out of the translation. Lean checks it.
import Derived.Test.YtfiefecjcmcejaaDoorP0
import Derived.Test.YtfiefecjcmcejaaDoorP8
namespace Go.Proofs.YtfiefecjcmcejaaDoor.P
open Go.Proofs.YtfiefecjcmcejaaDoor.E Go.Proofs.YtfiefecjcmcejaaDoorV
open Go.RowKit Go.Proofs.YtfiefecjcmcejaaDoorW.PrintWords Go.Proofs.YtfiefecjcmcejaaDoorW.PrintLast Go.Proofs.YtfiefecjcmcejaaDoorW.PrintMore
attribute [local go_sem] max2_int min2_int max_two min_two max_three min_three max_four min_four   -- for this text's walks alone
set_option linter.unusedVariables false
set_option linter.unusedSimpArgs false

def lanternref05_dots.l0 : Nat → ByteArray → Int → Bool → Int → Int → Int → Int → Int → Int → Int → Int → Int → Int → Int → Int → Int → Int → Int → Int → Option (ByteArray)
 | 0, _, _, _, _, _, _, _, _, _, _, _, _, _, _, _, _, _, _, _ => none
 | k + 1, x3, x4, x331000, x331001, x331002, x331003, x331004, x331005, x331006, x331007, x331008, x331009, x331010, x331011, x331012, x331013, x331014, x331015, x331016 => if x4 < 16 then (if x4 > 12 then (if x3.size + 1 ≤ 9223372036854775807 then (if 0 ≤ x4 then ((lanternref05_digits.f k (wrap64 (rd [x331001, x331002, x331003, x331004, x331005, x331006, x331007, x331008, x331009, x331010, x331011, x331012, x331013, x331014, x331015, x331016] x4)) 10).bind fun t332 => (if (x3 ++ (⟨#[46]⟩ : ByteArray)).size + t332.size ≤ 9223372036854775807 then (lanternref05_dots.l0 k ((x3 ++ (⟨#[46]⟩ : ByteArray)) ++ t332) (wrap64 (x4 + 1)) x331000 x331001 x331002 x331003 x331004 x331005 x331006 x331007 x331008 x331009 x331010 x331011 x331012 x331013 x331014 x331015 x331016) else (none))) else (none)) else (none)) else (if 0 ≤ x4 then ((lanternref05_digits.f k (wrap64 (rd [x331001, x331002, x331003, x331004, x331005, x331006, x331007, x331008, x331009, x331010, x331011, x331012, x331013, x331014, x331015, x331016] x4)) 10).bind fun t334 => (if x3.size + t334.size ≤ 9223372036854775807 then (lanternref05_dots.l0 k (x3 ++ t334) (wrap64 (x4 + 1)) x331000 x331001 x331002 x331003 x331004 x331005 x331006 x331007 x331008 x331009 x331010 x331011 x331012 x331013 x331014 x331015 x331016) else (none))) else (none))) else (some x3)
def lanternref05_dots.f (k : Nat) (a0_0 : Bool) (a0_1 : Int) (a0_2 : Int) (a0_3 : Int) (a0_4 : Int) (a0_5 : Int) (a0_6 : Int) (a0_7 : Int) (a0_8 : Int) (a0_9 : Int) (a0_10 : Int) (a0_11 : Int) (a0_12 : Int) (a0_13 : Int) (a0_14 : Int) (a0_15 : Int) (a0_16 : Int) : Option (ByteArray) := lanternref05_dots.l0 k (⟨#[]⟩ : ByteArray) 12 a0_0 a0_1 a0_2 a0_3 a0_4 a0_5 a0_6 a0_7 a0_8 a0_9 a0_10 a0_11 a0_12 a0_13 a0_14 a0_15 a0_16
theorem lanternref05_dots.mono_l : ∀ k, (∀ y0 y1 y2 y3 y4 y5 y6 y7 y8 y9 y10 y11 y12 y13 y14 y15 y16 y17 y18, LeO (lanternref05_dots.l0 k y0 y1 y2 y3 y4 y5 y6 y7 y8 y9 y10 y11 y12 y13 y14 y15 y16 y17 y18) (lanternref05_dots.l0 (k + 1) y0 y1 y2 y3 y4 y5 y6 y7 y8 y9 y10 y11 y12 y13 y14 y15 y16 y17 y18))
 | 0 => fun _ _ _ _ _ _ _ _ _ _ _ _ _ _ _ _ _ _ _ r h => by simp [lanternref05_dots.l0] at h
 | k + 1 => by
  have ih0 := lanternref05_dots.mono_l k
  ·intro y0 y1 y2 y3 y4 y5 y6 y7 y8 y9 y10 y11 y12 y13 y14 y15 y16 y17 y18
   unfold lanternref05_dots.l0
   repeat' first
   | (with_reducible exact ih0 _ _ _ _ _ _ _ _ _ _ _ _ _ _ _ _ _ _ _)
   | (with_reducible exact lanternref05_digits.mono _ _ _)
   | (with_reducible exact LeO.refl _)
   | (with_reducible exact LeO.none _)
   | (with_reducible refine LeO.ite ?_ ?_)
   | (with_reducible refine LeO.bind ?_ (fun _ => ?_))
   | exact ih0 _ _ _ _ _ _ _ _ _ _ _ _ _ _ _ _ _ _ _
   | exact lanternref05_digits.mono _ _ _
   | exact LeO.none _
   | refine LeO.ite ?_ ?_
   | refine LeO.bind ?_ (fun _ => ?_)
theorem lanternref05_dots.mono : ∀ a0 a1 a2 a3 a4 a5 a6 a7 a8 a9 a10 a11 a12 a13 a14 a15 a16 k, LeO (lanternref05_dots.f k a0 a1 a2 a3 a4 a5 a6 a7 a8 a9 a10 a11 a12 a13 a14 a15 a16) (lanternref05_dots.f (k + 1) a0 a1 a2 a3 a4 a5 a6 a7 a8 a9 a10 a11 a12 a13 a14 a15 a16) := by
 intro a0 a1 a2 a3 a4 a5 a6 a7 a8 a9 a10 a11 a12 a13 a14 a15 a16 k
 have ih0 := lanternref05_dots.mono_l k
 unfold lanternref05_dots.f
 repeat' first
   | (with_reducible exact ih0 _ _ _ _ _ _ _ _ _ _ _ _ _ _ _ _ _ _ _)
   | (with_reducible exact lanternref05_digits.mono _ _ _)
   | (with_reducible exact LeO.refl _)
   | (with_reducible exact LeO.none _)
   | (with_reducible refine LeO.ite ?_ ?_)
   | (with_reducible refine LeO.bind ?_ (fun _ => ?_))
   | exact ih0 _ _ _ _ _ _ _ _ _ _ _ _ _ _ _ _ _ _ _
   | exact lanternref05_digits.mono _ _ _
   | exact LeO.none _
   | refine LeO.ite ?_ ?_
   | refine LeO.bind ?_ (fun _ => ?_)
set_option maxHeartbeats 8000000 in
set_option maxRecDepth 100000 in
theorem lanternref05_dots.calls (k : Nat) (a0_0 : Bool) (a0_1 : Int) (a0_2 : Int) (a0_3 : Int) (a0_4 : Int) (a0_5 : Int) (a0_6 : Int) (a0_7 : Int) (a0_8 : Int) (a0_9 : Int) (a0_10 : Int) (a0_11 : Int) (a0_12 : Int) (a0_13 : Int) (a0_14 : Int) (a0_15 : Int) (a0_16 : Int) (r : ByteArray) (w : World) (hLW : LW w) (h : lanternref05_dots.f k a0_0 a0_1 a0_2 a0_3 a0_4 a0_5 a0_6 a0_7 a0_8 a0_9 a0_10 a0_11 a0_12 a0_13 a0_14 a0_15 a0_16 = some r) :
  Calls Tryd.prog 35 #[.agg #[.bool a0_0, .int .u8 a0_1, .int .u8 a0_2, .int .u8 a0_3, .int .u8 a0_4, .int .u8 a0_5, .int .u8 a0_6, .int .u8 a0_7, .int .u8 a0_8, .int .u8 a0_9, .int .u8 a0_10, .int .u8 a0_11, .int .u8 a0_12, .int .u8 a0_13, .int .u8 a0_14, .int .u8 a0_15, .int .u8 a0_16]] w fun e w' => e = .returned (.string r) ∧ Below w.heap.size w w' := by
 have hu25 := Tryd.underlying25
 have HLW := Aside0.mk hLW
 clear hLW
 have HB := Aside0.mk (Below.refl w.heap.size w)
 have H : (lanternref05_dots.l0 k (⟨#[]⟩ : ByteArray) 12 a0_0 a0_1 a0_2 a0_3 a0_4 a0_5 a0_6 a0_7 a0_8 a0_9 a0_10 a0_11 a0_12 a0_13 a0_14 a0_15 a0_16) = some r := h
 clear h
 have H' := Aside0.mk H
 clear H
 go_enter Tryd.func35, Tryd.ntmps35
 go_wp2_with (first | ((with_reducible refine gate_dst (N := 1) rfl ?_); refine box_event ?hg (N := 1) ?hd (cs := #[.bool a0_0, .int .u8 a0_1, .int .u8 a0_2, .int .u8 a0_3, .int .u8 a0_4, .int .u8 a0_5, .int .u8 a0_6, .int .u8 a0_7, .int .u8 a0_8, .int .u8 a0_9, .int .u8 a0_10, .int .u8 a0_11, .int .u8 a0_12, .int .u8 a0_13, .int .u8 a0_14, .int .u8 a0_15, .int .u8 a0_16]) (t := 25) ?hr ?_; (case hd => rfl); (case hg => rfl); (case hr => first | (go_simp; done) | (go_simp; rfl)); intro gb330 hg w2 hbox hb; have n0_ := Aside0.mk (below_step (by repeat (first | (with_reducible first | exact HB.out | apply below_alloc | apply pw_below_drewN | apply below_drew1) | exact HB.out)) hb); have n1_ := Aside0.mk (hbox); have n2_ := Aside0.mk ((by rw [hg]; exact (below_size (by repeat (first | (with_reducible first | exact HB.out | apply below_alloc | apply pw_below_drewN | apply below_drew1) | exact HB.out))) : w.heap.size ≤ gb330)); have n3_ := Aside0.mk ((by rw [hg]; exact (below_size (by repeat (first | (with_reducible first | exact HB.out | apply below_alloc | apply pw_below_drewN | apply below_drew1) | exact HB.out))) : w.heap.size ≤ gb330)); clear HB; have HB := n0_; have BK330 := n1_; have GW330 := n2_; have GE330 := n3_; clear n0_ n1_ n2_ n3_; clear hb hbox hg))
 go_loopg [3, 4] k (fun kq v3 v4 w' => ∃ (x3_1 : ByteArray) (x4_1 : Int), v3 = .string x3_1 ∧ v4 = .int .i64 x4_1 ∧ Aside0 (lanternref05_dots.l0 kq x3_1 x4_1 a0_0 a0_1 a0_2 a0_3 a0_4 a0_5 a0_6 a0_7 a0_8 a0_9 a0_10 a0_11 a0_12 a0_13 a0_14 a0_15 a0_16 = some r) ∧ Aside0 (kq ≤ k) ∧ Aside0 (w'.heap[gb330]? = some (.cells #[.bool a0_0, .int .u8 a0_1, .int .u8 a0_2, .int .u8 a0_3, .int .u8 a0_4, .int .u8 a0_5, .int .u8 a0_6, .int .u8 a0_7, .int .u8 a0_8, .int .u8 a0_9, .int .u8 a0_10, .int .u8 a0_11, .int .u8 a0_12, .int .u8 a0_13, .int .u8 a0_14, .int .u8 a0_15, .int .u8 a0_16] 25 (0, 0))) ∧ Aside0 (Below w.heap.size w w'))
 case atStart => exact ⟨((⟨#[]⟩ : ByteArray)), (12), (by first | rfl | (simp; done) | (simp [*]; done) | (simp; exact isEmpty_bne _) | (simp; exact isEmpty_beq _)), (by first | rfl | (simp; done) | (simp [*]; done) | (simp; exact isEmpty_bne _) | (simp; exact isEmpty_beq _)), H', ⟨Nat.le_refl _⟩, ⟨by (with_reducible repeat (first | refine blk_drewN ?_ _ | refine blk_drew ?_ | refine blk_alloc ?_ _)); exact BK330.out⟩, ⟨by repeat (first | (with_reducible first | exact HB.out | apply below_alloc | apply pw_below_drewN | apply below_drew1 | refine below_set ?_ GE330.out) | exact HB.out)⟩⟩
 case round =>
  clear H'
  try clear p2
  obtain ⟨x3_1, x4_1, rfl, rfl, HA, HK1, BK330, HB⟩ := hrel
  cases gk with
  | zero => exact absurd HA.out (by simp [lanternref05_dots.l0])
  | succ k1 =>
   have H := HA.out
   clear HA
   simp only [lanternref05_dots.l0] at H
   by_cases c3 : x4_1 < 16
   ·rw [if_pos c3] at H
    have c3b0 : decide (x4_1 < 16) = true := decide_eq_true c3
    clear c3
    by_cases c4 : x4_1 > 12
    ·rw [if_pos c4] at H
     have c4b0 : decide (12 < x4_1) = true := decide_eq_true c4
     clear c4
     by_cases c5 : x3_1.size + 1 ≤ 9223372036854775807
     ·rw [if_pos c5] at H
      have c5b0 := eq_true c5
      have c5b1 : decide (x3_1.size + 1 ≤ 9223372036854775807) = true := decide_eq_true c5
      try have c5b2 : (9223372036854775807 < x3_1.size + 1) = False := eq_false (Nat.not_lt.2 c5)
      by_cases c6 : 0 ≤ x4_1
      ·rw [if_pos c6] at H
       have c6b0 : decide (0 ≤ x4_1) = true := decide_eq_true c6
       clear c6
       replace H := Option.bind_eq_some_iff.mp H
       obtain ⟨t332, A70, H⟩ := H
       replace H : (if (x3_1 ++ (⟨#[46]⟩ : ByteArray)).size + t332.size ≤ 9223372036854775807 then (lanternref05_dots.l0 k1 ((x3_1 ++ (⟨#[46]⟩ : ByteArray)) ++ t332) (wrap64 (x4_1 + 1)) a0_0 a0_1 a0_2 a0_3 a0_4 a0_5 a0_6 a0_7 a0_8 a0_9 a0_10 a0_11 a0_12 a0_13 a0_14 a0_15 a0_16) else (none)) = some r := H
       have A7 := Aside0.mk A70
       clear A70
       by_cases c8 : (x3_1 ++ (⟨#[46]⟩ : ByteArray)).size + t332.size ≤ 9223372036854775807
       ·rw [if_pos c8] at H
        have c8b0 := eq_true c8
        have c8b1 : decide ((x3_1 ++ (⟨#[46]⟩ : ByteArray)).size + t332.size ≤ 9223372036854775807) = true := decide_eq_true c8
        try have c8b2 : (9223372036854775807 < (x3_1 ++ (⟨#[46]⟩ : ByteArray)).size + t332.size) = False := eq_false (Nat.not_lt.2 c8)
        try have c8b8 : (9223372036854775807 < x3_1.size + 1 + t332.size) = False := eq_false (by have hq := of_eq_true c8b0; simp only [ByteArray.size_append, ByteArray.size_extract] at hq; have hz0 : (⟨#[46]⟩ : ByteArray).size = 1 := rfl; omega)
        have H' := Aside0.mk H
        clear H
        have par9 : (0 ≤ x4_1) = True := eq_true (of_decide_eq_true (by first | (with_reducible assumption) | assumption))
        have qar9 : (x4_1 < 16) = True := eq_true (of_decide_eq_true (by first | (with_reducible assumption) | assumption))
        have hcz10_0 : wr.cell? ⟨gb330, 0, none⟩ = some (.bool a0_0) := (blk_cell BK330.out 0).trans rfl
        have hcz10_1 : wr.cell? ⟨gb330, 1, none⟩ = some (.int .u8 a0_1) := (blk_cell BK330.out 1).trans rfl
        have hcz10_2 : wr.cell? ⟨gb330, 2, none⟩ = some (.int .u8 a0_2) := (blk_cell BK330.out 2).trans rfl
        have hcz10_3 : wr.cell? ⟨gb330, 3, none⟩ = some (.int .u8 a0_3) := (blk_cell BK330.out 3).trans rfl
        have hcz10_4 : wr.cell? ⟨gb330, 4, none⟩ = some (.int .u8 a0_4) := (blk_cell BK330.out 4).trans rfl
        have hcz10_5 : wr.cell? ⟨gb330, 5, none⟩ = some (.int .u8 a0_5) := (blk_cell BK330.out 5).trans rfl
        have hcz10_6 : wr.cell? ⟨gb330, 6, none⟩ = some (.int .u8 a0_6) := (blk_cell BK330.out 6).trans rfl
        have hcz10_7 : wr.cell? ⟨gb330, 7, none⟩ = some (.int .u8 a0_7) := (blk_cell BK330.out 7).trans rfl
        have hcz10_8 : wr.cell? ⟨gb330, 8, none⟩ = some (.int .u8 a0_8) := (blk_cell BK330.out 8).trans rfl
        have hcz10_9 : wr.cell? ⟨gb330, 9, none⟩ = some (.int .u8 a0_9) := (blk_cell BK330.out 9).trans rfl
        have hcz10_10 : wr.cell? ⟨gb330, 10, none⟩ = some (.int .u8 a0_10) := (blk_cell BK330.out 10).trans rfl
        have hcz10_11 : wr.cell? ⟨gb330, 11, none⟩ = some (.int .u8 a0_11) := (blk_cell BK330.out 11).trans rfl
        have hcz10_12 : wr.cell? ⟨gb330, 12, none⟩ = some (.int .u8 a0_12) := (blk_cell BK330.out 12).trans rfl
        have hcz10_13 : wr.cell? ⟨gb330, 13, none⟩ = some (.int .u8 a0_13) := (blk_cell BK330.out 13).trans rfl
        have hcz10_14 : wr.cell? ⟨gb330, 14, none⟩ = some (.int .u8 a0_14) := (blk_cell BK330.out 14).trans rfl
        have hcz10_15 : wr.cell? ⟨gb330, 15, none⟩ = some (.int .u8 a0_15) := (blk_cell BK330.out 15).trans rfl
        have hcz10_16 : wr.cell? ⟨gb330, 16, none⟩ = some (.int .u8 a0_16) := (blk_cell BK330.out 16).trans rfl
        have hfz10_0 := blk_frozen BK330.out 0
        have hfz10_1 := blk_frozen BK330.out 1
        have hfz10_2 := blk_frozen BK330.out 2
        have hfz10_3 := blk_frozen BK330.out 3
        have hfz10_4 := blk_frozen BK330.out 4
        have hfz10_5 := blk_frozen BK330.out 5
        have hfz10_6 := blk_frozen BK330.out 6
        have hfz10_7 := blk_frozen BK330.out 7
        have hfz10_8 := blk_frozen BK330.out 8
        have hfz10_9 := blk_frozen BK330.out 9
        have hfz10_10 := blk_frozen BK330.out 10
        have hfz10_11 := blk_frozen BK330.out 11
        have hfz10_12 := blk_frozen BK330.out 12
        have hfz10_13 := blk_frozen BK330.out 13
        have hfz10_14 := blk_frozen BK330.out 14
        have hfz10_15 := blk_frozen BK330.out 15
        have hfz10_16 := blk_frozen BK330.out 16
        have hxar9 : wr.cell? ⟨gb330, 1 + (x4_1).toNat, none⟩ = some (.int .u8 (rd [a0_1, a0_2, a0_3, a0_4, a0_5, a0_6, a0_7, a0_8, a0_9, a0_10, a0_11, a0_12, a0_13, a0_14, a0_15, a0_16] x4_1)) := (blk_idx BK330.out .u8 [.bool a0_0] [a0_1, a0_2, a0_3, a0_4, a0_5, a0_6, a0_7, a0_8, a0_9, a0_10, a0_11, a0_12, a0_13, a0_14, a0_15, a0_16] [] rfl x4_1 (of_decide_eq_true (by first | (with_reducible assumption) | assumption)) (of_decide_eq_true (by first | (with_reducible assumption) | assumption)) rfl)
        have hfar9 := blk_frozen BK330.out (1 + (x4_1).toNat)
        go_wp2_with (first | ((with_reducible refine gate_callee (f := 36) rfl ?_); refine goesL_ (some 19) rfl rfl Tryd.func36 (by kernel_rfl) rfl #[.int .i64 (wrap64 (rd [a0_1, a0_2, a0_3, a0_4, a0_5, a0_6, a0_7, a0_8, a0_9, a0_10, a0_11, a0_12, a0_13, a0_14, a0_15, a0_16] x4_1)), .int .i64 10] rfl (by (try simp only [List.map_toArray, List.map_cons, List.map_nil]); first | done | rfl | (simp only [List.length_drop, List.length_take]; rfl)) ?_; (with_reducible refine (lanternref05_digits.calls k1 (wrap64 (rd [a0_1, a0_2, a0_3, a0_4, a0_5, a0_6, a0_7, a0_8, a0_9, a0_10, a0_11, a0_12, a0_13, a0_14, a0_15, a0_16] x4_1)) 10 t332 _ ?side1 A7.out).mono ?_); (case side1 => exact LW.below HLW.out (by repeat (first | (with_reducible first | exact HB.out | apply below_alloc | apply pw_below_drewN | apply below_drew1 | refine below_set ?_ GE330.out) | exact HB.out))); rintro e w' ⟨rfl, ⟨nd, rfl⟩⟩; refine ⟨_, rfl, ?_⟩))
        go_roundg k1
        case measure => have := HK1.out; omega
        case rel => exact ⟨((x3_1 ++ (⟨#[46]⟩ : ByteArray)) ++ t332), (wrap64 (x4_1 + 1)), (by first | rfl | (simp; done) | (simp [*]; done) | (simp; exact isEmpty_bne _) | (simp; exact isEmpty_beq _)), (by first | rfl | (simp; done) | (simp [*]; done) | (simp; exact isEmpty_bne _) | (simp; exact isEmpty_beq _)), H', ⟨by have := HK1.out; omega⟩, ⟨by (with_reducible repeat (first | refine blk_drewN ?_ _ | refine blk_drew ?_ | refine blk_alloc ?_ _)); exact BK330.out⟩, ⟨by repeat (first | (with_reducible first | exact HB.out | apply below_alloc | apply pw_below_drewN | apply below_drew1 | refine below_set ?_ GE330.out) | exact HB.out)⟩⟩
       ·rw [if_neg c8] at H
        exact absurd H (by simp)
      ·rw [if_neg c6] at H
       exact absurd H (by simp)
     ·rw [if_neg c5] at H
      exact absurd H (by simp)
    ·rw [if_neg c4] at H
     have c4b0 : decide (12 < x4_1) = false := decide_eq_false c4
     clear c4
     by_cases c11 : 0 ≤ x4_1
     ·rw [if_pos c11] at H
      have c11b0 : decide (0 ≤ x4_1) = true := decide_eq_true c11
      clear c11
      replace H := Option.bind_eq_some_iff.mp H
      obtain ⟨t334, A120, H⟩ := H
      replace H : (if x3_1.size + t334.size ≤ 9223372036854775807 then (lanternref05_dots.l0 k1 (x3_1 ++ t334) (wrap64 (x4_1 + 1)) a0_0 a0_1 a0_2 a0_3 a0_4 a0_5 a0_6 a0_7 a0_8 a0_9 a0_10 a0_11 a0_12 a0_13 a0_14 a0_15 a0_16) else (none)) = some r := H
      have A12 := Aside0.mk A120
      clear A120
      by_cases c13 : x3_1.size + t334.size ≤ 9223372036854775807
      ·rw [if_pos c13] at H
       have c13b0 := eq_true c13
       have c13b1 : decide (x3_1.size + t334.size ≤ 9223372036854775807) = true := decide_eq_true c13
       try have c13b2 : (9223372036854775807 < x3_1.size + t334.size) = False := eq_false (Nat.not_lt.2 c13)
       have H' := Aside0.mk H
       clear H
       have par14 : (0 ≤ x4_1) = True := eq_true (of_decide_eq_true (by first | (with_reducible assumption) | assumption))
       have qar14 : (x4_1 < 16) = True := eq_true (of_decide_eq_true (by first | (with_reducible assumption) | assumption))
       have hcz15_0 : wr.cell? ⟨gb330, 0, none⟩ = some (.bool a0_0) := (blk_cell BK330.out 0).trans rfl
       have hcz15_1 : wr.cell? ⟨gb330, 1, none⟩ = some (.int .u8 a0_1) := (blk_cell BK330.out 1).trans rfl
       have hcz15_2 : wr.cell? ⟨gb330, 2, none⟩ = some (.int .u8 a0_2) := (blk_cell BK330.out 2).trans rfl
       have hcz15_3 : wr.cell? ⟨gb330, 3, none⟩ = some (.int .u8 a0_3) := (blk_cell BK330.out 3).trans rfl
       have hcz15_4 : wr.cell? ⟨gb330, 4, none⟩ = some (.int .u8 a0_4) := (blk_cell BK330.out 4).trans rfl
       have hcz15_5 : wr.cell? ⟨gb330, 5, none⟩ = some (.int .u8 a0_5) := (blk_cell BK330.out 5).trans rfl
       have hcz15_6 : wr.cell? ⟨gb330, 6, none⟩ = some (.int .u8 a0_6) := (blk_cell BK330.out 6).trans rfl
       have hcz15_7 : wr.cell? ⟨gb330, 7, none⟩ = some (.int .u8 a0_7) := (blk_cell BK330.out 7).trans rfl
       have hcz15_8 : wr.cell? ⟨gb330, 8, none⟩ = some (.int .u8 a0_8) := (blk_cell BK330.out 8).trans rfl
       have hcz15_9 : wr.cell? ⟨gb330, 9, none⟩ = some (.int .u8 a0_9) := (blk_cell BK330.out 9).trans rfl
       have hcz15_10 : wr.cell? ⟨gb330, 10, none⟩ = some (.int .u8 a0_10) := (blk_cell BK330.out 10).trans rfl
       have hcz15_11 : wr.cell? ⟨gb330, 11, none⟩ = some (.int .u8 a0_11) := (blk_cell BK330.out 11).trans rfl
       have hcz15_12 : wr.cell? ⟨gb330, 12, none⟩ = some (.int .u8 a0_12) := (blk_cell BK330.out 12).trans rfl
       have hcz15_13 : wr.cell? ⟨gb330, 13, none⟩ = some (.int .u8 a0_13) := (blk_cell BK330.out 13).trans rfl
       have hcz15_14 : wr.cell? ⟨gb330, 14, none⟩ = some (.int .u8 a0_14) := (blk_cell BK330.out 14).trans rfl
       have hcz15_15 : wr.cell? ⟨gb330, 15, none⟩ = some (.int .u8 a0_15) := (blk_cell BK330.out 15).trans rfl
       have hcz15_16 : wr.cell? ⟨gb330, 16, none⟩ = some (.int .u8 a0_16) := (blk_cell BK330.out 16).trans rfl
       have hfz15_0 := blk_frozen BK330.out 0
       have hfz15_1 := blk_frozen BK330.out 1
       have hfz15_2 := blk_frozen BK330.out 2
       have hfz15_3 := blk_frozen BK330.out 3
       have hfz15_4 := blk_frozen BK330.out 4
       have hfz15_5 := blk_frozen BK330.out 5
       have hfz15_6 := blk_frozen BK330.out 6
       have hfz15_7 := blk_frozen BK330.out 7
       have hfz15_8 := blk_frozen BK330.out 8
       have hfz15_9 := blk_frozen BK330.out 9
       have hfz15_10 := blk_frozen BK330.out 10
       have hfz15_11 := blk_frozen BK330.out 11
       have hfz15_12 := blk_frozen BK330.out 12
       have hfz15_13 := blk_frozen BK330.out 13
       have hfz15_14 := blk_frozen BK330.out 14
       have hfz15_15 := blk_frozen BK330.out 15
       have hfz15_16 := blk_frozen BK330.out 16
       have hxar14 : wr.cell? ⟨gb330, 1 + (x4_1).toNat, none⟩ = some (.int .u8 (rd [a0_1, a0_2, a0_3, a0_4, a0_5, a0_6, a0_7, a0_8, a0_9, a0_10, a0_11, a0_12, a0_13, a0_14, a0_15, a0_16] x4_1)) := (blk_idx BK330.out .u8 [.bool a0_0] [a0_1, a0_2, a0_3, a0_4, a0_5, a0_6, a0_7, a0_8, a0_9, a0_10, a0_11, a0_12, a0_13, a0_14, a0_15, a0_16] [] rfl x4_1 (of_decide_eq_true (by first | (with_reducible assumption) | assumption)) (of_decide_eq_true (by first | (with_reducible assumption) | assumption)) rfl)
       have hfar14 := blk_frozen BK330.out (1 + (x4_1).toNat)
       go_wp2_with (first | ((with_reducible refine gate_callee (f := 36) rfl ?_); refine goesL_ (some 19) rfl rfl Tryd.func36 (by kernel_rfl) rfl #[.int .i64 (wrap64 (rd [a0_1, a0_2, a0_3, a0_4, a0_5, a0_6, a0_7, a0_8, a0_9, a0_10, a0_11, a0_12, a0_13, a0_14, a0_15, a0_16] x4_1)), .int .i64 10] rfl (by (try simp only [List.map_toArray, List.map_cons, List.map_nil]); first | done | rfl | (simp only [List.length_drop, List.length_take]; rfl)) ?_; (with_reducible refine (lanternref05_digits.calls k1 (wrap64 (rd [a0_1, a0_2, a0_3, a0_4, a0_5, a0_6, a0_7, a0_8, a0_9, a0_10, a0_11, a0_12, a0_13, a0_14, a0_15, a0_16] x4_1)) 10 t334 _ ?side1 A12.out).mono ?_); (case side1 => exact LW.below HLW.out (by repeat (first | (with_reducible first | exact HB.out | apply below_alloc | apply pw_below_drewN | apply below_drew1 | refine below_set ?_ GE330.out) | exact HB.out))); rintro e w' ⟨rfl, ⟨nd, rfl⟩⟩; refine ⟨_, rfl, ?_⟩))
       go_roundg k1
       case measure => have := HK1.out; omega
       case rel => exact ⟨(x3_1 ++ t334), (wrap64 (x4_1 + 1)), (by first | rfl | (simp; done) | (simp [*]; done) | (simp; exact isEmpty_bne _) | (simp; exact isEmpty_beq _)), (by first | rfl | (simp; done) | (simp [*]; done) | (simp; exact isEmpty_bne _) | (simp; exact isEmpty_beq _)), H', ⟨by have := HK1.out; omega⟩, ⟨by (with_reducible repeat (first | refine blk_drewN ?_ _ | refine blk_drew ?_ | refine blk_alloc ?_ _)); exact BK330.out⟩, ⟨by repeat (first | (with_reducible first | exact HB.out | apply below_alloc | apply pw_below_drewN | apply below_drew1 | refine below_set ?_ GE330.out) | exact HB.out)⟩⟩
      ·rw [if_neg c13] at H
       exact absurd H (by simp)
     ·rw [if_neg c11] at H
      exact absurd H (by simp)
   ·rw [if_neg c3] at H
    have c3b0 : decide (x4_1 < 16) = false := decide_eq_false c3
    clear c3
    obtain rfl := Option.some.inj H
    go_wp2
    go_ret
    exact ⟨by first | rfl | (simp [errW_none, errW_some] <;> rfl) | (simp [*, errW_none, errW_some] <;> rfl) | (simp [errW_none, errW_some]; first | exact isEmpty_bne _ | exact isEmpty_beq _ | exact (isEmpty_bne _).symm), by repeat (first | (with_reducible first | exact HB.out | apply below_alloc | apply pw_below_drewN | apply below_drew1 | refine below_set ?_ GE330.out) | exact HB.out)⟩

end Go.Proofs.YtfiefecjcmcejaaDoor.P
