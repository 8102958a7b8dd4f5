-- Written by a program of this session (wip/gen/lprint.py over the kit's print.py) out of the translation. Lean checks it.
import Derived.Test.YtfiefecjcmcejaaDoorP0
import Derived.Test.YtfiefecjcmcejaaDoorP1
import Derived.Test.YtfiefecjcmcejaaDoorP3
import Derived.Test.YtfiefecjcmcejaaDoorP7
import Derived.Test.YtfiefecjcmcejaaDoorP8
import Derived.Test.YtfiefecjcmcejaaDoorP14
namespace Go.Proofs.YtfiefecjcmcejaaDoor.P
open Go.Proofs.YtfiefecjcmcejaaDoor.E Go.Proofs.YtfiefecjcmcejaaDoorV
open Go.RowKit Go.Proofs.YtfiefecjcmcejaaDoorW.PrintWords Go.Proofs.YtfiefecjcmcejaaDoorW.PrintLast Go.Proofs.YtfiefecjcmcejaaDoorW.PrintMore
attribute [local go_sem] max2_int min2_int max_two min_two max_three min_three max_four min_four   -- for this text's walks alone
set_option linter.unusedVariables false
set_option linter.unusedSimpArgs false

attribute [local go_sem high] eqA25
def lanternlaw05_IpForms.l0 : Nat → Int → Int → ByteArray → Int → Int → Int → Int → Int → Int → Option (Bool)
 | 0, _, _, _, _, _, _, _, _, _ => none
 | k + 1, x0, x7, x8, x9, x10, x487000, x487001, x487002, x487003 => if x10 < x7 then (if x10 < (wrap64 (x7 - 1)) then (if 0 ≤ (IntKind.u64.wrap (wrap64 (24 - (wrap64 (8 * x10))))) then (if (shl .u64 1 (IntKind.u64.wrap (wrap64 (24 - (wrap64 (8 * x10)))))) = 0 then (none) else (if x10 > 0 then (if x8.size + 1 ≤ 9223372036854775807 then (if 0 ≤ x10 then (if x10 < 4 then ((lanternlaw05_form.f k (Int.tmod (shr .u64 (IntKind.u64.wrap (x0)) (IntKind.u64.wrap (wrap64 (24 - (wrap64 (8 * x10)))))) 256) (rd [x487000, x487001, x487002, x487003] x10)).bind fun t525 => (if (x8 ++ (⟨#[46]⟩ : ByteArray)).size + t525.size ≤ 9223372036854775807 then (lanternlaw05_IpForms.l0 k x0 x7 ((x8 ++ (⟨#[46]⟩ : ByteArray)) ++ t525) (Int.tmod x9 (shl .u64 1 (IntKind.u64.wrap (wrap64 (24 - (wrap64 (8 * x10))))))) (wrap64 (x10 + 1)) x487000 x487001 x487002 x487003) else (none))) else (none)) else (none)) else (none)) else (if 0 ≤ x10 then (if x10 < 4 then ((lanternlaw05_form.f k (Int.tmod (shr .u64 (IntKind.u64.wrap (x0)) (IntKind.u64.wrap (wrap64 (24 - (wrap64 (8 * x10)))))) 256) (rd [x487000, x487001, x487002, x487003] x10)).bind fun t527 => (if x8.size + t527.size ≤ 9223372036854775807 then (lanternlaw05_IpForms.l0 k x0 x7 (x8 ++ t527) (Int.tmod x9 (shl .u64 1 (IntKind.u64.wrap (wrap64 (24 - (wrap64 (8 * x10))))))) (wrap64 (x10 + 1)) x487000 x487001 x487002 x487003) else (none))) else (none)) else (none)))) else (none)) else (if x10 > 0 then (if x8.size + 1 ≤ 9223372036854775807 then (if 0 ≤ x10 then (if x10 < 4 then ((lanternlaw05_form.f k x9 (rd [x487000, x487001, x487002, x487003] x10)).bind fun t529 => (if (x8 ++ (⟨#[46]⟩ : ByteArray)).size + t529.size ≤ 9223372036854775807 then (lanternlaw05_IpForms.l0 k x0 x7 ((x8 ++ (⟨#[46]⟩ : ByteArray)) ++ t529) x9 (wrap64 (x10 + 1)) x487000 x487001 x487002 x487003) else (none))) else (none)) else (none)) else (none)) else (if 0 ≤ x10 then (if x10 < 4 then ((lanternlaw05_form.f k x9 (rd [x487000, x487001, x487002, x487003] x10)).bind fun t531 => (if x8.size + t531.size ≤ 9223372036854775807 then (lanternlaw05_IpForms.l0 k x0 x7 (x8 ++ t531) x9 (wrap64 (x10 + 1)) x487000 x487001 x487002 x487003) else (none))) else (none)) else (none)))) else ((ip_Loose.f k x8).bind fun bt487 => (if bt487.2.2.2.2.2.2.2.2.2.2.2.2.2.2.2.2.2 = 0 then ((lanternref05_V4.f k (IntKind.u64.wrap (x0))).bind fun bt506 => (if (bt487.1 == bt506.1 && ((bt487.2.1 == bt506.2.1 && (bt487.2.2.1 == bt506.2.2.1 && (bt487.2.2.2.1 == bt506.2.2.2.1 && (bt487.2.2.2.2.1 == bt506.2.2.2.2.1 && (bt487.2.2.2.2.2.1 == bt506.2.2.2.2.2.1 && (bt487.2.2.2.2.2.2.1 == bt506.2.2.2.2.2.2.1 && (bt487.2.2.2.2.2.2.2.1 == bt506.2.2.2.2.2.2.2.1 && (bt487.2.2.2.2.2.2.2.2.1 == bt506.2.2.2.2.2.2.2.2.1 && (bt487.2.2.2.2.2.2.2.2.2.1 == bt506.2.2.2.2.2.2.2.2.2.1 && (bt487.2.2.2.2.2.2.2.2.2.2.1 == bt506.2.2.2.2.2.2.2.2.2.2.1 && (bt487.2.2.2.2.2.2.2.2.2.2.2.1 == bt506.2.2.2.2.2.2.2.2.2.2.2.1 && (bt487.2.2.2.2.2.2.2.2.2.2.2.2.1 == bt506.2.2.2.2.2.2.2.2.2.2.2.2.1 && (bt487.2.2.2.2.2.2.2.2.2.2.2.2.2.1 == bt506.2.2.2.2.2.2.2.2.2.2.2.2.2.1 && (bt487.2.2.2.2.2.2.2.2.2.2.2.2.2.2.1 == bt506.2.2.2.2.2.2.2.2.2.2.2.2.2.2.1 && (bt487.2.2.2.2.2.2.2.2.2.2.2.2.2.2.2.1 == bt506.2.2.2.2.2.2.2.2.2.2.2.2.2.2.2.1 && (bt487.2.2.2.2.2.2.2.2.2.2.2.2.2.2.2.2.1 == bt506.2.2.2.2.2.2.2.2.2.2.2.2.2.2.2.2)))))))))))))))))) = true then ((lanternlaw05_awake.f k).bind fun t523 => (some t523)) else (none))) else (none)))
def lanternlaw05_IpForms.f (k : Nat) (a0 : Int) (a1_0 : Int) (a1_1 : Int) (a1_2 : Int) (a1_3 : Int) (a2 : Int) : Option (Bool) := lanternlaw05_IpForms.l0 k a0 (wrap64 (1 + (wrap64 (Int.tmod a2 4)))) (⟨#[]⟩ : ByteArray) (IntKind.u64.wrap (a0)) 0 a1_0 a1_1 a1_2 a1_3
theorem lanternlaw05_IpForms.mono_l : ∀ k, (∀ y0 y1 y2 y3 y4 y5 y6 y7 y8, LeO (lanternlaw05_IpForms.l0 k y0 y1 y2 y3 y4 y5 y6 y7 y8) (lanternlaw05_IpForms.l0 (k + 1) y0 y1 y2 y3 y4 y5 y6 y7 y8))
 | 0 => fun _ _ _ _ _ _ _ _ _ r h => by simp [lanternlaw05_IpForms.l0] at h
 | k + 1 => by
  have ih0 := lanternlaw05_IpForms.mono_l k
  ·intro y0 y1 y2 y3 y4 y5 y6 y7 y8
   unfold lanternlaw05_IpForms.l0
   repeat' first
   | (with_reducible exact ih0 _ _ _ _ _ _ _ _ _)
   | (with_reducible exact ip_Loose.mono _ _)
   | (with_reducible exact lanternlaw05_awake.mono _)
   | (with_reducible exact lanternlaw05_form.mono _ _ _)
   | (with_reducible exact lanternref05_V4.mono _ _)
   | (with_reducible exact LeO.refl _)
   | (with_reducible exact LeO.none _)
   | (with_reducible refine LeO.ite ?_ ?_)
   | (with_reducible refine LeO.bind ?_ (fun _ => ?_))
   | exact ih0 _ _ _ _ _ _ _ _ _
   | exact ip_Loose.mono _ _
   | exact lanternlaw05_awake.mono _
   | exact lanternlaw05_form.mono _ _ _
   | exact lanternref05_V4.mono _ _
   | exact LeO.none _
   | refine LeO.ite ?_ ?_
   | refine LeO.bind ?_ (fun _ => ?_)
theorem lanternlaw05_IpForms.mono : ∀ a0 a1 a2 a3 a4 a5 k, LeO (lanternlaw05_IpForms.f k a0 a1 a2 a3 a4 a5) (lanternlaw05_IpForms.f (k + 1) a0 a1 a2 a3 a4 a5) := by
 intro a0 a1 a2 a3 a4 a5 k
 have ih0 := lanternlaw05_IpForms.mono_l k
 unfold lanternlaw05_IpForms.f
 repeat' first
   | (with_reducible exact ih0 _ _ _ _ _ _ _ _ _)
   | (with_reducible exact ip_Loose.mono _ _)
   | (with_reducible exact lanternlaw05_awake.mono _)
   | (with_reducible exact lanternlaw05_form.mono _ _ _)
   | (with_reducible exact lanternref05_V4.mono _ _)
   | (with_reducible exact LeO.refl _)
   | (with_reducible exact LeO.none _)
   | (with_reducible refine LeO.ite ?_ ?_)
   | (with_reducible refine LeO.bind ?_ (fun _ => ?_))
   | exact ih0 _ _ _ _ _ _ _ _ _
   | exact ip_Loose.mono _ _
   | exact lanternlaw05_awake.mono _
   | exact lanternlaw05_form.mono _ _ _
   | exact lanternref05_V4.mono _ _
   | exact LeO.none _
   | refine LeO.ite ?_ ?_
   | refine LeO.bind ?_ (fun _ => ?_)
def lanternlaw05_IpForms.T15 : Bool × List (List Nat × List Nat) := (true, [([], []), ([0], [0]), ([1], [1]), ([2], [2]), ([2], [2]), ([4, 2], [2, 4]), ([5, 2, 2], [2, 5]), ([3, 6, 2], [2, 3, 6]), ([2, 7], [2, 7]), ([8, 6], [8]), ([9, 9], [9]), ([9, 10], [9, 10]), ([11, 10, 0, 1, 2, 3, 4, 5, 6, 7, 8, 9, 10, 11], [11])])
def lanternlaw05_IpForms.B15 : List Nat := [0, 1, 3, 7, 7, 23, 55, 127, 255, 511, 1023, 2047, 4095]
theorem lanternlaw05_IpForms.tab15 : rtab .any (opsOf Tryd.f5 15) = lanternlaw05_IpForms.T15 := by kernel_rfl
theorem lanternlaw05_IpForms.bits15 : waitsOk lanternlaw05_IpForms.T15.2 lanternlaw05_IpForms.B15 = true := by kernel_rfl
set_option maxHeartbeats 8000000 in
set_option maxRecDepth 100000 in
theorem lanternlaw05_IpForms.calls (k : Nat) (a0 : Int) (a1_0 : Int) (a1_1 : Int) (a1_2 : Int) (a1_3 : Int) (a2 : Int) (r : Bool) (w : World) (hLW : LW w) (h : lanternlaw05_IpForms.f k a0 a1_0 a1_1 a1_2 a1_3 a2 = some r) :
  Calls Tryd.prog 5 #[.int .u32 a0, .agg #[.int .u8 a1_0, .int .u8 a1_1, .int .u8 a1_2, .int .u8 a1_3], .int .u8 a2] w fun e w' => e = .returned (.bool r) ∧ Below w.heap.size w w' := by
 have hu38 := Tryd.underlying38
 have hu25 := Tryd.underlying25
 have HLW := Aside0.mk hLW
 clear hLW
 have HB := Aside0.mk (Below.refl w.heap.size w)
 have H : (lanternlaw05_IpForms.l0 k a0 (wrap64 (1 + (wrap64 (Int.tmod a2 4)))) (⟨#[]⟩ : ByteArray) (IntKind.u64.wrap (a0)) 0 a1_0 a1_1 a1_2 a1_3) = some r := h
 clear h
 have H' := Aside0.mk H
 clear H
 go_enter Tryd.func5, Tryd.ntmps5
 go_wp2_with (first | ((with_reducible refine gate_dst (N := 4) rfl ?_); refine box_event ?hg (N := 4) ?hd (cs := #[.int .u8 a1_0, .int .u8 a1_1, .int .u8 a1_2, .int .u8 a1_3]) (t := 38) ?hr ?_; (case hd => rfl); (case hg => rfl); (case hr => first | (go_simp; done) | (go_simp; rfl)); intro gb486 hg w4 hbox hb; have n0_ := Aside0.mk (below_step (by repeat (first | (with_reducible first | exact HB.out | apply below_alloc | apply pw_below_drewN | apply below_drew1) | exact HB.out)) hb); have n1_ := Aside0.mk (hbox); have n2_ := Aside0.mk ((by rw [hg]; exact (below_size (by repeat (first | (with_reducible first | exact HB.out | apply below_alloc | apply pw_below_drewN | apply below_drew1) | exact HB.out))) : w.heap.size ≤ gb486)); have n3_ := Aside0.mk ((by rw [hg]; exact (below_size (by repeat (first | (with_reducible first | exact HB.out | apply below_alloc | apply pw_below_drewN | apply below_drew1) | exact HB.out))) : w.heap.size ≤ gb486)); clear HB; have HB := n0_; have BK486 := n1_; have GW486 := n2_; have GE486 := n3_; clear n0_ n1_ n2_ n3_; clear hb hbox hg))
 go_loopg [8, 9, 10] k (fun kq v8 v9 v10 w' => ∃ (x8_1 : ByteArray) (x9_1 : Int) (x10_1 : Int), v8 = .string x8_1 ∧ v9 = .int .u64 x9_1 ∧ v10 = .int .i64 x10_1 ∧ Aside0 (lanternlaw05_IpForms.l0 kq a0 (wrap64 (1 + (wrap64 (Int.tmod a2 4)))) x8_1 x9_1 x10_1 a1_0 a1_1 a1_2 a1_3 = some r) ∧ Aside0 (kq ≤ k) ∧ Aside0 (w'.heap[gb486]? = some (.cells #[.int .u8 a1_0, .int .u8 a1_1, .int .u8 a1_2, .int .u8 a1_3] 38 (0, 0))) ∧ Aside0 (Below w.heap.size w w'))
 case atStart => exact ⟨((⟨#[]⟩ : ByteArray)), (IntKind.u64.wrap (a0)), (0), (by first | rfl | (simp; done) | (simp [*]; done) | (simp; exact isEmpty_bne _) | (simp; exact isEmpty_beq _)), (by first | rfl | (simp; done) | (simp [*]; done) | (simp; exact isEmpty_bne _) | (simp; exact isEmpty_beq _)), (by first | rfl | (simp; done) | (simp [*]; done) | (simp; exact isEmpty_bne _) | (simp; exact isEmpty_beq _)), H', ⟨Nat.le_refl _⟩, ⟨by (with_reducible repeat (first | refine blk_drewN ?_ _ | refine blk_drew ?_ | refine blk_alloc ?_ _)); exact BK486.out⟩, ⟨by repeat (first | (with_reducible first | exact HB.out | apply below_alloc | apply pw_below_drewN | apply below_drew1 | refine below_set ?_ GE486.out) | exact HB.out)⟩⟩
 case round =>
  clear H'
  try clear p2
  obtain ⟨x8_1, x9_1, x10_1, rfl, rfl, rfl, HA, HK1, BK486, HB⟩ := hrel
  cases gk with
  | zero => exact absurd HA.out (by simp [lanternlaw05_IpForms.l0])
  | succ k1 =>
   have H := HA.out
   clear HA
   simp only [lanternlaw05_IpForms.l0] at H
   by_cases c5 : x10_1 < (wrap64 (1 + (wrap64 (Int.tmod a2 4))))
   ·rw [if_pos c5] at H
    have c5b0 : decide (x10_1 < (wrap64 (1 + (wrap64 (Int.tmod a2 4))))) = true := decide_eq_true c5
    clear c5
    by_cases c6 : x10_1 < (wrap64 ((wrap64 (1 + (wrap64 (Int.tmod a2 4)))) - 1))
    ·rw [if_pos c6] at H
     have c6b0 : decide (x10_1 < (wrap64 ((wrap64 (1 + (wrap64 (Int.tmod a2 4)))) - 1))) = true := decide_eq_true c6
     clear c6
     obtain ⟨ji7, hji7⟩ : ∃ j_ : Int, (IntKind.u64.wrap (wrap64 (24 - (wrap64 (8 * x10_1))))) = j_ := ⟨_, rfl⟩
     replace H : (if 0 ≤ (ji7) then (if (shl .u64 1 (ji7)) = 0 then (none) else (if x10_1 > 0 then (if x8_1.size + 1 ≤ 9223372036854775807 then (if 0 ≤ x10_1 then (if x10_1 < 4 then ((lanternlaw05_form.f k1 (Int.tmod (shr .u64 (IntKind.u64.wrap (a0)) (ji7)) 256) (rd [a1_0, a1_1, a1_2, a1_3] x10_1)).bind fun t525 => (if (x8_1 ++ (⟨#[46]⟩ : ByteArray)).size + t525.size ≤ 9223372036854775807 then (lanternlaw05_IpForms.l0 k1 a0 (wrap64 (1 + (wrap64 (Int.tmod a2 4)))) ((x8_1 ++ (⟨#[46]⟩ : ByteArray)) ++ t525) (Int.tmod x9_1 (shl .u64 1 (ji7))) (wrap64 (x10_1 + 1)) a1_0 a1_1 a1_2 a1_3) else (none))) else (none)) else (none)) else (none)) else (if 0 ≤ x10_1 then (if x10_1 < 4 then ((lanternlaw05_form.f k1 (Int.tmod (shr .u64 (IntKind.u64.wrap (a0)) (ji7)) 256) (rd [a1_0, a1_1, a1_2, a1_3] x10_1)).bind fun t527 => (if x8_1.size + t527.size ≤ 9223372036854775807 then (lanternlaw05_IpForms.l0 k1 a0 (wrap64 (1 + (wrap64 (Int.tmod a2 4)))) (x8_1 ++ t527) (Int.tmod x9_1 (shl .u64 1 (ji7))) (wrap64 (x10_1 + 1)) a1_0 a1_1 a1_2 a1_3) else (none))) else (none)) else (none)))) else (none)) = some r := by first | (rw [hji7] at H; exact H) | (simp only [hji7] at H ⊢; exact H)
     by_cases c8 : 0 ≤ (ji7)
     ·rw [if_pos c8] at H
      have c8b0 := eq_true c8
      have c8b1 : decide (0 ≤ (ji7)) = true := decide_eq_true c8
      clear c8
      obtain ⟨ji9, hji9⟩ : ∃ j_ : Int, (shr .u64 (IntKind.u64.wrap (a0)) (ji7)) = j_ := ⟨_, rfl⟩
      replace H : (if (shl .u64 1 (ji7)) = 0 then (none) else (if x10_1 > 0 then (if x8_1.size + 1 ≤ 9223372036854775807 then (if 0 ≤ x10_1 then (if x10_1 < 4 then ((lanternlaw05_form.f k1 (Int.tmod (ji9) 256) (rd [a1_0, a1_1, a1_2, a1_3] x10_1)).bind fun t525 => (if (x8_1 ++ (⟨#[46]⟩ : ByteArray)).size + t525.size ≤ 9223372036854775807 then (lanternlaw05_IpForms.l0 k1 a0 (wrap64 (1 + (wrap64 (Int.tmod a2 4)))) ((x8_1 ++ (⟨#[46]⟩ : ByteArray)) ++ t525) (Int.tmod x9_1 (shl .u64 1 (ji7))) (wrap64 (x10_1 + 1)) a1_0 a1_1 a1_2 a1_3) else (none))) else (none)) else (none)) else (none)) else (if 0 ≤ x10_1 then (if x10_1 < 4 then ((lanternlaw05_form.f k1 (Int.tmod (ji9) 256) (rd [a1_0, a1_1, a1_2, a1_3] x10_1)).bind fun t527 => (if x8_1.size + t527.size ≤ 9223372036854775807 then (lanternlaw05_IpForms.l0 k1 a0 (wrap64 (1 + (wrap64 (Int.tmod a2 4)))) (x8_1 ++ t527) (Int.tmod x9_1 (shl .u64 1 (ji7))) (wrap64 (x10_1 + 1)) a1_0 a1_1 a1_2 a1_3) else (none))) else (none)) else (none)))) = some r := by first | (rw [hji9] at H; exact H) | (simp only [hji9] at H ⊢; exact H)
      have hji9_ : ((IntKind.u64.wrap (a0)) / 2 ^ min (ji7).toNat 64) = ji9 := hji9
      have hji9z : (ji7) ≤ 64 → ((IntKind.u64.wrap (a0)) / 2 ^ (ji7).toNat) = ji9 := shr_small hji9
      have c10b0 := eq_true (of_decide_eq_true (by first | (with_reducible assumption) | assumption) : 0 ≤ (ji7))
      obtain ⟨ji11, hji11⟩ : ∃ j_ : Int, (shl .u64 1 (ji7)) = j_ := ⟨_, rfl⟩
      replace H : (if (ji11) = 0 then (none) else (if x10_1 > 0 then (if x8_1.size + 1 ≤ 9223372036854775807 then (if 0 ≤ x10_1 then (if x10_1 < 4 then ((lanternlaw05_form.f k1 (Int.tmod (ji9) 256) (rd [a1_0, a1_1, a1_2, a1_3] x10_1)).bind fun t525 => (if (x8_1 ++ (⟨#[46]⟩ : ByteArray)).size + t525.size ≤ 9223372036854775807 then (lanternlaw05_IpForms.l0 k1 a0 (wrap64 (1 + (wrap64 (Int.tmod a2 4)))) ((x8_1 ++ (⟨#[46]⟩ : ByteArray)) ++ t525) (Int.tmod x9_1 (ji11)) (wrap64 (x10_1 + 1)) a1_0 a1_1 a1_2 a1_3) else (none))) else (none)) else (none)) else (none)) else (if 0 ≤ x10_1 then (if x10_1 < 4 then ((lanternlaw05_form.f k1 (Int.tmod (ji9) 256) (rd [a1_0, a1_1, a1_2, a1_3] x10_1)).bind fun t527 => (if x8_1.size + t527.size ≤ 9223372036854775807 then (lanternlaw05_IpForms.l0 k1 a0 (wrap64 (1 + (wrap64 (Int.tmod a2 4)))) (x8_1 ++ t527) (Int.tmod x9_1 (ji11)) (wrap64 (x10_1 + 1)) a1_0 a1_1 a1_2 a1_3) else (none))) else (none)) else (none)))) = some r := by first | (rw [hji11] at H; exact H) | (simp only [hji11] at H ⊢; exact H)
      have hji11_ : (IntKind.u64.wrap (1 * 2 ^ min (ji7).toNat 64)) = ji11 := hji11
      have hji11z : (ji7) ≤ 64 → (IntKind.u64.wrap (1 * 2 ^ (ji7).toNat)) = ji11 := shl_small hji11
      have hji11u : (IntKind.u64.wrap (2 ^ min (ji7).toNat 64)) = ji11 := by have h_ := hji11_; rw [Int.one_mul] at h_; exact h_
      have hji11v : (ji7) ≤ 64 → (IntKind.u64.wrap (2 ^ (ji7).toNat)) = ji11 := fun hle_ => by have h_ := hji11z hle_; rw [Int.one_mul] at h_; exact h_
      by_cases c12 : (ji11) = 0
      ·rw [if_pos c12] at H
       exact absurd H (by simp)
      ·rw [if_neg c12] at H
       have c12b0 : ((ji11) == 0) = false := beq_eq_false_iff_ne.mpr c12
       have c12b1 : ((ji11) != 0) = true := bne_iff_ne.mpr c12
       by_cases c13 : x10_1 > 0
       ·rw [if_pos c13] at H
        have c13b0 : decide (0 < x10_1) = true := decide_eq_true c13
        clear c13
        by_cases c14 : x8_1.size + 1 ≤ 9223372036854775807
        ·rw [if_pos c14] at H
         have c14b0 := eq_true c14
         have c14b1 : decide (x8_1.size + 1 ≤ 9223372036854775807) = true := decide_eq_true c14
         try have c14b2 : (9223372036854775807 < x8_1.size + 1) = False := eq_false (Nat.not_lt.2 c14)
         by_cases c15 : 0 ≤ x10_1
         ·rw [if_pos c15] at H
          have c15b0 : decide (0 ≤ x10_1) = true := decide_eq_true c15
          clear c15
          by_cases c16 : x10_1 < 4
          ·rw [if_pos c16] at H
           have c16b0 : decide (x10_1 < 4) = true := decide_eq_true c16
           clear c16
           replace H := Option.bind_eq_some_iff.mp H
           obtain ⟨t525, A170, H⟩ := H
           replace H : (if (x8_1 ++ (⟨#[46]⟩ : ByteArray)).size + t525.size ≤ 9223372036854775807 then (lanternlaw05_IpForms.l0 k1 a0 (wrap64 (1 + (wrap64 (Int.tmod a2 4)))) ((x8_1 ++ (⟨#[46]⟩ : ByteArray)) ++ t525) (Int.tmod x9_1 (ji11)) (wrap64 (x10_1 + 1)) a1_0 a1_1 a1_2 a1_3) else (none)) = some r := H
           have A17 := Aside0.mk A170
           clear A170
           by_cases c18 : (x8_1 ++ (⟨#[46]⟩ : ByteArray)).size + t525.size ≤ 9223372036854775807
           ·rw [if_pos c18] at H
            have c18b0 := eq_true c18
            have c18b1 : decide ((x8_1 ++ (⟨#[46]⟩ : ByteArray)).size + t525.size ≤ 9223372036854775807) = true := decide_eq_true c18
            try have c18b2 : (9223372036854775807 < (x8_1 ++ (⟨#[46]⟩ : ByteArray)).size + t525.size) = False := eq_false (Nat.not_lt.2 c18)
            try have c18b8 : (9223372036854775807 < x8_1.size + 1 + t525.size) = False := eq_false (by have hq := of_eq_true c18b0; simp only [ByteArray.size_append, ByteArray.size_extract] at hq; have hz0 : (⟨#[46]⟩ : ByteArray).size = 1 := rfl; omega)
            have H' := Aside0.mk H
            clear H
            have par19 : (0 ≤ x10_1) = True := eq_true (of_decide_eq_true (by first | (with_reducible assumption) | assumption))
            have qar19 : (x10_1 < 4) = True := eq_true (of_decide_eq_true (by first | (with_reducible assumption) | assumption))
            have hcz20_0 : wr.cell? ⟨gb486, 0, none⟩ = some (.int .u8 a1_0) := (blk_cell BK486.out 0).trans rfl
            have hcz20_1 : wr.cell? ⟨gb486, 1, none⟩ = some (.int .u8 a1_1) := (blk_cell BK486.out 1).trans rfl
            have hcz20_2 : wr.cell? ⟨gb486, 2, none⟩ = some (.int .u8 a1_2) := (blk_cell BK486.out 2).trans rfl
            have hcz20_3 : wr.cell? ⟨gb486, 3, none⟩ = some (.int .u8 a1_3) := (blk_cell BK486.out 3).trans rfl
            have hfz20_0 := blk_frozen BK486.out 0
            have hfz20_1 := blk_frozen BK486.out 1
            have hfz20_2 := blk_frozen BK486.out 2
            have hfz20_3 := blk_frozen BK486.out 3
            have hxar19 : wr.cell? ⟨gb486, (x10_1).toNat, none⟩ = some (.int .u8 (rd [a1_0, a1_1, a1_2, a1_3] x10_1)) := (blk_idx BK486.out .u8 [] [a1_0, a1_1, a1_2, a1_3] [] rfl x10_1 (of_decide_eq_true (by first | (with_reducible assumption) | assumption)) (of_decide_eq_true (by first | (with_reducible assumption) | assumption)) (Nat.zero_add _).symm)
            have hfar19 := blk_frozen BK486.out ((x10_1).toNat)
            go_wp2_with (first | ((with_reducible refine gate_callee (f := 15) rfl ?_); refine goesL_ (some 54) rfl rfl Tryd.func15 (by kernel_rfl) rfl #[.int .u64 (Int.tmod (ji9) 256), .int .u8 (rd [a1_0, a1_1, a1_2, a1_3] x10_1)] rfl (by (try simp only [List.map_toArray, List.map_cons, List.map_nil]); first | done | (simp only [hji9]; rfl) | rfl | (simp only [List.length_drop, List.length_take]; rfl)) ?_; (with_reducible refine (lanternlaw05_form.calls k1 (Int.tmod (ji9) 256) (rd [a1_0, a1_1, a1_2, a1_3] x10_1) t525 _ ?side1 A17.out).mono ?_); (case side1 => exact LW.below HLW.out (by repeat (first | (with_reducible first | exact HB.out | apply below_alloc | apply pw_below_drewN | apply below_drew1 | refine below_set ?_ GE486.out) | exact HB.out))); rintro e w' ⟨rfl, ⟨nd, rfl⟩⟩; refine ⟨_, rfl, ?_⟩))
            go_roundg k1
            case measure => have := HK1.out; omega
            case rel => exact ⟨((x8_1 ++ (⟨#[46]⟩ : ByteArray)) ++ t525), (Int.tmod x9_1 (ji11)), (wrap64 (x10_1 + 1)), (by first | rfl | (simp; done) | (simp [*]; done) | (simp; exact isEmpty_bne _) | (simp; exact isEmpty_beq _)), (by first | rfl | (simp; done) | (simp only [← hji11] <;> (first | rfl | simp)) | (simp [*]; done)), (by first | rfl | (simp; done) | (simp [*]; done) | (simp; exact isEmpty_bne _) | (simp; exact isEmpty_beq _)), H', ⟨by have := HK1.out; omega⟩, ⟨by (with_reducible repeat (first | refine blk_drewN ?_ _ | refine blk_drew ?_ | refine blk_alloc ?_ _)); exact BK486.out⟩, ⟨by repeat (first | (with_reducible first | exact HB.out | apply below_alloc | apply pw_below_drewN | apply below_drew1 | refine below_set ?_ GE486.out) | exact HB.out)⟩⟩
           ·rw [if_neg c18] at H
            exact absurd H (by simp)
          ·rw [if_neg c16] at H
           exact absurd H (by simp)
         ·rw [if_neg c15] at H
          exact absurd H (by simp)
        ·rw [if_neg c14] at H
         exact absurd H (by simp)
       ·rw [if_neg c13] at H
        have c13b0 : decide (0 < x10_1) = false := decide_eq_false c13
        clear c13
        by_cases c21 : 0 ≤ x10_1
        ·rw [if_pos c21] at H
         have c21b0 : decide (0 ≤ x10_1) = true := decide_eq_true c21
         clear c21
         by_cases c22 : x10_1 < 4
         ·rw [if_pos c22] at H
          have c22b0 : decide (x10_1 < 4) = true := decide_eq_true c22
          clear c22
          replace H := Option.bind_eq_some_iff.mp H
          obtain ⟨t527, A230, H⟩ := H
          replace H : (if x8_1.size + t527.size ≤ 9223372036854775807 then (lanternlaw05_IpForms.l0 k1 a0 (wrap64 (1 + (wrap64 (Int.tmod a2 4)))) (x8_1 ++ t527) (Int.tmod x9_1 (ji11)) (wrap64 (x10_1 + 1)) a1_0 a1_1 a1_2 a1_3) else (none)) = some r := H
          have A23 := Aside0.mk A230
          clear A230
          by_cases c24 : x8_1.size + t527.size ≤ 9223372036854775807
          ·rw [if_pos c24] at H
           have c24b0 := eq_true c24
           have c24b1 : decide (x8_1.size + t527.size ≤ 9223372036854775807) = true := decide_eq_true c24
           try have c24b2 : (9223372036854775807 < x8_1.size + t527.size) = False := eq_false (Nat.not_lt.2 c24)
           have H' := Aside0.mk H
           clear H
           have par25 : (0 ≤ x10_1) = True := eq_true (of_decide_eq_true (by first | (with_reducible assumption) | assumption))
           have qar25 : (x10_1 < 4) = True := eq_true (of_decide_eq_true (by first | (with_reducible assumption) | assumption))
           have hcz26_0 : wr.cell? ⟨gb486, 0, none⟩ = some (.int .u8 a1_0) := (blk_cell BK486.out 0).trans rfl
           have hcz26_1 : wr.cell? ⟨gb486, 1, none⟩ = some (.int .u8 a1_1) := (blk_cell BK486.out 1).trans rfl
           have hcz26_2 : wr.cell? ⟨gb486, 2, none⟩ = some (.int .u8 a1_2) := (blk_cell BK486.out 2).trans rfl
           have hcz26_3 : wr.cell? ⟨gb486, 3, none⟩ = some (.int .u8 a1_3) := (blk_cell BK486.out 3).trans rfl
           have hfz26_0 := blk_frozen BK486.out 0
           have hfz26_1 := blk_frozen BK486.out 1
           have hfz26_2 := blk_frozen BK486.out 2
           have hfz26_3 := blk_frozen BK486.out 3
           have hxar25 : wr.cell? ⟨gb486, (x10_1).toNat, none⟩ = some (.int .u8 (rd [a1_0, a1_1, a1_2, a1_3] x10_1)) := (blk_idx BK486.out .u8 [] [a1_0, a1_1, a1_2, a1_3] [] rfl x10_1 (of_decide_eq_true (by first | (with_reducible assumption) | assumption)) (of_decide_eq_true (by first | (with_reducible assumption) | assumption)) (Nat.zero_add _).symm)
           have hfar25 := blk_frozen BK486.out ((x10_1).toNat)
           go_wp2_with (first | ((with_reducible refine gate_callee (f := 15) rfl ?_); refine goesL_ (some 54) rfl rfl Tryd.func15 (by kernel_rfl) rfl #[.int .u64 (Int.tmod (ji9) 256), .int .u8 (rd [a1_0, a1_1, a1_2, a1_3] x10_1)] rfl (by (try simp only [List.map_toArray, List.map_cons, List.map_nil]); first | done | (simp only [hji9]; rfl) | rfl | (simp only [List.length_drop, List.length_take]; rfl)) ?_; (with_reducible refine (lanternlaw05_form.calls k1 (Int.tmod (ji9) 256) (rd [a1_0, a1_1, a1_2, a1_3] x10_1) t527 _ ?side1 A23.out).mono ?_); (case side1 => exact LW.below HLW.out (by repeat (first | (with_reducible first | exact HB.out | apply below_alloc | apply pw_below_drewN | apply below_drew1 | refine below_set ?_ GE486.out) | exact HB.out))); rintro e w' ⟨rfl, ⟨nd, rfl⟩⟩; refine ⟨_, rfl, ?_⟩))
           go_roundg k1
           case measure => have := HK1.out; omega
           case rel => exact ⟨(x8_1 ++ t527), (Int.tmod x9_1 (ji11)), (wrap64 (x10_1 + 1)), (by first | rfl | (simp; done) | (simp [*]; done) | (simp; exact isEmpty_bne _) | (simp; exact isEmpty_beq _)), (by first | rfl | (simp; done) | (simp only [← hji11] <;> (first | rfl | simp)) | (simp [*]; done)), (by first | rfl | (simp; done) | (simp [*]; done) | (simp; exact isEmpty_bne _) | (simp; exact isEmpty_beq _)), H', ⟨by have := HK1.out; omega⟩, ⟨by (with_reducible repeat (first | refine blk_drewN ?_ _ | refine blk_drew ?_ | refine blk_alloc ?_ _)); exact BK486.out⟩, ⟨by repeat (first | (with_reducible first | exact HB.out | apply below_alloc | apply pw_below_drewN | apply below_drew1 | refine below_set ?_ GE486.out) | exact HB.out)⟩⟩
          ·rw [if_neg c24] at H
           exact absurd H (by simp)
         ·rw [if_neg c22] at H
          exact absurd H (by simp)
        ·rw [if_neg c21] at H
         exact absurd H (by simp)
     ·rw [if_neg c8] at H
      exact absurd H (by simp)
    ·rw [if_neg c6] at H
     have c6b0 : decide (x10_1 < (wrap64 ((wrap64 (1 + (wrap64 (Int.tmod a2 4)))) - 1))) = false := decide_eq_false c6
     clear c6
     by_cases c27 : x10_1 > 0
     ·rw [if_pos c27] at H
      have c27b0 : decide (0 < x10_1) = true := decide_eq_true c27
      clear c27
      by_cases c28 : x8_1.size + 1 ≤ 9223372036854775807
      ·rw [if_pos c28] at H
       have c28b0 := eq_true c28
       have c28b1 : decide (x8_1.size + 1 ≤ 9223372036854775807) = true := decide_eq_true c28
       try have c28b2 : (9223372036854775807 < x8_1.size + 1) = False := eq_false (Nat.not_lt.2 c28)
       by_cases c29 : 0 ≤ x10_1
       ·rw [if_pos c29] at H
        have c29b0 : decide (0 ≤ x10_1) = true := decide_eq_true c29
        clear c29
        by_cases c30 : x10_1 < 4
        ·rw [if_pos c30] at H
         have c30b0 : decide (x10_1 < 4) = true := decide_eq_true c30
         clear c30
         replace H := Option.bind_eq_some_iff.mp H
         obtain ⟨t529, A310, H⟩ := H
         replace H : (if (x8_1 ++ (⟨#[46]⟩ : ByteArray)).size + t529.size ≤ 9223372036854775807 then (lanternlaw05_IpForms.l0 k1 a0 (wrap64 (1 + (wrap64 (Int.tmod a2 4)))) ((x8_1 ++ (⟨#[46]⟩ : ByteArray)) ++ t529) x9_1 (wrap64 (x10_1 + 1)) a1_0 a1_1 a1_2 a1_3) else (none)) = some r := H
         have A31 := Aside0.mk A310
         clear A310
         by_cases c32 : (x8_1 ++ (⟨#[46]⟩ : ByteArray)).size + t529.size ≤ 9223372036854775807
         ·rw [if_pos c32] at H
          have c32b0 := eq_true c32
          have c32b1 : decide ((x8_1 ++ (⟨#[46]⟩ : ByteArray)).size + t529.size ≤ 9223372036854775807) = true := decide_eq_true c32
          try have c32b2 : (9223372036854775807 < (x8_1 ++ (⟨#[46]⟩ : ByteArray)).size + t529.size) = False := eq_false (Nat.not_lt.2 c32)
          try have c32b8 : (9223372036854775807 < x8_1.size + 1 + t529.size) = False := eq_false (by have hq := of_eq_true c32b0; simp only [ByteArray.size_append, ByteArray.size_extract] at hq; have hz0 : (⟨#[46]⟩ : ByteArray).size = 1 := rfl; omega)
          have H' := Aside0.mk H
          clear H
          have par33 : (0 ≤ x10_1) = True := eq_true (of_decide_eq_true (by first | (with_reducible assumption) | assumption))
          have qar33 : (x10_1 < 4) = True := eq_true (of_decide_eq_true (by first | (with_reducible assumption) | assumption))
          have hcz34_0 : wr.cell? ⟨gb486, 0, none⟩ = some (.int .u8 a1_0) := (blk_cell BK486.out 0).trans rfl
          have hcz34_1 : wr.cell? ⟨gb486, 1, none⟩ = some (.int .u8 a1_1) := (blk_cell BK486.out 1).trans rfl
          have hcz34_2 : wr.cell? ⟨gb486, 2, none⟩ = some (.int .u8 a1_2) := (blk_cell BK486.out 2).trans rfl
          have hcz34_3 : wr.cell? ⟨gb486, 3, none⟩ = some (.int .u8 a1_3) := (blk_cell BK486.out 3).trans rfl
          have hfz34_0 := blk_frozen BK486.out 0
          have hfz34_1 := blk_frozen BK486.out 1
          have hfz34_2 := blk_frozen BK486.out 2
          have hfz34_3 := blk_frozen BK486.out 3
          have hxar33 : wr.cell? ⟨gb486, (x10_1).toNat, none⟩ = some (.int .u8 (rd [a1_0, a1_1, a1_2, a1_3] x10_1)) := (blk_idx BK486.out .u8 [] [a1_0, a1_1, a1_2, a1_3] [] rfl x10_1 (of_decide_eq_true (by first | (with_reducible assumption) | assumption)) (of_decide_eq_true (by first | (with_reducible assumption) | assumption)) (Nat.zero_add _).symm)
          have hfar33 := blk_frozen BK486.out ((x10_1).toNat)
          go_wp2_with (first | ((with_reducible refine gate_callee (f := 15) rfl ?_); refine goesL_ (some 54) rfl rfl Tryd.func15 (by kernel_rfl) rfl #[.int .u64 x9_1, .int .u8 (rd [a1_0, a1_1, a1_2, a1_3] x10_1)] rfl (by (try simp only [List.map_toArray, List.map_cons, List.map_nil]); first | done | rfl | (simp only [List.length_drop, List.length_take]; rfl)) ?_; (with_reducible refine (lanternlaw05_form.calls k1 x9_1 (rd [a1_0, a1_1, a1_2, a1_3] x10_1) t529 _ ?side1 A31.out).mono ?_); (case side1 => exact LW.below HLW.out (by repeat (first | (with_reducible first | exact HB.out | apply below_alloc | apply pw_below_drewN | apply below_drew1 | refine below_set ?_ GE486.out) | exact HB.out))); rintro e w' ⟨rfl, ⟨nd, rfl⟩⟩; refine ⟨_, rfl, ?_⟩))
          go_roundg k1
          case measure => have := HK1.out; omega
          case rel => exact ⟨((x8_1 ++ (⟨#[46]⟩ : ByteArray)) ++ t529), (x9_1), (wrap64 (x10_1 + 1)), (by first | rfl | (simp; done) | (simp [*]; done) | (simp; exact isEmpty_bne _) | (simp; exact isEmpty_beq _)), (by first | rfl | (simp; done) | (simp [*]; done) | (simp; exact isEmpty_bne _) | (simp; exact isEmpty_beq _)), (by first | rfl | (simp; done) | (simp [*]; done) | (simp; exact isEmpty_bne _) | (simp; exact isEmpty_beq _)), H', ⟨by have := HK1.out; omega⟩, ⟨by (with_reducible repeat (first | refine blk_drewN ?_ _ | refine blk_drew ?_ | refine blk_alloc ?_ _)); exact BK486.out⟩, ⟨by repeat (first | (with_reducible first | exact HB.out | apply below_alloc | apply pw_below_drewN | apply below_drew1 | refine below_set ?_ GE486.out) | exact HB.out)⟩⟩
         ·rw [if_neg c32] at H
          exact absurd H (by simp)
        ·rw [if_neg c30] at H
         exact absurd H (by simp)
       ·rw [if_neg c29] at H
        exact absurd H (by simp)
      ·rw [if_neg c28] at H
       exact absurd H (by simp)
     ·rw [if_neg c27] at H
      have c27b0 : decide (0 < x10_1) = false := decide_eq_false c27
      clear c27
      by_cases c35 : 0 ≤ x10_1
      ·rw [if_pos c35] at H
       have c35b0 : decide (0 ≤ x10_1) = true := decide_eq_true c35
       clear c35
       by_cases c36 : x10_1 < 4
       ·rw [if_pos c36] at H
        have c36b0 : decide (x10_1 < 4) = true := decide_eq_true c36
        clear c36
        replace H := Option.bind_eq_some_iff.mp H
        obtain ⟨t531, A370, H⟩ := H
        replace H : (if x8_1.size + t531.size ≤ 9223372036854775807 then (lanternlaw05_IpForms.l0 k1 a0 (wrap64 (1 + (wrap64 (Int.tmod a2 4)))) (x8_1 ++ t531) x9_1 (wrap64 (x10_1 + 1)) a1_0 a1_1 a1_2 a1_3) else (none)) = some r := H
        have A37 := Aside0.mk A370
        clear A370
        by_cases c38 : x8_1.size + t531.size ≤ 9223372036854775807
        ·rw [if_pos c38] at H
         have c38b0 := eq_true c38
         have c38b1 : decide (x8_1.size + t531.size ≤ 9223372036854775807) = true := decide_eq_true c38
         try have c38b2 : (9223372036854775807 < x8_1.size + t531.size) = False := eq_false (Nat.not_lt.2 c38)
         have H' := Aside0.mk H
         clear H
         have par39 : (0 ≤ x10_1) = True := eq_true (of_decide_eq_true (by first | (with_reducible assumption) | assumption))
         have qar39 : (x10_1 < 4) = True := eq_true (of_decide_eq_true (by first | (with_reducible assumption) | assumption))
         have hcz40_0 : wr.cell? ⟨gb486, 0, none⟩ = some (.int .u8 a1_0) := (blk_cell BK486.out 0).trans rfl
         have hcz40_1 : wr.cell? ⟨gb486, 1, none⟩ = some (.int .u8 a1_1) := (blk_cell BK486.out 1).trans rfl
         have hcz40_2 : wr.cell? ⟨gb486, 2, none⟩ = some (.int .u8 a1_2) := (blk_cell BK486.out 2).trans rfl
         have hcz40_3 : wr.cell? ⟨gb486, 3, none⟩ = some (.int .u8 a1_3) := (blk_cell BK486.out 3).trans rfl
         have hfz40_0 := blk_frozen BK486.out 0
         have hfz40_1 := blk_frozen BK486.out 1
         have hfz40_2 := blk_frozen BK486.out 2
         have hfz40_3 := blk_frozen BK486.out 3
         have hxar39 : wr.cell? ⟨gb486, (x10_1).toNat, none⟩ = some (.int .u8 (rd [a1_0, a1_1, a1_2, a1_3] x10_1)) := (blk_idx BK486.out .u8 [] [a1_0, a1_1, a1_2, a1_3] [] rfl x10_1 (of_decide_eq_true (by first | (with_reducible assumption) | assumption)) (of_decide_eq_true (by first | (with_reducible assumption) | assumption)) (Nat.zero_add _).symm)
         have hfar39 := blk_frozen BK486.out ((x10_1).toNat)
         go_wp2_with (first | ((with_reducible refine gate_callee (f := 15) rfl ?_); refine goesL_ (some 54) rfl rfl Tryd.func15 (by kernel_rfl) rfl #[.int .u64 x9_1, .int .u8 (rd [a1_0, a1_1, a1_2, a1_3] x10_1)] rfl (by (try simp only [List.map_toArray, List.map_cons, List.map_nil]); first | done | rfl | (simp only [List.length_drop, List.length_take]; rfl)) ?_; (with_reducible refine (lanternlaw05_form.calls k1 x9_1 (rd [a1_0, a1_1, a1_2, a1_3] x10_1) t531 _ ?side1 A37.out).mono ?_); (case side1 => exact LW.below HLW.out (by repeat (first | (with_reducible first | exact HB.out | apply below_alloc | apply pw_below_drewN | apply below_drew1 | refine below_set ?_ GE486.out) | exact HB.out))); rintro e w' ⟨rfl, ⟨nd, rfl⟩⟩; refine ⟨_, rfl, ?_⟩))
         go_roundg k1
         case measure => have := HK1.out; omega
         case rel => exact ⟨(x8_1 ++ t531), (x9_1), (wrap64 (x10_1 + 1)), (by first | rfl | (simp; done) | (simp [*]; done) | (simp; exact isEmpty_bne _) | (simp; exact isEmpty_beq _)), (by first | rfl | (simp; done) | (simp [*]; done) | (simp; exact isEmpty_bne _) | (simp; exact isEmpty_beq _)), (by first | rfl | (simp; done) | (simp [*]; done) | (simp; exact isEmpty_bne _) | (simp; exact isEmpty_beq _)), H', ⟨by have := HK1.out; omega⟩, ⟨by (with_reducible repeat (first | refine blk_drewN ?_ _ | refine blk_drew ?_ | refine blk_alloc ?_ _)); exact BK486.out⟩, ⟨by repeat (first | (with_reducible first | exact HB.out | apply below_alloc | apply pw_below_drewN | apply below_drew1 | refine below_set ?_ GE486.out) | exact HB.out)⟩⟩
        ·rw [if_neg c38] at H
         exact absurd H (by simp)
       ·rw [if_neg c36] at H
        exact absurd H (by simp)
      ·rw [if_neg c35] at H
       exact absurd H (by simp)
   ·rw [if_neg c5] at H
    have c5b0 : decide (x10_1 < (wrap64 (1 + (wrap64 (Int.tmod a2 4))))) = false := decide_eq_false c5
    clear c5
    replace H := Option.bind_eq_some_iff.mp H
    obtain ⟨⟨t487, t488, t489, t490, t491, t492, t493, t494, t495, t496, t497, t498, t499, t500, t501, t502, t503, t504⟩, A410, H⟩ := H
    replace H : (if t504 = 0 then ((lanternref05_V4.f k1 (IntKind.u64.wrap (a0))).bind fun bt506 => (if (t487 == bt506.1 && ((t488 == bt506.2.1 && (t489 == bt506.2.2.1 && (t490 == bt506.2.2.2.1 && (t491 == bt506.2.2.2.2.1 && (t492 == bt506.2.2.2.2.2.1 && (t493 == bt506.2.2.2.2.2.2.1 && (t494 == bt506.2.2.2.2.2.2.2.1 && (t495 == bt506.2.2.2.2.2.2.2.2.1 && (t496 == bt506.2.2.2.2.2.2.2.2.2.1 && (t497 == bt506.2.2.2.2.2.2.2.2.2.2.1 && (t498 == bt506.2.2.2.2.2.2.2.2.2.2.2.1 && (t499 == bt506.2.2.2.2.2.2.2.2.2.2.2.2.1 && (t500 == bt506.2.2.2.2.2.2.2.2.2.2.2.2.2.1 && (t501 == bt506.2.2.2.2.2.2.2.2.2.2.2.2.2.2.1 && (t502 == bt506.2.2.2.2.2.2.2.2.2.2.2.2.2.2.2.1 && (t503 == bt506.2.2.2.2.2.2.2.2.2.2.2.2.2.2.2.2)))))))))))))))))) = true then ((lanternlaw05_awake.f k1).bind fun t523 => (some t523)) else (none))) else (none)) = some r := H
    have A41 := Aside0.mk A410
    clear A410
    by_cases c42 : t504 = 0
    ·rw [if_pos c42] at H
     have c42b0 : (t504 == 0) = true := beq_iff_eq.mpr c42
     have c42b1 : (t504 != 0) = false := bne_eq_false_iff_eq.mpr c42
     clear c42
     replace H := Option.bind_eq_some_iff.mp H
     obtain ⟨⟨t506, t507, t508, t509, t510, t511, t512, t513, t514, t515, t516, t517, t518, t519, t520, t521, t522⟩, A430, H⟩ := H
     replace H : (if (t487 == t506 && ((t488 == t507 && (t489 == t508 && (t490 == t509 && (t491 == t510 && (t492 == t511 && (t493 == t512 && (t494 == t513 && (t495 == t514 && (t496 == t515 && (t497 == t516 && (t498 == t517 && (t499 == t518 && (t500 == t519 && (t501 == t520 && (t502 == t521 && (t503 == t522)))))))))))))))))) = true then ((lanternlaw05_awake.f k1).bind fun t523 => (some t523)) else (none)) = some r := H
     have A43 := Aside0.mk A430
     clear A430
     by_cases c44 : (t487 == t506 && ((t488 == t507 && (t489 == t508 && (t490 == t509 && (t491 == t510 && (t492 == t511 && (t493 == t512 && (t494 == t513 && (t495 == t514 && (t496 == t515 && (t497 == t516 && (t498 == t517 && (t499 == t518 && (t500 == t519 && (t501 == t520 && (t502 == t521 && (t503 == t522)))))))))))))))))) = true
     ·rw [if_pos c44] at H
      have c44b0 : (t487 == t506 && ((t488 == t507 && (t489 == t508 && (t490 == t509 && (t491 == t510 && (t492 == t511 && (t493 == t512 && (t494 == t513 && (t495 == t514 && (t496 == t515 && (t497 == t516 && (t498 == t517 && (t499 == t518 && (t500 == t519 && (t501 == t520 && (t502 == t521 && (t503 == t522)))))))))))))))))) = true := c44
      clear c44
      replace H := Option.bind_eq_some_iff.mp H
      obtain ⟨t523, A450, H⟩ := H
      replace H : (some t523) = some r := H
      have A45 := Aside0.mk A450
      clear A450
      obtain rfl := Option.some.inj H
      try go_wp2_with (first | ((with_reducible refine gate_callee (f := 8) rfl ?_); refine goesL_ (some 58) rfl rfl Tryd.func8 (by kernel_rfl) rfl #[.string x8_1] rfl (by (try simp only [List.map_toArray, List.map_cons, List.map_nil]); first | done | rfl | (simp only [List.length_drop, List.length_take]; rfl)) ?_; (with_reducible refine (ip_Loose.calls k1 x8_1 t487 t488 t489 t490 t491 t492 t493 t494 t495 t496 t497 t498 t499 t500 t501 t502 t503 t504 _ ?side1 A41.out).mono ?_); (case side1 => exact LW.below HLW.out (by repeat (first | (with_reducible first | exact HB.out | apply below_alloc | apply pw_below_drewN | apply below_drew1 | refine below_set ?_ GE486.out) | exact HB.out))); rintro e w46 ⟨rfl, hb⟩; refine ⟨_, rfl, ?_⟩; have n0_ := Aside0.mk (blk_below BK486.out hb); have n1_ := Aside0.mk (below_step (by repeat (first | (with_reducible first | exact HB.out | apply below_alloc | apply pw_below_drewN | apply below_drew1 | refine below_set ?_ GE486.out) | exact HB.out)) hb); clear BK486; clear HB; have BK486 := n0_; have HB := n1_; clear n0_ n1_; (try clear hb); (try clear hb2); (try clear hk); (try clear hi)) | ((with_reducible refine gate_dst (N := 12) rfl ?_); refine box_event ?hg (N := 12) ?hd (cs := #[.bool false, .int .u8 0, .int .u8 0, .int .u8 0, .int .u8 0, .int .u8 0, .int .u8 0, .int .u8 0, .int .u8 0, .int .u8 0, .int .u8 0, .int .u8 0, .int .u8 0, .int .u8 0, .int .u8 0, .int .u8 0, .int .u8 0]) (t := 25) ?hr ?_; (case hd => rfl); (case hg => rfl); (case hr => first | (go_simp; done) | (go_simp; rfl)); intro gb505 hg w47 hbox hb; have n0_ := Aside0.mk (blk_below BK486.out hb); have n1_ := Aside0.mk (below_step (by repeat (first | (with_reducible first | exact HB.out | apply below_alloc | apply pw_below_drewN | apply below_drew1 | refine below_set ?_ GE486.out) | exact HB.out)) hb); have n2_ := Aside0.mk (hbox); have n3_ := Aside0.mk ((by rw [hg]; exact (below_size (by repeat (first | (with_reducible first | exact HB.out | apply below_alloc | apply pw_below_drewN | apply below_drew1 | refine below_set ?_ GE486.out) | exact HB.out))) : w.heap.size ≤ gb505)); have n4_ := Aside0.mk ((by rw [hg]; exact (below_size (by repeat (first | (with_reducible first | exact HB.out | apply below_alloc | apply pw_below_drewN | apply below_drew1 | refine below_set ?_ GE486.out) | exact HB.out))) : w.heap.size ≤ gb505)); have n5_ := Aside0.mk ((by rw [hg]; exact Nat.ne_of_lt (blk_lt (g := gb486) (o := .cells #[.int .u8 a1_0, .int .u8 a1_1, .int .u8 a1_2, .int .u8 a1_3] 38 (0, 0)) (by (with_reducible repeat (first | refine blk_drewN ?_ _ | refine blk_drew ?_ | refine blk_alloc ?_ _)); exact BK486.out)) : gb486 ≠ gb505)); have n6_ := Aside0.mk ((by rw [hg]; exact Nat.ne_of_gt (blk_lt (g := gb486) (o := .cells #[.int .u8 a1_0, .int .u8 a1_1, .int .u8 a1_2, .int .u8 a1_3] 38 (0, 0)) (by (with_reducible repeat (first | refine blk_drewN ?_ _ | refine blk_drew ?_ | refine blk_alloc ?_ _)); exact BK486.out)) : gb505 ≠ gb486)); clear BK486; clear HB; have BK486 := n0_; have HB := n1_; have BK505 := n2_; have GW505 := n3_; have GE505 := n4_; have NB486_505 := n5_; have NB505_486 := n6_; clear n0_ n1_ n2_ n3_ n4_ n5_ n6_; clear hb hbox hg; have hnb48 := NB505_486.out; have hnc48 := NB486_505.out; have hcz49_0 : w47.cell? ⟨gb505, 0, none⟩ = some (.bool false) := (blk_cell BK505.out 0).trans rfl; have hcz49_1 : w47.cell? ⟨gb505, 1, none⟩ = some (.int .u8 0) := (blk_cell BK505.out 1).trans rfl; have hcz49_2 : w47.cell? ⟨gb505, 2, none⟩ = some (.int .u8 0) := (blk_cell BK505.out 2).trans rfl; have hcz49_3 : w47.cell? ⟨gb505, 3, none⟩ = some (.int .u8 0) := (blk_cell BK505.out 3).trans rfl; have hcz49_4 : w47.cell? ⟨gb505, 4, none⟩ = some (.int .u8 0) := (blk_cell BK505.out 4).trans rfl; have hcz49_5 : w47.cell? ⟨gb505, 5, none⟩ = some (.int .u8 0) := (blk_cell BK505.out 5).trans rfl; have hcz49_6 : w47.cell? ⟨gb505, 6, none⟩ = some (.int .u8 0) := (blk_cell BK505.out 6).trans rfl; have hcz49_7 : w47.cell? ⟨gb505, 7, none⟩ = some (.int .u8 0) := (blk_cell BK505.out 7).trans rfl; have hcz49_8 : w47.cell? ⟨gb505, 8, none⟩ = some (.int .u8 0) := (blk_cell BK505.out 8).trans rfl; have hcz49_9 : w47.cell? ⟨gb505, 9, none⟩ = some (.int .u8 0) := (blk_cell BK505.out 9).trans rfl; have hcz49_10 : w47.cell? ⟨gb505, 10, none⟩ = some (.int .u8 0) := (blk_cell BK505.out 10).trans rfl; have hcz49_11 : w47.cell? ⟨gb505, 11, none⟩ = some (.int .u8 0) := (blk_cell BK505.out 11).trans rfl; have hcz49_12 : w47.cell? ⟨gb505, 12, none⟩ = some (.int .u8 0) := (blk_cell BK505.out 12).trans rfl; have hcz49_13 : w47.cell? ⟨gb505, 13, none⟩ = some (.int .u8 0) := (blk_cell BK505.out 13).trans rfl; have hcz49_14 : w47.cell? ⟨gb505, 14, none⟩ = some (.int .u8 0) := (blk_cell BK505.out 14).trans rfl; have hcz49_15 : w47.cell? ⟨gb505, 15, none⟩ = some (.int .u8 0) := (blk_cell BK505.out 15).trans rfl; have hcz49_16 : w47.cell? ⟨gb505, 16, none⟩ = some (.int .u8 0) := (blk_cell BK505.out 16).trans rfl; have hfz49_0 := blk_frozen BK505.out 0; have hfz49_1 := blk_frozen BK505.out 1; have hfz49_2 := blk_frozen BK505.out 2; have hfz49_3 := blk_frozen BK505.out 3; have hfz49_4 := blk_frozen BK505.out 4; have hfz49_5 := blk_frozen BK505.out 5; have hfz49_6 := blk_frozen BK505.out 6; have hfz49_7 := blk_frozen BK505.out 7; have hfz49_8 := blk_frozen BK505.out 8; have hfz49_9 := blk_frozen BK505.out 9; have hfz49_10 := blk_frozen BK505.out 10; have hfz49_11 := blk_frozen BK505.out 11; have hfz49_12 := blk_frozen BK505.out 12; have hfz49_13 := blk_frozen BK505.out 13; have hfz49_14 := blk_frozen BK505.out 14; have hfz49_15 := blk_frozen BK505.out 15; have hfz49_16 := blk_frozen BK505.out 16) | ((with_reducible refine gate_store (t := 25) (p := 12) rfl ?_); refine store_all ?hg 25 12 _ rfl rfl gb505 [.bool false, .int .u8 0, .int .u8 0, .int .u8 0, .int .u8 0, .int .u8 0, .int .u8 0, .int .u8 0, .int .u8 0, .int .u8 0, .int .u8 0, .int .u8 0, .int .u8 0, .int .u8 0, .int .u8 0, .int .u8 0, .int .u8 0] [.bool t487, .int .u8 t488, .int .u8 t489, .int .u8 t490, .int .u8 t491, .int .u8 t492, .int .u8 t493, .int .u8 t494, .int .u8 t495, .int .u8 t496, .int .u8 t497, .int .u8 t498, .int .u8 t499, .int .u8 t500, .int .u8 t501, .int .u8 t502, .int .u8 t503] BK505.out rfl rfl rfl (by kernel_rfl) rfl ?_; (case hg => rfl); intro w50 hw; have n0_ : Aside0 (w50.heap[gb486]? = some (.cells #[.int .u8 a1_0, .int .u8 a1_1, .int .u8 a1_2, .int .u8 a1_3] 38 (0, 0))) := ⟨(by rw [hw]; exact (by (with_reducible repeat (first | refine blk_drewN ?_ _ | refine blk_drew ?_ | refine blk_alloc ?_ _)); refine blk_farC NB486_505.out _ _ ?_; (with_reducible repeat (first | refine blk_drewN ?_ _ | refine blk_drew ?_ | refine blk_alloc ?_ _)); exact BK486.out))⟩; have n1_ : Aside0 (w50.heap[gb505]? = some (.cells #[.bool t487, .int .u8 t488, .int .u8 t489, .int .u8 t490, .int .u8 t491, .int .u8 t492, .int .u8 t493, .int .u8 t494, .int .u8 t495, .int .u8 t496, .int .u8 t497, .int .u8 t498, .int .u8 t499, .int .u8 t500, .int .u8 t501, .int .u8 t502, .int .u8 t503] 25 (0, 0))) := ⟨(by rw [hw]; exact (by (with_reducible repeat (first | refine blk_drewN ?_ _ | refine blk_drew ?_ | refine blk_alloc ?_ _)); refine blk_part [.bool t487, .int .u8 t488, .int .u8 t489, .int .u8 t490, .int .u8 t491, .int .u8 t492, .int .u8 t493, .int .u8 t494, .int .u8 t495, .int .u8 t496, .int .u8 t497, .int .u8 t498, .int .u8 t499, .int .u8 t500, .int .u8 t501, .int .u8 t502, .int .u8 t503] [.bool false, .int .u8 0, .int .u8 0, .int .u8 0, .int .u8 0, .int .u8 0, .int .u8 0, .int .u8 0, .int .u8 0, .int .u8 0, .int .u8 0, .int .u8 0, .int .u8 0, .int .u8 0, .int .u8 0, .int .u8 0, .int .u8 0] [] [] (cs := #[.bool false, .int .u8 0, .int .u8 0, .int .u8 0, .int .u8 0, .int .u8 0, .int .u8 0, .int .u8 0, .int .u8 0, .int .u8 0, .int .u8 0, .int .u8 0, .int .u8 0, .int .u8 0, .int .u8 0, .int .u8 0, .int .u8 0]) ?_ rfl rfl rfl; (with_reducible repeat (first | refine blk_drewN ?_ _ | refine blk_drew ?_ | refine blk_alloc ?_ _)); exact BK505.out))⟩; have n2_ : Aside0 (Below w.heap.size w w50) := ⟨(by rw [hw]; exact (by repeat (first | (with_reducible first | exact HB.out | apply below_alloc | apply pw_below_drewN | apply below_drew1 | refine below_set ?_ GE486.out | refine below_set ?_ GE505.out | refine below_setC GE486.out _ _ ?_ | refine below_setC GE505.out _ _ ?_) | exact HB.out)))⟩; clear hw; clear BK486; clear BK505; clear HB; have BK486 := n0_; have BK505 := n1_; have HB := n2_; clear n0_ n1_ n2_))
      have n0_ := Aside0.mk (blk_drew BK486.out)
      have n1_ := Aside0.mk (blk_drew BK505.out)
      have n2_ := Aside0.mk (below_drew1 HB.out)
      clear BK486
      clear BK505
      clear HB
      have BK486 := n0_
      have BK505 := n1_
      have HB := n2_
      clear n0_ n1_ n2_
      refine start_ (n := 13) (S := fun w' => (Instr.loadAt 25 (.pointer (some ⟨gb505, 0, none⟩))).run Tryd.prog w' = .ok (.agg #[.bool t487, .int .u8 t488, .int .u8 t489, .int .u8 t490, .int .u8 t491, .int .u8 t492, .int .u8 t493, .int .u8 t494, .int .u8 t495, .int .u8 t496, .int .u8 t497, .int .u8 t498, .int .u8 t499, .int .u8 t500, .int .u8 t501, .int .u8 t502, .int .u8 t503]) w') (ds := []) #[false, false, false, false, false, false, false, false, false, false, false, false, false] (by kernel_rfl) rfl rfl ((run_load_box BK505.out 25 [] [.bool t487, .int .u8 t488, .int .u8 t489, .int .u8 t490, .int .u8 t491, .int .u8 t492, .int .u8 t493, .int .u8 t494, .int .u8 t495, .int .u8 t496, .int .u8 t497, .int .u8 t498, .int .u8 t499, .int .u8 t500, .int .u8 t501, .int .u8 t502, .int .u8 t503] [] rfl 0 rfl Tryd.underlying25 rfl (by kernel_rfl))) (fun hHeld => ?_); refine with_tabW lanternlaw05_IpForms.tab15 lanternlaw05_IpForms.bits15 (fun HT_ HW_ => ?_)
      generalize w50.drew = w51 at BK486 BK505 HB hHeld ⊢
      refine pure_ (i := 0) (N := some 61) (v := ?_) (a' := ?_) #[true, false, false, false, false, false, false, false, false, false, false, false, false] rfl rfl (any_of HT_.out (by kernel_rfl)) (fun _ _ _ h => h) (Or.inl ⟨by rfl, ?_⟩) ?_ ?_
      rotate_left
      ·intro w'
       go_simp
       with_reducible rfl
      rotate_left
      ·simp only [Act.put, List.setIfInBounds_toArray, List.set_cons_zero, List.set_cons_succ, i64_w, i32_w]
       rfl
      refine pure_ (i := 1) (N := some 62) (v := ?_) (a' := ?_) #[true, true, false, false, false, false, false, false, false, false, false, false, false] rfl rfl (any_of HT_.out (by kernel_rfl)) (fun _ _ _ h => h) (Or.inl ⟨by rfl, ?_⟩) ?_ ?_
      rotate_left
      ·intro w'
       go_simp
       with_reducible rfl
      rotate_left
      ·simp only [Act.put, List.setIfInBounds_toArray, List.set_cons_zero, List.set_cons_succ, i64_w, i32_w]
       rfl
      refine pure_ (i := 2) (N := some 63) (v := ?_) (a' := ?_) #[true, true, true, false, false, false, false, false, false, false, false, false, false] rfl rfl (any_of HT_.out (by kernel_rfl)) (fun _ _ _ h => h) (Or.inl ⟨by rfl, ?_⟩) ?_ ?_
      rotate_left
      ·intro w'
       go_simp
       with_reducible rfl
      rotate_left
      ·simp only [Act.put, List.setIfInBounds_toArray, List.set_cons_zero, List.set_cons_succ, i64_w, i32_w]
       rfl
      refine pure_ (i := 4) (N := some 65) (v := ?_) (a' := ?_) #[true, true, true, false, true, false, false, false, false, false, false, false, false] rfl rfl (any_of HT_.out (by kernel_rfl)) (fun _ _ _ h => h) (Or.inl ⟨by rfl, ?_⟩) ?_ ?_
      rotate_left
      ·intro w'
       go_simp
       with_reducible rfl
      rotate_left
      ·simp only [Act.put, List.setIfInBounds_toArray, List.set_cons_zero, List.set_cons_succ, i64_w, i32_w]
       rfl
      refine pure_ (i := 5) (N := some 66) (v := ?_) (a' := ?_) #[true, true, true, false, true, true, false, false, false, false, false, false, false] rfl rfl (any_of HT_.out (by kernel_rfl)) (fun _ _ _ h => h) (Or.inl ⟨by rfl, ?_⟩) ?_ ?_
      rotate_left
      ·intro w'
       go_simp
       with_reducible rfl
      rotate_left
      ·simp only [Act.put, List.setIfInBounds_toArray, List.set_cons_zero, List.set_cons_succ, i64_w, i32_w]
       rfl
      refine take_ (i := 3) (N := some 64) (v := ?_) (a' := ?_) #[true, true, true, true, true, true, false, false, false, false, false, false, false] rfl rfl (take_ofW HT_.out HW_.out (by kernel_rfl)) (fun _ _ _ h => h) (Or.inl ⟨by rfl, ?_⟩) hHeld ?_ ?_
      rotate_left
      ·intro w' s0
       first | (refine (load_exec rfl rfl s0).trans ?_; with_reducible rfl) | (go_simp; with_reducible rfl)
      rotate_left
      ·simp only [Act.put, List.setIfInBounds_toArray, List.set_cons_zero, List.set_cons_succ, i64_w, i32_w]
       rfl
      refine one_ (i := 6) (N := some 67) #[true, true, true, true, true, true, true, false, false, false, false, false, false] rfl rfl (one_of HT_.out (by kernel_rfl)) (by decide) (fun K hK => ?_)
      refine goes_ Tryd.func16 (by kernel_rfl) rfl #[.int .u64 (IntKind.u64.wrap (a0))] (by rfl) rfl rfl (by (try simp only [List.map_toArray, List.map_cons, List.map_nil]); first | done | rfl | (simp only [List.length_drop, List.length_take]; rfl)) ?_
      with_reducible refine (lanternref05_V4.calls k1 (IntKind.u64.wrap (a0)) t506 t507 t508 t509 t510 t511 t512 t513 t514 t515 t516 t517 t518 t519 t520 t521 t522 _ ?side1 A43.out).mono ?_
      (case side1 => exact LW.below HLW.out (by repeat (first | (with_reducible first | exact HB.out | apply below_alloc | apply pw_below_drewN | apply below_drew1 | refine below_set ?_ GE486.out | refine below_set ?_ GE505.out) | exact HB.out)))
      rintro e w52 ⟨rfl, hb⟩
      refine ⟨_, rfl, ?_⟩
      have n0_ := Aside0.mk (blk_below BK486.out hb)
      have n1_ := Aside0.mk (blk_below BK505.out hb)
      have n2_ := Aside0.mk (below_step (by repeat (first | (with_reducible first | exact HB.out | apply below_alloc | apply pw_below_drewN | apply below_drew1 | refine below_set ?_ GE486.out | refine below_set ?_ GE505.out) | exact HB.out)) hb)
      clear BK486
      clear BK505
      clear HB
      have BK486 := n0_
      have BK505 := n1_
      have HB := n2_
      clear n0_ n1_ n2_
      (try clear hb)
      (try clear hb2)
      (try clear hk)
      (try clear hi)
      refine hK.out _ _ ((run_load_box BK505.out 25 [] [.bool t487, .int .u8 t488, .int .u8 t489, .int .u8 t490, .int .u8 t491, .int .u8 t492, .int .u8 t493, .int .u8 t494, .int .u8 t495, .int .u8 t496, .int .u8 t497, .int .u8 t498, .int .u8 t499, .int .u8 t500, .int .u8 t501, .int .u8 t502, .int .u8 t503] [] rfl 0 rfl Tryd.underlying25 rfl (by kernel_rfl))) (fun hHeld => ?_)
      clear hK K
      refine norm_ (a' := ?_) ?_ ?_
      rotate_left
      ·show Act.put _ (some 67) _ = _
       simp only [Act.put, List.setIfInBounds_toArray, List.set_cons_zero, List.set_cons_succ, i64_w, i32_w]
       rfl
      refine pure_ (i := 7) (N := some 68) (v := ?_) (a' := ?_) #[true, true, true, true, true, true, true, true, false, false, false, false, false] rfl rfl (any_of HT_.out (by kernel_rfl)) (fun _ _ _ h => h) (Or.inl ⟨by rfl, ?_⟩) ?_ ?_
      rotate_left
      ·intro w'
       go_simp
       with_reducible rfl
      rotate_left
      ·simp only [Act.put, List.setIfInBounds_toArray, List.set_cons_zero, List.set_cons_succ, i64_w, i32_w]
       rfl
      refine pure_ (i := 8) (N := some 69) (v := ?_) (a' := ?_) #[true, true, true, true, true, true, true, true, true, false, false, false, false] rfl rfl (any_of HT_.out (by kernel_rfl)) (fun _ _ _ h => h) (Or.inl ⟨by rfl, ?_⟩) ?_ ?_
      rotate_left
      ·intro w'
       go_simp
       with_reducible rfl
      rotate_left
      ·simp only [Act.put, List.setIfInBounds_toArray, List.set_cons_zero, List.set_cons_succ, i64_w, i32_w]
       rfl
      refine pure_ (i := 9) (N := some 70) (v := ?_) (a' := ?_) #[true, true, true, true, true, true, true, true, true, true, false, false, false] rfl rfl (any_of HT_.out (by kernel_rfl)) (fun _ _ _ h => h) (Or.inl ⟨by rfl, ?_⟩) ?_ ?_
      rotate_left
      ·intro w'
       go_simp
       with_reducible rfl
      rotate_left
      ·simp only [Act.put, List.setIfInBounds_toArray, List.set_cons_zero, List.set_cons_succ, i64_w, i32_w]
       rfl
      refine one_ (i := 10) (N := some 71) #[true, true, true, true, true, true, true, true, true, true, true, false, false] rfl rfl (one_of HT_.out (by kernel_rfl)) (by decide) (fun K hK => ?_)
      refine goes_ Tryd.func7 (by kernel_rfl) rfl #[] (by rfl) rfl rfl (by (try simp only [List.map_toArray, List.map_cons, List.map_nil]); first | done | rfl | (simp only [List.length_drop, List.length_take]; rfl)) ?_
      with_reducible refine (lanternlaw05_awake.calls k1  t523 _ ?side1 A45.out).mono ?_
      (case side1 => exact LW.below HLW.out (by repeat (first | (with_reducible first | exact HB.out | apply below_alloc | apply pw_below_drewN | apply below_drew1 | refine below_set ?_ GE486.out | refine below_set ?_ GE505.out) | exact HB.out)))
      rintro e w53 ⟨rfl, hb⟩
      refine ⟨_, rfl, ?_⟩
      have n0_ := Aside0.mk (blk_below BK486.out hb)
      have n1_ := Aside0.mk (blk_below BK505.out hb)
      have n2_ := Aside0.mk (below_step (by repeat (first | (with_reducible first | exact HB.out | apply below_alloc | apply pw_below_drewN | apply below_drew1 | refine below_set ?_ GE486.out | refine below_set ?_ GE505.out) | exact HB.out)) hb)
      clear BK486
      clear BK505
      clear HB
      have BK486 := n0_
      have BK505 := n1_
      have HB := n2_
      clear n0_ n1_ n2_
      (try clear hb)
      (try clear hb2)
      (try clear hk)
      (try clear hi)
      refine hK.out _ _ ((run_load_box BK505.out 25 [] [.bool t487, .int .u8 t488, .int .u8 t489, .int .u8 t490, .int .u8 t491, .int .u8 t492, .int .u8 t493, .int .u8 t494, .int .u8 t495, .int .u8 t496, .int .u8 t497, .int .u8 t498, .int .u8 t499, .int .u8 t500, .int .u8 t501, .int .u8 t502, .int .u8 t503] [] rfl 0 rfl Tryd.underlying25 rfl (by kernel_rfl))) (fun hHeld => ?_)
      clear hK K
      refine norm_ (a' := ?_) ?_ ?_
      rotate_left
      ·show Act.put _ (some 71) _ = _
       simp only [Act.put, List.setIfInBounds_toArray, List.set_cons_zero, List.set_cons_succ, i64_w, i32_w]
       rfl
      refine pure_ (i := 11) (N := some 72) (v := ?_) (a' := ?_) #[true, true, true, true, true, true, true, true, true, true, true, true, false] rfl rfl (any_of HT_.out (by kernel_rfl)) (fun _ _ _ h => h) (Or.inl ⟨by rfl, ?_⟩) ?_ ?_
      rotate_left
      ·intro w'
       go_simp
       with_reducible rfl
      rotate_left
      ·simp only [Act.put, List.setIfInBounds_toArray, List.set_cons_zero, List.set_cons_succ, i64_w, i32_w]
       rfl
      refine pure_ (i := 12) (N := some 6) (v := ?_) (a' := ?_) #[true, true, true, true, true, true, true, true, true, true, true, true, true] rfl rfl (any_of HT_.out (by kernel_rfl)) (fun _ _ _ h => h) (Or.inl ⟨by rfl, ?_⟩) ?_ ?_
      rotate_left
      ·intro w'
       go_simp
       with_reducible rfl
      rotate_left
      ·simp only [Act.put, List.setIfInBounds_toArray, List.set_cons_zero, List.set_cons_succ, i64_w, i32_w]
       rfl
      refine done_ (done_of HT_.out (by kernel_rfl)) ?_
      try go_wp2
      go_ret
      exact ⟨by first | rfl | (simp [errW_none, errW_some] <;> rfl) | (simp [*, errW_none, errW_some] <;> rfl) | (simp [errW_none, errW_some]; first | exact isEmpty_bne _ | exact isEmpty_beq _ | exact (isEmpty_bne _).symm), by repeat (first | (with_reducible first | exact HB.out | apply below_alloc | apply pw_below_drewN | apply below_drew1 | refine below_set ?_ GE486.out | refine below_set ?_ GE505.out) | exact HB.out)⟩
     ·rw [if_neg c44] at H
      exact absurd H (by simp)
    ·rw [if_neg c42] at H
     exact absurd H (by simp)
end Go.Proofs.YtfiefecjcmcejaaDoor.P
