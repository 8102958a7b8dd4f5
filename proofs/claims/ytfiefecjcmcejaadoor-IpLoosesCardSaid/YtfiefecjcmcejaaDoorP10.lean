-- Written by a program of this session (wip/gen/lprint.py over the kit's print.py) out of the translation. Lean checks it.
import Derived.Test.YtfiefecjcmcejaaDoorP0
import Derived.Test.YtfiefecjcmcejaaDoorP8
import Derived.Test.YtfiefecjcmcejaaDoorP9
namespace Go.Proofs.YtfiefecjcmcejaaDoor.P
open Go.Proofs.YtfiefecjcmcejaaDoor.E Go.Proofs.YtfiefecjcmcejaaDoorV
open Go.RowKit Go.Proofs.YtfiefecjcmcejaaDoorW.PrintWords Go.Proofs.YtfiefecjcmcejaaDoorW.PrintLast Go.Proofs.YtfiefecjcmcejaaDoorW.PrintMore
attribute [local go_sem] max2_int min2_int max_two min_two max_three min_three max_four min_four   -- for this text's walks alone
set_option linter.unusedVariables false
set_option linter.unusedSimpArgs false

mutual
def lanternref05_Loose.j0 : Nat → ByteArray → Bool → Option (Bool × Int × Int × Int × Int × Int × Int × Int × Int × Int × Int × Int × Int × Int × Int × Int × Int × Bool)
 | 0, _, _ => none
 | k + 1, x0, x21 => if x21 = true then (if 0 ≤ (wrap64 ((x0.size : Int) - 1)) then (if (wrap64 ((x0.size : Int) - 1)) ≤ (x0.size : Int) then (lanternref05_Loose.j1 k (x0.extract 0 ((wrap64 ((x0.size : Int) - 1)) : Int).toNat)) else (none)) else (none)) else (lanternref05_Loose.j1 k x0)
def lanternref05_Loose.j1 : Nat → ByteArray → Option (Bool × Int × Int × Int × Int × Int × Int × Int × Int × Int × Int × Int × Int × Int × Int × Int × Int × Bool)
 | 0, _ => none
 | k + 1, x0 => (lanternref05_cut.f k x0 46).bind fun t340 => (if (t340.length : Int) > 4 then (some (false, 0, 0, 0, 0, 0, 0, 0, 0, 0, 0, 0, 0, 0, 0, 0, 0, false)) else (lanternref05_Loose.l0 k t340 0 0))
def lanternref05_Loose.l0 : Nat → List ByteArray → Int → Int → Option (Bool × Int × Int × Int × Int × Int × Int × Int × Int × Int × Int × Int × Int × Int × Int × Int × Int × Bool)
 | 0, _, _, _ => none
 | k + 1, x4, x5, x6 => if x6 < (wrap64 ((x4.length : Int) - 1)) then (if 0 ≤ x6 then (if x6 < (x4.length : Int) then ((lanternref05_part.f k (rdOf ByteArray.empty x4 x6)).bind fun t344 => (if t344 < 0 then (some (false, 0, 0, 0, 0, 0, 0, 0, 0, 0, 0, 0, 0, 0, 0, 0, 0, false)) else (if t344 > 255 then (some (false, 0, 0, 0, 0, 0, 0, 0, 0, 0, 0, 0, 0, 0, 0, 0, 0, false)) else (lanternref05_Loose.l0 k x4 (wrap64 ((wrap64 (x5 * 256)) + t344)) (wrap64 (x6 + 1)))))) else (none)) else (none)) else (lanternref05_Loose.l1 k x4 x5 1 (wrap64 ((x4.length : Int) - 1)))
def lanternref05_Loose.l1 : Nat → List ByteArray → Int → Int → Int → Option (Bool × Int × Int × Int × Int × Int × Int × Int × Int × Int × Int × Int × Int × Int × Int × Int × Int × Bool)
 | 0, _, _, _, _ => none
 | k + 1, x4, x5, x8, x9 => if x9 < 4 then (lanternref05_Loose.l1 k x4 (wrap64 (x5 * 256)) (wrap64 (x8 * 256)) (wrap64 (x9 + 1))) else (if 0 ≤ (wrap64 ((x4.length : Int) - 1)) then (if (wrap64 ((x4.length : Int) - 1)) < (x4.length : Int) then ((lanternref05_part.f k (rdOf ByteArray.empty x4 (wrap64 ((x4.length : Int) - 1)))).bind fun t346 => (if t346 < 0 then (some (false, 0, 0, 0, 0, 0, 0, 0, 0, 0, 0, 0, 0, 0, 0, 0, 0, false)) else (if t346 ≥ x8 then (some (false, 0, 0, 0, 0, 0, 0, 0, 0, 0, 0, 0, 0, 0, 0, 0, 0, false)) else ((lanternref05_V4.f k (IntKind.u64.wrap (wrap64 (x5 + t346)))).bind fun bt347 => (some (bt347.1, bt347.2.1, bt347.2.2.1, bt347.2.2.2.1, bt347.2.2.2.2.1, bt347.2.2.2.2.2.1, bt347.2.2.2.2.2.2.1, bt347.2.2.2.2.2.2.2.1, bt347.2.2.2.2.2.2.2.2.1, bt347.2.2.2.2.2.2.2.2.2.1, bt347.2.2.2.2.2.2.2.2.2.2.1, bt347.2.2.2.2.2.2.2.2.2.2.2.1, bt347.2.2.2.2.2.2.2.2.2.2.2.2.1, bt347.2.2.2.2.2.2.2.2.2.2.2.2.2.1, bt347.2.2.2.2.2.2.2.2.2.2.2.2.2.2.1, bt347.2.2.2.2.2.2.2.2.2.2.2.2.2.2.2.1, bt347.2.2.2.2.2.2.2.2.2.2.2.2.2.2.2.2, true)))))) else (none)) else (none))
end
def lanternref05_Loose.f (k : Nat) (a0 : ByteArray) : Option (Bool × Int × Int × Int × Int × Int × Int × Int × Int × Int × Int × Int × Int × Int × Int × Int × Int × Bool) := if (a0.size : Int) > 0 then (if 0 ≤ (wrap64 ((a0.size : Int) - 1)) then (if (wrap64 ((a0.size : Int) - 1)) < (a0.size : Int) then (lanternref05_Loose.j0 k a0 ((bt a0 (wrap64 ((a0.size : Int) - 1))) == 46)) else (none)) else (none)) else (lanternref05_Loose.j0 k a0 false)
theorem lanternref05_Loose.mono_l : ∀ k, (∀ y0 y1, LeO (lanternref05_Loose.j0 k y0 y1) (lanternref05_Loose.j0 (k + 1) y0 y1)) ∧ (∀ y0, LeO (lanternref05_Loose.j1 k y0) (lanternref05_Loose.j1 (k + 1) y0)) ∧ (∀ y0 y1 y2, LeO (lanternref05_Loose.l0 k y0 y1 y2) (lanternref05_Loose.l0 (k + 1) y0 y1 y2)) ∧ (∀ y0 y1 y2 y3, LeO (lanternref05_Loose.l1 k y0 y1 y2 y3) (lanternref05_Loose.l1 (k + 1) y0 y1 y2 y3))
 | 0 => ⟨fun _ _ r h => by simp [lanternref05_Loose.j0] at h, fun _ r h => by simp [lanternref05_Loose.j1] at h, fun _ _ _ r h => by simp [lanternref05_Loose.l0] at h, fun _ _ _ _ r h => by simp [lanternref05_Loose.l1] at h⟩
 | k + 1 => by
  obtain ⟨ih0, ih1, ih2, ih3⟩ := lanternref05_Loose.mono_l k
  refine ⟨?_, ?_, ?_, ?_⟩
  ·intro y0 y1
   unfold lanternref05_Loose.j0
   repeat' first
   | (with_reducible exact ih0 _ _)
   | (with_reducible exact ih1 _)
   | (with_reducible exact ih2 _ _ _)
   | (with_reducible exact ih3 _ _ _ _)
   | (with_reducible exact lanternref05_V4.mono _ _)
   | (with_reducible exact lanternref05_cut.mono _ _ _)
   | (with_reducible exact lanternref05_part.mono _ _)
   | (with_reducible exact LeO.refl _)
   | (with_reducible exact LeO.none _)
   | (with_reducible refine LeO.ite ?_ ?_)
   | (with_reducible refine LeO.bind ?_ (fun _ => ?_))
   | exact ih0 _ _
   | exact ih1 _
   | exact ih2 _ _ _
   | exact ih3 _ _ _ _
   | exact lanternref05_V4.mono _ _
   | exact lanternref05_cut.mono _ _ _
   | exact lanternref05_part.mono _ _
   | exact LeO.none _
   | refine LeO.ite ?_ ?_
   | refine LeO.bind ?_ (fun _ => ?_)
  ·intro y0
   unfold lanternref05_Loose.j1
   repeat' first
   | (with_reducible exact ih0 _ _)
   | (with_reducible exact ih1 _)
   | (with_reducible exact ih2 _ _ _)
   | (with_reducible exact ih3 _ _ _ _)
   | (with_reducible exact lanternref05_V4.mono _ _)
   | (with_reducible exact lanternref05_cut.mono _ _ _)
   | (with_reducible exact lanternref05_part.mono _ _)
   | (with_reducible exact LeO.refl _)
   | (with_reducible exact LeO.none _)
   | (with_reducible refine LeO.ite ?_ ?_)
   | (with_reducible refine LeO.bind ?_ (fun _ => ?_))
   | exact ih0 _ _
   | exact ih1 _
   | exact ih2 _ _ _
   | exact ih3 _ _ _ _
   | exact lanternref05_V4.mono _ _
   | exact lanternref05_cut.mono _ _ _
   | exact lanternref05_part.mono _ _
   | exact LeO.none _
   | refine LeO.ite ?_ ?_
   | refine LeO.bind ?_ (fun _ => ?_)
  ·intro y0 y1 y2
   unfold lanternref05_Loose.l0
   repeat' first
   | (with_reducible exact ih0 _ _)
   | (with_reducible exact ih1 _)
   | (with_reducible exact ih2 _ _ _)
   | (with_reducible exact ih3 _ _ _ _)
   | (with_reducible exact lanternref05_V4.mono _ _)
   | (with_reducible exact lanternref05_cut.mono _ _ _)
   | (with_reducible exact lanternref05_part.mono _ _)
   | (with_reducible exact LeO.refl _)
   | (with_reducible exact LeO.none _)
   | (with_reducible refine LeO.ite ?_ ?_)
   | (with_reducible refine LeO.bind ?_ (fun _ => ?_))
   | exact ih0 _ _
   | exact ih1 _
   | exact ih2 _ _ _
   | exact ih3 _ _ _ _
   | exact lanternref05_V4.mono _ _
   | exact lanternref05_cut.mono _ _ _
   | exact lanternref05_part.mono _ _
   | exact LeO.none _
   | refine LeO.ite ?_ ?_
   | refine LeO.bind ?_ (fun _ => ?_)
  ·intro y0 y1 y2 y3
   unfold lanternref05_Loose.l1
   repeat' first
   | (with_reducible exact ih0 _ _)
   | (with_reducible exact ih1 _)
   | (with_reducible exact ih2 _ _ _)
   | (with_reducible exact ih3 _ _ _ _)
   | (with_reducible exact lanternref05_V4.mono _ _)
   | (with_reducible exact lanternref05_cut.mono _ _ _)
   | (with_reducible exact lanternref05_part.mono _ _)
   | (with_reducible exact LeO.refl _)
   | (with_reducible exact LeO.none _)
   | (with_reducible refine LeO.ite ?_ ?_)
   | (with_reducible refine LeO.bind ?_ (fun _ => ?_))
   | exact ih0 _ _
   | exact ih1 _
   | exact ih2 _ _ _
   | exact ih3 _ _ _ _
   | exact lanternref05_V4.mono _ _
   | exact lanternref05_cut.mono _ _ _
   | exact lanternref05_part.mono _ _
   | exact LeO.none _
   | refine LeO.ite ?_ ?_
   | refine LeO.bind ?_ (fun _ => ?_)
theorem lanternref05_Loose.mono : ∀ a0 k, LeO (lanternref05_Loose.f k a0) (lanternref05_Loose.f (k + 1) a0) := by
 intro a0 k
 obtain ⟨ih0, ih1, ih2, ih3⟩ := lanternref05_Loose.mono_l k
 unfold lanternref05_Loose.f
 repeat' first
   | (with_reducible exact ih0 _ _)
   | (with_reducible exact ih1 _)
   | (with_reducible exact ih2 _ _ _)
   | (with_reducible exact ih3 _ _ _ _)
   | (with_reducible exact lanternref05_V4.mono _ _)
   | (with_reducible exact lanternref05_cut.mono _ _ _)
   | (with_reducible exact lanternref05_part.mono _ _)
   | (with_reducible exact LeO.refl _)
   | (with_reducible exact LeO.none _)
   | (with_reducible refine LeO.ite ?_ ?_)
   | (with_reducible refine LeO.bind ?_ (fun _ => ?_))
   | exact ih0 _ _
   | exact ih1 _
   | exact ih2 _ _ _
   | exact ih3 _ _ _ _
   | exact lanternref05_V4.mono _ _
   | exact lanternref05_cut.mono _ _ _
   | exact lanternref05_part.mono _ _
   | exact LeO.none _
   | refine LeO.ite ?_ ?_
   | refine LeO.bind ?_ (fun _ => ?_)
set_option maxHeartbeats 8000000 in
set_option maxRecDepth 100000 in
theorem lanternref05_Loose.calls (k : Nat) (a0 : ByteArray) (r1 : Bool) (r2 : Int) (r3 : Int) (r4 : Int) (r5 : Int) (r6 : Int) (r7 : Int) (r8 : Int) (r9 : Int) (r10 : Int) (r11 : Int) (r12 : Int) (r13 : Int) (r14 : Int) (r15 : Int) (r16 : Int) (r17 : Int) (r18 : Bool) (w : World) (hLW : LW w) (h : lanternref05_Loose.f k a0 = some (r1, r2, r3, r4, r5, r6, r7, r8, r9, r10, r11, r12, r13, r14, r15, r16, r17, r18)) :
  Calls Tryd.prog 9 #[.string a0] w fun e w' => e = .returned (.tuple #[.agg #[.bool r1, .int .u8 r2, .int .u8 r3, .int .u8 r4, .int .u8 r5, .int .u8 r6, .int .u8 r7, .int .u8 r8, .int .u8 r9, .int .u8 r10, .int .u8 r11, .int .u8 r12, .int .u8 r13, .int .u8 r14, .int .u8 r15, .int .u8 r16, .int .u8 r17], .bool r18]) ∧ Below w.heap.size w w' := by
 have hu25 := Tryd.underlying25
 have HLW := Aside0.mk hLW
 clear hLW
 have HB := Aside0.mk (Below.refl w.heap.size w)
 have H : (if (a0.size : Int) > 0 then (if 0 ≤ (wrap64 ((a0.size : Int) - 1)) then (if (wrap64 ((a0.size : Int) - 1)) < (a0.size : Int) then (lanternref05_Loose.j0 k a0 ((bt a0 (wrap64 ((a0.size : Int) - 1))) == 46)) else (none)) else (none)) else (lanternref05_Loose.j0 k a0 false)) = some (r1, r2, r3, r4, r5, r6, r7, r8, r9, r10, r11, r12, r13, r14, r15, r16, r17, r18) := h
 clear h
 have HC2 := Aside0.mk H
 clear H
 go_enter Tryd.func9, Tryd.ntmps9
 go_upto_region 1 with (first | ((with_reducible refine gate_dst (N := 2) rfl ?_); (try (refine gate_guard (by rfl) ?_; dsimp only)); refine box_event ?hg (N := 2) ?hd (cs := #[.bool false, .int .u8 0, .int .u8 0, .int .u8 0, .int .u8 0, .int .u8 0, .int .u8 0, .int .u8 0, .int .u8 0, .int .u8 0, .int .u8 0, .int .u8 0, .int .u8 0, .int .u8 0, .int .u8 0, .int .u8 0, .int .u8 0]) (t := 25) ?hr ?_; (case hd => rfl); (case hg => rfl); (case hr => first | (go_simp; done) | (go_simp; rfl)); intro gb339 hg w3 hbox hb; have n0_ := Aside0.mk (below_step (by repeat (first | (with_reducible first | exact HB.out | apply below_alloc | apply pw_below_drewN | apply below_drew1) | exact HB.out)) hb); have n1_ := Aside0.mk (hbox); have n2_ := Aside0.mk ((by rw [hg]; exact (below_size (by repeat (first | (with_reducible first | exact HB.out | apply below_alloc | apply pw_below_drewN | apply below_drew1) | exact HB.out))) : w.heap.size ≤ gb339)); have n3_ := Aside0.mk ((by rw [hg]; exact (below_size (by repeat (first | (with_reducible first | exact HB.out | apply below_alloc | apply pw_below_drewN | apply below_drew1) | exact HB.out))) : w.heap.size ≤ gb339)); clear HB; have HB := n0_; have BK339 := n1_; have GW339 := n2_; have GE339 := n3_; clear n0_ n1_ n2_ n3_; clear hb hbox hg))
 (try simp only [Act.put, List.setIfInBounds_toArray, List.set_cons_zero, List.set_cons_succ])
 go_cut [21] (fun v21 wc => ∃ (kq : Nat) (x21_1 : Bool), v21 = .bool x21_1 ∧ Aside0 (lanternref05_Loose.j0 kq a0 x21_1 = some (r1, r2, r3, r4, r5, r6, r7, r8, r9, r10, r11, r12, r13, r14, r15, r16, r17, r18)) ∧ Aside0 (kq ≤ k) ∧ Aside0 (wc.heap[gb339]? = some (.cells #[.bool false, .int .u8 0, .int .u8 0, .int .u8 0, .int .u8 0, .int .u8 0, .int .u8 0, .int .u8 0, .int .u8 0, .int .u8 0, .int .u8 0, .int .u8 0, .int .u8 0, .int .u8 0, .int .u8 0, .int .u8 0, .int .u8 0] 25 (0, 0))) ∧ Aside0 (Below w.heap.size w wc))
 case first =>
  have H := HC2.out
  clear HC2
  by_cases c4 : (a0.size : Int) > 0
  ·rw [if_pos c4] at H
   have c4b0 : decide (0 < (a0.size : Int)) = true := decide_eq_true c4
   have c4b1 : decide (0 < a0.size) = true := decide_eq_true (by omega)
   clear c4
   (first | rw [c4b0] | (simp only [i64_w, i32_w]; rw [c4b0]) | skip)
   obtain ⟨ji5, hji5⟩ : ∃ j_ : Int, (wrap64 ((a0.size : Int) - 1)) = j_ := ⟨_, rfl⟩
   replace H : (if 0 ≤ (ji5) then (if (ji5) < (a0.size : Int) then (lanternref05_Loose.j0 k a0 ((bt a0 (ji5)) == 46)) else (none)) else (none)) = some (r1, r2, r3, r4, r5, r6, r7, r8, r9, r10, r11, r12, r13, r14, r15, r16, r17, r18) := by first | (rw [hji5] at H; exact H) | (simp only [hji5] at H ⊢; exact H)
   have hji5w : (IntKind.i64.wrap ((a0.size : Int) - 1)) = ji5 := (i64_w _).trans hji5
   by_cases c6 : 0 ≤ (ji5)
   ·rw [if_pos c6] at H
    have c6b0 : decide (0 ≤ (ji5)) = true := decide_eq_true c6
    clear c6
    by_cases c7 : (ji5) < (a0.size : Int)
    ·rw [if_pos c7] at H
     have c7b0 : decide ((ji5) < (a0.size : Int)) = true := decide_eq_true c7
     clear c7
     have H' := Aside0.mk H
     clear H
     have p8 : 0 ≤ ((ji5) : Int) := of_decide_eq_true (by first | (with_reducible assumption) | assumption)
     have q8 : (ji5) < (a0.size : Int) := of_decide_eq_true (by first | (with_reducible assumption) | assumption)
     have hx8 := bt_at a0 (ji5)
     replace p8 := eq_true p8
     replace q8 := eq_true q8
     go_wp2
     go_meet
     case rel => exact ⟨_, (((bt a0 (ji5)) == 46)), (by first | rfl | (simp; done) | (simp only [← hji5] <;> (first | rfl | simp)) | (simp [*]; done)), H', ⟨by first | omega | exact Nat.le_refl _⟩, ⟨by (with_reducible repeat (first | refine blk_drewN ?_ _ | refine blk_drew ?_ | refine blk_alloc ?_ _)); exact BK339.out⟩, ⟨by repeat (first | (with_reducible first | exact HB.out | apply below_alloc | apply pw_below_drewN | apply below_drew1 | refine below_set ?_ GE339.out) | exact HB.out)⟩⟩
    ·rw [if_neg c7] at H
     exact absurd H (by simp)
   ·rw [if_neg c6] at H
    exact absurd H (by simp)
  ·rw [if_neg c4] at H
   have c4b0 : decide (0 < (a0.size : Int)) = false := decide_eq_false c4
   have c4b1 : decide (0 < a0.size) = false := decide_eq_false (by omega)
   clear c4
   (first | rw [c4b0] | (simp only [i64_w, i32_w]; rw [c4b0]) | skip)
   have H' := Aside0.mk H
   clear H
   go_wp2
   go_meet
   case rel => exact ⟨_, (false), (by first | rfl | (simp; done) | (simp [*]; done) | (simp; exact isEmpty_bne _) | (simp; exact isEmpty_beq _)), H', ⟨by first | omega | exact Nat.le_refl _⟩, ⟨by (with_reducible repeat (first | refine blk_drewN ?_ _ | refine blk_drew ?_ | refine blk_alloc ?_ _)); exact BK339.out⟩, ⟨by repeat (first | (with_reducible first | exact HB.out | apply below_alloc | apply pw_below_drewN | apply below_drew1 | refine below_set ?_ GE339.out) | exact HB.out)⟩⟩
 case rest =>
  clear HC2
  try clear p2
  try clear c4
  try clear c4b0
  try clear c4b1
  try clear c6
  try clear c6b0
  try clear p6
  try clear c7
  try clear c7b0
  try clear p8
  try clear q8
  try clear hx8
  try clear p8
  try clear q8
  obtain ⟨kq, x21_1, rfl, HA, HJ1, BK339, HB⟩ := hcut
  cases kq with
  | zero => exact absurd HA.out (by simp [lanternref05_Loose.j0])
  | succ kj1 =>
   have H := HA.out
   clear HA
   simp only [lanternref05_Loose.j0] at H
   have HC9 := Aside0.mk H
   clear H
   go_upto_if 21 with (fail)
   go_cut [0] (fun v0 wc => ∃ (kq : Nat) (x0_8 : ByteArray), v0 = .string x0_8 ∧ Aside0 (lanternref05_Loose.j1 kq x0_8 = some (r1, r2, r3, r4, r5, r6, r7, r8, r9, r10, r11, r12, r13, r14, r15, r16, r17, r18)) ∧ Aside0 (kq ≤ kj1) ∧ Aside0 (wc.heap[gb339]? = some (.cells #[.bool false, .int .u8 0, .int .u8 0, .int .u8 0, .int .u8 0, .int .u8 0, .int .u8 0, .int .u8 0, .int .u8 0, .int .u8 0, .int .u8 0, .int .u8 0, .int .u8 0, .int .u8 0, .int .u8 0, .int .u8 0, .int .u8 0] 25 (0, 0))) ∧ Aside0 (Below w.heap.size w wc))
   case first =>
    have H := HC9.out
    clear HC9
    by_cases c10 : x21_1 = true
    ·subst c10
     have H1 : (if 0 ≤ (wrap64 ((a0.size : Int) - 1)) then (if (wrap64 ((a0.size : Int) - 1)) ≤ (a0.size : Int) then (lanternref05_Loose.j1 kj1 (a0.extract 0 ((wrap64 ((a0.size : Int) - 1)) : Int).toNat)) else (none)) else (none)) = some (r1, r2, r3, r4, r5, r6, r7, r8, r9, r10, r11, r12, r13, r14, r15, r16, r17, r18) := by rw [if_pos rfl] at H; exact H
     clear H
     have H := H1
     clear H1
     obtain ⟨ji11, hji11⟩ : ∃ j_ : Int, (wrap64 ((a0.size : Int) - 1)) = j_ := ⟨_, rfl⟩
     replace H : (if 0 ≤ (ji11) then (if (ji11) ≤ (a0.size : Int) then (lanternref05_Loose.j1 kj1 (a0.extract 0 ((ji11) : Int).toNat)) else (none)) else (none)) = some (r1, r2, r3, r4, r5, r6, r7, r8, r9, r10, r11, r12, r13, r14, r15, r16, r17, r18) := by first | (rw [hji11] at H; exact H) | (simp only [hji11] at H ⊢; exact H)
     have hji11w : (IntKind.i64.wrap ((a0.size : Int) - 1)) = ji11 := (i64_w _).trans hji11
     by_cases c12 : 0 ≤ (ji11)
     ·rw [if_pos c12] at H
      have c12b0 := eq_true c12
      have c12b1 : decide (0 ≤ (ji11)) = true := decide_eq_true c12
      clear c12
      by_cases c13 : (ji11) ≤ (a0.size : Int)
      ·rw [if_pos c13] at H
       have c13b0 := eq_true c13
       have c13b1 : decide ((ji11) ≤ (a0.size : Int)) = true := decide_eq_true c13
       clear c13
       have H' := Aside0.mk H
       clear H
       go_wp2
       go_meet
       case rel => exact ⟨_, (a0.extract 0 ((ji11) : Int).toNat), (by first | rfl | (simp; done) | (simp only [← hji11] <;> (first | rfl | simp)) | (simp [*]; done)), H', ⟨by have := HJ1.out; first | omega | exact Nat.le_refl _⟩, ⟨by (with_reducible repeat (first | refine blk_drewN ?_ _ | refine blk_drew ?_ | refine blk_alloc ?_ _)); exact BK339.out⟩, ⟨by repeat (first | (with_reducible first | exact HB.out | apply below_alloc | apply pw_below_drewN | apply below_drew1 | refine below_set ?_ GE339.out) | exact HB.out)⟩⟩
      ·rw [if_neg c13] at H
       exact absurd H (by simp)
     ·rw [if_neg c12] at H
      exact absurd H (by simp)
    ·replace c10 := Bool.eq_false_iff.mpr c10
     subst c10
     have H1 : (lanternref05_Loose.j1 kj1 a0) = some (r1, r2, r3, r4, r5, r6, r7, r8, r9, r10, r11, r12, r13, r14, r15, r16, r17, r18) := by rw [if_neg (show ¬ (false = true) by decide)] at H; exact H
     clear H
     have H := H1
     clear H1
     have H' := Aside0.mk H
     clear H
     go_wp2
     go_meet
     case rel => exact ⟨_, (a0), (by first | rfl | (simp; done) | (simp [*]; done) | (simp; exact isEmpty_bne _) | (simp; exact isEmpty_beq _)), H', ⟨by have := HJ1.out; first | omega | exact Nat.le_refl _⟩, ⟨by (with_reducible repeat (first | refine blk_drewN ?_ _ | refine blk_drew ?_ | refine blk_alloc ?_ _)); exact BK339.out⟩, ⟨by repeat (first | (with_reducible first | exact HB.out | apply below_alloc | apply pw_below_drewN | apply below_drew1 | refine below_set ?_ GE339.out) | exact HB.out)⟩⟩
   case rest =>
    clear HC9
    try clear c1
    try clear p2
    try clear c4
    try clear c4b0
    try clear c4b1
    try clear c6
    try clear c6b0
    try clear p6
    try clear c7
    try clear c7b0
    try clear p8
    try clear q8
    try clear hx8
    try clear c9
    try clear c10
    try clear c12
    try clear c12b0
    try clear c12b1
    try clear c13
    try clear c13b0
    try clear c13b1
    try clear p2
    try clear p6
    try clear p8
    try clear q8
    obtain ⟨kq, x0_8, rfl, HA, HJ8, BK339, HB⟩ := hcut
    cases kq with
    | zero => exact absurd HA.out (by simp [lanternref05_Loose.j1])
    | succ kj8 =>
     have H := HA.out
     clear HA
     simp only [lanternref05_Loose.j1] at H
     replace H := Option.bind_eq_some_iff.mp H
     obtain ⟨t340, A140, H⟩ := H
     replace H : (if (t340.length : Int) > 4 then (some (false, 0, 0, 0, 0, 0, 0, 0, 0, 0, 0, 0, 0, 0, 0, 0, 0, false)) else (lanternref05_Loose.l0 kj8 t340 0 0)) = some (r1, r2, r3, r4, r5, r6, r7, r8, r9, r10, r11, r12, r13, r14, r15, r16, r17, r18) := H
     have A14 := Aside0.mk A140
     clear A140
     by_cases c15 : (t340.length : Int) > 4
     ·rw [if_pos c15] at H
      have c15b0 : decide (4 < (t340.length : Int)) = true := decide_eq_true c15
      have c15b1 : decide (4 < t340.length) = true := decide_eq_true (by omega)
      clear c15
      simp only [Option.some.injEq, Prod.mk.injEq] at H
      obtain ⟨rfl, rfl, rfl, rfl, rfl, rfl, rfl, rfl, rfl, rfl, rfl, rfl, rfl, rfl, rfl, rfl, rfl, rfl⟩ := H
      go_wp2_with (first | ((with_reducible refine gate_callee (f := 26) rfl ?_); refine goesL_ (some 28) rfl rfl Tryd.func26 (by kernel_rfl) rfl #[.string x0_8, .int .u8 46] rfl (by (try simp only [List.map_toArray, List.map_cons, List.map_nil]); first | done | rfl | (simp only [List.length_drop, List.length_take]; rfl)) ?_; (with_reducible refine (lanternref05_cut.calls kj8 x0_8 46 t340 _ ?side1 A14.out).mono ?_); (case side1 => exact LW.below HLW.out (by repeat (first | (with_reducible first | exact HB.out | apply below_alloc | apply pw_below_drewN | apply below_drew1 | refine below_set ?_ GE339.out) | exact HB.out))); rintro e w16 ⟨v341, rfl, ho0, hb⟩; refine ⟨_, rfl, ?_⟩; have n0_ := Aside0.mk (Kd.R_lower ho0 (below_size (by repeat (first | (with_reducible first | exact HB.out | apply below_alloc | apply pw_below_drewN | apply below_drew1 | refine below_set ?_ GE339.out) | exact HB.out)))); have n1_ := Aside0.mk (blk_below BK339.out hb); have n2_ := Aside0.mk (below_step (by repeat (first | (with_reducible first | exact HB.out | apply below_alloc | apply pw_below_drewN | apply below_drew1 | refine below_set ?_ GE339.out) | exact HB.out)) hb); clear BK339; clear HB; have HO342 := n0_; have BK339 := n1_; have HB := n2_; clear n0_ n1_ n2_; (try clear hb); (try clear hb2); (try clear hk); (try clear hi); (try clear ho0); obtain ⟨Ao17, co17, eo17⟩ := Kd.R_slice HO342.out; subst eo17; have hcz18_0 : w16.cell? ⟨gb339, 0, none⟩ = some (.bool false) := (blk_cell BK339.out 0).trans rfl; have hcz18_1 : w16.cell? ⟨gb339, 1, none⟩ = some (.int .u8 0) := (blk_cell BK339.out 1).trans rfl; have hcz18_2 : w16.cell? ⟨gb339, 2, none⟩ = some (.int .u8 0) := (blk_cell BK339.out 2).trans rfl; have hcz18_3 : w16.cell? ⟨gb339, 3, none⟩ = some (.int .u8 0) := (blk_cell BK339.out 3).trans rfl; have hcz18_4 : w16.cell? ⟨gb339, 4, none⟩ = some (.int .u8 0) := (blk_cell BK339.out 4).trans rfl; have hcz18_5 : w16.cell? ⟨gb339, 5, none⟩ = some (.int .u8 0) := (blk_cell BK339.out 5).trans rfl; have hcz18_6 : w16.cell? ⟨gb339, 6, none⟩ = some (.int .u8 0) := (blk_cell BK339.out 6).trans rfl; have hcz18_7 : w16.cell? ⟨gb339, 7, none⟩ = some (.int .u8 0) := (blk_cell BK339.out 7).trans rfl; have hcz18_8 : w16.cell? ⟨gb339, 8, none⟩ = some (.int .u8 0) := (blk_cell BK339.out 8).trans rfl; have hcz18_9 : w16.cell? ⟨gb339, 9, none⟩ = some (.int .u8 0) := (blk_cell BK339.out 9).trans rfl; have hcz18_10 : w16.cell? ⟨gb339, 10, none⟩ = some (.int .u8 0) := (blk_cell BK339.out 10).trans rfl; have hcz18_11 : w16.cell? ⟨gb339, 11, none⟩ = some (.int .u8 0) := (blk_cell BK339.out 11).trans rfl; have hcz18_12 : w16.cell? ⟨gb339, 12, none⟩ = some (.int .u8 0) := (blk_cell BK339.out 12).trans rfl; have hcz18_13 : w16.cell? ⟨gb339, 13, none⟩ = some (.int .u8 0) := (blk_cell BK339.out 13).trans rfl; have hcz18_14 : w16.cell? ⟨gb339, 14, none⟩ = some (.int .u8 0) := (blk_cell BK339.out 14).trans rfl; have hcz18_15 : w16.cell? ⟨gb339, 15, none⟩ = some (.int .u8 0) := (blk_cell BK339.out 15).trans rfl; have hcz18_16 : w16.cell? ⟨gb339, 16, none⟩ = some (.int .u8 0) := (blk_cell BK339.out 16).trans rfl; have hfz18_0 := blk_frozen BK339.out 0; have hfz18_1 := blk_frozen BK339.out 1; have hfz18_2 := blk_frozen BK339.out 2; have hfz18_3 := blk_frozen BK339.out 3; have hfz18_4 := blk_frozen BK339.out 4; have hfz18_5 := blk_frozen BK339.out 5; have hfz18_6 := blk_frozen BK339.out 6; have hfz18_7 := blk_frozen BK339.out 7; have hfz18_8 := blk_frozen BK339.out 8; have hfz18_9 := blk_frozen BK339.out 9; have hfz18_10 := blk_frozen BK339.out 10; have hfz18_11 := blk_frozen BK339.out 11; have hfz18_12 := blk_frozen BK339.out 12; have hfz18_13 := blk_frozen BK339.out 13; have hfz18_14 := blk_frozen BK339.out 14; have hfz18_15 := blk_frozen BK339.out 15; have hfz18_16 := blk_frozen BK339.out 16) | ((with_reducible refine gate_store (t := 25) (p := 2) rfl ?_); refine store_all ?hg 25 2 _ rfl rfl gb339 [.bool false, .int .u8 0, .int .u8 0, .int .u8 0, .int .u8 0, .int .u8 0, .int .u8 0, .int .u8 0, .int .u8 0, .int .u8 0, .int .u8 0, .int .u8 0, .int .u8 0, .int .u8 0, .int .u8 0, .int .u8 0, .int .u8 0] [.bool false, .int .u8 0, .int .u8 0, .int .u8 0, .int .u8 0, .int .u8 0, .int .u8 0, .int .u8 0, .int .u8 0, .int .u8 0, .int .u8 0, .int .u8 0, .int .u8 0, .int .u8 0, .int .u8 0, .int .u8 0, .int .u8 0] BK339.out rfl rfl rfl (by kernel_rfl) rfl ?_; (case hg => rfl); intro w19 hw; have n0_ : Aside0 (Kd.R Kd.string 9 w19 w.heap.size (fun _ => True) (.slice Ao17 t340.length co17) t340) := ⟨(by rw [hw]; exact (by (with_reducible repeat (first | apply Kd.R_alloc | apply Kd.R_drewN | apply Kd.R_drew)); exact Kd.R_mono (R_farC (g := gb339) (fun _ hk => hk.2) (Kd.R_types HO342.out BK339.out (by decide)) [.bool false, .int .u8 0, .int .u8 0, .int .u8 0, .int .u8 0, .int .u8 0, .int .u8 0, .int .u8 0, .int .u8 0, .int .u8 0, .int .u8 0, .int .u8 0, .int .u8 0, .int .u8 0, .int .u8 0, .int .u8 0, .int .u8 0] 0) (fun _ hk => trivial)))⟩; have n1_ : Aside0 (w19.heap[gb339]? = some (.cells #[.bool false, .int .u8 0, .int .u8 0, .int .u8 0, .int .u8 0, .int .u8 0, .int .u8 0, .int .u8 0, .int .u8 0, .int .u8 0, .int .u8 0, .int .u8 0, .int .u8 0, .int .u8 0, .int .u8 0, .int .u8 0, .int .u8 0] 25 (0, 0))) := ⟨(by rw [hw]; exact (by (with_reducible repeat (first | refine blk_drewN ?_ _ | refine blk_drew ?_ | refine blk_alloc ?_ _)); refine blk_part [.bool false, .int .u8 0, .int .u8 0, .int .u8 0, .int .u8 0, .int .u8 0, .int .u8 0, .int .u8 0, .int .u8 0, .int .u8 0, .int .u8 0, .int .u8 0, .int .u8 0, .int .u8 0, .int .u8 0, .int .u8 0, .int .u8 0] [.bool false, .int .u8 0, .int .u8 0, .int .u8 0, .int .u8 0, .int .u8 0, .int .u8 0, .int .u8 0, .int .u8 0, .int .u8 0, .int .u8 0, .int .u8 0, .int .u8 0, .int .u8 0, .int .u8 0, .int .u8 0, .int .u8 0] [] [] (cs := #[.bool false, .int .u8 0, .int .u8 0, .int .u8 0, .int .u8 0, .int .u8 0, .int .u8 0, .int .u8 0, .int .u8 0, .int .u8 0, .int .u8 0, .int .u8 0, .int .u8 0, .int .u8 0, .int .u8 0, .int .u8 0, .int .u8 0]) ?_ rfl rfl rfl; (with_reducible repeat (first | refine blk_drewN ?_ _ | refine blk_drew ?_ | refine blk_alloc ?_ _)); exact BK339.out))⟩; have n2_ : Aside0 (Below w.heap.size w w19) := ⟨(by rw [hw]; exact (by repeat (first | (with_reducible first | exact HB.out | apply below_alloc | apply pw_below_drewN | apply below_drew1 | refine below_set ?_ GE339.out | refine below_setC GE339.out _ _ ?_) | exact HB.out)))⟩; clear hw; clear HO342; clear BK339; clear HB; have HO342 := n0_; have BK339 := n1_; have HB := n2_; clear n0_ n1_ n2_))
      refine bodyPost_ret (results_ct rfl _ _ gb339 25 #[.bool false, .int .u8 0, .int .u8 0, .int .u8 0, .int .u8 0, .int .u8 0, .int .u8 0, .int .u8 0, .int .u8 0, .int .u8 0, .int .u8 0, .int .u8 0, .int .u8 0, .int .u8 0, .int .u8 0, .int .u8 0, .int .u8 0] (0, 0) _ rfl (by (with_reducible repeat (first | refine blk_drewN ?_ _ | refine blk_drew ?_ | refine blk_alloc ?_ _)); exact BK339.out) Tryd.underlying25 rfl (by kernel_rfl)) rfl ?_
      exact ⟨by first | rfl | (simp [errW_none, errW_some] <;> rfl) | (simp [*, errW_none, errW_some] <;> rfl) | (simp [errW_none, errW_some]; first | exact isEmpty_bne _ | exact isEmpty_beq _ | exact (isEmpty_bne _).symm), by repeat (first | (with_reducible first | exact HB.out | apply below_alloc | apply pw_below_drewN | apply below_drew1 | refine below_set ?_ GE339.out) | exact HB.out)⟩
     ·rw [if_neg c15] at H
      have c15b0 : decide (4 < (t340.length : Int)) = false := decide_eq_false c15
      have c15b1 : decide (4 < t340.length) = false := decide_eq_false (by omega)
      clear c15
      have H' := Aside0.mk H
      clear H
      go_wp2_with (first | ((with_reducible refine gate_callee (f := 26) rfl ?_); refine goesL_ (some 28) rfl rfl Tryd.func26 (by kernel_rfl) rfl #[.string x0_8, .int .u8 46] rfl (by (try simp only [List.map_toArray, List.map_cons, List.map_nil]); first | done | rfl | (simp only [List.length_drop, List.length_take]; rfl)) ?_; (with_reducible refine (lanternref05_cut.calls kj8 x0_8 46 t340 _ ?side1 A14.out).mono ?_); (case side1 => exact LW.below HLW.out (by repeat (first | (with_reducible first | exact HB.out | apply below_alloc | apply pw_below_drewN | apply below_drew1 | refine below_set ?_ GE339.out) | exact HB.out))); rintro e w20 ⟨v341, rfl, ho0, hb⟩; refine ⟨_, rfl, ?_⟩; have n0_ := Aside0.mk (Kd.R_lower ho0 (below_size (by repeat (first | (with_reducible first | exact HB.out | apply below_alloc | apply pw_below_drewN | apply below_drew1 | refine below_set ?_ GE339.out) | exact HB.out)))); have n1_ := Aside0.mk (blk_below BK339.out hb); have n2_ := Aside0.mk (below_step (by repeat (first | (with_reducible first | exact HB.out | apply below_alloc | apply pw_below_drewN | apply below_drew1 | refine below_set ?_ GE339.out) | exact HB.out)) hb); clear BK339; clear HB; have HO342 := n0_; have BK339 := n1_; have HB := n2_; clear n0_ n1_ n2_; (try clear hb); (try clear hb2); (try clear hk); (try clear hi); (try clear ho0); obtain ⟨Ao21, co21, eo21⟩ := Kd.R_slice HO342.out; subst eo21))
      go_loopg [5, 6] kj8 (fun kq v5 v6 w' => ∃ (x5_3 : Int) (x6_3 : Int) (x340000_3 : Bool) (x340001_3 : Int) (x340002_3 : Int) (x340003_3 : Int) (x340004_3 : Int) (x340005_3 : Int) (x340006_3 : Int) (x340007_3 : Int) (x340008_3 : Int) (x340009_3 : Int) (x340010_3 : Int) (x340011_3 : Int) (x340012_3 : Int) (x340013_3 : Int) (x340014_3 : Int) (x340015_3 : Int) (x340016_3 : Int), v5 = .int .i64 x5_3 ∧ v6 = .int .i64 x6_3 ∧ Aside0 (lanternref05_Loose.l0 kq t340 x5_3 x6_3 = some (r1, r2, r3, r4, r5, r6, r7, r8, r9, r10, r11, r12, r13, r14, r15, r16, r17, r18)) ∧ Aside0 (kq ≤ kj8) ∧ Aside0 (Kd.R Kd.string 9 w' w.heap.size (fun _ => True) (.slice Ao21 t340.length co21) t340) ∧ Aside0 (w'.heap[gb339]? = some (.cells #[.bool x340000_3, .int .u8 x340001_3, .int .u8 x340002_3, .int .u8 x340003_3, .int .u8 x340004_3, .int .u8 x340005_3, .int .u8 x340006_3, .int .u8 x340007_3, .int .u8 x340008_3, .int .u8 x340009_3, .int .u8 x340010_3, .int .u8 x340011_3, .int .u8 x340012_3, .int .u8 x340013_3, .int .u8 x340014_3, .int .u8 x340015_3, .int .u8 x340016_3] 25 (0, 0))) ∧ Aside0 (Below w.heap.size w w'))
      case atStart => exact ⟨(0), (0), (false), (0), (0), (0), (0), (0), (0), (0), (0), (0), (0), (0), (0), (0), (0), (0), (0), (by first | rfl | (simp; done) | (simp [*]; done) | (simp; exact isEmpty_bne _) | (simp; exact isEmpty_beq _)), (by first | rfl | (simp; done) | (simp [*]; done) | (simp; exact isEmpty_bne _) | (simp; exact isEmpty_beq _)), H', ⟨Nat.le_refl _⟩, ⟨by (with_reducible repeat (first | apply Kd.R_alloc | apply Kd.R_drewN | apply Kd.R_drew)); exact HO342.out⟩, ⟨by (with_reducible repeat (first | refine blk_drewN ?_ _ | refine blk_drew ?_ | refine blk_alloc ?_ _)); exact BK339.out⟩, ⟨by repeat (first | (with_reducible first | exact HB.out | apply below_alloc | apply pw_below_drewN | apply below_drew1 | refine below_set ?_ GE339.out) | exact HB.out)⟩⟩
      case round =>
       clear H'
       try clear c1
       try clear c2
       try clear p2
       try clear c4
       try clear c4b0
       try clear c4b1
       try clear c6
       try clear c6b0
       try clear p6
       try clear c7
       try clear c7b0
       try clear p8
       try clear q8
       try clear hx8
       try clear c9
       try clear c10
       try clear c12
       try clear c12b0
       try clear c12b1
       try clear c13
       try clear c13b0
       try clear c13b1
       try clear c15
       try clear c15b0
       try clear c15b1
       try clear hcz18_0
       try clear hcz18_1
       try clear hcz18_10
       try clear hcz18_11
       try clear hcz18_12
       try clear hcz18_13
       try clear hcz18_14
       try clear hcz18_15
       try clear hcz18_16
       try clear hcz18_2
       try clear hcz18_3
       try clear hcz18_4
       try clear hcz18_5
       try clear hcz18_6
       try clear hcz18_7
       try clear hcz18_8
       try clear hcz18_9
       try clear hfz18_0
       try clear hfz18_1
       try clear hfz18_10
       try clear hfz18_11
       try clear hfz18_12
       try clear hfz18_13
       try clear hfz18_14
       try clear hfz18_15
       try clear hfz18_16
       try clear hfz18_2
       try clear hfz18_3
       try clear hfz18_4
       try clear hfz18_5
       try clear hfz18_6
       try clear hfz18_7
       try clear hfz18_8
       try clear hfz18_9
       try clear p2
       try clear p6
       try clear p8
       try clear q8
       obtain ⟨x5_3, x6_3, x340000_3, x340001_3, x340002_3, x340003_3, x340004_3, x340005_3, x340006_3, x340007_3, x340008_3, x340009_3, x340010_3, x340011_3, x340012_3, x340013_3, x340014_3, x340015_3, x340016_3, rfl, rfl, HA, HK3, HO_4, BK339, HB⟩ := hrel
       cases gk with
       | zero => exact absurd HA.out (by simp [lanternref05_Loose.l0])
       | succ k3 =>
        have H := HA.out
        clear HA
        simp only [lanternref05_Loose.l0] at H
        by_cases c22 : x6_3 < (wrap64 ((t340.length : Int) - 1))
        ·rw [if_pos c22] at H
         have c22b0 : decide (x6_3 < (wrap64 ((t340.length : Int) - 1))) = true := decide_eq_true c22
         clear c22
         by_cases c23 : 0 ≤ x6_3
         ·rw [if_pos c23] at H
          have c23b0 : decide (0 ≤ x6_3) = true := decide_eq_true c23
          clear c23
          by_cases c24 : x6_3 < (t340.length : Int)
          ·rw [if_pos c24] at H
           have c24b0 : decide (x6_3 < (t340.length : Int)) = true := decide_eq_true c24
           clear c24
           replace H := Option.bind_eq_some_iff.mp H
           obtain ⟨t344, A250, H⟩ := H
           replace H : (if t344 < 0 then (some (false, 0, 0, 0, 0, 0, 0, 0, 0, 0, 0, 0, 0, 0, 0, 0, 0, false)) else (if t344 > 255 then (some (false, 0, 0, 0, 0, 0, 0, 0, 0, 0, 0, 0, 0, 0, 0, 0, 0, false)) else (lanternref05_Loose.l0 k3 t340 (wrap64 ((wrap64 (x5_3 * 256)) + t344)) (wrap64 (x6_3 + 1))))) = some (r1, r2, r3, r4, r5, r6, r7, r8, r9, r10, r11, r12, r13, r14, r15, r16, r17, r18) := H
           have A25 := Aside0.mk A250
           clear A250
           by_cases c26 : t344 < 0
           ·rw [if_pos c26] at H
            have c26b0 : decide (t344 < 0) = true := decide_eq_true c26
            clear c26
            simp only [Option.some.injEq, Prod.mk.injEq] at H
            obtain ⟨rfl, rfl, rfl, rfl, rfl, rfl, rfl, rfl, rfl, rfl, rfl, rfl, rfl, rfl, rfl, rfl, rfl, rfl⟩ := H
            have p343 : 0 ≤ (x6_3 : Int) := of_decide_eq_true (by first | (with_reducible assumption) | assumption)
            have q343 : x6_3 < (t340.length : Int) := of_decide_eq_true (by first | (with_reducible assumption) | assumption)
            obtain ⟨ad343, e343, hx343_0⟩ := Kd.at_string (Kd.R_reads' HO_4.out).2.2 x6_3 p343 q343
            cases e343
            replace p343 := eq_true p343
            replace q343 := eq_true q343
            go_wp2_with (first | ((with_reducible refine gate_callee (f := 27) rfl ?_); refine goesL_ (some 44) rfl rfl Tryd.func27 (by kernel_rfl) rfl #[.string (rdOf ByteArray.empty t340 x6_3)] rfl (by (try simp only [List.map_toArray, List.map_cons, List.map_nil]); first | done | rfl | (simp only [List.length_drop, List.length_take]; rfl)) ?_; (with_reducible refine (lanternref05_part.calls k3 (rdOf ByteArray.empty t340 x6_3) t344 _ ?side1 A25.out).mono ?_); (case side1 => exact LW.below HLW.out (by repeat (first | (with_reducible first | exact HB.out | apply below_alloc | apply pw_below_drewN | apply below_drew1 | refine below_set ?_ GE339.out) | exact HB.out))); rintro e w' ⟨rfl, ⟨nd, rfl⟩⟩; refine ⟨_, rfl, ?_⟩; (try (rw [drewN_self wr]; generalize hq_ : World.drewN wr _ = wr; have n0_ : Aside0 (Kd.R Kd.string 9 wr w.heap.size (fun _ => True) (.slice (some ad343) t340.length co21) t340) := ⟨by rw [← hq_]; exact (by (with_reducible repeat (first | apply Kd.R_alloc | apply Kd.R_drewN | apply Kd.R_drew)); exact HO_4.out)⟩; have n1_ : Aside0 (wr.heap[gb339]? = some (.cells #[.bool x340000_3, .int .u8 x340001_3, .int .u8 x340002_3, .int .u8 x340003_3, .int .u8 x340004_3, .int .u8 x340005_3, .int .u8 x340006_3, .int .u8 x340007_3, .int .u8 x340008_3, .int .u8 x340009_3, .int .u8 x340010_3, .int .u8 x340011_3, .int .u8 x340012_3, .int .u8 x340013_3, .int .u8 x340014_3, .int .u8 x340015_3, .int .u8 x340016_3] 25 (0, 0))) := ⟨by rw [← hq_]; exact (by (with_reducible repeat (first | refine blk_drewN ?_ _ | refine blk_drew ?_ | refine blk_alloc ?_ _)); exact BK339.out)⟩; have n2_ : Aside0 (Below w.heap.size w wr) := ⟨by rw [← hq_]; exact (by repeat (first | (with_reducible first | exact HB.out | apply below_alloc | apply pw_below_drewN | apply below_drew1 | refine below_set ?_ GE339.out) | exact HB.out))⟩; clear HO_4 BK339 HB hq_; have HO_4 := n0_; have BK339 := n1_; have HB := n2_; clear n0_ n1_ n2_)); have hcz27_0 : wr.cell? ⟨gb339, 0, none⟩ = some (.bool x340000_3) := (blk_cell BK339.out 0).trans rfl; have hcz27_1 : wr.cell? ⟨gb339, 1, none⟩ = some (.int .u8 x340001_3) := (blk_cell BK339.out 1).trans rfl; have hcz27_2 : wr.cell? ⟨gb339, 2, none⟩ = some (.int .u8 x340002_3) := (blk_cell BK339.out 2).trans rfl; have hcz27_3 : wr.cell? ⟨gb339, 3, none⟩ = some (.int .u8 x340003_3) := (blk_cell BK339.out 3).trans rfl; have hcz27_4 : wr.cell? ⟨gb339, 4, none⟩ = some (.int .u8 x340004_3) := (blk_cell BK339.out 4).trans rfl; have hcz27_5 : wr.cell? ⟨gb339, 5, none⟩ = some (.int .u8 x340005_3) := (blk_cell BK339.out 5).trans rfl; have hcz27_6 : wr.cell? ⟨gb339, 6, none⟩ = some (.int .u8 x340006_3) := (blk_cell BK339.out 6).trans rfl; have hcz27_7 : wr.cell? ⟨gb339, 7, none⟩ = some (.int .u8 x340007_3) := (blk_cell BK339.out 7).trans rfl; have hcz27_8 : wr.cell? ⟨gb339, 8, none⟩ = some (.int .u8 x340008_3) := (blk_cell BK339.out 8).trans rfl; have hcz27_9 : wr.cell? ⟨gb339, 9, none⟩ = some (.int .u8 x340009_3) := (blk_cell BK339.out 9).trans rfl; have hcz27_10 : wr.cell? ⟨gb339, 10, none⟩ = some (.int .u8 x340010_3) := (blk_cell BK339.out 10).trans rfl; have hcz27_11 : wr.cell? ⟨gb339, 11, none⟩ = some (.int .u8 x340011_3) := (blk_cell BK339.out 11).trans rfl; have hcz27_12 : wr.cell? ⟨gb339, 12, none⟩ = some (.int .u8 x340012_3) := (blk_cell BK339.out 12).trans rfl; have hcz27_13 : wr.cell? ⟨gb339, 13, none⟩ = some (.int .u8 x340013_3) := (blk_cell BK339.out 13).trans rfl; have hcz27_14 : wr.cell? ⟨gb339, 14, none⟩ = some (.int .u8 x340014_3) := (blk_cell BK339.out 14).trans rfl; have hcz27_15 : wr.cell? ⟨gb339, 15, none⟩ = some (.int .u8 x340015_3) := (blk_cell BK339.out 15).trans rfl; have hcz27_16 : wr.cell? ⟨gb339, 16, none⟩ = some (.int .u8 x340016_3) := (blk_cell BK339.out 16).trans rfl; have hfz27_0 := blk_frozen BK339.out 0; have hfz27_1 := blk_frozen BK339.out 1; have hfz27_2 := blk_frozen BK339.out 2; have hfz27_3 := blk_frozen BK339.out 3; have hfz27_4 := blk_frozen BK339.out 4; have hfz27_5 := blk_frozen BK339.out 5; have hfz27_6 := blk_frozen BK339.out 6; have hfz27_7 := blk_frozen BK339.out 7; have hfz27_8 := blk_frozen BK339.out 8; have hfz27_9 := blk_frozen BK339.out 9; have hfz27_10 := blk_frozen BK339.out 10; have hfz27_11 := blk_frozen BK339.out 11; have hfz27_12 := blk_frozen BK339.out 12; have hfz27_13 := blk_frozen BK339.out 13; have hfz27_14 := blk_frozen BK339.out 14; have hfz27_15 := blk_frozen BK339.out 15; have hfz27_16 := blk_frozen BK339.out 16) | ((with_reducible refine gate_store (t := 25) (p := 2) rfl ?_); refine store_all ?hg 25 2 _ rfl rfl gb339 [.bool x340000_3, .int .u8 x340001_3, .int .u8 x340002_3, .int .u8 x340003_3, .int .u8 x340004_3, .int .u8 x340005_3, .int .u8 x340006_3, .int .u8 x340007_3, .int .u8 x340008_3, .int .u8 x340009_3, .int .u8 x340010_3, .int .u8 x340011_3, .int .u8 x340012_3, .int .u8 x340013_3, .int .u8 x340014_3, .int .u8 x340015_3, .int .u8 x340016_3] [.bool false, .int .u8 0, .int .u8 0, .int .u8 0, .int .u8 0, .int .u8 0, .int .u8 0, .int .u8 0, .int .u8 0, .int .u8 0, .int .u8 0, .int .u8 0, .int .u8 0, .int .u8 0, .int .u8 0, .int .u8 0, .int .u8 0] BK339.out rfl rfl rfl (by kernel_rfl) rfl ?_; (case hg => rfl); intro w28 hw; have n0_ : Aside0 (Kd.R Kd.string 9 w28 w.heap.size (fun _ => True) (.slice (some ad343) t340.length co21) t340) := ⟨(by rw [hw]; exact (by (with_reducible repeat (first | apply Kd.R_alloc | apply Kd.R_drewN | apply Kd.R_drew)); exact Kd.R_mono (R_farC (g := gb339) (fun _ hk => hk.2) (Kd.R_types HO_4.out BK339.out (by decide)) [.bool false, .int .u8 0, .int .u8 0, .int .u8 0, .int .u8 0, .int .u8 0, .int .u8 0, .int .u8 0, .int .u8 0, .int .u8 0, .int .u8 0, .int .u8 0, .int .u8 0, .int .u8 0, .int .u8 0, .int .u8 0, .int .u8 0] 0) (fun _ hk => trivial)))⟩; have n1_ : Aside0 (w28.heap[gb339]? = some (.cells #[.bool false, .int .u8 0, .int .u8 0, .int .u8 0, .int .u8 0, .int .u8 0, .int .u8 0, .int .u8 0, .int .u8 0, .int .u8 0, .int .u8 0, .int .u8 0, .int .u8 0, .int .u8 0, .int .u8 0, .int .u8 0, .int .u8 0] 25 (0, 0))) := ⟨(by rw [hw]; exact (by (with_reducible repeat (first | refine blk_drewN ?_ _ | refine blk_drew ?_ | refine blk_alloc ?_ _)); refine blk_part [.bool false, .int .u8 0, .int .u8 0, .int .u8 0, .int .u8 0, .int .u8 0, .int .u8 0, .int .u8 0, .int .u8 0, .int .u8 0, .int .u8 0, .int .u8 0, .int .u8 0, .int .u8 0, .int .u8 0, .int .u8 0, .int .u8 0] [.bool x340000_3, .int .u8 x340001_3, .int .u8 x340002_3, .int .u8 x340003_3, .int .u8 x340004_3, .int .u8 x340005_3, .int .u8 x340006_3, .int .u8 x340007_3, .int .u8 x340008_3, .int .u8 x340009_3, .int .u8 x340010_3, .int .u8 x340011_3, .int .u8 x340012_3, .int .u8 x340013_3, .int .u8 x340014_3, .int .u8 x340015_3, .int .u8 x340016_3] [] [] (cs := #[.bool x340000_3, .int .u8 x340001_3, .int .u8 x340002_3, .int .u8 x340003_3, .int .u8 x340004_3, .int .u8 x340005_3, .int .u8 x340006_3, .int .u8 x340007_3, .int .u8 x340008_3, .int .u8 x340009_3, .int .u8 x340010_3, .int .u8 x340011_3, .int .u8 x340012_3, .int .u8 x340013_3, .int .u8 x340014_3, .int .u8 x340015_3, .int .u8 x340016_3]) ?_ rfl rfl rfl; (with_reducible repeat (first | refine blk_drewN ?_ _ | refine blk_drew ?_ | refine blk_alloc ?_ _)); exact BK339.out))⟩; have n2_ : Aside0 (Below w.heap.size w w28) := ⟨(by rw [hw]; exact (by repeat (first | (with_reducible first | exact HB.out | apply below_alloc | apply pw_below_drewN | apply below_drew1 | refine below_set ?_ GE339.out | refine below_setC GE339.out _ _ ?_) | exact HB.out)))⟩; clear hw; clear HO_4; clear BK339; clear HB; have HO_4 := n0_; have BK339 := n1_; have HB := n2_; clear n0_ n1_ n2_))
            refine bodyPost_ret (results_ct rfl _ _ gb339 25 #[.bool false, .int .u8 0, .int .u8 0, .int .u8 0, .int .u8 0, .int .u8 0, .int .u8 0, .int .u8 0, .int .u8 0, .int .u8 0, .int .u8 0, .int .u8 0, .int .u8 0, .int .u8 0, .int .u8 0, .int .u8 0, .int .u8 0] (0, 0) _ rfl (by (with_reducible repeat (first | refine blk_drewN ?_ _ | refine blk_drew ?_ | refine blk_alloc ?_ _)); exact BK339.out) Tryd.underlying25 rfl (by kernel_rfl)) rfl ?_
            exact ⟨by first | rfl | (simp [errW_none, errW_some] <;> rfl) | (simp [*, errW_none, errW_some] <;> rfl) | (simp [errW_none, errW_some]; first | exact isEmpty_bne _ | exact isEmpty_beq _ | exact (isEmpty_bne _).symm), by repeat (first | (with_reducible first | exact HB.out | apply below_alloc | apply pw_below_drewN | apply below_drew1 | refine below_set ?_ GE339.out) | exact HB.out)⟩
           ·rw [if_neg c26] at H
            have c26b0 : decide (t344 < 0) = false := decide_eq_false c26
            clear c26
            by_cases c29 : t344 > 255
            ·rw [if_pos c29] at H
             have c29b0 : decide (255 < t344) = true := decide_eq_true c29
             clear c29
             simp only [Option.some.injEq, Prod.mk.injEq] at H
             obtain ⟨rfl, rfl, rfl, rfl, rfl, rfl, rfl, rfl, rfl, rfl, rfl, rfl, rfl, rfl, rfl, rfl, rfl, rfl⟩ := H
             have p343 : 0 ≤ (x6_3 : Int) := of_decide_eq_true (by first | (with_reducible assumption) | assumption)
             have q343 : x6_3 < (t340.length : Int) := of_decide_eq_true (by first | (with_reducible assumption) | assumption)
             obtain ⟨ad343, e343, hx343_0⟩ := Kd.at_string (Kd.R_reads' HO_4.out).2.2 x6_3 p343 q343
             cases e343
             replace p343 := eq_true p343
             replace q343 := eq_true q343
             go_wp2_with (first | ((with_reducible refine gate_callee (f := 27) rfl ?_); refine goesL_ (some 44) rfl rfl Tryd.func27 (by kernel_rfl) rfl #[.string (rdOf ByteArray.empty t340 x6_3)] rfl (by (try simp only [List.map_toArray, List.map_cons, List.map_nil]); first | done | rfl | (simp only [List.length_drop, List.length_take]; rfl)) ?_; (with_reducible refine (lanternref05_part.calls k3 (rdOf ByteArray.empty t340 x6_3) t344 _ ?side1 A25.out).mono ?_); (case side1 => exact LW.below HLW.out (by repeat (first | (with_reducible first | exact HB.out | apply below_alloc | apply pw_below_drewN | apply below_drew1 | refine below_set ?_ GE339.out) | exact HB.out))); rintro e w' ⟨rfl, ⟨nd, rfl⟩⟩; refine ⟨_, rfl, ?_⟩; (try (rw [drewN_self wr]; generalize hq_ : World.drewN wr _ = wr; have n0_ : Aside0 (Kd.R Kd.string 9 wr w.heap.size (fun _ => True) (.slice (some ad343) t340.length co21) t340) := ⟨by rw [← hq_]; exact (by (with_reducible repeat (first | apply Kd.R_alloc | apply Kd.R_drewN | apply Kd.R_drew)); exact HO_4.out)⟩; have n1_ : Aside0 (wr.heap[gb339]? = some (.cells #[.bool x340000_3, .int .u8 x340001_3, .int .u8 x340002_3, .int .u8 x340003_3, .int .u8 x340004_3, .int .u8 x340005_3, .int .u8 x340006_3, .int .u8 x340007_3, .int .u8 x340008_3, .int .u8 x340009_3, .int .u8 x340010_3, .int .u8 x340011_3, .int .u8 x340012_3, .int .u8 x340013_3, .int .u8 x340014_3, .int .u8 x340015_3, .int .u8 x340016_3] 25 (0, 0))) := ⟨by rw [← hq_]; exact (by (with_reducible repeat (first | refine blk_drewN ?_ _ | refine blk_drew ?_ | refine blk_alloc ?_ _)); exact BK339.out)⟩; have n2_ : Aside0 (Below w.heap.size w wr) := ⟨by rw [← hq_]; exact (by repeat (first | (with_reducible first | exact HB.out | apply below_alloc | apply pw_below_drewN | apply below_drew1 | refine below_set ?_ GE339.out) | exact HB.out))⟩; clear HO_4 BK339 HB hq_; have HO_4 := n0_; have BK339 := n1_; have HB := n2_; clear n0_ n1_ n2_)); have hcz30_0 : wr.cell? ⟨gb339, 0, none⟩ = some (.bool x340000_3) := (blk_cell BK339.out 0).trans rfl; have hcz30_1 : wr.cell? ⟨gb339, 1, none⟩ = some (.int .u8 x340001_3) := (blk_cell BK339.out 1).trans rfl; have hcz30_2 : wr.cell? ⟨gb339, 2, none⟩ = some (.int .u8 x340002_3) := (blk_cell BK339.out 2).trans rfl; have hcz30_3 : wr.cell? ⟨gb339, 3, none⟩ = some (.int .u8 x340003_3) := (blk_cell BK339.out 3).trans rfl; have hcz30_4 : wr.cell? ⟨gb339, 4, none⟩ = some (.int .u8 x340004_3) := (blk_cell BK339.out 4).trans rfl; have hcz30_5 : wr.cell? ⟨gb339, 5, none⟩ = some (.int .u8 x340005_3) := (blk_cell BK339.out 5).trans rfl; have hcz30_6 : wr.cell? ⟨gb339, 6, none⟩ = some (.int .u8 x340006_3) := (blk_cell BK339.out 6).trans rfl; have hcz30_7 : wr.cell? ⟨gb339, 7, none⟩ = some (.int .u8 x340007_3) := (blk_cell BK339.out 7).trans rfl; have hcz30_8 : wr.cell? ⟨gb339, 8, none⟩ = some (.int .u8 x340008_3) := (blk_cell BK339.out 8).trans rfl; have hcz30_9 : wr.cell? ⟨gb339, 9, none⟩ = some (.int .u8 x340009_3) := (blk_cell BK339.out 9).trans rfl; have hcz30_10 : wr.cell? ⟨gb339, 10, none⟩ = some (.int .u8 x340010_3) := (blk_cell BK339.out 10).trans rfl; have hcz30_11 : wr.cell? ⟨gb339, 11, none⟩ = some (.int .u8 x340011_3) := (blk_cell BK339.out 11).trans rfl; have hcz30_12 : wr.cell? ⟨gb339, 12, none⟩ = some (.int .u8 x340012_3) := (blk_cell BK339.out 12).trans rfl; have hcz30_13 : wr.cell? ⟨gb339, 13, none⟩ = some (.int .u8 x340013_3) := (blk_cell BK339.out 13).trans rfl; have hcz30_14 : wr.cell? ⟨gb339, 14, none⟩ = some (.int .u8 x340014_3) := (blk_cell BK339.out 14).trans rfl; have hcz30_15 : wr.cell? ⟨gb339, 15, none⟩ = some (.int .u8 x340015_3) := (blk_cell BK339.out 15).trans rfl; have hcz30_16 : wr.cell? ⟨gb339, 16, none⟩ = some (.int .u8 x340016_3) := (blk_cell BK339.out 16).trans rfl; have hfz30_0 := blk_frozen BK339.out 0; have hfz30_1 := blk_frozen BK339.out 1; have hfz30_2 := blk_frozen BK339.out 2; have hfz30_3 := blk_frozen BK339.out 3; have hfz30_4 := blk_frozen BK339.out 4; have hfz30_5 := blk_frozen BK339.out 5; have hfz30_6 := blk_frozen BK339.out 6; have hfz30_7 := blk_frozen BK339.out 7; have hfz30_8 := blk_frozen BK339.out 8; have hfz30_9 := blk_frozen BK339.out 9; have hfz30_10 := blk_frozen BK339.out 10; have hfz30_11 := blk_frozen BK339.out 11; have hfz30_12 := blk_frozen BK339.out 12; have hfz30_13 := blk_frozen BK339.out 13; have hfz30_14 := blk_frozen BK339.out 14; have hfz30_15 := blk_frozen BK339.out 15; have hfz30_16 := blk_frozen BK339.out 16) | ((with_reducible refine gate_store (t := 25) (p := 2) rfl ?_); refine store_all ?hg 25 2 _ rfl rfl gb339 [.bool x340000_3, .int .u8 x340001_3, .int .u8 x340002_3, .int .u8 x340003_3, .int .u8 x340004_3, .int .u8 x340005_3, .int .u8 x340006_3, .int .u8 x340007_3, .int .u8 x340008_3, .int .u8 x340009_3, .int .u8 x340010_3, .int .u8 x340011_3, .int .u8 x340012_3, .int .u8 x340013_3, .int .u8 x340014_3, .int .u8 x340015_3, .int .u8 x340016_3] [.bool false, .int .u8 0, .int .u8 0, .int .u8 0, .int .u8 0, .int .u8 0, .int .u8 0, .int .u8 0, .int .u8 0, .int .u8 0, .int .u8 0, .int .u8 0, .int .u8 0, .int .u8 0, .int .u8 0, .int .u8 0, .int .u8 0] BK339.out rfl rfl rfl (by kernel_rfl) rfl ?_; (case hg => rfl); intro w31 hw; have n0_ : Aside0 (Kd.R Kd.string 9 w31 w.heap.size (fun _ => True) (.slice (some ad343) t340.length co21) t340) := ⟨(by rw [hw]; exact (by (with_reducible repeat (first | apply Kd.R_alloc | apply Kd.R_drewN | apply Kd.R_drew)); exact Kd.R_mono (R_farC (g := gb339) (fun _ hk => hk.2) (Kd.R_types HO_4.out BK339.out (by decide)) [.bool false, .int .u8 0, .int .u8 0, .int .u8 0, .int .u8 0, .int .u8 0, .int .u8 0, .int .u8 0, .int .u8 0, .int .u8 0, .int .u8 0, .int .u8 0, .int .u8 0, .int .u8 0, .int .u8 0, .int .u8 0, .int .u8 0] 0) (fun _ hk => trivial)))⟩; have n1_ : Aside0 (w31.heap[gb339]? = some (.cells #[.bool false, .int .u8 0, .int .u8 0, .int .u8 0, .int .u8 0, .int .u8 0, .int .u8 0, .int .u8 0, .int .u8 0, .int .u8 0, .int .u8 0, .int .u8 0, .int .u8 0, .int .u8 0, .int .u8 0, .int .u8 0, .int .u8 0] 25 (0, 0))) := ⟨(by rw [hw]; exact (by (with_reducible repeat (first | refine blk_drewN ?_ _ | refine blk_drew ?_ | refine blk_alloc ?_ _)); refine blk_part [.bool false, .int .u8 0, .int .u8 0, .int .u8 0, .int .u8 0, .int .u8 0, .int .u8 0, .int .u8 0, .int .u8 0, .int .u8 0, .int .u8 0, .int .u8 0, .int .u8 0, .int .u8 0, .int .u8 0, .int .u8 0, .int .u8 0] [.bool x340000_3, .int .u8 x340001_3, .int .u8 x340002_3, .int .u8 x340003_3, .int .u8 x340004_3, .int .u8 x340005_3, .int .u8 x340006_3, .int .u8 x340007_3, .int .u8 x340008_3, .int .u8 x340009_3, .int .u8 x340010_3, .int .u8 x340011_3, .int .u8 x340012_3, .int .u8 x340013_3, .int .u8 x340014_3, .int .u8 x340015_3, .int .u8 x340016_3] [] [] (cs := #[.bool x340000_3, .int .u8 x340001_3, .int .u8 x340002_3, .int .u8 x340003_3, .int .u8 x340004_3, .int .u8 x340005_3, .int .u8 x340006_3, .int .u8 x340007_3, .int .u8 x340008_3, .int .u8 x340009_3, .int .u8 x340010_3, .int .u8 x340011_3, .int .u8 x340012_3, .int .u8 x340013_3, .int .u8 x340014_3, .int .u8 x340015_3, .int .u8 x340016_3]) ?_ rfl rfl rfl; (with_reducible repeat (first | refine blk_drewN ?_ _ | refine blk_drew ?_ | refine blk_alloc ?_ _)); exact BK339.out))⟩; have n2_ : Aside0 (Below w.heap.size w w31) := ⟨(by rw [hw]; exact (by repeat (first | (with_reducible first | exact HB.out | apply below_alloc | apply pw_below_drewN | apply below_drew1 | refine below_set ?_ GE339.out | refine below_setC GE339.out _ _ ?_) | exact HB.out)))⟩; clear hw; clear HO_4; clear BK339; clear HB; have HO_4 := n0_; have BK339 := n1_; have HB := n2_; clear n0_ n1_ n2_))
             refine bodyPost_ret (results_ct rfl _ _ gb339 25 #[.bool false, .int .u8 0, .int .u8 0, .int .u8 0, .int .u8 0, .int .u8 0, .int .u8 0, .int .u8 0, .int .u8 0, .int .u8 0, .int .u8 0, .int .u8 0, .int .u8 0, .int .u8 0, .int .u8 0, .int .u8 0, .int .u8 0] (0, 0) _ rfl (by (with_reducible repeat (first | refine blk_drewN ?_ _ | refine blk_drew ?_ | refine blk_alloc ?_ _)); exact BK339.out) Tryd.underlying25 rfl (by kernel_rfl)) rfl ?_
             exact ⟨by first | rfl | (simp [errW_none, errW_some] <;> rfl) | (simp [*, errW_none, errW_some] <;> rfl) | (simp [errW_none, errW_some]; first | exact isEmpty_bne _ | exact isEmpty_beq _ | exact (isEmpty_bne _).symm), by repeat (first | (with_reducible first | exact HB.out | apply below_alloc | apply pw_below_drewN | apply below_drew1 | refine below_set ?_ GE339.out) | exact HB.out)⟩
            ·rw [if_neg c29] at H
             have c29b0 : decide (255 < t344) = false := decide_eq_false c29
             clear c29
             have H' := Aside0.mk H
             clear H
             have p343 : 0 ≤ (x6_3 : Int) := of_decide_eq_true (by first | (with_reducible assumption) | assumption)
             have q343 : x6_3 < (t340.length : Int) := of_decide_eq_true (by first | (with_reducible assumption) | assumption)
             obtain ⟨ad343, e343, hx343_0⟩ := Kd.at_string (Kd.R_reads' HO_4.out).2.2 x6_3 p343 q343
             cases e343
             replace p343 := eq_true p343
             replace q343 := eq_true q343
             go_wp2_with (first | ((with_reducible refine gate_callee (f := 27) rfl ?_); refine goesL_ (some 44) rfl rfl Tryd.func27 (by kernel_rfl) rfl #[.string (rdOf ByteArray.empty t340 x6_3)] rfl (by (try simp only [List.map_toArray, List.map_cons, List.map_nil]); first | done | rfl | (simp only [List.length_drop, List.length_take]; rfl)) ?_; (with_reducible refine (lanternref05_part.calls k3 (rdOf ByteArray.empty t340 x6_3) t344 _ ?side1 A25.out).mono ?_); (case side1 => exact LW.below HLW.out (by repeat (first | (with_reducible first | exact HB.out | apply below_alloc | apply pw_below_drewN | apply below_drew1 | refine below_set ?_ GE339.out) | exact HB.out))); rintro e w' ⟨rfl, ⟨nd, rfl⟩⟩; refine ⟨_, rfl, ?_⟩))
             go_roundg k3
             case measure => have := HJ1.out; have := HJ8.out; have := HK3.out; omega
             case rel => exact ⟨(wrap64 ((wrap64 (x5_3 * 256)) + t344)), (wrap64 (x6_3 + 1)), (x340000_3), (x340001_3), (x340002_3), (x340003_3), (x340004_3), (x340005_3), (x340006_3), (x340007_3), (x340008_3), (x340009_3), (x340010_3), (x340011_3), (x340012_3), (x340013_3), (x340014_3), (x340015_3), (x340016_3), (by first | rfl | (simp; done) | (simp [*]; done) | (simp; exact isEmpty_bne _) | (simp; exact isEmpty_beq _)), (by first | rfl | (simp; done) | (simp [*]; done) | (simp; exact isEmpty_bne _) | (simp; exact isEmpty_beq _)), H', ⟨by have := HJ1.out; have := HJ8.out; have := HK3.out; omega⟩, ⟨by (with_reducible repeat (first | apply Kd.R_alloc | apply Kd.R_drewN | apply Kd.R_drew)); exact HO_4.out⟩, ⟨by (with_reducible repeat (first | refine blk_drewN ?_ _ | refine blk_drew ?_ | refine blk_alloc ?_ _)); exact BK339.out⟩, ⟨by repeat (first | (with_reducible first | exact HB.out | apply below_alloc | apply pw_below_drewN | apply below_drew1 | refine below_set ?_ GE339.out) | exact HB.out)⟩⟩
          ·rw [if_neg c24] at H
           exact absurd H (by simp)
         ·rw [if_neg c23] at H
          exact absurd H (by simp)
        ·rw [if_neg c22] at H
         have c22b0 : decide (x6_3 < (wrap64 ((t340.length : Int) - 1))) = false := decide_eq_false c22
         clear c22
         have H' := Aside0.mk H
         clear H
         go_wp2
         go_loopg [5, 8, 9] k3 (fun kq v5 v8 v9 w' => ∃ (x5_4 : Int) (x8_4 : Int) (x9_4 : Int), v5 = .int .i64 x5_4 ∧ v8 = .int .i64 x8_4 ∧ v9 = .int .i64 x9_4 ∧ Aside0 (lanternref05_Loose.l1 kq t340 x5_4 x8_4 x9_4 = some (r1, r2, r3, r4, r5, r6, r7, r8, r9, r10, r11, r12, r13, r14, r15, r16, r17, r18)) ∧ Aside0 (kq ≤ k3) ∧ Aside0 (Kd.R Kd.string 9 w' w.heap.size (fun _ => True) (.slice Ao21 t340.length co21) t340) ∧ Aside0 (w'.heap[gb339]? = some (.cells #[.bool x340000_3, .int .u8 x340001_3, .int .u8 x340002_3, .int .u8 x340003_3, .int .u8 x340004_3, .int .u8 x340005_3, .int .u8 x340006_3, .int .u8 x340007_3, .int .u8 x340008_3, .int .u8 x340009_3, .int .u8 x340010_3, .int .u8 x340011_3, .int .u8 x340012_3, .int .u8 x340013_3, .int .u8 x340014_3, .int .u8 x340015_3, .int .u8 x340016_3] 25 (0, 0))) ∧ Aside0 (Below w.heap.size w w'))
         case atStart => exact ⟨(x5_3), (1), (wrap64 ((t340.length : Int) - 1)), (by first | rfl | (simp; done) | (simp [*]; done) | (simp; exact isEmpty_bne _) | (simp; exact isEmpty_beq _)), (by first | rfl | (simp; done) | (simp [*]; done) | (simp; exact isEmpty_bne _) | (simp; exact isEmpty_beq _)), (by first | rfl | (simp; done) | (simp [*]; done) | (simp; exact isEmpty_bne _) | (simp; exact isEmpty_beq _)), H', ⟨Nat.le_refl _⟩, ⟨by (with_reducible repeat (first | apply Kd.R_alloc | apply Kd.R_drewN | apply Kd.R_drew)); exact HO_4.out⟩, ⟨by (with_reducible repeat (first | refine blk_drewN ?_ _ | refine blk_drew ?_ | refine blk_alloc ?_ _)); exact BK339.out⟩, ⟨by repeat (first | (with_reducible first | exact HB.out | apply below_alloc | apply pw_below_drewN | apply below_drew1 | refine below_set ?_ GE339.out) | exact HB.out)⟩⟩
         case round =>
          clear H'
          try clear c1
          try clear c2
          try clear p2
          try clear p3
          try clear q3
          try clear hx3
          try clear c4
          try clear c4b0
          try clear c4b1
          try clear c6
          try clear c6b0
          try clear p6
          try clear c7
          try clear c7b0
          try clear p8
          try clear q8
          try clear hx8
          try clear c9
          try clear c10
          try clear c12
          try clear c12b0
          try clear c12b1
          try clear c13
          try clear c13b0
          try clear c13b1
          try clear c15
          try clear c15b0
          try clear c15b1
          try clear c22
          try clear c22b0
          try clear c23
          try clear c23b0
          try clear c24
          try clear c24b0
          try clear c26
          try clear c26b0
          try clear c27
          try clear c29
          try clear c29b0
          try clear hcz18_0
          try clear hcz18_1
          try clear hcz18_10
          try clear hcz18_11
          try clear hcz18_12
          try clear hcz18_13
          try clear hcz18_14
          try clear hcz18_15
          try clear hcz18_16
          try clear hcz18_2
          try clear hcz18_3
          try clear hcz18_4
          try clear hcz18_5
          try clear hcz18_6
          try clear hcz18_7
          try clear hcz18_8
          try clear hcz18_9
          try clear hcz27_0
          try clear hcz27_1
          try clear hcz27_10
          try clear hcz27_11
          try clear hcz27_12
          try clear hcz27_13
          try clear hcz27_14
          try clear hcz27_15
          try clear hcz27_16
          try clear hcz27_2
          try clear hcz27_3
          try clear hcz27_4
          try clear hcz27_5
          try clear hcz27_6
          try clear hcz27_7
          try clear hcz27_8
          try clear hcz27_9
          try clear hcz30_0
          try clear hcz30_1
          try clear hcz30_10
          try clear hcz30_11
          try clear hcz30_12
          try clear hcz30_13
          try clear hcz30_14
          try clear hcz30_15
          try clear hcz30_16
          try clear hcz30_2
          try clear hcz30_3
          try clear hcz30_4
          try clear hcz30_5
          try clear hcz30_6
          try clear hcz30_7
          try clear hcz30_8
          try clear hcz30_9
          try clear hfz18_0
          try clear hfz18_1
          try clear hfz18_10
          try clear hfz18_11
          try clear hfz18_12
          try clear hfz18_13
          try clear hfz18_14
          try clear hfz18_15
          try clear hfz18_16
          try clear hfz18_2
          try clear hfz18_3
          try clear hfz18_4
          try clear hfz18_5
          try clear hfz18_6
          try clear hfz18_7
          try clear hfz18_8
          try clear hfz18_9
          try clear hfz27_0
          try clear hfz27_1
          try clear hfz27_10
          try clear hfz27_11
          try clear hfz27_12
          try clear hfz27_13
          try clear hfz27_14
          try clear hfz27_15
          try clear hfz27_16
          try clear hfz27_2
          try clear hfz27_3
          try clear hfz27_4
          try clear hfz27_5
          try clear hfz27_6
          try clear hfz27_7
          try clear hfz27_8
          try clear hfz27_9
          try clear hfz30_0
          try clear hfz30_1
          try clear hfz30_10
          try clear hfz30_11
          try clear hfz30_12
          try clear hfz30_13
          try clear hfz30_14
          try clear hfz30_15
          try clear hfz30_16
          try clear hfz30_2
          try clear hfz30_3
          try clear hfz30_4
          try clear hfz30_5
          try clear hfz30_6
          try clear hfz30_7
          try clear hfz30_8
          try clear hfz30_9
          try clear hx343_0
          try clear p2
          try clear p343
          try clear p6
          try clear p8
          try clear q343
          try clear q8
          obtain ⟨x5_4, x8_4, x9_4, rfl, rfl, rfl, HA, HK4, HO_4, BK339, HB⟩ := hrel
          cases gk with
          | zero => exact absurd HA.out (by simp [lanternref05_Loose.l1])
          | succ k4 =>
           have H := HA.out
           clear HA
           simp only [lanternref05_Loose.l1] at H
           by_cases c32 : x9_4 < 4
           ·rw [if_pos c32] at H
            have c32b0 : decide (x9_4 < 4) = true := decide_eq_true c32
            clear c32
            have H' := Aside0.mk H
            clear H
            go_wp2
            go_roundg k4
            case measure => have := HJ1.out; have := HJ8.out; have := HK3.out; have := HK4.out; omega
            case rel => exact ⟨(wrap64 (x5_4 * 256)), (wrap64 (x8_4 * 256)), (wrap64 (x9_4 + 1)), (by first | rfl | (simp; done) | (simp [*]; done) | (simp; exact isEmpty_bne _) | (simp; exact isEmpty_beq _)), (by first | rfl | (simp; done) | (simp [*]; done) | (simp; exact isEmpty_bne _) | (simp; exact isEmpty_beq _)), (by first | rfl | (simp; done) | (simp [*]; done) | (simp; exact isEmpty_bne _) | (simp; exact isEmpty_beq _)), H', ⟨by have := HJ1.out; have := HJ8.out; have := HK3.out; have := HK4.out; omega⟩, ⟨by (with_reducible repeat (first | apply Kd.R_alloc | apply Kd.R_drewN | apply Kd.R_drew)); exact HO_4.out⟩, ⟨by (with_reducible repeat (first | refine blk_drewN ?_ _ | refine blk_drew ?_ | refine blk_alloc ?_ _)); exact BK339.out⟩, ⟨by repeat (first | (with_reducible first | exact HB.out | apply below_alloc | apply pw_below_drewN | apply below_drew1 | refine below_set ?_ GE339.out) | exact HB.out)⟩⟩
           ·rw [if_neg c32] at H
            have c32b0 : decide (x9_4 < 4) = false := decide_eq_false c32
            clear c32
            obtain ⟨ji33, hji33⟩ : ∃ j_ : Int, (wrap64 ((t340.length : Int) - 1)) = j_ := ⟨_, rfl⟩
            replace H : (if 0 ≤ (ji33) then (if (ji33) < (t340.length : Int) then ((lanternref05_part.f k4 (rdOf ByteArray.empty t340 (ji33))).bind fun t346 => (if t346 < 0 then (some (false, 0, 0, 0, 0, 0, 0, 0, 0, 0, 0, 0, 0, 0, 0, 0, 0, false)) else (if t346 ≥ x8_4 then (some (false, 0, 0, 0, 0, 0, 0, 0, 0, 0, 0, 0, 0, 0, 0, 0, 0, false)) else ((lanternref05_V4.f k4 (IntKind.u64.wrap (wrap64 (x5_4 + t346)))).bind fun bt347 => (some (bt347.1, bt347.2.1, bt347.2.2.1, bt347.2.2.2.1, bt347.2.2.2.2.1, bt347.2.2.2.2.2.1, bt347.2.2.2.2.2.2.1, bt347.2.2.2.2.2.2.2.1, bt347.2.2.2.2.2.2.2.2.1, bt347.2.2.2.2.2.2.2.2.2.1, bt347.2.2.2.2.2.2.2.2.2.2.1, bt347.2.2.2.2.2.2.2.2.2.2.2.1, bt347.2.2.2.2.2.2.2.2.2.2.2.2.1, bt347.2.2.2.2.2.2.2.2.2.2.2.2.2.1, bt347.2.2.2.2.2.2.2.2.2.2.2.2.2.2.1, bt347.2.2.2.2.2.2.2.2.2.2.2.2.2.2.2.1, bt347.2.2.2.2.2.2.2.2.2.2.2.2.2.2.2.2, true)))))) else (none)) else (none)) = some (r1, r2, r3, r4, r5, r6, r7, r8, r9, r10, r11, r12, r13, r14, r15, r16, r17, r18) := by first | (rw [hji33] at H; exact H) | (simp only [hji33] at H ⊢; exact H)
            (try rw [hji33] at c22b0)
            have hji33w : (IntKind.i64.wrap ((t340.length : Int) - 1)) = ji33 := (i64_w _).trans hji33
            by_cases c34 : 0 ≤ (ji33)
            ·rw [if_pos c34] at H
             have c34b0 : decide (0 ≤ (ji33)) = true := decide_eq_true c34
             clear c34
             by_cases c35 : (ji33) < (t340.length : Int)
             ·rw [if_pos c35] at H
              have c35b0 : decide ((ji33) < (t340.length : Int)) = true := decide_eq_true c35
              clear c35
              replace H := Option.bind_eq_some_iff.mp H
              obtain ⟨t346, A360, H⟩ := H
              replace H : (if t346 < 0 then (some (false, 0, 0, 0, 0, 0, 0, 0, 0, 0, 0, 0, 0, 0, 0, 0, 0, false)) else (if t346 ≥ x8_4 then (some (false, 0, 0, 0, 0, 0, 0, 0, 0, 0, 0, 0, 0, 0, 0, 0, 0, false)) else ((lanternref05_V4.f k4 (IntKind.u64.wrap (wrap64 (x5_4 + t346)))).bind fun bt347 => (some (bt347.1, bt347.2.1, bt347.2.2.1, bt347.2.2.2.1, bt347.2.2.2.2.1, bt347.2.2.2.2.2.1, bt347.2.2.2.2.2.2.1, bt347.2.2.2.2.2.2.2.1, bt347.2.2.2.2.2.2.2.2.1, bt347.2.2.2.2.2.2.2.2.2.1, bt347.2.2.2.2.2.2.2.2.2.2.1, bt347.2.2.2.2.2.2.2.2.2.2.2.1, bt347.2.2.2.2.2.2.2.2.2.2.2.2.1, bt347.2.2.2.2.2.2.2.2.2.2.2.2.2.1, bt347.2.2.2.2.2.2.2.2.2.2.2.2.2.2.1, bt347.2.2.2.2.2.2.2.2.2.2.2.2.2.2.2.1, bt347.2.2.2.2.2.2.2.2.2.2.2.2.2.2.2.2, true))))) = some (r1, r2, r3, r4, r5, r6, r7, r8, r9, r10, r11, r12, r13, r14, r15, r16, r17, r18) := H
              have A36 := Aside0.mk A360
              clear A360
              by_cases c37 : t346 < 0
              ·rw [if_pos c37] at H
               have c37b0 : decide (t346 < 0) = true := decide_eq_true c37
               clear c37
               simp only [Option.some.injEq, Prod.mk.injEq] at H
               obtain ⟨rfl, rfl, rfl, rfl, rfl, rfl, rfl, rfl, rfl, rfl, rfl, rfl, rfl, rfl, rfl, rfl, rfl, rfl⟩ := H
               have p345 : 0 ≤ ((ji33) : Int) := of_decide_eq_true (by first | (with_reducible assumption) | assumption)
               have q345 : (ji33) < (t340.length : Int) := of_decide_eq_true (by first | (with_reducible assumption) | assumption)
               obtain ⟨ad345, e345, hx345_0⟩ := Kd.at_string (Kd.R_reads' HO_4.out).2.2 (ji33) p345 q345
               cases e345
               replace p345 := eq_true p345
               replace q345 := eq_true q345
               go_wp2_with (first | ((with_reducible refine gate_callee (f := 27) rfl ?_); refine goesL_ (some 73) rfl rfl Tryd.func27 (by kernel_rfl) rfl #[.string (rdOf ByteArray.empty t340 (ji33))] rfl (by (try simp only [List.map_toArray, List.map_cons, List.map_nil]); first | done | (simp only [hji33]; rfl) | rfl | (simp only [List.length_drop, List.length_take]; rfl)) ?_; (with_reducible refine (lanternref05_part.calls k4 (rdOf ByteArray.empty t340 (ji33)) t346 _ ?side1 A36.out).mono ?_); (case side1 => exact LW.below HLW.out (by repeat (first | (with_reducible first | exact HB.out | apply below_alloc | apply pw_below_drewN | apply below_drew1 | refine below_set ?_ GE339.out) | exact HB.out))); rintro e w' ⟨rfl, ⟨nd, rfl⟩⟩; refine ⟨_, rfl, ?_⟩; (try (rw [drewN_self wr]; generalize hq_ : World.drewN wr _ = wr; have n0_ : Aside0 (Kd.R Kd.string 9 wr w.heap.size (fun _ => True) (.slice (some ad345) t340.length co21) t340) := ⟨by rw [← hq_]; exact (by (with_reducible repeat (first | apply Kd.R_alloc | apply Kd.R_drewN | apply Kd.R_drew)); exact HO_4.out)⟩; have n1_ : Aside0 (wr.heap[gb339]? = some (.cells #[.bool x340000_3, .int .u8 x340001_3, .int .u8 x340002_3, .int .u8 x340003_3, .int .u8 x340004_3, .int .u8 x340005_3, .int .u8 x340006_3, .int .u8 x340007_3, .int .u8 x340008_3, .int .u8 x340009_3, .int .u8 x340010_3, .int .u8 x340011_3, .int .u8 x340012_3, .int .u8 x340013_3, .int .u8 x340014_3, .int .u8 x340015_3, .int .u8 x340016_3] 25 (0, 0))) := ⟨by rw [← hq_]; exact (by (with_reducible repeat (first | refine blk_drewN ?_ _ | refine blk_drew ?_ | refine blk_alloc ?_ _)); exact BK339.out)⟩; have n2_ : Aside0 (Below w.heap.size w wr) := ⟨by rw [← hq_]; exact (by repeat (first | (with_reducible first | exact HB.out | apply below_alloc | apply pw_below_drewN | apply below_drew1 | refine below_set ?_ GE339.out) | exact HB.out))⟩; clear HO_4 BK339 HB hq_; have HO_4 := n0_; have BK339 := n1_; have HB := n2_; clear n0_ n1_ n2_)); have hcz38_0 : wr.cell? ⟨gb339, 0, none⟩ = some (.bool x340000_3) := (blk_cell BK339.out 0).trans rfl; have hcz38_1 : wr.cell? ⟨gb339, 1, none⟩ = some (.int .u8 x340001_3) := (blk_cell BK339.out 1).trans rfl; have hcz38_2 : wr.cell? ⟨gb339, 2, none⟩ = some (.int .u8 x340002_3) := (blk_cell BK339.out 2).trans rfl; have hcz38_3 : wr.cell? ⟨gb339, 3, none⟩ = some (.int .u8 x340003_3) := (blk_cell BK339.out 3).trans rfl; have hcz38_4 : wr.cell? ⟨gb339, 4, none⟩ = some (.int .u8 x340004_3) := (blk_cell BK339.out 4).trans rfl; have hcz38_5 : wr.cell? ⟨gb339, 5, none⟩ = some (.int .u8 x340005_3) := (blk_cell BK339.out 5).trans rfl; have hcz38_6 : wr.cell? ⟨gb339, 6, none⟩ = some (.int .u8 x340006_3) := (blk_cell BK339.out 6).trans rfl; have hcz38_7 : wr.cell? ⟨gb339, 7, none⟩ = some (.int .u8 x340007_3) := (blk_cell BK339.out 7).trans rfl; have hcz38_8 : wr.cell? ⟨gb339, 8, none⟩ = some (.int .u8 x340008_3) := (blk_cell BK339.out 8).trans rfl; have hcz38_9 : wr.cell? ⟨gb339, 9, none⟩ = some (.int .u8 x340009_3) := (blk_cell BK339.out 9).trans rfl; have hcz38_10 : wr.cell? ⟨gb339, 10, none⟩ = some (.int .u8 x340010_3) := (blk_cell BK339.out 10).trans rfl; have hcz38_11 : wr.cell? ⟨gb339, 11, none⟩ = some (.int .u8 x340011_3) := (blk_cell BK339.out 11).trans rfl; have hcz38_12 : wr.cell? ⟨gb339, 12, none⟩ = some (.int .u8 x340012_3) := (blk_cell BK339.out 12).trans rfl; have hcz38_13 : wr.cell? ⟨gb339, 13, none⟩ = some (.int .u8 x340013_3) := (blk_cell BK339.out 13).trans rfl; have hcz38_14 : wr.cell? ⟨gb339, 14, none⟩ = some (.int .u8 x340014_3) := (blk_cell BK339.out 14).trans rfl; have hcz38_15 : wr.cell? ⟨gb339, 15, none⟩ = some (.int .u8 x340015_3) := (blk_cell BK339.out 15).trans rfl; have hcz38_16 : wr.cell? ⟨gb339, 16, none⟩ = some (.int .u8 x340016_3) := (blk_cell BK339.out 16).trans rfl; have hfz38_0 := blk_frozen BK339.out 0; have hfz38_1 := blk_frozen BK339.out 1; have hfz38_2 := blk_frozen BK339.out 2; have hfz38_3 := blk_frozen BK339.out 3; have hfz38_4 := blk_frozen BK339.out 4; have hfz38_5 := blk_frozen BK339.out 5; have hfz38_6 := blk_frozen BK339.out 6; have hfz38_7 := blk_frozen BK339.out 7; have hfz38_8 := blk_frozen BK339.out 8; have hfz38_9 := blk_frozen BK339.out 9; have hfz38_10 := blk_frozen BK339.out 10; have hfz38_11 := blk_frozen BK339.out 11; have hfz38_12 := blk_frozen BK339.out 12; have hfz38_13 := blk_frozen BK339.out 13; have hfz38_14 := blk_frozen BK339.out 14; have hfz38_15 := blk_frozen BK339.out 15; have hfz38_16 := blk_frozen BK339.out 16) | ((with_reducible refine gate_store (t := 25) (p := 2) rfl ?_); refine store_all ?hg 25 2 _ rfl rfl gb339 [.bool x340000_3, .int .u8 x340001_3, .int .u8 x340002_3, .int .u8 x340003_3, .int .u8 x340004_3, .int .u8 x340005_3, .int .u8 x340006_3, .int .u8 x340007_3, .int .u8 x340008_3, .int .u8 x340009_3, .int .u8 x340010_3, .int .u8 x340011_3, .int .u8 x340012_3, .int .u8 x340013_3, .int .u8 x340014_3, .int .u8 x340015_3, .int .u8 x340016_3] [.bool false, .int .u8 0, .int .u8 0, .int .u8 0, .int .u8 0, .int .u8 0, .int .u8 0, .int .u8 0, .int .u8 0, .int .u8 0, .int .u8 0, .int .u8 0, .int .u8 0, .int .u8 0, .int .u8 0, .int .u8 0, .int .u8 0] BK339.out rfl rfl rfl (by kernel_rfl) rfl ?_; (case hg => rfl); intro w39 hw; have n0_ : Aside0 (Kd.R Kd.string 9 w39 w.heap.size (fun _ => True) (.slice (some ad345) t340.length co21) t340) := ⟨(by rw [hw]; exact (by (with_reducible repeat (first | apply Kd.R_alloc | apply Kd.R_drewN | apply Kd.R_drew)); exact Kd.R_mono (R_farC (g := gb339) (fun _ hk => hk.2) (Kd.R_types HO_4.out BK339.out (by decide)) [.bool false, .int .u8 0, .int .u8 0, .int .u8 0, .int .u8 0, .int .u8 0, .int .u8 0, .int .u8 0, .int .u8 0, .int .u8 0, .int .u8 0, .int .u8 0, .int .u8 0, .int .u8 0, .int .u8 0, .int .u8 0, .int .u8 0] 0) (fun _ hk => trivial)))⟩; have n1_ : Aside0 (w39.heap[gb339]? = some (.cells #[.bool false, .int .u8 0, .int .u8 0, .int .u8 0, .int .u8 0, .int .u8 0, .int .u8 0, .int .u8 0, .int .u8 0, .int .u8 0, .int .u8 0, .int .u8 0, .int .u8 0, .int .u8 0, .int .u8 0, .int .u8 0, .int .u8 0] 25 (0, 0))) := ⟨(by rw [hw]; exact (by (with_reducible repeat (first | refine blk_drewN ?_ _ | refine blk_drew ?_ | refine blk_alloc ?_ _)); refine blk_part [.bool false, .int .u8 0, .int .u8 0, .int .u8 0, .int .u8 0, .int .u8 0, .int .u8 0, .int .u8 0, .int .u8 0, .int .u8 0, .int .u8 0, .int .u8 0, .int .u8 0, .int .u8 0, .int .u8 0, .int .u8 0, .int .u8 0] [.bool x340000_3, .int .u8 x340001_3, .int .u8 x340002_3, .int .u8 x340003_3, .int .u8 x340004_3, .int .u8 x340005_3, .int .u8 x340006_3, .int .u8 x340007_3, .int .u8 x340008_3, .int .u8 x340009_3, .int .u8 x340010_3, .int .u8 x340011_3, .int .u8 x340012_3, .int .u8 x340013_3, .int .u8 x340014_3, .int .u8 x340015_3, .int .u8 x340016_3] [] [] (cs := #[.bool x340000_3, .int .u8 x340001_3, .int .u8 x340002_3, .int .u8 x340003_3, .int .u8 x340004_3, .int .u8 x340005_3, .int .u8 x340006_3, .int .u8 x340007_3, .int .u8 x340008_3, .int .u8 x340009_3, .int .u8 x340010_3, .int .u8 x340011_3, .int .u8 x340012_3, .int .u8 x340013_3, .int .u8 x340014_3, .int .u8 x340015_3, .int .u8 x340016_3]) ?_ rfl rfl rfl; (with_reducible repeat (first | refine blk_drewN ?_ _ | refine blk_drew ?_ | refine blk_alloc ?_ _)); exact BK339.out))⟩; have n2_ : Aside0 (Below w.heap.size w w39) := ⟨(by rw [hw]; exact (by repeat (first | (with_reducible first | exact HB.out | apply below_alloc | apply pw_below_drewN | apply below_drew1 | refine below_set ?_ GE339.out | refine below_setC GE339.out _ _ ?_) | exact HB.out)))⟩; clear hw; clear HO_4; clear BK339; clear HB; have HO_4 := n0_; have BK339 := n1_; have HB := n2_; clear n0_ n1_ n2_))
               refine bodyPost_ret (results_ct rfl _ _ gb339 25 #[.bool false, .int .u8 0, .int .u8 0, .int .u8 0, .int .u8 0, .int .u8 0, .int .u8 0, .int .u8 0, .int .u8 0, .int .u8 0, .int .u8 0, .int .u8 0, .int .u8 0, .int .u8 0, .int .u8 0, .int .u8 0, .int .u8 0] (0, 0) _ rfl (by (with_reducible repeat (first | refine blk_drewN ?_ _ | refine blk_drew ?_ | refine blk_alloc ?_ _)); exact BK339.out) Tryd.underlying25 rfl (by kernel_rfl)) rfl ?_
               exact ⟨by first | rfl | (simp [errW_none, errW_some] <;> rfl) | (simp only [← hji33]; first | rfl | (simp [errW_none, errW_some] <;> rfl)) | (simp [*, errW_none, errW_some] <;> rfl) | (simp [errW_none, errW_some]; first | exact isEmpty_bne _ | exact isEmpty_beq _ | exact (isEmpty_bne _).symm), by repeat (first | (with_reducible first | exact HB.out | apply below_alloc | apply pw_below_drewN | apply below_drew1 | refine below_set ?_ GE339.out) | exact HB.out)⟩
              ·rw [if_neg c37] at H
               have c37b0 : decide (t346 < 0) = false := decide_eq_false c37
               clear c37
               by_cases c40 : t346 ≥ x8_4
               ·rw [if_pos c40] at H
                have c40b0 : decide (x8_4 ≤ t346) = true := decide_eq_true c40
                clear c40
                simp only [Option.some.injEq, Prod.mk.injEq] at H
                obtain ⟨rfl, rfl, rfl, rfl, rfl, rfl, rfl, rfl, rfl, rfl, rfl, rfl, rfl, rfl, rfl, rfl, rfl, rfl⟩ := H
                have p345 : 0 ≤ ((ji33) : Int) := of_decide_eq_true (by first | (with_reducible assumption) | assumption)
                have q345 : (ji33) < (t340.length : Int) := of_decide_eq_true (by first | (with_reducible assumption) | assumption)
                obtain ⟨ad345, e345, hx345_0⟩ := Kd.at_string (Kd.R_reads' HO_4.out).2.2 (ji33) p345 q345
                cases e345
                replace p345 := eq_true p345
                replace q345 := eq_true q345
                go_wp2_with (first | ((with_reducible refine gate_callee (f := 27) rfl ?_); refine goesL_ (some 73) rfl rfl Tryd.func27 (by kernel_rfl) rfl #[.string (rdOf ByteArray.empty t340 (ji33))] rfl (by (try simp only [List.map_toArray, List.map_cons, List.map_nil]); first | done | (simp only [hji33]; rfl) | rfl | (simp only [List.length_drop, List.length_take]; rfl)) ?_; (with_reducible refine (lanternref05_part.calls k4 (rdOf ByteArray.empty t340 (ji33)) t346 _ ?side1 A36.out).mono ?_); (case side1 => exact LW.below HLW.out (by repeat (first | (with_reducible first | exact HB.out | apply below_alloc | apply pw_below_drewN | apply below_drew1 | refine below_set ?_ GE339.out) | exact HB.out))); rintro e w' ⟨rfl, ⟨nd, rfl⟩⟩; refine ⟨_, rfl, ?_⟩; (try (rw [drewN_self wr]; generalize hq_ : World.drewN wr _ = wr; have n0_ : Aside0 (Kd.R Kd.string 9 wr w.heap.size (fun _ => True) (.slice (some ad345) t340.length co21) t340) := ⟨by rw [← hq_]; exact (by (with_reducible repeat (first | apply Kd.R_alloc | apply Kd.R_drewN | apply Kd.R_drew)); exact HO_4.out)⟩; have n1_ : Aside0 (wr.heap[gb339]? = some (.cells #[.bool x340000_3, .int .u8 x340001_3, .int .u8 x340002_3, .int .u8 x340003_3, .int .u8 x340004_3, .int .u8 x340005_3, .int .u8 x340006_3, .int .u8 x340007_3, .int .u8 x340008_3, .int .u8 x340009_3, .int .u8 x340010_3, .int .u8 x340011_3, .int .u8 x340012_3, .int .u8 x340013_3, .int .u8 x340014_3, .int .u8 x340015_3, .int .u8 x340016_3] 25 (0, 0))) := ⟨by rw [← hq_]; exact (by (with_reducible repeat (first | refine blk_drewN ?_ _ | refine blk_drew ?_ | refine blk_alloc ?_ _)); exact BK339.out)⟩; have n2_ : Aside0 (Below w.heap.size w wr) := ⟨by rw [← hq_]; exact (by repeat (first | (with_reducible first | exact HB.out | apply below_alloc | apply pw_below_drewN | apply below_drew1 | refine below_set ?_ GE339.out) | exact HB.out))⟩; clear HO_4 BK339 HB hq_; have HO_4 := n0_; have BK339 := n1_; have HB := n2_; clear n0_ n1_ n2_)); have hcz41_0 : wr.cell? ⟨gb339, 0, none⟩ = some (.bool x340000_3) := (blk_cell BK339.out 0).trans rfl; have hcz41_1 : wr.cell? ⟨gb339, 1, none⟩ = some (.int .u8 x340001_3) := (blk_cell BK339.out 1).trans rfl; have hcz41_2 : wr.cell? ⟨gb339, 2, none⟩ = some (.int .u8 x340002_3) := (blk_cell BK339.out 2).trans rfl; have hcz41_3 : wr.cell? ⟨gb339, 3, none⟩ = some (.int .u8 x340003_3) := (blk_cell BK339.out 3).trans rfl; have hcz41_4 : wr.cell? ⟨gb339, 4, none⟩ = some (.int .u8 x340004_3) := (blk_cell BK339.out 4).trans rfl; have hcz41_5 : wr.cell? ⟨gb339, 5, none⟩ = some (.int .u8 x340005_3) := (blk_cell BK339.out 5).trans rfl; have hcz41_6 : wr.cell? ⟨gb339, 6, none⟩ = some (.int .u8 x340006_3) := (blk_cell BK339.out 6).trans rfl; have hcz41_7 : wr.cell? ⟨gb339, 7, none⟩ = some (.int .u8 x340007_3) := (blk_cell BK339.out 7).trans rfl; have hcz41_8 : wr.cell? ⟨gb339, 8, none⟩ = some (.int .u8 x340008_3) := (blk_cell BK339.out 8).trans rfl; have hcz41_9 : wr.cell? ⟨gb339, 9, none⟩ = some (.int .u8 x340009_3) := (blk_cell BK339.out 9).trans rfl; have hcz41_10 : wr.cell? ⟨gb339, 10, none⟩ = some (.int .u8 x340010_3) := (blk_cell BK339.out 10).trans rfl; have hcz41_11 : wr.cell? ⟨gb339, 11, none⟩ = some (.int .u8 x340011_3) := (blk_cell BK339.out 11).trans rfl; have hcz41_12 : wr.cell? ⟨gb339, 12, none⟩ = some (.int .u8 x340012_3) := (blk_cell BK339.out 12).trans rfl; have hcz41_13 : wr.cell? ⟨gb339, 13, none⟩ = some (.int .u8 x340013_3) := (blk_cell BK339.out 13).trans rfl; have hcz41_14 : wr.cell? ⟨gb339, 14, none⟩ = some (.int .u8 x340014_3) := (blk_cell BK339.out 14).trans rfl; have hcz41_15 : wr.cell? ⟨gb339, 15, none⟩ = some (.int .u8 x340015_3) := (blk_cell BK339.out 15).trans rfl; have hcz41_16 : wr.cell? ⟨gb339, 16, none⟩ = some (.int .u8 x340016_3) := (blk_cell BK339.out 16).trans rfl; have hfz41_0 := blk_frozen BK339.out 0; have hfz41_1 := blk_frozen BK339.out 1; have hfz41_2 := blk_frozen BK339.out 2; have hfz41_3 := blk_frozen BK339.out 3; have hfz41_4 := blk_frozen BK339.out 4; have hfz41_5 := blk_frozen BK339.out 5; have hfz41_6 := blk_frozen BK339.out 6; have hfz41_7 := blk_frozen BK339.out 7; have hfz41_8 := blk_frozen BK339.out 8; have hfz41_9 := blk_frozen BK339.out 9; have hfz41_10 := blk_frozen BK339.out 10; have hfz41_11 := blk_frozen BK339.out 11; have hfz41_12 := blk_frozen BK339.out 12; have hfz41_13 := blk_frozen BK339.out 13; have hfz41_14 := blk_frozen BK339.out 14; have hfz41_15 := blk_frozen BK339.out 15; have hfz41_16 := blk_frozen BK339.out 16) | ((with_reducible refine gate_store (t := 25) (p := 2) rfl ?_); refine store_all ?hg 25 2 _ rfl rfl gb339 [.bool x340000_3, .int .u8 x340001_3, .int .u8 x340002_3, .int .u8 x340003_3, .int .u8 x340004_3, .int .u8 x340005_3, .int .u8 x340006_3, .int .u8 x340007_3, .int .u8 x340008_3, .int .u8 x340009_3, .int .u8 x340010_3, .int .u8 x340011_3, .int .u8 x340012_3, .int .u8 x340013_3, .int .u8 x340014_3, .int .u8 x340015_3, .int .u8 x340016_3] [.bool false, .int .u8 0, .int .u8 0, .int .u8 0, .int .u8 0, .int .u8 0, .int .u8 0, .int .u8 0, .int .u8 0, .int .u8 0, .int .u8 0, .int .u8 0, .int .u8 0, .int .u8 0, .int .u8 0, .int .u8 0, .int .u8 0] BK339.out rfl rfl rfl (by kernel_rfl) rfl ?_; (case hg => rfl); intro w42 hw; have n0_ : Aside0 (Kd.R Kd.string 9 w42 w.heap.size (fun _ => True) (.slice (some ad345) t340.length co21) t340) := ⟨(by rw [hw]; exact (by (with_reducible repeat (first | apply Kd.R_alloc | apply Kd.R_drewN | apply Kd.R_drew)); exact Kd.R_mono (R_farC (g := gb339) (fun _ hk => hk.2) (Kd.R_types HO_4.out BK339.out (by decide)) [.bool false, .int .u8 0, .int .u8 0, .int .u8 0, .int .u8 0, .int .u8 0, .int .u8 0, .int .u8 0, .int .u8 0, .int .u8 0, .int .u8 0, .int .u8 0, .int .u8 0, .int .u8 0, .int .u8 0, .int .u8 0, .int .u8 0] 0) (fun _ hk => trivial)))⟩; have n1_ : Aside0 (w42.heap[gb339]? = some (.cells #[.bool false, .int .u8 0, .int .u8 0, .int .u8 0, .int .u8 0, .int .u8 0, .int .u8 0, .int .u8 0, .int .u8 0, .int .u8 0, .int .u8 0, .int .u8 0, .int .u8 0, .int .u8 0, .int .u8 0, .int .u8 0, .int .u8 0] 25 (0, 0))) := ⟨(by rw [hw]; exact (by (with_reducible repeat (first | refine blk_drewN ?_ _ | refine blk_drew ?_ | refine blk_alloc ?_ _)); refine blk_part [.bool false, .int .u8 0, .int .u8 0, .int .u8 0, .int .u8 0, .int .u8 0, .int .u8 0, .int .u8 0, .int .u8 0, .int .u8 0, .int .u8 0, .int .u8 0, .int .u8 0, .int .u8 0, .int .u8 0, .int .u8 0, .int .u8 0] [.bool x340000_3, .int .u8 x340001_3, .int .u8 x340002_3, .int .u8 x340003_3, .int .u8 x340004_3, .int .u8 x340005_3, .int .u8 x340006_3, .int .u8 x340007_3, .int .u8 x340008_3, .int .u8 x340009_3, .int .u8 x340010_3, .int .u8 x340011_3, .int .u8 x340012_3, .int .u8 x340013_3, .int .u8 x340014_3, .int .u8 x340015_3, .int .u8 x340016_3] [] [] (cs := #[.bool x340000_3, .int .u8 x340001_3, .int .u8 x340002_3, .int .u8 x340003_3, .int .u8 x340004_3, .int .u8 x340005_3, .int .u8 x340006_3, .int .u8 x340007_3, .int .u8 x340008_3, .int .u8 x340009_3, .int .u8 x340010_3, .int .u8 x340011_3, .int .u8 x340012_3, .int .u8 x340013_3, .int .u8 x340014_3, .int .u8 x340015_3, .int .u8 x340016_3]) ?_ rfl rfl rfl; (with_reducible repeat (first | refine blk_drewN ?_ _ | refine blk_drew ?_ | refine blk_alloc ?_ _)); exact BK339.out))⟩; have n2_ : Aside0 (Below w.heap.size w w42) := ⟨(by rw [hw]; exact (by repeat (first | (with_reducible first | exact HB.out | apply below_alloc | apply pw_below_drewN | apply below_drew1 | refine below_set ?_ GE339.out | refine below_setC GE339.out _ _ ?_) | exact HB.out)))⟩; clear hw; clear HO_4; clear BK339; clear HB; have HO_4 := n0_; have BK339 := n1_; have HB := n2_; clear n0_ n1_ n2_))
                refine bodyPost_ret (results_ct rfl _ _ gb339 25 #[.bool false, .int .u8 0, .int .u8 0, .int .u8 0, .int .u8 0, .int .u8 0, .int .u8 0, .int .u8 0, .int .u8 0, .int .u8 0, .int .u8 0, .int .u8 0, .int .u8 0, .int .u8 0, .int .u8 0, .int .u8 0, .int .u8 0] (0, 0) _ rfl (by (with_reducible repeat (first | refine blk_drewN ?_ _ | refine blk_drew ?_ | refine blk_alloc ?_ _)); exact BK339.out) Tryd.underlying25 rfl (by kernel_rfl)) rfl ?_
                exact ⟨by first | rfl | (simp [errW_none, errW_some] <;> rfl) | (simp only [← hji33]; first | rfl | (simp [errW_none, errW_some] <;> rfl)) | (simp [*, errW_none, errW_some] <;> rfl) | (simp [errW_none, errW_some]; first | exact isEmpty_bne _ | exact isEmpty_beq _ | exact (isEmpty_bne _).symm), by repeat (first | (with_reducible first | exact HB.out | apply below_alloc | apply pw_below_drewN | apply below_drew1 | refine below_set ?_ GE339.out) | exact HB.out)⟩
               ·rw [if_neg c40] at H
                have c40b0 : decide (x8_4 ≤ t346) = false := decide_eq_false c40
                clear c40
                replace H := Option.bind_eq_some_iff.mp H
                obtain ⟨⟨t347, t348, t349, t350, t351, t352, t353, t354, t355, t356, t357, t358, t359, t360, t361, t362, t363⟩, A430, H⟩ := H
                replace H : (some (t347, t348, t349, t350, t351, t352, t353, t354, t355, t356, t357, t358, t359, t360, t361, t362, t363, true)) = some (r1, r2, r3, r4, r5, r6, r7, r8, r9, r10, r11, r12, r13, r14, r15, r16, r17, r18) := H
                have A43 := Aside0.mk A430
                clear A430
                simp only [Option.some.injEq, Prod.mk.injEq] at H
                obtain ⟨rfl, rfl, rfl, rfl, rfl, rfl, rfl, rfl, rfl, rfl, rfl, rfl, rfl, rfl, rfl, rfl, rfl, rfl⟩ := H
                have p345 : 0 ≤ ((ji33) : Int) := of_decide_eq_true (by first | (with_reducible assumption) | assumption)
                have q345 : (ji33) < (t340.length : Int) := of_decide_eq_true (by first | (with_reducible assumption) | assumption)
                obtain ⟨ad345, e345, hx345_0⟩ := Kd.at_string (Kd.R_reads' HO_4.out).2.2 (ji33) p345 q345
                cases e345
                replace p345 := eq_true p345
                replace q345 := eq_true q345
                go_wp2_with (first | ((with_reducible refine gate_callee (f := 27) rfl ?_); refine goesL_ (some 73) rfl rfl Tryd.func27 (by kernel_rfl) rfl #[.string (rdOf ByteArray.empty t340 (ji33))] rfl (by (try simp only [List.map_toArray, List.map_cons, List.map_nil]); first | done | (simp only [hji33]; rfl) | rfl | (simp only [List.length_drop, List.length_take]; rfl)) ?_; (with_reducible refine (lanternref05_part.calls k4 (rdOf ByteArray.empty t340 (ji33)) t346 _ ?side1 A36.out).mono ?_); (case side1 => exact LW.below HLW.out (by repeat (first | (with_reducible first | exact HB.out | apply below_alloc | apply pw_below_drewN | apply below_drew1 | refine below_set ?_ GE339.out) | exact HB.out))); rintro e w' ⟨rfl, ⟨nd, rfl⟩⟩; refine ⟨_, rfl, ?_⟩; (try (rw [drewN_self wr]; generalize hq_ : World.drewN wr _ = wr; have n0_ : Aside0 (Kd.R Kd.string 9 wr w.heap.size (fun _ => True) (.slice (some ad345) t340.length co21) t340) := ⟨by rw [← hq_]; exact (by (with_reducible repeat (first | apply Kd.R_alloc | apply Kd.R_drewN | apply Kd.R_drew)); exact HO_4.out)⟩; have n1_ : Aside0 (wr.heap[gb339]? = some (.cells #[.bool x340000_3, .int .u8 x340001_3, .int .u8 x340002_3, .int .u8 x340003_3, .int .u8 x340004_3, .int .u8 x340005_3, .int .u8 x340006_3, .int .u8 x340007_3, .int .u8 x340008_3, .int .u8 x340009_3, .int .u8 x340010_3, .int .u8 x340011_3, .int .u8 x340012_3, .int .u8 x340013_3, .int .u8 x340014_3, .int .u8 x340015_3, .int .u8 x340016_3] 25 (0, 0))) := ⟨by rw [← hq_]; exact (by (with_reducible repeat (first | refine blk_drewN ?_ _ | refine blk_drew ?_ | refine blk_alloc ?_ _)); exact BK339.out)⟩; have n2_ : Aside0 (Below w.heap.size w wr) := ⟨by rw [← hq_]; exact (by repeat (first | (with_reducible first | exact HB.out | apply below_alloc | apply pw_below_drewN | apply below_drew1 | refine below_set ?_ GE339.out) | exact HB.out))⟩; clear HO_4 BK339 HB hq_; have HO_4 := n0_; have BK339 := n1_; have HB := n2_; clear n0_ n1_ n2_))) | ((with_reducible refine gate_callee (f := 16) rfl ?_); refine goesL_ (some 86) rfl rfl Tryd.func16 (by kernel_rfl) rfl #[.int .u64 (IntKind.u64.wrap (wrap64 (x5_4 + t346)))] rfl (by (try simp only [List.map_toArray, List.map_cons, List.map_nil]); first | done | rfl | (simp only [List.length_drop, List.length_take]; rfl)) ?_; (with_reducible refine (lanternref05_V4.calls k4 (IntKind.u64.wrap (wrap64 (x5_4 + t346))) t347 t348 t349 t350 t351 t352 t353 t354 t355 t356 t357 t358 t359 t360 t361 t362 t363 _ ?side1 A43.out).mono ?_); (case side1 => exact LW.below HLW.out (by repeat (first | (with_reducible first | exact HB.out | apply below_alloc | apply pw_below_drewN | apply below_drew1 | refine below_set ?_ GE339.out) | exact HB.out))); rintro e w44 ⟨rfl, hb⟩; refine ⟨_, rfl, ?_⟩; have n0_ := Aside0.mk (Kd.R_below (by (with_reducible repeat (first | apply Kd.R_alloc | apply Kd.R_drewN | apply Kd.R_drew)); exact HO_4.out) hb); have n1_ := Aside0.mk (blk_below BK339.out hb); have n2_ := Aside0.mk (below_step (by repeat (first | (with_reducible first | exact HB.out | apply below_alloc | apply pw_below_drewN | apply below_drew1 | refine below_set ?_ GE339.out) | exact HB.out)) hb); clear HO_4; clear BK339; clear HB; have HO_4 := n0_; have BK339 := n1_; have HB := n2_; clear n0_ n1_ n2_; (try clear hb); (try clear hb2); (try clear hk); (try clear hi); have hcz45_0 : w44.cell? ⟨gb339, 0, none⟩ = some (.bool x340000_3) := (blk_cell BK339.out 0).trans rfl; have hcz45_1 : w44.cell? ⟨gb339, 1, none⟩ = some (.int .u8 x340001_3) := (blk_cell BK339.out 1).trans rfl; have hcz45_2 : w44.cell? ⟨gb339, 2, none⟩ = some (.int .u8 x340002_3) := (blk_cell BK339.out 2).trans rfl; have hcz45_3 : w44.cell? ⟨gb339, 3, none⟩ = some (.int .u8 x340003_3) := (blk_cell BK339.out 3).trans rfl; have hcz45_4 : w44.cell? ⟨gb339, 4, none⟩ = some (.int .u8 x340004_3) := (blk_cell BK339.out 4).trans rfl; have hcz45_5 : w44.cell? ⟨gb339, 5, none⟩ = some (.int .u8 x340005_3) := (blk_cell BK339.out 5).trans rfl; have hcz45_6 : w44.cell? ⟨gb339, 6, none⟩ = some (.int .u8 x340006_3) := (blk_cell BK339.out 6).trans rfl; have hcz45_7 : w44.cell? ⟨gb339, 7, none⟩ = some (.int .u8 x340007_3) := (blk_cell BK339.out 7).trans rfl; have hcz45_8 : w44.cell? ⟨gb339, 8, none⟩ = some (.int .u8 x340008_3) := (blk_cell BK339.out 8).trans rfl; have hcz45_9 : w44.cell? ⟨gb339, 9, none⟩ = some (.int .u8 x340009_3) := (blk_cell BK339.out 9).trans rfl; have hcz45_10 : w44.cell? ⟨gb339, 10, none⟩ = some (.int .u8 x340010_3) := (blk_cell BK339.out 10).trans rfl; have hcz45_11 : w44.cell? ⟨gb339, 11, none⟩ = some (.int .u8 x340011_3) := (blk_cell BK339.out 11).trans rfl; have hcz45_12 : w44.cell? ⟨gb339, 12, none⟩ = some (.int .u8 x340012_3) := (blk_cell BK339.out 12).trans rfl; have hcz45_13 : w44.cell? ⟨gb339, 13, none⟩ = some (.int .u8 x340013_3) := (blk_cell BK339.out 13).trans rfl; have hcz45_14 : w44.cell? ⟨gb339, 14, none⟩ = some (.int .u8 x340014_3) := (blk_cell BK339.out 14).trans rfl; have hcz45_15 : w44.cell? ⟨gb339, 15, none⟩ = some (.int .u8 x340015_3) := (blk_cell BK339.out 15).trans rfl; have hcz45_16 : w44.cell? ⟨gb339, 16, none⟩ = some (.int .u8 x340016_3) := (blk_cell BK339.out 16).trans rfl; have hfz45_0 := blk_frozen BK339.out 0; have hfz45_1 := blk_frozen BK339.out 1; have hfz45_2 := blk_frozen BK339.out 2; have hfz45_3 := blk_frozen BK339.out 3; have hfz45_4 := blk_frozen BK339.out 4; have hfz45_5 := blk_frozen BK339.out 5; have hfz45_6 := blk_frozen BK339.out 6; have hfz45_7 := blk_frozen BK339.out 7; have hfz45_8 := blk_frozen BK339.out 8; have hfz45_9 := blk_frozen BK339.out 9; have hfz45_10 := blk_frozen BK339.out 10; have hfz45_11 := blk_frozen BK339.out 11; have hfz45_12 := blk_frozen BK339.out 12; have hfz45_13 := blk_frozen BK339.out 13; have hfz45_14 := blk_frozen BK339.out 14; have hfz45_15 := blk_frozen BK339.out 15; have hfz45_16 := blk_frozen BK339.out 16) | ((with_reducible refine gate_store (t := 25) (p := 2) rfl ?_); refine store_all ?hg 25 2 _ rfl rfl gb339 [.bool x340000_3, .int .u8 x340001_3, .int .u8 x340002_3, .int .u8 x340003_3, .int .u8 x340004_3, .int .u8 x340005_3, .int .u8 x340006_3, .int .u8 x340007_3, .int .u8 x340008_3, .int .u8 x340009_3, .int .u8 x340010_3, .int .u8 x340011_3, .int .u8 x340012_3, .int .u8 x340013_3, .int .u8 x340014_3, .int .u8 x340015_3, .int .u8 x340016_3] [.bool t347, .int .u8 t348, .int .u8 t349, .int .u8 t350, .int .u8 t351, .int .u8 t352, .int .u8 t353, .int .u8 t354, .int .u8 t355, .int .u8 t356, .int .u8 t357, .int .u8 t358, .int .u8 t359, .int .u8 t360, .int .u8 t361, .int .u8 t362, .int .u8 t363] BK339.out rfl rfl rfl (by kernel_rfl) rfl ?_; (case hg => rfl); intro w46 hw; have n0_ : Aside0 (Kd.R Kd.string 9 w46 w.heap.size (fun _ => True) (.slice (some ad345) t340.length co21) t340) := ⟨(by rw [hw]; exact (by (with_reducible repeat (first | apply Kd.R_alloc | apply Kd.R_drewN | apply Kd.R_drew)); exact Kd.R_mono (R_farC (g := gb339) (fun _ hk => hk.2) (Kd.R_types HO_4.out BK339.out (by decide)) [.bool t347, .int .u8 t348, .int .u8 t349, .int .u8 t350, .int .u8 t351, .int .u8 t352, .int .u8 t353, .int .u8 t354, .int .u8 t355, .int .u8 t356, .int .u8 t357, .int .u8 t358, .int .u8 t359, .int .u8 t360, .int .u8 t361, .int .u8 t362, .int .u8 t363] 0) (fun _ hk => trivial)))⟩; have n1_ : Aside0 (w46.heap[gb339]? = some (.cells #[.bool t347, .int .u8 t348, .int .u8 t349, .int .u8 t350, .int .u8 t351, .int .u8 t352, .int .u8 t353, .int .u8 t354, .int .u8 t355, .int .u8 t356, .int .u8 t357, .int .u8 t358, .int .u8 t359, .int .u8 t360, .int .u8 t361, .int .u8 t362, .int .u8 t363] 25 (0, 0))) := ⟨(by rw [hw]; exact (by (with_reducible repeat (first | refine blk_drewN ?_ _ | refine blk_drew ?_ | refine blk_alloc ?_ _)); refine blk_part [.bool t347, .int .u8 t348, .int .u8 t349, .int .u8 t350, .int .u8 t351, .int .u8 t352, .int .u8 t353, .int .u8 t354, .int .u8 t355, .int .u8 t356, .int .u8 t357, .int .u8 t358, .int .u8 t359, .int .u8 t360, .int .u8 t361, .int .u8 t362, .int .u8 t363] [.bool x340000_3, .int .u8 x340001_3, .int .u8 x340002_3, .int .u8 x340003_3, .int .u8 x340004_3, .int .u8 x340005_3, .int .u8 x340006_3, .int .u8 x340007_3, .int .u8 x340008_3, .int .u8 x340009_3, .int .u8 x340010_3, .int .u8 x340011_3, .int .u8 x340012_3, .int .u8 x340013_3, .int .u8 x340014_3, .int .u8 x340015_3, .int .u8 x340016_3] [] [] (cs := #[.bool x340000_3, .int .u8 x340001_3, .int .u8 x340002_3, .int .u8 x340003_3, .int .u8 x340004_3, .int .u8 x340005_3, .int .u8 x340006_3, .int .u8 x340007_3, .int .u8 x340008_3, .int .u8 x340009_3, .int .u8 x340010_3, .int .u8 x340011_3, .int .u8 x340012_3, .int .u8 x340013_3, .int .u8 x340014_3, .int .u8 x340015_3, .int .u8 x340016_3]) ?_ rfl rfl rfl; (with_reducible repeat (first | refine blk_drewN ?_ _ | refine blk_drew ?_ | refine blk_alloc ?_ _)); exact BK339.out))⟩; have n2_ : Aside0 (Below w.heap.size w w46) := ⟨(by rw [hw]; exact (by repeat (first | (with_reducible first | exact HB.out | apply below_alloc | apply pw_below_drewN | apply below_drew1 | refine below_set ?_ GE339.out | refine below_setC GE339.out _ _ ?_) | exact HB.out)))⟩; clear hw; clear HO_4; clear BK339; clear HB; have HO_4 := n0_; have BK339 := n1_; have HB := n2_; clear n0_ n1_ n2_))
                refine bodyPost_ret (results_ct rfl _ _ gb339 25 #[.bool t347, .int .u8 t348, .int .u8 t349, .int .u8 t350, .int .u8 t351, .int .u8 t352, .int .u8 t353, .int .u8 t354, .int .u8 t355, .int .u8 t356, .int .u8 t357, .int .u8 t358, .int .u8 t359, .int .u8 t360, .int .u8 t361, .int .u8 t362, .int .u8 t363] (0, 0) _ rfl (by (with_reducible repeat (first | refine blk_drewN ?_ _ | refine blk_drew ?_ | refine blk_alloc ?_ _)); exact BK339.out) Tryd.underlying25 rfl (by kernel_rfl)) rfl ?_
                exact ⟨by first | rfl | (simp [errW_none, errW_some] <;> rfl) | (simp only [← hji33]; first | rfl | (simp [errW_none, errW_some] <;> rfl)) | (simp [*, errW_none, errW_some] <;> rfl) | (simp [errW_none, errW_some]; first | exact isEmpty_bne _ | exact isEmpty_beq _ | exact (isEmpty_bne _).symm), by repeat (first | (with_reducible first | exact HB.out | apply below_alloc | apply pw_below_drewN | apply below_drew1 | refine below_set ?_ GE339.out) | exact HB.out)⟩
             ·rw [if_neg c35] at H
              exact absurd H (by simp)
            ·rw [if_neg c34] at H
             exact absurd H (by simp)

end Go.Proofs.YtfiefecjcmcejaaDoor.P
