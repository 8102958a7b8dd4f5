-- Written by a program of this session (wip/gen/lprint.py over the kit's print.py) out of the translation. Lean checks it.
import Derived.Test.YtlbgphddhjnlcaaGreatDoorP0
import Derived.Test.YtlbgphddhjnlcaaGreatDoorP1
namespace Go.Proofs.YtlbgphddhjnlcaaGreatDoor.P
open Go.Proofs.YtlbgphddhjnlcaaGreatDoor.E Go.Proofs.YtlbgphddhjnlcaaGreatDoorV
open Go.RowKit Go.Proofs.YtlbgphddhjnlcaaGreatDoorW.PrintWords Go.Proofs.YtlbgphddhjnlcaaGreatDoorW.PrintLast Go.Proofs.YtlbgphddhjnlcaaGreatDoorW.PrintMore
attribute [local go_sem] max2_int min2_int max_two min_two max_three min_three max_four min_four   -- for this text's walks alone
set_option linter.unusedVariables false
set_option linter.unusedSimpArgs false

/-! ### date_Print: function 13 -/
def date_Print.j0 : Nat → Int → Int → Option (ByteArray × Int)
  | 0, _, _ => none
  | k + 1, x4, x5 => (date_Civil.f k x4).bind fun bt111 => (if bt111.2.2.2 = 0 then ((date_pad.f bt111.1 4).bind fun t115 => (if t115.size + 1 ≤ 9223372036854775807 then ((date_pad.f bt111.2.1 2).bind fun t116 => (if (t115 ++ (⟨#[45]⟩ : ByteArray)).size + t116.size ≤ 9223372036854775807 then (if ((t115 ++ (⟨#[45]⟩ : ByteArray)) ++ t116).size + 1 ≤ 9223372036854775807 then ((date_pad.f bt111.2.2.1 2).bind fun t117 => (if (((t115 ++ (⟨#[45]⟩ : ByteArray)) ++ t116) ++ (⟨#[45]⟩ : ByteArray)).size + t117.size ≤ 9223372036854775807 then (if ((((t115 ++ (⟨#[45]⟩ : ByteArray)) ++ t116) ++ (⟨#[45]⟩ : ByteArray)) ++ t117).size + 1 ≤ 9223372036854775807 then ((date_pad.f (wrap64 (Int.tdiv x5 3600)) 2).bind fun t118 => (if (((((t115 ++ (⟨#[45]⟩ : ByteArray)) ++ t116) ++ (⟨#[45]⟩ : ByteArray)) ++ t117) ++ (⟨#[84]⟩ : ByteArray)).size + t118.size ≤ 9223372036854775807 then (if ((((((t115 ++ (⟨#[45]⟩ : ByteArray)) ++ t116) ++ (⟨#[45]⟩ : ByteArray)) ++ t117) ++ (⟨#[84]⟩ : ByteArray)) ++ t118).size + 1 ≤ 9223372036854775807 then ((date_pad.f (Int.tmod (wrap64 (Int.tdiv x5 60)) 60) 2).bind fun t119 => (if (((((((t115 ++ (⟨#[45]⟩ : ByteArray)) ++ t116) ++ (⟨#[45]⟩ : ByteArray)) ++ t117) ++ (⟨#[84]⟩ : ByteArray)) ++ t118) ++ (⟨#[58]⟩ : ByteArray)).size + t119.size ≤ 9223372036854775807 then (if ((((((((t115 ++ (⟨#[45]⟩ : ByteArray)) ++ t116) ++ (⟨#[45]⟩ : ByteArray)) ++ t117) ++ (⟨#[84]⟩ : ByteArray)) ++ t118) ++ (⟨#[58]⟩ : ByteArray)) ++ t119).size + 1 ≤ 9223372036854775807 then ((date_pad.f (Int.tmod x5 60) 2).bind fun t120 => (if (((((((((t115 ++ (⟨#[45]⟩ : ByteArray)) ++ t116) ++ (⟨#[45]⟩ : ByteArray)) ++ t117) ++ (⟨#[84]⟩ : ByteArray)) ++ t118) ++ (⟨#[58]⟩ : ByteArray)) ++ t119) ++ (⟨#[58]⟩ : ByteArray)).size + t120.size ≤ 9223372036854775807 then (if ((((((((((t115 ++ (⟨#[45]⟩ : ByteArray)) ++ t116) ++ (⟨#[45]⟩ : ByteArray)) ++ t117) ++ (⟨#[84]⟩ : ByteArray)) ++ t118) ++ (⟨#[58]⟩ : ByteArray)) ++ t119) ++ (⟨#[58]⟩ : ByteArray)) ++ t120).size + 1 ≤ 9223372036854775807 then (some (((((((((((t115 ++ (⟨#[45]⟩ : ByteArray)) ++ t116) ++ (⟨#[45]⟩ : ByteArray)) ++ t117) ++ (⟨#[84]⟩ : ByteArray)) ++ t118) ++ (⟨#[58]⟩ : ByteArray)) ++ t119) ++ (⟨#[58]⟩ : ByteArray)) ++ t120) ++ (⟨#[90]⟩ : ByteArray), 0)) else (none)) else (none))) else (none)) else (none))) else (none)) else (none))) else (none)) else (none))) else (none)) else (none))) else (none))) else (some ((⟨#[]⟩ : ByteArray), bt111.2.2.2)))
def date_Print.f (k : Nat) (a0 : Int) : Option (ByteArray × Int) := if (Int.tmod a0 86400) < 0 then (date_Print.j0 k (wrap64 ((wrap64 (Int.tdiv a0 86400)) - 1)) (wrap64 ((Int.tmod a0 86400) + 86400))) else (date_Print.j0 k (wrap64 (Int.tdiv a0 86400)) (Int.tmod a0 86400))
theorem date_Print.mono_l : ∀ k, (∀ y0 y1, LeO (date_Print.j0 k y0 y1) (date_Print.j0 (k + 1) y0 y1))
  | 0 => fun _ _ r h => by simp [date_Print.j0] at h
  | k + 1 => by
    have ih0 := date_Print.mono_l k
    · intro y0 y1
      unfold date_Print.j0
      repeat' first
      | (with_reducible exact ih0 _ _)
      | (with_reducible exact date_Civil.mono _ _)
      | (with_reducible exact LeO.refl _)
      | (with_reducible exact LeO.none _)
      | (with_reducible refine LeO.ite ?_ ?_)
      | (with_reducible refine LeO.bind ?_ (fun _ => ?_))
      | exact ih0 _ _
      | exact date_Civil.mono _ _
      | exact LeO.none _
      | refine LeO.ite ?_ ?_
      | refine LeO.bind ?_ (fun _ => ?_)
theorem date_Print.mono : ∀ a0 k, LeO (date_Print.f k a0) (date_Print.f (k + 1) a0) := by
  intro a0 k
  have ih0 := date_Print.mono_l k
  unfold date_Print.f
  repeat' first
      | (with_reducible exact ih0 _ _)
      | (with_reducible exact date_Civil.mono _ _)
      | (with_reducible exact LeO.refl _)
      | (with_reducible exact LeO.none _)
      | (with_reducible refine LeO.ite ?_ ?_)
      | (with_reducible refine LeO.bind ?_ (fun _ => ?_))
      | exact ih0 _ _
      | exact date_Civil.mono _ _
      | exact LeO.none _
      | refine LeO.ite ?_ ?_
      | refine LeO.bind ?_ (fun _ => ?_)
set_option maxHeartbeats 8000000 in
set_option maxRecDepth 100000 in
theorem date_Print.calls (k : Nat) (a0 : Int) (r1 : ByteArray) (r2 : Int) (w : World) (hLW : LW w) (h : date_Print.f k a0 = some (r1, r2)) :
    Calls Tryz.prog 13 #[.int .i64 a0] w fun e w' => e = .returned (.tuple #[.string r1, .int .i64 r2]) ∧ Below w.heap.size w w' := by
  have HLW := Aside0.mk hLW
  clear hLW
  have HB := Aside0.mk (Below.refl w.heap.size w)
  have H : (if (Int.tmod a0 86400) < 0 then (date_Print.j0 k (wrap64 ((wrap64 (Int.tdiv a0 86400)) - 1)) (wrap64 ((Int.tmod a0 86400) + 86400))) else (date_Print.j0 k (wrap64 (Int.tdiv a0 86400)) (Int.tmod a0 86400))) = some (r1, r2) := h
  clear h
  have HC2 := Aside0.mk H
  clear H
  go_enter Tryz.func13, Tryz.ntmps13
  go_upto_if 15 with (fail)
  go_cut [4, 5] (fun v4 v5 wc => ∃ (kq : Nat) (x4_1 : Int) (x5_1 : Int), v4 = .int .i64 x4_1 ∧ v5 = .int .i64 x5_1 ∧ Aside0 (date_Print.j0 kq x4_1 x5_1 = some (r1, r2)) ∧ Aside0 (kq ≤ k) ∧ Aside0 (Below w.heap.size w wc))
  case first =>
    have H := HC2.out
    clear HC2
    by_cases c3 : (Int.tmod a0 86400) < 0
    · rw [if_pos c3] at H
      have c3b0 : decide ((Int.tmod a0 86400) < 0) = true := decide_eq_true c3
      clear c3
      (first | rw [c3b0] | (simp only [i64_w, i32_w]; rw [c3b0]) | skip)
      have H' := Aside0.mk H
      clear H
      go_wp2
      go_meet
      case rel => exact ⟨_, (wrap64 ((wrap64 (Int.tdiv a0 86400)) - 1)), (wrap64 ((Int.tmod a0 86400) + 86400)), (by first | rfl | (simp; done) | (simp [*]; done) | (simp; exact isEmpty_bne _) | (simp; exact isEmpty_beq _)), (by first | rfl | (simp; done) | (simp [*]; done) | (simp; exact isEmpty_bne _) | (simp; exact isEmpty_beq _)), H', ⟨by first | omega | exact Nat.le_refl _⟩, ⟨by repeat (first | (with_reducible first | exact HB.out | apply below_alloc | apply pw_below_drewN | apply below_drew1) | exact HB.out)⟩⟩
    · rw [if_neg c3] at H
      have c3b0 : decide ((Int.tmod a0 86400) < 0) = false := decide_eq_false c3
      clear c3
      (first | rw [c3b0] | (simp only [i64_w, i32_w]; rw [c3b0]) | skip)
      have H' := Aside0.mk H
      clear H
      go_wp2
      go_meet
      case rel => exact ⟨_, (wrap64 (Int.tdiv a0 86400)), (Int.tmod a0 86400), (by first | rfl | (simp; done) | (simp [*]; done) | (simp; exact isEmpty_bne _) | (simp; exact isEmpty_beq _)), (by first | rfl | (simp; done) | (simp [*]; done) | (simp; exact isEmpty_bne _) | (simp; exact isEmpty_beq _)), H', ⟨by first | omega | exact Nat.le_refl _⟩, ⟨by repeat (first | (with_reducible first | exact HB.out | apply below_alloc | apply pw_below_drewN | apply below_drew1) | exact HB.out)⟩⟩
  case rest =>
    clear HC2
    try clear c1
    try clear p2
    try clear c3
    try clear c3b0
    obtain ⟨kq, x4_1, x5_1, rfl, rfl, HA, HJ1, HB⟩ := hcut
    cases kq with
    | zero => exact absurd HA.out (by simp [date_Print.j0])
    | succ kj1 =>
      have H := HA.out
      clear HA
      simp only [date_Print.j0] at H
      replace H := Option.bind_eq_some_iff.mp H
      obtain ⟨⟨t111, t112, t113, t114⟩, A40, H⟩ := H
      replace H : (if t114 = 0 then ((date_pad.f t111 4).bind fun t115 => (if t115.size + 1 ≤ 9223372036854775807 then ((date_pad.f t112 2).bind fun t116 => (if (t115 ++ (⟨#[45]⟩ : ByteArray)).size + t116.size ≤ 9223372036854775807 then (if ((t115 ++ (⟨#[45]⟩ : ByteArray)) ++ t116).size + 1 ≤ 9223372036854775807 then ((date_pad.f t113 2).bind fun t117 => (if (((t115 ++ (⟨#[45]⟩ : ByteArray)) ++ t116) ++ (⟨#[45]⟩ : ByteArray)).size + t117.size ≤ 9223372036854775807 then (if ((((t115 ++ (⟨#[45]⟩ : ByteArray)) ++ t116) ++ (⟨#[45]⟩ : ByteArray)) ++ t117).size + 1 ≤ 9223372036854775807 then ((date_pad.f (wrap64 (Int.tdiv x5_1 3600)) 2).bind fun t118 => (if (((((t115 ++ (⟨#[45]⟩ : ByteArray)) ++ t116) ++ (⟨#[45]⟩ : ByteArray)) ++ t117) ++ (⟨#[84]⟩ : ByteArray)).size + t118.size ≤ 9223372036854775807 then (if ((((((t115 ++ (⟨#[45]⟩ : ByteArray)) ++ t116) ++ (⟨#[45]⟩ : ByteArray)) ++ t117) ++ (⟨#[84]⟩ : ByteArray)) ++ t118).size + 1 ≤ 9223372036854775807 then ((date_pad.f (Int.tmod (wrap64 (Int.tdiv x5_1 60)) 60) 2).bind fun t119 => (if (((((((t115 ++ (⟨#[45]⟩ : ByteArray)) ++ t116) ++ (⟨#[45]⟩ : ByteArray)) ++ t117) ++ (⟨#[84]⟩ : ByteArray)) ++ t118) ++ (⟨#[58]⟩ : ByteArray)).size + t119.size ≤ 9223372036854775807 then (if ((((((((t115 ++ (⟨#[45]⟩ : ByteArray)) ++ t116) ++ (⟨#[45]⟩ : ByteArray)) ++ t117) ++ (⟨#[84]⟩ : ByteArray)) ++ t118) ++ (⟨#[58]⟩ : ByteArray)) ++ t119).size + 1 ≤ 9223372036854775807 then ((date_pad.f (Int.tmod x5_1 60) 2).bind fun t120 => (if (((((((((t115 ++ (⟨#[45]⟩ : ByteArray)) ++ t116) ++ (⟨#[45]⟩ : ByteArray)) ++ t117) ++ (⟨#[84]⟩ : ByteArray)) ++ t118) ++ (⟨#[58]⟩ : ByteArray)) ++ t119) ++ (⟨#[58]⟩ : ByteArray)).size + t120.size ≤ 9223372036854775807 then (if ((((((((((t115 ++ (⟨#[45]⟩ : ByteArray)) ++ t116) ++ (⟨#[45]⟩ : ByteArray)) ++ t117) ++ (⟨#[84]⟩ : ByteArray)) ++ t118) ++ (⟨#[58]⟩ : ByteArray)) ++ t119) ++ (⟨#[58]⟩ : ByteArray)) ++ t120).size + 1 ≤ 9223372036854775807 then (some (((((((((((t115 ++ (⟨#[45]⟩ : ByteArray)) ++ t116) ++ (⟨#[45]⟩ : ByteArray)) ++ t117) ++ (⟨#[84]⟩ : ByteArray)) ++ t118) ++ (⟨#[58]⟩ : ByteArray)) ++ t119) ++ (⟨#[58]⟩ : ByteArray)) ++ t120) ++ (⟨#[90]⟩ : ByteArray), 0)) else (none)) else (none))) else (none)) else (none))) else (none)) else (none))) else (none)) else (none))) else (none)) else (none))) else (none))) else (some ((⟨#[]⟩ : ByteArray), t114))) = some (r1, r2) := H
      have A4 := Aside0.mk A40
      clear A40
      by_cases c5 : t114 = 0
      · rw [if_pos c5] at H
        have c5b0 : (t114 == 0) = true := beq_iff_eq.mpr c5
        have c5b1 : (t114 != 0) = false := bne_eq_false_iff_eq.mpr c5
        clear c5
        replace H := Option.bind_eq_some_iff.mp H
        obtain ⟨t115, A60, H⟩ := H
        replace H : (if t115.size + 1 ≤ 9223372036854775807 then ((date_pad.f t112 2).bind fun t116 => (if (t115 ++ (⟨#[45]⟩ : ByteArray)).size + t116.size ≤ 9223372036854775807 then (if ((t115 ++ (⟨#[45]⟩ : ByteArray)) ++ t116).size + 1 ≤ 9223372036854775807 then ((date_pad.f t113 2).bind fun t117 => (if (((t115 ++ (⟨#[45]⟩ : ByteArray)) ++ t116) ++ (⟨#[45]⟩ : ByteArray)).size + t117.size ≤ 9223372036854775807 then (if ((((t115 ++ (⟨#[45]⟩ : ByteArray)) ++ t116) ++ (⟨#[45]⟩ : ByteArray)) ++ t117).size + 1 ≤ 9223372036854775807 then ((date_pad.f (wrap64 (Int.tdiv x5_1 3600)) 2).bind fun t118 => (if (((((t115 ++ (⟨#[45]⟩ : ByteArray)) ++ t116) ++ (⟨#[45]⟩ : ByteArray)) ++ t117) ++ (⟨#[84]⟩ : ByteArray)).size + t118.size ≤ 9223372036854775807 then (if ((((((t115 ++ (⟨#[45]⟩ : ByteArray)) ++ t116) ++ (⟨#[45]⟩ : ByteArray)) ++ t117) ++ (⟨#[84]⟩ : ByteArray)) ++ t118).size + 1 ≤ 9223372036854775807 then ((date_pad.f (Int.tmod (wrap64 (Int.tdiv x5_1 60)) 60) 2).bind fun t119 => (if (((((((t115 ++ (⟨#[45]⟩ : ByteArray)) ++ t116) ++ (⟨#[45]⟩ : ByteArray)) ++ t117) ++ (⟨#[84]⟩ : ByteArray)) ++ t118) ++ (⟨#[58]⟩ : ByteArray)).size + t119.size ≤ 9223372036854775807 then (if ((((((((t115 ++ (⟨#[45]⟩ : ByteArray)) ++ t116) ++ (⟨#[45]⟩ : ByteArray)) ++ t117) ++ (⟨#[84]⟩ : ByteArray)) ++ t118) ++ (⟨#[58]⟩ : ByteArray)) ++ t119).size + 1 ≤ 9223372036854775807 then ((date_pad.f (Int.tmod x5_1 60) 2).bind fun t120 => (if (((((((((t115 ++ (⟨#[45]⟩ : ByteArray)) ++ t116) ++ (⟨#[45]⟩ : ByteArray)) ++ t117) ++ (⟨#[84]⟩ : ByteArray)) ++ t118) ++ (⟨#[58]⟩ : ByteArray)) ++ t119) ++ (⟨#[58]⟩ : ByteArray)).size + t120.size ≤ 9223372036854775807 then (if ((((((((((t115 ++ (⟨#[45]⟩ : ByteArray)) ++ t116) ++ (⟨#[45]⟩ : ByteArray)) ++ t117) ++ (⟨#[84]⟩ : ByteArray)) ++ t118) ++ (⟨#[58]⟩ : ByteArray)) ++ t119) ++ (⟨#[58]⟩ : ByteArray)) ++ t120).size + 1 ≤ 9223372036854775807 then (some (((((((((((t115 ++ (⟨#[45]⟩ : ByteArray)) ++ t116) ++ (⟨#[45]⟩ : ByteArray)) ++ t117) ++ (⟨#[84]⟩ : ByteArray)) ++ t118) ++ (⟨#[58]⟩ : ByteArray)) ++ t119) ++ (⟨#[58]⟩ : ByteArray)) ++ t120) ++ (⟨#[90]⟩ : ByteArray), 0)) else (none)) else (none))) else (none)) else (none))) else (none)) else (none))) else (none)) else (none))) else (none)) else (none))) else (none)) = some (r1, r2) := H
        have A6 := Aside0.mk A60
        clear A60
        by_cases c7 : t115.size + 1 ≤ 9223372036854775807
        · rw [if_pos c7] at H
          have c7b0 := eq_true c7
          have c7b1 : decide (t115.size + 1 ≤ 9223372036854775807) = true := decide_eq_true c7
          try have c7b2 : (9223372036854775807 < t115.size + 1) = False := eq_false (Nat.not_lt.2 c7)
          replace H := Option.bind_eq_some_iff.mp H
          obtain ⟨t116, A80, H⟩ := H
          replace H : (if (t115 ++ (⟨#[45]⟩ : ByteArray)).size + t116.size ≤ 9223372036854775807 then (if ((t115 ++ (⟨#[45]⟩ : ByteArray)) ++ t116).size + 1 ≤ 9223372036854775807 then ((date_pad.f t113 2).bind fun t117 => (if (((t115 ++ (⟨#[45]⟩ : ByteArray)) ++ t116) ++ (⟨#[45]⟩ : ByteArray)).size + t117.size ≤ 9223372036854775807 then (if ((((t115 ++ (⟨#[45]⟩ : ByteArray)) ++ t116) ++ (⟨#[45]⟩ : ByteArray)) ++ t117).size + 1 ≤ 9223372036854775807 then ((date_pad.f (wrap64 (Int.tdiv x5_1 3600)) 2).bind fun t118 => (if (((((t115 ++ (⟨#[45]⟩ : ByteArray)) ++ t116) ++ (⟨#[45]⟩ : ByteArray)) ++ t117) ++ (⟨#[84]⟩ : ByteArray)).size + t118.size ≤ 9223372036854775807 then (if ((((((t115 ++ (⟨#[45]⟩ : ByteArray)) ++ t116) ++ (⟨#[45]⟩ : ByteArray)) ++ t117) ++ (⟨#[84]⟩ : ByteArray)) ++ t118).size + 1 ≤ 9223372036854775807 then ((date_pad.f (Int.tmod (wrap64 (Int.tdiv x5_1 60)) 60) 2).bind fun t119 => (if (((((((t115 ++ (⟨#[45]⟩ : ByteArray)) ++ t116) ++ (⟨#[45]⟩ : ByteArray)) ++ t117) ++ (⟨#[84]⟩ : ByteArray)) ++ t118) ++ (⟨#[58]⟩ : ByteArray)).size + t119.size ≤ 9223372036854775807 then (if ((((((((t115 ++ (⟨#[45]⟩ : ByteArray)) ++ t116) ++ (⟨#[45]⟩ : ByteArray)) ++ t117) ++ (⟨#[84]⟩ : ByteArray)) ++ t118) ++ (⟨#[58]⟩ : ByteArray)) ++ t119).size + 1 ≤ 9223372036854775807 then ((date_pad.f (Int.tmod x5_1 60) 2).bind fun t120 => (if (((((((((t115 ++ (⟨#[45]⟩ : ByteArray)) ++ t116) ++ (⟨#[45]⟩ : ByteArray)) ++ t117) ++ (⟨#[84]⟩ : ByteArray)) ++ t118) ++ (⟨#[58]⟩ : ByteArray)) ++ t119) ++ (⟨#[58]⟩ : ByteArray)).size + t120.size ≤ 9223372036854775807 then (if ((((((((((t115 ++ (⟨#[45]⟩ : ByteArray)) ++ t116) ++ (⟨#[45]⟩ : ByteArray)) ++ t117) ++ (⟨#[84]⟩ : ByteArray)) ++ t118) ++ (⟨#[58]⟩ : ByteArray)) ++ t119) ++ (⟨#[58]⟩ : ByteArray)) ++ t120).size + 1 ≤ 9223372036854775807 then (some (((((((((((t115 ++ (⟨#[45]⟩ : ByteArray)) ++ t116) ++ (⟨#[45]⟩ : ByteArray)) ++ t117) ++ (⟨#[84]⟩ : ByteArray)) ++ t118) ++ (⟨#[58]⟩ : ByteArray)) ++ t119) ++ (⟨#[58]⟩ : ByteArray)) ++ t120) ++ (⟨#[90]⟩ : ByteArray), 0)) else (none)) else (none))) else (none)) else (none))) else (none)) else (none))) else (none)) else (none))) else (none)) else (none)) = some (r1, r2) := H
          have A8 := Aside0.mk A80
          clear A80
          by_cases c9 : (t115 ++ (⟨#[45]⟩ : ByteArray)).size + t116.size ≤ 9223372036854775807
          · rw [if_pos c9] at H
            have c9b0 := eq_true c9
            have c9b1 : decide ((t115 ++ (⟨#[45]⟩ : ByteArray)).size + t116.size ≤ 9223372036854775807) = true := decide_eq_true c9
            try have c9b2 : (9223372036854775807 < (t115 ++ (⟨#[45]⟩ : ByteArray)).size + t116.size) = False := eq_false (Nat.not_lt.2 c9)
            try have c9b8 : (9223372036854775807 < t115.size + 1 + t116.size) = False := eq_false (by have hq := of_eq_true c9b0; simp only [ByteArray.size_append, ByteArray.size_extract] at hq; have hz0 : (⟨#[45]⟩ : ByteArray).size = 1 := rfl; omega)
            by_cases c10 : ((t115 ++ (⟨#[45]⟩ : ByteArray)) ++ t116).size + 1 ≤ 9223372036854775807
            · rw [if_pos c10] at H
              have c10b0 := eq_true c10
              have c10b1 : decide (((t115 ++ (⟨#[45]⟩ : ByteArray)) ++ t116).size + 1 ≤ 9223372036854775807) = true := decide_eq_true c10
              try have c10b2 : (9223372036854775807 < ((t115 ++ (⟨#[45]⟩ : ByteArray)) ++ t116).size + 1) = False := eq_false (Nat.not_lt.2 c10)
              try have c10b8 : (9223372036854775807 < t115.size + 1 + t116.size + 1) = False := eq_false (by have hq := of_eq_true c10b0; simp only [ByteArray.size_append, ByteArray.size_extract] at hq; have hz0 : (⟨#[45]⟩ : ByteArray).size = 1 := rfl; omega)
              replace H := Option.bind_eq_some_iff.mp H
              obtain ⟨t117, A110, H⟩ := H
              replace H : (if (((t115 ++ (⟨#[45]⟩ : ByteArray)) ++ t116) ++ (⟨#[45]⟩ : ByteArray)).size + t117.size ≤ 9223372036854775807 then (if ((((t115 ++ (⟨#[45]⟩ : ByteArray)) ++ t116) ++ (⟨#[45]⟩ : ByteArray)) ++ t117).size + 1 ≤ 9223372036854775807 then ((date_pad.f (wrap64 (Int.tdiv x5_1 3600)) 2).bind fun t118 => (if (((((t115 ++ (⟨#[45]⟩ : ByteArray)) ++ t116) ++ (⟨#[45]⟩ : ByteArray)) ++ t117) ++ (⟨#[84]⟩ : ByteArray)).size + t118.size ≤ 9223372036854775807 then (if ((((((t115 ++ (⟨#[45]⟩ : ByteArray)) ++ t116) ++ (⟨#[45]⟩ : ByteArray)) ++ t117) ++ (⟨#[84]⟩ : ByteArray)) ++ t118).size + 1 ≤ 9223372036854775807 then ((date_pad.f (Int.tmod (wrap64 (Int.tdiv x5_1 60)) 60) 2).bind fun t119 => (if (((((((t115 ++ (⟨#[45]⟩ : ByteArray)) ++ t116) ++ (⟨#[45]⟩ : ByteArray)) ++ t117) ++ (⟨#[84]⟩ : ByteArray)) ++ t118) ++ (⟨#[58]⟩ : ByteArray)).size + t119.size ≤ 9223372036854775807 then (if ((((((((t115 ++ (⟨#[45]⟩ : ByteArray)) ++ t116) ++ (⟨#[45]⟩ : ByteArray)) ++ t117) ++ (⟨#[84]⟩ : ByteArray)) ++ t118) ++ (⟨#[58]⟩ : ByteArray)) ++ t119).size + 1 ≤ 9223372036854775807 then ((date_pad.f (Int.tmod x5_1 60) 2).bind fun t120 => (if (((((((((t115 ++ (⟨#[45]⟩ : ByteArray)) ++ t116) ++ (⟨#[45]⟩ : ByteArray)) ++ t117) ++ (⟨#[84]⟩ : ByteArray)) ++ t118) ++ (⟨#[58]⟩ : ByteArray)) ++ t119) ++ (⟨#[58]⟩ : ByteArray)).size + t120.size ≤ 9223372036854775807 then (if ((((((((((t115 ++ (⟨#[45]⟩ : ByteArray)) ++ t116) ++ (⟨#[45]⟩ : ByteArray)) ++ t117) ++ (⟨#[84]⟩ : ByteArray)) ++ t118) ++ (⟨#[58]⟩ : ByteArray)) ++ t119) ++ (⟨#[58]⟩ : ByteArray)) ++ t120).size + 1 ≤ 9223372036854775807 then (some (((((((((((t115 ++ (⟨#[45]⟩ : ByteArray)) ++ t116) ++ (⟨#[45]⟩ : ByteArray)) ++ t117) ++ (⟨#[84]⟩ : ByteArray)) ++ t118) ++ (⟨#[58]⟩ : ByteArray)) ++ t119) ++ (⟨#[58]⟩ : ByteArray)) ++ t120) ++ (⟨#[90]⟩ : ByteArray), 0)) else (none)) else (none))) else (none)) else (none))) else (none)) else (none))) else (none)) else (none)) = some (r1, r2) := H
              have A11 := Aside0.mk A110
              clear A110
              by_cases c12 : (((t115 ++ (⟨#[45]⟩ : ByteArray)) ++ t116) ++ (⟨#[45]⟩ : ByteArray)).size + t117.size ≤ 9223372036854775807
              · rw [if_pos c12] at H
                have c12b0 := eq_true c12
                have c12b1 : decide ((((t115 ++ (⟨#[45]⟩ : ByteArray)) ++ t116) ++ (⟨#[45]⟩ : ByteArray)).size + t117.size ≤ 9223372036854775807) = true := decide_eq_true c12
                try have c12b2 : (9223372036854775807 < (((t115 ++ (⟨#[45]⟩ : ByteArray)) ++ t116) ++ (⟨#[45]⟩ : ByteArray)).size + t117.size) = False := eq_false (Nat.not_lt.2 c12)
                try have c12b8 : (9223372036854775807 < t115.size + 1 + t116.size + 1 + t117.size) = False := eq_false (by have hq := of_eq_true c12b0; simp only [ByteArray.size_append, ByteArray.size_extract] at hq; have hz0 : (⟨#[45]⟩ : ByteArray).size = 1 := rfl; omega)
                by_cases c13 : ((((t115 ++ (⟨#[45]⟩ : ByteArray)) ++ t116) ++ (⟨#[45]⟩ : ByteArray)) ++ t117).size + 1 ≤ 9223372036854775807
                · rw [if_pos c13] at H
                  have c13b0 := eq_true c13
                  have c13b1 : decide (((((t115 ++ (⟨#[45]⟩ : ByteArray)) ++ t116) ++ (⟨#[45]⟩ : ByteArray)) ++ t117).size + 1 ≤ 9223372036854775807) = true := decide_eq_true c13
                  try have c13b2 : (9223372036854775807 < ((((t115 ++ (⟨#[45]⟩ : ByteArray)) ++ t116) ++ (⟨#[45]⟩ : ByteArray)) ++ t117).size + 1) = False := eq_false (Nat.not_lt.2 c13)
                  try have c13b8 : (9223372036854775807 < t115.size + 1 + t116.size + 1 + t117.size + 1) = False := eq_false (by have hq := of_eq_true c13b0; simp only [ByteArray.size_append, ByteArray.size_extract] at hq; have hz0 : (⟨#[45]⟩ : ByteArray).size = 1 := rfl; omega)
                  replace H := Option.bind_eq_some_iff.mp H
                  obtain ⟨t118, A140, H⟩ := H
                  replace H : (if (((((t115 ++ (⟨#[45]⟩ : ByteArray)) ++ t116) ++ (⟨#[45]⟩ : ByteArray)) ++ t117) ++ (⟨#[84]⟩ : ByteArray)).size + t118.size ≤ 9223372036854775807 then (if ((((((t115 ++ (⟨#[45]⟩ : ByteArray)) ++ t116) ++ (⟨#[45]⟩ : ByteArray)) ++ t117) ++ (⟨#[84]⟩ : ByteArray)) ++ t118).size + 1 ≤ 9223372036854775807 then ((date_pad.f (Int.tmod (wrap64 (Int.tdiv x5_1 60)) 60) 2).bind fun t119 => (if (((((((t115 ++ (⟨#[45]⟩ : ByteArray)) ++ t116) ++ (⟨#[45]⟩ : ByteArray)) ++ t117) ++ (⟨#[84]⟩ : ByteArray)) ++ t118) ++ (⟨#[58]⟩ : ByteArray)).size + t119.size ≤ 9223372036854775807 then (if ((((((((t115 ++ (⟨#[45]⟩ : ByteArray)) ++ t116) ++ (⟨#[45]⟩ : ByteArray)) ++ t117) ++ (⟨#[84]⟩ : ByteArray)) ++ t118) ++ (⟨#[58]⟩ : ByteArray)) ++ t119).size + 1 ≤ 9223372036854775807 then ((date_pad.f (Int.tmod x5_1 60) 2).bind fun t120 => (if (((((((((t115 ++ (⟨#[45]⟩ : ByteArray)) ++ t116) ++ (⟨#[45]⟩ : ByteArray)) ++ t117) ++ (⟨#[84]⟩ : ByteArray)) ++ t118) ++ (⟨#[58]⟩ : ByteArray)) ++ t119) ++ (⟨#[58]⟩ : ByteArray)).size + t120.size ≤ 9223372036854775807 then (if ((((((((((t115 ++ (⟨#[45]⟩ : ByteArray)) ++ t116) ++ (⟨#[45]⟩ : ByteArray)) ++ t117) ++ (⟨#[84]⟩ : ByteArray)) ++ t118) ++ (⟨#[58]⟩ : ByteArray)) ++ t119) ++ (⟨#[58]⟩ : ByteArray)) ++ t120).size + 1 ≤ 9223372036854775807 then (some (((((((((((t115 ++ (⟨#[45]⟩ : ByteArray)) ++ t116) ++ (⟨#[45]⟩ : ByteArray)) ++ t117) ++ (⟨#[84]⟩ : ByteArray)) ++ t118) ++ (⟨#[58]⟩ : ByteArray)) ++ t119) ++ (⟨#[58]⟩ : ByteArray)) ++ t120) ++ (⟨#[90]⟩ : ByteArray), 0)) else (none)) else (none))) else (none)) else (none))) else (none)) else (none)) = some (r1, r2) := H
                  have A14 := Aside0.mk A140
                  clear A140
                  by_cases c15 : (((((t115 ++ (⟨#[45]⟩ : ByteArray)) ++ t116) ++ (⟨#[45]⟩ : ByteArray)) ++ t117) ++ (⟨#[84]⟩ : ByteArray)).size + t118.size ≤ 9223372036854775807
                  · rw [if_pos c15] at H
                    have c15b0 := eq_true c15
                    have c15b1 : decide ((((((t115 ++ (⟨#[45]⟩ : ByteArray)) ++ t116) ++ (⟨#[45]⟩ : ByteArray)) ++ t117) ++ (⟨#[84]⟩ : ByteArray)).size + t118.size ≤ 9223372036854775807) = true := decide_eq_true c15
                    try have c15b2 : (9223372036854775807 < (((((t115 ++ (⟨#[45]⟩ : ByteArray)) ++ t116) ++ (⟨#[45]⟩ : ByteArray)) ++ t117) ++ (⟨#[84]⟩ : ByteArray)).size + t118.size) = False := eq_false (Nat.not_lt.2 c15)
                    try have c15b8 : (9223372036854775807 < t115.size + 1 + t116.size + 1 + t117.size + 1 + t118.size) = False := eq_false (by have hq := of_eq_true c15b0; simp only [ByteArray.size_append, ByteArray.size_extract] at hq; have hz0 : (⟨#[45]⟩ : ByteArray).size = 1 := rfl; have hz1 : (⟨#[84]⟩ : ByteArray).size = 1 := rfl; omega)
                    by_cases c16 : ((((((t115 ++ (⟨#[45]⟩ : ByteArray)) ++ t116) ++ (⟨#[45]⟩ : ByteArray)) ++ t117) ++ (⟨#[84]⟩ : ByteArray)) ++ t118).size + 1 ≤ 9223372036854775807
                    · rw [if_pos c16] at H
                      have c16b0 := eq_true c16
                      have c16b1 : decide (((((((t115 ++ (⟨#[45]⟩ : ByteArray)) ++ t116) ++ (⟨#[45]⟩ : ByteArray)) ++ t117) ++ (⟨#[84]⟩ : ByteArray)) ++ t118).size + 1 ≤ 9223372036854775807) = true := decide_eq_true c16
                      try have c16b2 : (9223372036854775807 < ((((((t115 ++ (⟨#[45]⟩ : ByteArray)) ++ t116) ++ (⟨#[45]⟩ : ByteArray)) ++ t117) ++ (⟨#[84]⟩ : ByteArray)) ++ t118).size + 1) = False := eq_false (Nat.not_lt.2 c16)
                      try have c16b8 : (9223372036854775807 < t115.size + 1 + t116.size + 1 + t117.size + 1 + t118.size + 1) = False := eq_false (by have hq := of_eq_true c16b0; simp only [ByteArray.size_append, ByteArray.size_extract] at hq; have hz0 : (⟨#[45]⟩ : ByteArray).size = 1 := rfl; have hz1 : (⟨#[84]⟩ : ByteArray).size = 1 := rfl; omega)
                      replace H := Option.bind_eq_some_iff.mp H
                      obtain ⟨t119, A170, H⟩ := H
                      replace H : (if (((((((t115 ++ (⟨#[45]⟩ : ByteArray)) ++ t116) ++ (⟨#[45]⟩ : ByteArray)) ++ t117) ++ (⟨#[84]⟩ : ByteArray)) ++ t118) ++ (⟨#[58]⟩ : ByteArray)).size + t119.size ≤ 9223372036854775807 then (if ((((((((t115 ++ (⟨#[45]⟩ : ByteArray)) ++ t116) ++ (⟨#[45]⟩ : ByteArray)) ++ t117) ++ (⟨#[84]⟩ : ByteArray)) ++ t118) ++ (⟨#[58]⟩ : ByteArray)) ++ t119).size + 1 ≤ 9223372036854775807 then ((date_pad.f (Int.tmod x5_1 60) 2).bind fun t120 => (if (((((((((t115 ++ (⟨#[45]⟩ : ByteArray)) ++ t116) ++ (⟨#[45]⟩ : ByteArray)) ++ t117) ++ (⟨#[84]⟩ : ByteArray)) ++ t118) ++ (⟨#[58]⟩ : ByteArray)) ++ t119) ++ (⟨#[58]⟩ : ByteArray)).size + t120.size ≤ 9223372036854775807 then (if ((((((((((t115 ++ (⟨#[45]⟩ : ByteArray)) ++ t116) ++ (⟨#[45]⟩ : ByteArray)) ++ t117) ++ (⟨#[84]⟩ : ByteArray)) ++ t118) ++ (⟨#[58]⟩ : ByteArray)) ++ t119) ++ (⟨#[58]⟩ : ByteArray)) ++ t120).size + 1 ≤ 9223372036854775807 then (some (((((((((((t115 ++ (⟨#[45]⟩ : ByteArray)) ++ t116) ++ (⟨#[45]⟩ : ByteArray)) ++ t117) ++ (⟨#[84]⟩ : ByteArray)) ++ t118) ++ (⟨#[58]⟩ : ByteArray)) ++ t119) ++ (⟨#[58]⟩ : ByteArray)) ++ t120) ++ (⟨#[90]⟩ : ByteArray), 0)) else (none)) else (none))) else (none)) else (none)) = some (r1, r2) := H
                      have A17 := Aside0.mk A170
                      clear A170
                      by_cases c18 : (((((((t115 ++ (⟨#[45]⟩ : ByteArray)) ++ t116) ++ (⟨#[45]⟩ : ByteArray)) ++ t117) ++ (⟨#[84]⟩ : ByteArray)) ++ t118) ++ (⟨#[58]⟩ : ByteArray)).size + t119.size ≤ 9223372036854775807
                      · rw [if_pos c18] at H
                        have c18b0 := eq_true c18
                        have c18b1 : decide ((((((((t115 ++ (⟨#[45]⟩ : ByteArray)) ++ t116) ++ (⟨#[45]⟩ : ByteArray)) ++ t117) ++ (⟨#[84]⟩ : ByteArray)) ++ t118) ++ (⟨#[58]⟩ : ByteArray)).size + t119.size ≤ 9223372036854775807) = true := decide_eq_true c18
                        try have c18b2 : (9223372036854775807 < (((((((t115 ++ (⟨#[45]⟩ : ByteArray)) ++ t116) ++ (⟨#[45]⟩ : ByteArray)) ++ t117) ++ (⟨#[84]⟩ : ByteArray)) ++ t118) ++ (⟨#[58]⟩ : ByteArray)).size + t119.size) = False := eq_false (Nat.not_lt.2 c18)
                        try have c18b8 : (9223372036854775807 < t115.size + 1 + t116.size + 1 + t117.size + 1 + t118.size + 1 + t119.size) = False := eq_false (by have hq := of_eq_true c18b0; simp only [ByteArray.size_append, ByteArray.size_extract] at hq; have hz0 : (⟨#[45]⟩ : ByteArray).size = 1 := rfl; have hz1 : (⟨#[58]⟩ : ByteArray).size = 1 := rfl; have hz2 : (⟨#[84]⟩ : ByteArray).size = 1 := rfl; omega)
                        by_cases c19 : ((((((((t115 ++ (⟨#[45]⟩ : ByteArray)) ++ t116) ++ (⟨#[45]⟩ : ByteArray)) ++ t117) ++ (⟨#[84]⟩ : ByteArray)) ++ t118) ++ (⟨#[58]⟩ : ByteArray)) ++ t119).size + 1 ≤ 9223372036854775807
                        · rw [if_pos c19] at H
                          have c19b0 := eq_true c19
                          have c19b1 : decide (((((((((t115 ++ (⟨#[45]⟩ : ByteArray)) ++ t116) ++ (⟨#[45]⟩ : ByteArray)) ++ t117) ++ (⟨#[84]⟩ : ByteArray)) ++ t118) ++ (⟨#[58]⟩ : ByteArray)) ++ t119).size + 1 ≤ 9223372036854775807) = true := decide_eq_true c19
                          try have c19b2 : (9223372036854775807 < ((((((((t115 ++ (⟨#[45]⟩ : ByteArray)) ++ t116) ++ (⟨#[45]⟩ : ByteArray)) ++ t117) ++ (⟨#[84]⟩ : ByteArray)) ++ t118) ++ (⟨#[58]⟩ : ByteArray)) ++ t119).size + 1) = False := eq_false (Nat.not_lt.2 c19)
                          try have c19b8 : (9223372036854775807 < t115.size + 1 + t116.size + 1 + t117.size + 1 + t118.size + 1 + t119.size + 1) = False := eq_false (by have hq := of_eq_true c19b0; simp only [ByteArray.size_append, ByteArray.size_extract] at hq; have hz0 : (⟨#[45]⟩ : ByteArray).size = 1 := rfl; have hz1 : (⟨#[58]⟩ : ByteArray).size = 1 := rfl; have hz2 : (⟨#[84]⟩ : ByteArray).size = 1 := rfl; omega)
                          replace H := Option.bind_eq_some_iff.mp H
                          obtain ⟨t120, A200, H⟩ := H
                          replace H : (if (((((((((t115 ++ (⟨#[45]⟩ : ByteArray)) ++ t116) ++ (⟨#[45]⟩ : ByteArray)) ++ t117) ++ (⟨#[84]⟩ : ByteArray)) ++ t118) ++ (⟨#[58]⟩ : ByteArray)) ++ t119) ++ (⟨#[58]⟩ : ByteArray)).size + t120.size ≤ 9223372036854775807 then (if ((((((((((t115 ++ (⟨#[45]⟩ : ByteArray)) ++ t116) ++ (⟨#[45]⟩ : ByteArray)) ++ t117) ++ (⟨#[84]⟩ : ByteArray)) ++ t118) ++ (⟨#[58]⟩ : ByteArray)) ++ t119) ++ (⟨#[58]⟩ : ByteArray)) ++ t120).size + 1 ≤ 9223372036854775807 then (some (((((((((((t115 ++ (⟨#[45]⟩ : ByteArray)) ++ t116) ++ (⟨#[45]⟩ : ByteArray)) ++ t117) ++ (⟨#[84]⟩ : ByteArray)) ++ t118) ++ (⟨#[58]⟩ : ByteArray)) ++ t119) ++ (⟨#[58]⟩ : ByteArray)) ++ t120) ++ (⟨#[90]⟩ : ByteArray), 0)) else (none)) else (none)) = some (r1, r2) := H
                          have A20 := Aside0.mk A200
                          clear A200
                          by_cases c21 : (((((((((t115 ++ (⟨#[45]⟩ : ByteArray)) ++ t116) ++ (⟨#[45]⟩ : ByteArray)) ++ t117) ++ (⟨#[84]⟩ : ByteArray)) ++ t118) ++ (⟨#[58]⟩ : ByteArray)) ++ t119) ++ (⟨#[58]⟩ : ByteArray)).size + t120.size ≤ 9223372036854775807
                          · rw [if_pos c21] at H
                            have c21b0 := eq_true c21
                            have c21b1 : decide ((((((((((t115 ++ (⟨#[45]⟩ : ByteArray)) ++ t116) ++ (⟨#[45]⟩ : ByteArray)) ++ t117) ++ (⟨#[84]⟩ : ByteArray)) ++ t118) ++ (⟨#[58]⟩ : ByteArray)) ++ t119) ++ (⟨#[58]⟩ : ByteArray)).size + t120.size ≤ 9223372036854775807) = true := decide_eq_true c21
                            try have c21b2 : (9223372036854775807 < (((((((((t115 ++ (⟨#[45]⟩ : ByteArray)) ++ t116) ++ (⟨#[45]⟩ : ByteArray)) ++ t117) ++ (⟨#[84]⟩ : ByteArray)) ++ t118) ++ (⟨#[58]⟩ : ByteArray)) ++ t119) ++ (⟨#[58]⟩ : ByteArray)).size + t120.size) = False := eq_false (Nat.not_lt.2 c21)
                            try have c21b8 : (9223372036854775807 < t115.size + 1 + t116.size + 1 + t117.size + 1 + t118.size + 1 + t119.size + 1 + t120.size) = False := eq_false (by have hq := of_eq_true c21b0; simp only [ByteArray.size_append, ByteArray.size_extract] at hq; have hz0 : (⟨#[45]⟩ : ByteArray).size = 1 := rfl; have hz1 : (⟨#[58]⟩ : ByteArray).size = 1 := rfl; have hz2 : (⟨#[84]⟩ : ByteArray).size = 1 := rfl; omega)
                            by_cases c22 : ((((((((((t115 ++ (⟨#[45]⟩ : ByteArray)) ++ t116) ++ (⟨#[45]⟩ : ByteArray)) ++ t117) ++ (⟨#[84]⟩ : ByteArray)) ++ t118) ++ (⟨#[58]⟩ : ByteArray)) ++ t119) ++ (⟨#[58]⟩ : ByteArray)) ++ t120).size + 1 ≤ 9223372036854775807
                            · rw [if_pos c22] at H
                              have c22b0 := eq_true c22
                              have c22b1 : decide (((((((((((t115 ++ (⟨#[45]⟩ : ByteArray)) ++ t116) ++ (⟨#[45]⟩ : ByteArray)) ++ t117) ++ (⟨#[84]⟩ : ByteArray)) ++ t118) ++ (⟨#[58]⟩ : ByteArray)) ++ t119) ++ (⟨#[58]⟩ : ByteArray)) ++ t120).size + 1 ≤ 9223372036854775807) = true := decide_eq_true c22
                              try have c22b2 : (9223372036854775807 < ((((((((((t115 ++ (⟨#[45]⟩ : ByteArray)) ++ t116) ++ (⟨#[45]⟩ : ByteArray)) ++ t117) ++ (⟨#[84]⟩ : ByteArray)) ++ t118) ++ (⟨#[58]⟩ : ByteArray)) ++ t119) ++ (⟨#[58]⟩ : ByteArray)) ++ t120).size + 1) = False := eq_false (Nat.not_lt.2 c22)
                              try have c22b8 : (9223372036854775807 < t115.size + 1 + t116.size + 1 + t117.size + 1 + t118.size + 1 + t119.size + 1 + t120.size + 1) = False := eq_false (by have hq := of_eq_true c22b0; simp only [ByteArray.size_append, ByteArray.size_extract] at hq; have hz0 : (⟨#[45]⟩ : ByteArray).size = 1 := rfl; have hz1 : (⟨#[58]⟩ : ByteArray).size = 1 := rfl; have hz2 : (⟨#[84]⟩ : ByteArray).size = 1 := rfl; omega)
                              simp only [Option.some.injEq, Prod.mk.injEq] at H
                              obtain ⟨rfl, rfl⟩ := H
                              go_wp2_with (first | ((with_reducible refine gate_callee (f := 10) rfl ?_); refine goesL_ (some 22) rfl rfl Tryz.func10 (by kernel_rfl) rfl #[.int .i64 x4_1] rfl (by (try simp only [List.map_toArray, List.map_cons, List.map_nil]); first | done | rfl | (simp only [List.length_drop, List.length_take]; rfl)) ?_; (with_reducible refine (date_Civil.calls kj1 x4_1 t111 t112 t113 t114 _ ?side1 A4.out).mono ?_); (case side1 => exact LW.below HLW.out (by repeat (first | (with_reducible first | exact HB.out | apply below_alloc | apply pw_below_drewN | apply below_drew1) | exact HB.out))); rintro e w' ⟨rfl, ⟨nd, rfl⟩⟩; refine ⟨_, rfl, ?_⟩) | ((with_reducible refine gate_callee (f := 24) rfl ?_); refine goesL_ (some 31) rfl rfl Tryz.func24 (by kernel_rfl) rfl #[.int .i64 t111, .int .i64 4] rfl (by (try simp only [List.map_toArray, List.map_cons, List.map_nil]); first | done | rfl | (simp only [List.length_drop, List.length_take]; rfl)) ?_; (with_reducible refine (date_pad.calls t111 4 t115 _ ?side1 A6.out).mono ?_); (case side1 => exact LW.below HLW.out (by repeat (first | (with_reducible first | exact HB.out | apply below_alloc | apply pw_below_drewN | apply below_drew1) | exact HB.out))); rintro e w23 ⟨rfl, hb⟩; refine ⟨_, rfl, ?_⟩; have n0_ := Aside0.mk (below_step (by repeat (first | (with_reducible first | exact HB.out | apply below_alloc | apply pw_below_drewN | apply below_drew1) | exact HB.out)) hb); clear HB; have HB := n0_; clear n0_; (try clear hb); (try clear hb2); (try clear hk); (try clear hi)) | ((with_reducible refine gate_callee (f := 24) rfl ?_); refine goesL_ (some 34) rfl rfl Tryz.func24 (by kernel_rfl) rfl #[.int .i64 t112, .int .i64 2] rfl (by (try simp only [List.map_toArray, List.map_cons, List.map_nil]); first | done | rfl | (simp only [List.length_drop, List.length_take]; rfl)) ?_; (with_reducible refine (date_pad.calls t112 2 t116 _ ?side1 A8.out).mono ?_); (case side1 => exact LW.below HLW.out (by repeat (first | (with_reducible first | exact HB.out | apply below_alloc | apply pw_below_drewN | apply below_drew1) | exact HB.out))); rintro e w24 ⟨rfl, hb⟩; refine ⟨_, rfl, ?_⟩; have n0_ := Aside0.mk (below_step (by repeat (first | (with_reducible first | exact HB.out | apply below_alloc | apply pw_below_drewN | apply below_drew1) | exact HB.out)) hb); clear HB; have HB := n0_; clear n0_; (try clear hb); (try clear hb2); (try clear hk); (try clear hi)) | ((with_reducible refine gate_callee (f := 24) rfl ?_); refine goesL_ (some 38) rfl rfl Tryz.func24 (by kernel_rfl) rfl #[.int .i64 t113, .int .i64 2] rfl (by (try simp only [List.map_toArray, List.map_cons, List.map_nil]); first | done | rfl | (simp only [List.length_drop, List.length_take]; rfl)) ?_; (with_reducible refine (date_pad.calls t113 2 t117 _ ?side1 A11.out).mono ?_); (case side1 => exact LW.below HLW.out (by repeat (first | (with_reducible first | exact HB.out | apply below_alloc | apply pw_below_drewN | apply below_drew1) | exact HB.out))); rintro e w25 ⟨rfl, hb⟩; refine ⟨_, rfl, ?_⟩; have n0_ := Aside0.mk (below_step (by repeat (first | (with_reducible first | exact HB.out | apply below_alloc | apply pw_below_drewN | apply below_drew1) | exact HB.out)) hb); clear HB; have HB := n0_; clear n0_; (try clear hb); (try clear hb2); (try clear hk); (try clear hi)) | ((with_reducible refine gate_callee (f := 24) rfl ?_); refine goesL_ (some 43) rfl rfl Tryz.func24 (by kernel_rfl) rfl #[.int .i64 (wrap64 (Int.tdiv x5_1 3600)), .int .i64 2] rfl (by (try simp only [List.map_toArray, List.map_cons, List.map_nil]); first | done | rfl | (simp only [List.length_drop, List.length_take]; rfl)) ?_; (with_reducible refine (date_pad.calls (wrap64 (Int.tdiv x5_1 3600)) 2 t118 _ ?side1 A14.out).mono ?_); (case side1 => exact LW.below HLW.out (by repeat (first | (with_reducible first | exact HB.out | apply below_alloc | apply pw_below_drewN | apply below_drew1) | exact HB.out))); rintro e w26 ⟨rfl, hb⟩; refine ⟨_, rfl, ?_⟩; have n0_ := Aside0.mk (below_step (by repeat (first | (with_reducible first | exact HB.out | apply below_alloc | apply pw_below_drewN | apply below_drew1) | exact HB.out)) hb); clear HB; have HB := n0_; clear n0_; (try clear hb); (try clear hb2); (try clear hk); (try clear hi)) | ((with_reducible refine gate_callee (f := 24) rfl ?_); refine goesL_ (some 49) rfl rfl Tryz.func24 (by kernel_rfl) rfl #[.int .i64 (Int.tmod (wrap64 (Int.tdiv x5_1 60)) 60), .int .i64 2] rfl (by (try simp only [List.map_toArray, List.map_cons, List.map_nil]); first | done | rfl | (simp only [List.length_drop, List.length_take]; rfl)) ?_; (with_reducible refine (date_pad.calls (Int.tmod (wrap64 (Int.tdiv x5_1 60)) 60) 2 t119 _ ?side1 A17.out).mono ?_); (case side1 => exact LW.below HLW.out (by repeat (first | (with_reducible first | exact HB.out | apply below_alloc | apply pw_below_drewN | apply below_drew1) | exact HB.out))); rintro e w27 ⟨rfl, hb⟩; refine ⟨_, rfl, ?_⟩; have n0_ := Aside0.mk (below_step (by repeat (first | (with_reducible first | exact HB.out | apply below_alloc | apply pw_below_drewN | apply below_drew1) | exact HB.out)) hb); clear HB; have HB := n0_; clear n0_; (try clear hb); (try clear hb2); (try clear hk); (try clear hi)) | ((with_reducible refine gate_callee (f := 24) rfl ?_); refine goesL_ (some 54) rfl rfl Tryz.func24 (by kernel_rfl) rfl #[.int .i64 (Int.tmod x5_1 60), .int .i64 2] rfl (by (try simp only [List.map_toArray, List.map_cons, List.map_nil]); first | done | rfl | (simp only [List.length_drop, List.length_take]; rfl)) ?_; (with_reducible refine (date_pad.calls (Int.tmod x5_1 60) 2 t120 _ ?side1 A20.out).mono ?_); (case side1 => exact LW.below HLW.out (by repeat (first | (with_reducible first | exact HB.out | apply below_alloc | apply pw_below_drewN | apply below_drew1) | exact HB.out))); rintro e w28 ⟨rfl, hb⟩; refine ⟨_, rfl, ?_⟩; have n0_ := Aside0.mk (below_step (by repeat (first | (with_reducible first | exact HB.out | apply below_alloc | apply pw_below_drewN | apply below_drew1) | exact HB.out)) hb); clear HB; have HB := n0_; clear n0_; (try clear hb); (try clear hb2); (try clear hk); (try clear hi)))
                              go_ret2
                              exact ⟨by first | rfl | (simp [errW_none, errW_some] <;> rfl) | (simp [*, errW_none, errW_some] <;> rfl), by repeat (first | (with_reducible first | exact HB.out | apply below_alloc | apply pw_below_drewN | apply below_drew1) | exact HB.out)⟩
                            · rw [if_neg c22] at H
                              exact absurd H (by simp)
                          · rw [if_neg c21] at H
                            exact absurd H (by simp)
                        · rw [if_neg c19] at H
                          exact absurd H (by simp)
                      · rw [if_neg c18] at H
                        exact absurd H (by simp)
                    · rw [if_neg c16] at H
                      exact absurd H (by simp)
                  · rw [if_neg c15] at H
                    exact absurd H (by simp)
                · rw [if_neg c13] at H
                  exact absurd H (by simp)
              · rw [if_neg c12] at H
                exact absurd H (by simp)
            · rw [if_neg c10] at H
              exact absurd H (by simp)
          · rw [if_neg c9] at H
            exact absurd H (by simp)
        · rw [if_neg c7] at H
          exact absurd H (by simp)
      · rw [if_neg c5] at H
        have c5b0 : (t114 == 0) = false := beq_eq_false_iff_ne.mpr c5
        have c5b1 : (t114 != 0) = true := bne_iff_ne.mpr c5
        simp only [Option.some.injEq, Prod.mk.injEq] at H
        obtain ⟨rfl, rfl⟩ := H
        go_wp2_with (first | ((with_reducible refine gate_callee (f := 10) rfl ?_); refine goesL_ (some 22) rfl rfl Tryz.func10 (by kernel_rfl) rfl #[.int .i64 x4_1] rfl (by (try simp only [List.map_toArray, List.map_cons, List.map_nil]); first | done | rfl | (simp only [List.length_drop, List.length_take]; rfl)) ?_; (with_reducible refine (date_Civil.calls kj1 x4_1 t111 t112 t113 t114 _ ?side1 A4.out).mono ?_); (case side1 => exact LW.below HLW.out (by repeat (first | (with_reducible first | exact HB.out | apply below_alloc | apply pw_below_drewN | apply below_drew1) | exact HB.out))); rintro e w' ⟨rfl, ⟨nd, rfl⟩⟩; refine ⟨_, rfl, ?_⟩))
        go_ret2
        exact ⟨by first | rfl | (simp [errW_none, errW_some] <;> rfl) | (simp [*, errW_none, errW_some] <;> rfl), by repeat (first | (with_reducible first | exact HB.out | apply below_alloc | apply pw_below_drewN | apply below_drew1) | exact HB.out)⟩

/-! ### date_number: function 32 -/
def date_number.f (a0 : ByteArray) (a1 : Int) : Option (Int) := (strconv_Atoi.f a0).bind fun bt121 => (if (a0.size : Int) = a1 then (if bt121.2.isNone = true then ((strings_Trim.f a0 (⟨#[48, 49, 50, 51, 52, 53, 54, 55, 56, 57]⟩ : ByteArray)).bind fun t124 => (if t124.toList = ([] : List UInt8) then (some bt121.1) else (some (-1)))) else (some (-1))) else (some (-1)))
set_option maxHeartbeats 8000000 in
set_option maxRecDepth 100000 in
theorem date_number.calls (a0 : ByteArray) (a1 : Int) (r : Int) (w : World) (hLW : LW w) (h : date_number.f a0 a1 = some r) :
    Calls Tryz.prog 32 #[.string a0, .int .i64 a1] w fun e w' => e = .returned (.int .i64 r) ∧ Below w.heap.size w w' := by
  have hu74 := Tryz.underlying74
  have HLW := Aside0.mk hLW
  clear hLW
  have HB := Aside0.mk (Below.refl w.heap.size w)
  have H : ((strconv_Atoi.f a0).bind fun bt121 => (if (a0.size : Int) = a1 then (if bt121.2.isNone = true then ((strings_Trim.f a0 (⟨#[48, 49, 50, 51, 52, 53, 54, 55, 56, 57]⟩ : ByteArray)).bind fun t124 => (if t124.toList = ([] : List UInt8) then (some bt121.1) else (some (-1)))) else (some (-1))) else (some (-1)))) = some r := h
  clear h
  replace H := Option.bind_eq_some_iff.mp H
  obtain ⟨⟨t121, t122⟩, A30, H⟩ := H
  replace H : (if (a0.size : Int) = a1 then (if t122.isNone = true then ((strings_Trim.f a0 (⟨#[48, 49, 50, 51, 52, 53, 54, 55, 56, 57]⟩ : ByteArray)).bind fun t124 => (if t124.toList = ([] : List UInt8) then (some t121) else (some (-1)))) else (some (-1))) else (some (-1))) = some r := H
  have A3 := Aside0.mk A30
  clear A30
  by_cases c4 : (a0.size : Int) = a1
  · rw [if_pos c4] at H
    have c4b0 : ((a0.size : Int) == a1) = true := beq_iff_eq.mpr c4
    have c4b1 : ((a0.size : Int) != a1) = false := bne_eq_false_iff_eq.mpr c4
    clear c4
    rcases t122 with _ | q123
    · have H1 : ((strings_Trim.f a0 (⟨#[48, 49, 50, 51, 52, 53, 54, 55, 56, 57]⟩ : ByteArray)).bind fun t124 => (if t124.toList = ([] : List UInt8) then (some t121) else (some (-1)))) = some r := by rw [if_pos (show (none : Option Int).isNone = true by rfl)] at H; exact H
      clear H
      have H := H1
      clear H1
      try simp only [errW_none, errW_some]
      replace H := Option.bind_eq_some_iff.mp H
      obtain ⟨t124, A50, H⟩ := H
      replace H : (if t124.toList = ([] : List UInt8) then (some t121) else (some (-1))) = some r := H
      have A5 := Aside0.mk A50
      clear A50
      by_cases c6 : t124.toList = ([] : List UInt8)
      · rw [if_pos c6] at H
        have c6b0 : (t124.toList == ([] : List UInt8)) = true := beq_iff_eq.mpr c6
        have c6b1 : (t124.toList != ([] : List UInt8)) = false := bne_eq_false_iff_eq.mpr c6
        clear c6
        obtain rfl := Option.some.inj H
        go_enter Tryz.func32, Tryz.ntmps32
        go_wp2_with (first | ((with_reducible refine gate_callee (f := 46) rfl ?_); refine goesL_ (some 9) rfl rfl Tryz.func46 (by kernel_rfl) rfl #[.string a0] rfl (by (try simp only [List.map_toArray, List.map_cons, List.map_nil]); first | done | rfl | (simp only [List.length_drop, List.length_take]; rfl)) ?_; (with_reducible refine (strconv_Atoi.calls a0 t121 none _ ?side1 A3.out).mono ?_); (case side1 => exact LW.below HLW.out (by repeat (first | (with_reducible first | exact HB.out | apply below_alloc | apply pw_below_drewN | apply below_drew1) | exact HB.out))); rintro e w7 ⟨rfl, hb⟩; refine ⟨_, rfl, ?_⟩; have n0_ := Aside0.mk (below_step (by repeat (first | (with_reducible first | exact HB.out | apply below_alloc | apply pw_below_drewN | apply below_drew1) | exact HB.out)) hb); clear HB; have HB := n0_; clear n0_; (try clear hb); (try clear hb2); (try clear hk); (try clear hi); (try simp only [errW_none, errW_some])) | (go_at_call 47; (with_reducible refine (strings_Trim.calls a0 (⟨#[48, 49, 50, 51, 52, 53, 54, 55, 56, 57]⟩ : ByteArray) t124 _ ?side1 A5.out).mono ?_); (case side1 => exact LW.below HLW.out (by repeat (first | (with_reducible first | exact HB.out | apply below_alloc | apply pw_below_drewN | apply below_drew1) | exact HB.out))); rintro e w8 ⟨rfl, hb⟩; have n0_ := Aside0.mk (below_step (by repeat (first | (with_reducible first | exact HB.out | apply below_alloc | apply pw_below_drewN | apply below_drew1) | exact HB.out)) hb); clear HB; have HB := n0_; clear n0_; (try clear hb); (try clear hb2); (try clear hk); (try clear hi)))
        go_ret
        exact ⟨by first | rfl | (simp [errW_none, errW_some] <;> rfl) | (simp [*, errW_none, errW_some] <;> rfl), by repeat (first | (with_reducible first | exact HB.out | apply below_alloc | apply pw_below_drewN | apply below_drew1) | exact HB.out)⟩
      · rw [if_neg c6] at H
        have c6b0 : (t124.toList == ([] : List UInt8)) = false := beq_eq_false_iff_ne.mpr c6
        have c6b1 : (t124.toList != ([] : List UInt8)) = true := bne_iff_ne.mpr c6
        obtain rfl := Option.some.inj H
        go_enter Tryz.func32, Tryz.ntmps32
        go_wp2_with (first | ((with_reducible refine gate_callee (f := 46) rfl ?_); refine goesL_ (some 9) rfl rfl Tryz.func46 (by kernel_rfl) rfl #[.string a0] rfl (by (try simp only [List.map_toArray, List.map_cons, List.map_nil]); first | done | rfl | (simp only [List.length_drop, List.length_take]; rfl)) ?_; (with_reducible refine (strconv_Atoi.calls a0 t121 none _ ?side1 A3.out).mono ?_); (case side1 => exact LW.below HLW.out (by repeat (first | (with_reducible first | exact HB.out | apply below_alloc | apply pw_below_drewN | apply below_drew1) | exact HB.out))); rintro e w9 ⟨rfl, hb⟩; refine ⟨_, rfl, ?_⟩; have n0_ := Aside0.mk (below_step (by repeat (first | (with_reducible first | exact HB.out | apply below_alloc | apply pw_below_drewN | apply below_drew1) | exact HB.out)) hb); clear HB; have HB := n0_; clear n0_; (try clear hb); (try clear hb2); (try clear hk); (try clear hi); (try simp only [errW_none, errW_some])) | (go_at_call 47; (with_reducible refine (strings_Trim.calls a0 (⟨#[48, 49, 50, 51, 52, 53, 54, 55, 56, 57]⟩ : ByteArray) t124 _ ?side1 A5.out).mono ?_); (case side1 => exact LW.below HLW.out (by repeat (first | (with_reducible first | exact HB.out | apply below_alloc | apply pw_below_drewN | apply below_drew1) | exact HB.out))); rintro e w10 ⟨rfl, hb⟩; have n0_ := Aside0.mk (below_step (by repeat (first | (with_reducible first | exact HB.out | apply below_alloc | apply pw_below_drewN | apply below_drew1) | exact HB.out)) hb); clear HB; have HB := n0_; clear n0_; (try clear hb); (try clear hb2); (try clear hk); (try clear hi)))
        go_ret
        exact ⟨by first | rfl | (simp [errW_none, errW_some] <;> rfl) | (simp [*, errW_none, errW_some] <;> rfl), by repeat (first | (with_reducible first | exact HB.out | apply below_alloc | apply pw_below_drewN | apply below_drew1) | exact HB.out)⟩
    · exact absurd (strconv_Atoi.none A3.out) (by simp)
  · rw [if_neg c4] at H
    obtain rfl : t122 = none := strconv_Atoi.none A3.out
    have c4b0 : ((a0.size : Int) == a1) = false := beq_eq_false_iff_ne.mpr c4
    have c4b1 : ((a0.size : Int) != a1) = true := bne_iff_ne.mpr c4
    obtain rfl := Option.some.inj H
    go_enter Tryz.func32, Tryz.ntmps32
    go_wp2_with (first | ((with_reducible refine gate_callee (f := 46) rfl ?_); refine goesL_ (some 9) rfl rfl Tryz.func46 (by kernel_rfl) rfl #[.string a0] rfl (by (try simp only [List.map_toArray, List.map_cons, List.map_nil]); first | done | rfl | (simp only [List.length_drop, List.length_take]; rfl)) ?_; (with_reducible refine (strconv_Atoi.calls a0 t121 none _ ?side1 A3.out).mono ?_); (case side1 => exact LW.below HLW.out (by repeat (first | (with_reducible first | exact HB.out | apply below_alloc | apply pw_below_drewN | apply below_drew1) | exact HB.out))); rintro e w12 ⟨rfl, hb⟩; refine ⟨_, rfl, ?_⟩; have n0_ := Aside0.mk (below_step (by repeat (first | (with_reducible first | exact HB.out | apply below_alloc | apply pw_below_drewN | apply below_drew1) | exact HB.out)) hb); clear HB; have HB := n0_; clear n0_; (try clear hb); (try clear hb2); (try clear hk); (try clear hi); (try simp only [errW_none, errW_some])))
    go_ret
    exact ⟨by first | rfl | (simp [errW_none, errW_some] <;> rfl) | (simp [*, errW_none, errW_some] <;> rfl), by repeat (first | (with_reducible first | exact HB.out | apply below_alloc | apply pw_below_drewN | apply below_drew1) | exact HB.out)⟩

/-! ### date_clock: function 27 -/
mutual
def date_clock.j0 : Nat → List ByteArray → Bool → Option (Int)
  | 0, _, _ => none
  | k + 1, x5, x22 => if x22 = true then (some (-1)) else ((some (([24, 60, 60] : List Int) : List Int)).bind fun y128 => (if 0 ≤ (x5.length : Int) then (if (x5.length : Int) ≤ (y128.length : Int) then ((some (y128.take ((x5.length : Int) : Int).toNat : List Int)).bind fun y131 => (date_clock.l0 k x5 0 y131 (y131.length : Int) 0)) else (none)) else (none)))
def date_clock.l0 : Nat → List ByteArray → Int → List Int → Int → Int → Option (Int)
  | 0, _, _, _, _, _ => none
  | k + 1, x5, x6, x26, x27, x28 => if x28 < x27 then (if 0 ≤ x28 then (if x28 < (x26.length : Int) then (if x28 < (x5.length : Int) then ((date_number.f (rdOf ByteArray.empty x5 x28) 2).bind fun t137 => (if t137 < 0 then (some (-1)) else (if t137 ≥ (rd x26 x28) then (some (-1)) else ((some (([3600, 60, 1] : List Int) : List Int)).bind fun y138 => (if x28 < (y138.length : Int) then (date_clock.l0 k x5 (wrap64 (x6 + (wrap64 (t137 * (rd y138 x28))))) x26 x27 (wrap64 (x28 + 1))) else (none)))))) else (none)) else (none)) else (none)) else (some x6)
end
def date_clock.f (k : Nat) (a0 : ByteArray) (a1 : Bool) : Option (Int) := (strings_Split.f a0 (⟨#[58]⟩ : ByteArray)).bind fun t125 => (if (t125.length : Int) = 3 then (date_clock.j0 k t125 false) else (if a1 = true then (date_clock.j0 k t125 true) else (date_clock.j0 k t125 ((t125.length : Int) != 2))))
theorem date_clock.mono_l : ∀ k, (∀ y0 y1, LeO (date_clock.j0 k y0 y1) (date_clock.j0 (k + 1) y0 y1)) ∧ (∀ y0 y1 y2 y3 y4, LeO (date_clock.l0 k y0 y1 y2 y3 y4) (date_clock.l0 (k + 1) y0 y1 y2 y3 y4))
  | 0 => ⟨fun _ _ r h => by simp [date_clock.j0] at h, fun _ _ _ _ _ r h => by simp [date_clock.l0] at h⟩
  | k + 1 => by
    obtain ⟨ih0, ih1⟩ := date_clock.mono_l k
    refine ⟨?_, ?_⟩
    · intro y0 y1
      unfold date_clock.j0
      repeat' first
      | (with_reducible exact ih0 _ _)
      | (with_reducible exact ih1 _ _ _ _ _)
      | (with_reducible exact LeO.refl _)
      | (with_reducible exact LeO.none _)
      | (with_reducible refine LeO.ite ?_ ?_)
      | (with_reducible refine LeO.bind ?_ (fun _ => ?_))
      | exact ih0 _ _
      | exact ih1 _ _ _ _ _
      | exact LeO.none _
      | refine LeO.ite ?_ ?_
      | refine LeO.bind ?_ (fun _ => ?_)
    · intro y0 y1 y2 y3 y4
      unfold date_clock.l0
      repeat' first
      | (with_reducible exact ih0 _ _)
      | (with_reducible exact ih1 _ _ _ _ _)
      | (with_reducible exact LeO.refl _)
      | (with_reducible exact LeO.none _)
      | (with_reducible refine LeO.ite ?_ ?_)
      | (with_reducible refine LeO.bind ?_ (fun _ => ?_))
      | exact ih0 _ _
      | exact ih1 _ _ _ _ _
      | exact LeO.none _
      | refine LeO.ite ?_ ?_
      | refine LeO.bind ?_ (fun _ => ?_)
theorem date_clock.mono : ∀ a0 a1 k, LeO (date_clock.f k a0 a1) (date_clock.f (k + 1) a0 a1) := by
  intro a0 a1 k
  obtain ⟨ih0, ih1⟩ := date_clock.mono_l k
  unfold date_clock.f
  repeat' first
      | (with_reducible exact ih0 _ _)
      | (with_reducible exact ih1 _ _ _ _ _)
      | (with_reducible exact LeO.refl _)
      | (with_reducible exact LeO.none _)
      | (with_reducible refine LeO.ite ?_ ?_)
      | (with_reducible refine LeO.bind ?_ (fun _ => ?_))
      | exact ih0 _ _
      | exact ih1 _ _ _ _ _
      | exact LeO.none _
      | refine LeO.ite ?_ ?_
      | refine LeO.bind ?_ (fun _ => ?_)
set_option maxHeartbeats 8000000 in
set_option maxRecDepth 100000 in
theorem date_clock.calls (k : Nat) (a0 : ByteArray) (a1 : Bool) (r : Int) (w : World) (hLW : LW w) (h : date_clock.f k a0 a1 = some r) :
    Calls Tryz.prog 27 #[.string a0, .bool a1] w fun e w' => e = .returned (.int .i64 r) ∧ Below w.heap.size w w' := by
  have HLW := Aside0.mk hLW
  clear hLW
  have HB := Aside0.mk (Below.refl w.heap.size w)
  have H : ((strings_Split.f a0 (⟨#[58]⟩ : ByteArray)).bind fun t125 => (if (t125.length : Int) = 3 then (date_clock.j0 k t125 false) else (if a1 = true then (date_clock.j0 k t125 true) else (date_clock.j0 k t125 ((t125.length : Int) != 2))))) = some r := h
  clear h
  replace H := Option.bind_eq_some_iff.mp H
  obtain ⟨t125, A30, H⟩ := H
  replace H : (if (t125.length : Int) = 3 then (date_clock.j0 k t125 false) else (if a1 = true then (date_clock.j0 k t125 true) else (date_clock.j0 k t125 ((t125.length : Int) != 2)))) = some r := H
  have A3 := Aside0.mk A30
  clear A30
  have HC4 := Aside0.mk H
  clear H
  go_enter Tryz.func27, Tryz.ntmps27
  go_upto_region 2 with (first | ((with_reducible refine gate_callee (f := 39) rfl ?_); refine goesL_ (some 11) rfl rfl Tryz.func39 (by kernel_rfl) rfl #[.string a0, .string (⟨#[58]⟩ : ByteArray)] rfl (by (try simp only [List.map_toArray, List.map_cons, List.map_nil]); first | done | rfl | (simp only [List.length_drop, List.length_take]; rfl)) ?_; (with_reducible refine (strings_Split.calls a0 (⟨#[58]⟩ : ByteArray) t125 _ ?side1 A3.out).mono ?_); (case side1 => exact LW.below HLW.out (by repeat (first | (with_reducible first | exact HB.out | apply below_alloc | apply pw_below_drewN | apply below_drew1) | exact HB.out))); rintro e w5 ⟨v126, rfl, ho0, hb⟩; refine ⟨_, rfl, ?_⟩; have n0_ := Aside0.mk (Kd.R_lower ho0 (below_size (by repeat (first | (with_reducible first | exact HB.out | apply below_alloc | apply pw_below_drewN | apply below_drew1) | exact HB.out)))); have n1_ := Aside0.mk (below_step (by repeat (first | (with_reducible first | exact HB.out | apply below_alloc | apply pw_below_drewN | apply below_drew1) | exact HB.out)) hb); clear HB; have HO127 := n0_; have HB := n1_; clear n0_ n1_; (try clear hb); (try clear hb2); (try clear hk); (try clear hi); (try clear ho0)))
  (try simp only [Act.put, List.setIfInBounds_toArray, List.set_cons_zero, List.set_cons_succ])
  go_cut [22] (fun v22 wc => ∃ (kq : Nat) (x22_3 : Bool), v22 = .bool x22_3 ∧ Aside0 (date_clock.j0 kq t125 x22_3 = some r) ∧ Aside0 (kq ≤ k) ∧ Aside0 (Kd.R Kd.string 9 wc w.heap.size (fun _ => True) v126 t125) ∧ Aside0 (Below w.heap.size w wc))
  case first =>
    have H := HC4.out
    clear HC4
    by_cases c6 : (t125.length : Int) = 3
    · rw [if_pos c6] at H
      have c6b0 : ((t125.length : Int) == 3) = true := beq_iff_eq.mpr c6
      have c6b1 : ((t125.length : Int) != 3) = false := bne_eq_false_iff_eq.mpr c6
      clear c6
      (first | rw [c6b0] | (simp only [i64_w, i32_w]; rw [c6b0]) | skip)
      have H' := Aside0.mk H
      clear H
      obtain ⟨Ao7, co7, eo7⟩ := Kd.R_slice HO127.out
      subst eo7
      go_wp2
      go_meet
      case rel => exact ⟨_, (false), (by first | rfl | (simp; done) | (simp [*]; done) | (simp; exact isEmpty_bne _) | (simp; exact isEmpty_beq _)), H', ⟨by first | omega | exact Nat.le_refl _⟩, ⟨by (with_reducible repeat (first | apply Kd.R_alloc | apply Kd.R_drewN | apply Kd.R_drew)); exact HO127.out⟩, ⟨by repeat (first | (with_reducible first | exact HB.out | apply below_alloc | apply pw_below_drewN | apply below_drew1) | exact HB.out)⟩⟩
    · rw [if_neg c6] at H
      have c6b0 : ((t125.length : Int) == 3) = false := beq_eq_false_iff_ne.mpr c6
      have c6b1 : ((t125.length : Int) != 3) = true := bne_iff_ne.mpr c6
      (first | rw [c6b0] | (simp only [i64_w, i32_w]; rw [c6b0]) | skip)
      by_cases c8 : a1 = true
      · subst c8
        have H1 : (date_clock.j0 k t125 true) = some r := by rw [if_pos rfl] at H; exact H
        clear H
        have H := H1
        clear H1
        have H' := Aside0.mk H
        clear H
        obtain ⟨Ao9, co9, eo9⟩ := Kd.R_slice HO127.out
        subst eo9
        go_wp2
        go_meet
        case rel => exact ⟨_, (true), (by first | rfl | (simp; done) | (simp [*]; done) | (simp; exact isEmpty_bne _) | (simp; exact isEmpty_beq _)), H', ⟨by first | omega | exact Nat.le_refl _⟩, ⟨by (with_reducible repeat (first | apply Kd.R_alloc | apply Kd.R_drewN | apply Kd.R_drew)); exact HO127.out⟩, ⟨by repeat (first | (with_reducible first | exact HB.out | apply below_alloc | apply pw_below_drewN | apply below_drew1) | exact HB.out)⟩⟩
      · replace c8 := Bool.eq_false_iff.mpr c8
        subst c8
        have H1 : (date_clock.j0 k t125 ((t125.length : Int) != 2)) = some r := by rw [if_neg (show ¬ (false = true) by decide)] at H; exact H
        clear H
        have H := H1
        clear H1
        have H' := Aside0.mk H
        clear H
        obtain ⟨Ao10, co10, eo10⟩ := Kd.R_slice HO127.out
        subst eo10
        go_wp2
        go_meet
        case rel => exact ⟨_, (((t125.length : Int) != 2)), (by first | rfl | (simp; done) | (simp [*]; done) | (simp; exact isEmpty_bne _) | (simp; exact isEmpty_beq _)), H', ⟨by first | omega | exact Nat.le_refl _⟩, ⟨by (with_reducible repeat (first | apply Kd.R_alloc | apply Kd.R_drewN | apply Kd.R_drew)); exact HO127.out⟩, ⟨by repeat (first | (with_reducible first | exact HB.out | apply below_alloc | apply pw_below_drewN | apply below_drew1) | exact HB.out)⟩⟩
  case rest =>
    clear HC4
    try clear c2
    try clear p2
    try clear c3
    try clear c6
    try clear c6b0
    try clear c6b1
    try clear c8
    obtain ⟨kq, x22_3, rfl, HA, HJ3, HO_5, HB⟩ := hcut
    cases kq with
    | zero => exact absurd HA.out (by simp [date_clock.j0])
    | succ kj3 =>
      have H := HA.out
      clear HA
      simp only [date_clock.j0] at H
      by_cases c11 : x22_3 = true
      · subst c11
        have H1 : (some (-1)) = some r := by rw [if_pos rfl] at H; exact H
        clear H
        have H := H1
        clear H1
        obtain rfl := Option.some.inj H
        go_wp2
        go_ret
        exact ⟨by first | rfl | (simp [errW_none, errW_some] <;> rfl) | (simp [*, errW_none, errW_some] <;> rfl), by repeat (first | (with_reducible first | exact HB.out | apply below_alloc | apply pw_below_drewN | apply below_drew1) | exact HB.out)⟩
      · replace c11 := Bool.eq_false_iff.mpr c11
        subst c11
        have H1 : ((some (([24, 60, 60] : List Int) : List Int)).bind fun y128 => (if 0 ≤ (t125.length : Int) then (if (t125.length : Int) ≤ (y128.length : Int) then ((some (y128.take ((t125.length : Int) : Int).toNat : List Int)).bind fun y131 => (date_clock.l0 kj3 t125 0 y131 (y131.length : Int) 0)) else (none)) else (none))) = some r := by rw [if_neg (show ¬ (false = true) by decide)] at H; exact H
        clear H
        have H := H1
        clear H1
        obtain ⟨y128, hy128⟩ : ∃ y_ : List Int, y_ = (([24, 60, 60] : List Int)) := ⟨_, rfl⟩
        replace H : (if 0 ≤ (t125.length : Int) then (if (t125.length : Int) ≤ (y128.length : Int) then ((some (y128.take ((t125.length : Int) : Int).toNat : List Int)).bind fun y131 => (date_clock.l0 kj3 t125 0 y131 (y131.length : Int) 0)) else (none)) else (none)) = some r := by first | (rw [hy128]; with_reducible exact H) | (have H2_ := (Option.bind_some _ _).symm.trans H; rw [hy128]; with_reducible exact H2_) | (have H2_ := (Option.bind_some _ _).symm.trans H; with_reducible exact H2_) | with_reducible exact H | (rw [hy128]; exact H) | exact H
        have Ny128 := Aside0.mk hy128
        clear hy128
        by_cases c12 : 0 ≤ (t125.length : Int)
        · rw [if_pos c12] at H
          have c12b0 := eq_true c12
          have c12b1 : decide (0 ≤ (t125.length : Int)) = true := decide_eq_true c12
          clear c12
          by_cases c13 : (t125.length : Int) ≤ (y128.length : Int)
          · rw [if_pos c13] at H
            have c13b0 := eq_true c13
            have c13b1 : decide ((t125.length : Int) ≤ (y128.length : Int)) = true := decide_eq_true c13
            clear c13
            obtain ⟨y131, hy131⟩ : ∃ y_ : List Int, y_ = (y128.take ((t125.length : Int) : Int).toNat) := ⟨_, rfl⟩
            replace H : (date_clock.l0 kj3 t125 0 y131 (y131.length : Int) 0) = some r := by first | (rw [hy131]; with_reducible exact H) | (have H2_ := (Option.bind_some _ _).symm.trans H; rw [hy131]; with_reducible exact H2_) | (have H2_ := (Option.bind_some _ _).symm.trans H; with_reducible exact H2_) | with_reducible exact H | (rw [hy131]; exact H) | exact H
            have Ny131 := Aside0.mk hy131
            clear hy131
            have H' := Aside0.mk H
            clear H
            go_wp2_with (first | ((with_reducible refine gate_dst (N := 23) rfl ?_); (try (refine gate_guard (by rfl) ?_; dsimp only)); refine Kd.R_lit (Kd.int .i64) _ 3 ?hg (N := 23) ?hd (xs := ([24, 60, 60] : List Int)) (inner := [.int .i64 24, .int .i64 60, .int .i64 60]) (ok := fun _ => True) (okp := fun _ => True) ?hr ?hp (fun _ hk => hk) trivial (Below.refl _ _) (Nat.le_refl _) (by simp) ?_; (case hd => rfl); (case hg => rfl); (case hr => first | (go_simp; done) | (go_simp; rfl)); (case hp => exact (Reps.one (show Kd.M (Kd.int .i64) _ _ _ 24 [.int .i64 24] from rfl) (Reps.one (show Kd.M (Kd.int .i64) _ _ _ 60 [.int .i64 60] from rfl) (Reps.one (show Kd.M (Kd.int .i64) _ _ _ 60 [.int .i64 60] from rfl) (Reps.none _ _))))); intro v129 w14 ho15 hb hg_ hnew_; clear hg_ hnew_; (first | rw [← Ny128.out] at ho15 | (simp only [Int.reduceToNat] at ho15; rw [← Ny128.out] at ho15)); have n0_ := Aside0.mk (Kd.R_below (by (with_reducible repeat (first | apply Kd.R_alloc | apply Kd.R_drewN | apply Kd.R_drew)); exact HO_5.out) hb); have n1_ := Aside0.mk (Kd.R_lower ho15 (below_size (by repeat (first | (with_reducible first | exact HB.out | apply below_alloc | apply pw_below_drewN | apply below_drew1) | exact HB.out)))); have n2_ := Aside0.mk (below_step (by repeat (first | (with_reducible first | exact HB.out | apply below_alloc | apply pw_below_drewN | apply below_drew1) | exact HB.out)) hb); clear HO_5; clear HB; have HO_5 := n0_; have HO130 := n1_; have HB := n2_; clear n0_ n1_ n2_; clear hb ho15; obtain ⟨Ao16, co16, eo16⟩ := Kd.R_slice HO_5.out; subst eo16; obtain ⟨Ao18, co18, eo18⟩ := Kd.R_slice HO130.out; subst eo18; have q17 : ((t125.length : Int) : Int) ≤ ((y128.length : Int) : Int) := of_decide_eq_true (by first | (with_reducible assumption) | assumption); obtain ⟨i017, hi017, _, hsz17, _⟩ := info_parts info3; have hroom17 : y128.length ≤ co18 := (Kd.R_reads' HO130.out).2.1; have hC17 : Kd.C (Kd.int .i64) _ Ao18 y128.length y128 := (Kd.R_reads' HO130.out).2.2; have hcut17 := cut_to (P := Tryz.prog) 64 3 .i64 Tryz.underlying64 hi017 Ao18 y128.length co18 (t125.length : Int) (of_decide_eq_true (by first | (with_reducible assumption) | assumption)) q17 hroom17; have hr17 := Kd.C_take (m := ((t125.length : Int) : Int).toNat) hC17 (by omega); have hy17 : y131.length = ((t125.length : Int) : Int).toNat := (by rw [Ny131.out, List.length_take]; omega); rw [← Ny131.out] at hr17; rw [← hy17] at hcut17; have HR134 := Aside0.mk hr17; have HC134 := Aside0.mk (show y131.length ≤ co18 from by omega); clear hr17 hC17 hroom17 hi017 hsz17; have KY17 := Aside0.mk hy17; clear hy17; have KL17 := Aside0.mk (show ((t125.length : Int) : Int).toNat ≤ y128.length from by omega); replace q17 := eq_true q17))
            go_loopg [6, 28] kj3 (fun kq v6 v28 w' => ∃ (x6_2 : Int) (x28_2 : Int), v6 = .int .i64 x6_2 ∧ v28 = .int .i64 x28_2 ∧ Aside0 (date_clock.l0 kq t125 x6_2 y131 (y131.length : Int) x28_2 = some r) ∧ Aside0 (kq ≤ kj3) ∧ Aside0 (Kd.R Kd.string 9 w' w.heap.size (fun _ => True) (.slice Ao16 t125.length co16) t125) ∧ Aside0 (Kd.C (Kd.int .i64) w' Ao18 y131.length y131) ∧ Aside0 (Below w.heap.size w w'))
            case atStart => exact ⟨(0), (0), (by first | rfl | (simp; done) | (simp [*]; done) | (simp; exact isEmpty_bne _) | (simp; exact isEmpty_beq _)), (by first | rfl | (simp; done) | (simp [*]; done) | (simp; exact isEmpty_bne _) | (simp; exact isEmpty_beq _)), H', ⟨Nat.le_refl _⟩, ⟨by (with_reducible repeat (first | apply Kd.R_alloc | apply Kd.R_drewN | apply Kd.R_drew)); exact HO_5.out⟩, ⟨by repeat (first | (with_reducible exact HR134.out) | (with_reducible refine Kd.C_alloc ?_ _) | (with_reducible refine Kd.C_drewN ?_ _) | (with_reducible refine Kd.C_drew ?_) | exact HR134.out)⟩, ⟨by repeat (first | (with_reducible first | exact HB.out | apply below_alloc | apply pw_below_drewN | apply below_drew1) | exact HB.out)⟩⟩
            case round =>
              clear H'
              try clear c1
              try clear q1
              try clear c2
              try clear p2
              try clear c3
              try clear c6
              try clear c6b0
              try clear c6b1
              try clear c8
              try clear c11
              try clear c12
              try clear c12b0
              try clear c12b1
              try clear c13
              try clear c13b0
              try clear c13b1
              try clear q17
              try clear p2
              try clear q17
              obtain ⟨x6_2, x28_2, rfl, rfl, HA, HK2, HO_5, HR134, HB⟩ := hrel
              cases gk with
              | zero => exact absurd HA.out (by simp [date_clock.l0])
              | succ k2 =>
                have H := HA.out
                clear HA
                simp only [date_clock.l0] at H
                by_cases c19 : x28_2 < (y131.length : Int)
                · rw [if_pos c19] at H
                  have c19b0 : decide (x28_2 < (y131.length : Int)) = true := decide_eq_true c19
                  clear c19
                  by_cases c20 : 0 ≤ x28_2
                  · rw [if_pos c20] at H
                    have c20b0 : decide (0 ≤ x28_2) = true := decide_eq_true c20
                    clear c20
                    by_cases c21 : x28_2 < (y131.length : Int)
                    · rw [if_pos c21] at H
                      have c21b0 : decide (x28_2 < (y131.length : Int)) = true := decide_eq_true c21
                      clear c21
                      by_cases c22 : x28_2 < (t125.length : Int)
                      · rw [if_pos c22] at H
                        have c22b0 : decide (x28_2 < (t125.length : Int)) = true := decide_eq_true c22
                        clear c22
                        replace H := Option.bind_eq_some_iff.mp H
                        obtain ⟨t137, A230, H⟩ := H
                        replace H : (if t137 < 0 then (some (-1)) else (if t137 ≥ (rd y131 x28_2) then (some (-1)) else ((some (([3600, 60, 1] : List Int) : List Int)).bind fun y138 => (if x28_2 < (y138.length : Int) then (date_clock.l0 k2 t125 (wrap64 (x6_2 + (wrap64 (t137 * (rd y138 x28_2))))) y131 (y131.length : Int) (wrap64 (x28_2 + 1))) else (none))))) = some r := H
                        have A23 := Aside0.mk A230
                        clear A230
                        by_cases c24 : t137 < 0
                        · rw [if_pos c24] at H
                          have c24b0 : decide (t137 < 0) = true := decide_eq_true c24
                          clear c24
                          obtain rfl := Option.some.inj H
                          have p135 : 0 ≤ (x28_2 : Int) := of_decide_eq_true (by first | (with_reducible assumption) | assumption)
                          have q135 : x28_2 < (y131.length : Int) := of_decide_eq_true (by first | (with_reducible assumption) | assumption)
                          obtain ⟨ad135, e135, hx135_0⟩ := Kd.at_int (by repeat (first | (with_reducible exact HR134.out) | (with_reducible refine Kd.C_alloc ?_ _) | (with_reducible refine Kd.C_drewN ?_ _) | (with_reducible refine Kd.C_drew ?_) | exact HR134.out)) x28_2 p135 q135
                          cases e135
                          replace p135 := eq_true p135
                          replace q135 := eq_true q135
                          have p136 : 0 ≤ (x28_2 : Int) := of_decide_eq_true (by first | (with_reducible assumption) | assumption)
                          have q136 : x28_2 < (t125.length : Int) := of_decide_eq_true (by first | (with_reducible assumption) | assumption)
                          obtain ⟨ad136, e136, hx136_0⟩ := Kd.at_string (Kd.R_reads' HO_5.out).2.2 x28_2 p136 q136
                          cases e136
                          replace p136 := eq_true p136
                          replace q136 := eq_true q136
                          go_wp2_with (first | ((with_reducible refine gate_callee (f := 32) rfl ?_); refine goesL_ (some 37) rfl rfl Tryz.func32 (by kernel_rfl) rfl #[.string (rdOf ByteArray.empty t125 x28_2), .int .i64 2] rfl (by (try simp only [List.map_toArray, List.map_cons, List.map_nil]); first | done | rfl | (simp only [List.length_drop, List.length_take]; rfl)) ?_; (with_reducible refine (date_number.calls (rdOf ByteArray.empty t125 x28_2) 2 t137 _ ?side1 A23.out).mono ?_); (case side1 => exact LW.below HLW.out (by repeat (first | (with_reducible first | exact HB.out | apply below_alloc | apply pw_below_drewN | apply below_drew1) | exact HB.out))); rintro e w25 ⟨rfl, hb⟩; refine ⟨_, rfl, ?_⟩; have n0_ := Aside0.mk (Kd.R_below (by (with_reducible repeat (first | apply Kd.R_alloc | apply Kd.R_drewN | apply Kd.R_drew)); exact HO_5.out) hb); have n1_ := Aside0.mk (Kd.C_below (by repeat (first | (with_reducible exact HR134.out) | (with_reducible refine Kd.C_alloc ?_ _) | (with_reducible refine Kd.C_drewN ?_ _) | (with_reducible refine Kd.C_drew ?_) | exact HR134.out)) hb); have n2_ := Aside0.mk (below_step (by repeat (first | (with_reducible first | exact HB.out | apply below_alloc | apply pw_below_drewN | apply below_drew1) | exact HB.out)) hb); clear HO_5; clear HR134; clear HB; have HO_5 := n0_; have HR134 := n1_; have HB := n2_; clear n0_ n1_ n2_; (try clear hb); (try clear hb2); (try clear hk); (try clear hi)))
                          go_ret
                          exact ⟨by first | rfl | (simp [errW_none, errW_some] <;> rfl) | (simp [*, errW_none, errW_some] <;> rfl), by repeat (first | (with_reducible first | exact HB.out | apply below_alloc | apply pw_below_drewN | apply below_drew1) | exact HB.out)⟩
                        · rw [if_neg c24] at H
                          have c24b0 : decide (t137 < 0) = false := decide_eq_false c24
                          clear c24
                          by_cases c26 : t137 ≥ (rd y131 x28_2)
                          · rw [if_pos c26] at H
                            have c26b0 : decide ((rd y131 x28_2) ≤ t137) = true := decide_eq_true c26
                            clear c26
                            obtain rfl := Option.some.inj H
                            have p135 : 0 ≤ (x28_2 : Int) := of_decide_eq_true (by first | (with_reducible assumption) | assumption)
                            have q135 : x28_2 < (y131.length : Int) := of_decide_eq_true (by first | (with_reducible assumption) | assumption)
                            obtain ⟨ad135, e135, hx135_0⟩ := Kd.at_int (by repeat (first | (with_reducible exact HR134.out) | (with_reducible refine Kd.C_alloc ?_ _) | (with_reducible refine Kd.C_drewN ?_ _) | (with_reducible refine Kd.C_drew ?_) | exact HR134.out)) x28_2 p135 q135
                            cases e135
                            replace p135 := eq_true p135
                            replace q135 := eq_true q135
                            have p136 : 0 ≤ (x28_2 : Int) := of_decide_eq_true (by first | (with_reducible assumption) | assumption)
                            have q136 : x28_2 < (t125.length : Int) := of_decide_eq_true (by first | (with_reducible assumption) | assumption)
                            obtain ⟨ad136, e136, hx136_0⟩ := Kd.at_string (Kd.R_reads' HO_5.out).2.2 x28_2 p136 q136
                            cases e136
                            replace p136 := eq_true p136
                            replace q136 := eq_true q136
                            go_wp2_with (first | ((with_reducible refine gate_callee (f := 32) rfl ?_); refine goesL_ (some 37) rfl rfl Tryz.func32 (by kernel_rfl) rfl #[.string (rdOf ByteArray.empty t125 x28_2), .int .i64 2] rfl (by (try simp only [List.map_toArray, List.map_cons, List.map_nil]); first | done | rfl | (simp only [List.length_drop, List.length_take]; rfl)) ?_; (with_reducible refine (date_number.calls (rdOf ByteArray.empty t125 x28_2) 2 t137 _ ?side1 A23.out).mono ?_); (case side1 => exact LW.below HLW.out (by repeat (first | (with_reducible first | exact HB.out | apply below_alloc | apply pw_below_drewN | apply below_drew1) | exact HB.out))); rintro e w27 ⟨rfl, hb⟩; refine ⟨_, rfl, ?_⟩; have n0_ := Aside0.mk (Kd.R_below (by (with_reducible repeat (first | apply Kd.R_alloc | apply Kd.R_drewN | apply Kd.R_drew)); exact HO_5.out) hb); have n1_ := Aside0.mk (Kd.C_below (by repeat (first | (with_reducible exact HR134.out) | (with_reducible refine Kd.C_alloc ?_ _) | (with_reducible refine Kd.C_drewN ?_ _) | (with_reducible refine Kd.C_drew ?_) | exact HR134.out)) hb); have n2_ := Aside0.mk (below_step (by repeat (first | (with_reducible first | exact HB.out | apply below_alloc | apply pw_below_drewN | apply below_drew1) | exact HB.out)) hb); clear HO_5; clear HR134; clear HB; have HO_5 := n0_; have HR134 := n1_; have HB := n2_; clear n0_ n1_ n2_; (try clear hb); (try clear hb2); (try clear hk); (try clear hi)))
                            go_ret
                            exact ⟨by first | rfl | (simp [errW_none, errW_some] <;> rfl) | (simp [*, errW_none, errW_some] <;> rfl), by repeat (first | (with_reducible first | exact HB.out | apply below_alloc | apply pw_below_drewN | apply below_drew1) | exact HB.out)⟩
                          · rw [if_neg c26] at H
                            have c26b0 : decide ((rd y131 x28_2) ≤ t137) = false := decide_eq_false c26
                            clear c26
                            obtain ⟨y138, hy138⟩ : ∃ y_ : List Int, y_ = (([3600, 60, 1] : List Int)) := ⟨_, rfl⟩
                            replace H : (if x28_2 < (y138.length : Int) then (date_clock.l0 k2 t125 (wrap64 (x6_2 + (wrap64 (t137 * (rd y138 x28_2))))) y131 (y131.length : Int) (wrap64 (x28_2 + 1))) else (none)) = some r := by first | (rw [hy138]; with_reducible exact H) | (have H2_ := (Option.bind_some _ _).symm.trans H; rw [hy138]; with_reducible exact H2_) | (have H2_ := (Option.bind_some _ _).symm.trans H; with_reducible exact H2_) | with_reducible exact H | (rw [hy138]; exact H) | exact H
                            have Ny138 := Aside0.mk hy138
                            clear hy138
                            by_cases c28 : x28_2 < (y138.length : Int)
                            · rw [if_pos c28] at H
                              have c28b0 : decide (x28_2 < (y138.length : Int)) = true := decide_eq_true c28
                              clear c28
                              have H' := Aside0.mk H
                              clear H
                              have p135 : 0 ≤ (x28_2 : Int) := of_decide_eq_true (by first | (with_reducible assumption) | assumption)
                              have q135 : x28_2 < (y131.length : Int) := of_decide_eq_true (by first | (with_reducible assumption) | assumption)
                              obtain ⟨ad135, e135, hx135_0⟩ := Kd.at_int (by repeat (first | (with_reducible exact HR134.out) | (with_reducible refine Kd.C_alloc ?_ _) | (with_reducible refine Kd.C_drewN ?_ _) | (with_reducible refine Kd.C_drew ?_) | exact HR134.out)) x28_2 p135 q135
                              cases e135
                              replace p135 := eq_true p135
                              replace q135 := eq_true q135
                              have p136 : 0 ≤ (x28_2 : Int) := of_decide_eq_true (by first | (with_reducible assumption) | assumption)
                              have q136 : x28_2 < (t125.length : Int) := of_decide_eq_true (by first | (with_reducible assumption) | assumption)
                              obtain ⟨ad136, e136, hx136_0⟩ := Kd.at_string (Kd.R_reads' HO_5.out).2.2 x28_2 p136 q136
                              cases e136
                              replace p136 := eq_true p136
                              replace q136 := eq_true q136
                              go_wp2_with (first | ((with_reducible refine gate_callee (f := 32) rfl ?_); refine goesL_ (some 37) rfl rfl Tryz.func32 (by kernel_rfl) rfl #[.string (rdOf ByteArray.empty t125 x28_2), .int .i64 2] rfl (by (try simp only [List.map_toArray, List.map_cons, List.map_nil]); first | done | rfl | (simp only [List.length_drop, List.length_take]; rfl)) ?_; (with_reducible refine (date_number.calls (rdOf ByteArray.empty t125 x28_2) 2 t137 _ ?side1 A23.out).mono ?_); (case side1 => exact LW.below HLW.out (by repeat (first | (with_reducible first | exact HB.out | apply below_alloc | apply pw_below_drewN | apply below_drew1) | exact HB.out))); rintro e w29 ⟨rfl, hb⟩; refine ⟨_, rfl, ?_⟩; have n0_ := Aside0.mk (Kd.R_below (by (with_reducible repeat (first | apply Kd.R_alloc | apply Kd.R_drewN | apply Kd.R_drew)); exact HO_5.out) hb); have n1_ := Aside0.mk (Kd.C_below (by repeat (first | (with_reducible exact HR134.out) | (with_reducible refine Kd.C_alloc ?_ _) | (with_reducible refine Kd.C_drewN ?_ _) | (with_reducible refine Kd.C_drew ?_) | exact HR134.out)) hb); have n2_ := Aside0.mk (below_step (by repeat (first | (with_reducible first | exact HB.out | apply below_alloc | apply pw_below_drewN | apply below_drew1) | exact HB.out)) hb); clear HO_5; clear HR134; clear HB; have HO_5 := n0_; have HR134 := n1_; have HB := n2_; clear n0_ n1_ n2_; (try clear hb); (try clear hb2); (try clear hk); (try clear hi)) | ((with_reducible refine gate_dst (N := 47) rfl ?_); (try (refine gate_guard (by rfl) ?_; dsimp only)); refine Kd.R_lit (Kd.int .i64) _ 3 ?hg (N := 47) ?hd (xs := ([3600, 60, 1] : List Int)) (inner := [.int .i64 3600, .int .i64 60, .int .i64 1]) (ok := fun _ => True) (okp := fun _ => True) ?hr ?hp (fun _ hk => hk) trivial (Below.refl _ _) (Nat.le_refl _) (by simp) ?_; (case hd => rfl); (case hg => rfl); (case hr => first | (go_simp; done) | (go_simp; rfl)); (case hp => exact (Reps.one (show Kd.M (Kd.int .i64) _ _ _ 3600 [.int .i64 3600] from rfl) (Reps.one (show Kd.M (Kd.int .i64) _ _ _ 60 [.int .i64 60] from rfl) (Reps.one (show Kd.M (Kd.int .i64) _ _ _ 1 [.int .i64 1] from rfl) (Reps.none _ _))))); intro v139 w30 ho31 hb hg_ hnew_; clear hg_ hnew_; (first | rw [← Ny138.out] at ho31 | (simp only [Int.reduceToNat] at ho31; rw [← Ny138.out] at ho31)); have n0_ := Aside0.mk (Kd.R_below (by (with_reducible repeat (first | apply Kd.R_alloc | apply Kd.R_drewN | apply Kd.R_drew)); exact HO_5.out) hb); have n1_ := Aside0.mk (Kd.R_lower ho31 (below_size (by repeat (first | (with_reducible first | exact HB.out | apply below_alloc | apply pw_below_drewN | apply below_drew1) | exact HB.out)))); have n2_ := Aside0.mk (Kd.C_below (by repeat (first | (with_reducible exact HR134.out) | (with_reducible refine Kd.C_alloc ?_ _) | (with_reducible refine Kd.C_drewN ?_ _) | (with_reducible refine Kd.C_drew ?_) | exact HR134.out)) hb); have n3_ := Aside0.mk (below_step (by repeat (first | (with_reducible first | exact HB.out | apply below_alloc | apply pw_below_drewN | apply below_drew1) | exact HB.out)) hb); clear HO_5; clear HR134; clear HB; have HO_5 := n0_; have HO140 := n1_; have HR134 := n2_; have HB := n3_; clear n0_ n1_ n2_ n3_; clear hb ho31; obtain ⟨Ao32, co32, eo32⟩ := Kd.R_slice HO140.out; subst eo32; have p141 : 0 ≤ (x28_2 : Int) := of_decide_eq_true (by first | (with_reducible assumption) | assumption); have q141 : x28_2 < (y138.length : Int) := of_decide_eq_true (by first | (with_reducible assumption) | assumption); obtain ⟨ad141, e141, hx141_0⟩ := Kd.at_int (Kd.R_reads' HO140.out).2.2 x28_2 p141 q141; cases e141; replace p141 := eq_true p141; replace q141 := eq_true q141))
                              go_roundg k2
                              case measure => have := HJ3.out; have := HK2.out; omega
                              case rel => exact ⟨(wrap64 (x6_2 + (wrap64 (t137 * (rd y138 x28_2))))), (wrap64 (x28_2 + 1)), (by first | rfl | (simp; done) | (simp [*]; done) | (simp; exact isEmpty_bne _) | (simp; exact isEmpty_beq _)), (by first | rfl | (simp; done) | (simp [*]; done) | (simp; exact isEmpty_bne _) | (simp; exact isEmpty_beq _)), H', ⟨by have := HJ3.out; have := HK2.out; omega⟩, ⟨by (with_reducible repeat (first | apply Kd.R_alloc | apply Kd.R_drewN | apply Kd.R_drew)); exact HO_5.out⟩, ⟨by repeat (first | (with_reducible exact HR134.out) | (with_reducible refine Kd.C_alloc ?_ _) | (with_reducible refine Kd.C_drewN ?_ _) | (with_reducible refine Kd.C_drew ?_) | exact HR134.out)⟩, ⟨by repeat (first | (with_reducible first | exact HB.out | apply below_alloc | apply pw_below_drewN | apply below_drew1) | exact HB.out)⟩⟩
                            · rw [if_neg c28] at H
                              exact absurd H (by simp)
                      · rw [if_neg c22] at H
                        exact absurd H (by simp)
                    · rw [if_neg c21] at H
                      exact absurd H (by simp)
                  · rw [if_neg c20] at H
                    exact absurd H (by simp)
                · rw [if_neg c19] at H
                  have c19b0 : decide (x28_2 < (y131.length : Int)) = false := decide_eq_false c19
                  clear c19
                  obtain rfl := Option.some.inj H
                  go_wp2
                  go_ret
                  exact ⟨by first | rfl | (simp [errW_none, errW_some] <;> rfl) | (simp [*, errW_none, errW_some] <;> rfl), by repeat (first | (with_reducible first | exact HB.out | apply below_alloc | apply pw_below_drewN | apply below_drew1) | exact HB.out)⟩
          · rw [if_neg c13] at H
            exact absurd H (by simp)
        · rw [if_neg c12] at H
          exact absurd H (by simp)

/-! ### stringslite_HasPrefix: function 58 -/
def stringslite_HasPrefix.f (a0 : ByteArray) (a1 : ByteArray) : Option (Bool) := if (a0.size : Int) ≥ (a1.size : Int) then (if 0 ≤ (a1.size : Int) then (if (a1.size : Int) ≤ (a0.size : Int) then (some ((a0.extract 0 ((a1.size : Int) : Int).toNat).toList == a1.toList)) else (none)) else (none)) else (some false)
set_option maxHeartbeats 8000000 in
set_option maxRecDepth 100000 in
theorem stringslite_HasPrefix.calls (a0 : ByteArray) (a1 : ByteArray) (r : Bool) (w : World) (hLW : LW w) (h : stringslite_HasPrefix.f a0 a1 = some r) :
    Calls Tryz.prog 58 #[.string a0, .string a1] w fun e w' => e = .returned (.bool r) ∧ Drawn0 w w' := by
  have HLW := Aside0.mk hLW
  clear hLW
  have H : (if (a0.size : Int) ≥ (a1.size : Int) then (if 0 ≤ (a1.size : Int) then (if (a1.size : Int) ≤ (a0.size : Int) then (some ((a0.extract 0 ((a1.size : Int) : Int).toNat).toList == a1.toList)) else (none)) else (none)) else (some false)) = some r := h
  clear h
  by_cases c3 : (a0.size : Int) ≥ (a1.size : Int)
  · rw [if_pos c3] at H
    have c3b0 : decide ((a1.size : Int) ≤ (a0.size : Int)) = true := decide_eq_true c3
    have c3b1 : decide (a1.size ≤ a0.size) = true := decide_eq_true (Int.ofNat_le.mp c3)
    clear c3
    by_cases c4 : 0 ≤ (a1.size : Int)
    · rw [if_pos c4] at H
      have c4b0 := eq_true c4
      have c4b1 : decide (0 ≤ (a1.size : Int)) = true := decide_eq_true c4
      clear c4
      by_cases c5 : (a1.size : Int) ≤ (a0.size : Int)
      · rw [if_pos c5] at H
        have c5b0 := eq_true c5
        have c5b1 : decide ((a1.size : Int) ≤ (a0.size : Int)) = true := decide_eq_true c5
        clear c5
        obtain rfl := Option.some.inj H
        go_enter Tryz.func58, Tryz.ntmps58
        go_wp2
        go_ret
        exact ⟨by first | rfl | (simp; done) | (simp [*]; done) | (simp; exact isEmpty_bne _) | (simp; exact isEmpty_beq _), by repeat (first | exact Drawn0.refl _ | apply Drawn0.step)⟩
      · rw [if_neg c5] at H
        exact absurd H (by simp)
    · rw [if_neg c4] at H
      exact absurd H (by simp)
  · rw [if_neg c3] at H
    have c3b0 : decide ((a1.size : Int) ≤ (a0.size : Int)) = false := decide_eq_false c3
    have c3b1 : decide (a1.size ≤ a0.size) = false := decide_eq_false (fun h => c3 (Int.ofNat_le.mpr h))
    clear c3
    obtain rfl := Option.some.inj H
    go_enter Tryz.func58, Tryz.ntmps58
    go_wp2
    go_ret
    exact ⟨by first | rfl | (simp; done) | (simp [*]; done) | (simp; exact isEmpty_bne _) | (simp; exact isEmpty_beq _), by repeat (first | exact Drawn0.refl _ | apply Drawn0.step)⟩

/-! ### strings_HasPrefix: function 45 -/
def strings_HasPrefix.f (a0 : ByteArray) (a1 : ByteArray) : Option (Bool) := (stringslite_HasPrefix.f a0 a1).bind fun t142 => (some t142)
set_option maxHeartbeats 8000000 in
set_option maxRecDepth 100000 in
theorem strings_HasPrefix.calls (a0 : ByteArray) (a1 : ByteArray) (r : Bool) (w : World) (hLW : LW w) (h : strings_HasPrefix.f a0 a1 = some r) :
    Calls Tryz.prog 45 #[.string a0, .string a1] w fun e w' => e = .returned (.bool r) ∧ Drawn0 w w' := by
  have HLW := Aside0.mk hLW
  clear hLW
  have H : ((stringslite_HasPrefix.f a0 a1).bind fun t142 => (some t142)) = some r := h
  clear h
  replace H := Option.bind_eq_some_iff.mp H
  obtain ⟨t142, A30, H⟩ := H
  replace H : (some t142) = some r := H
  have A3 := Aside0.mk A30
  clear A30
  obtain rfl := Option.some.inj H
  go_enter Tryz.func45, Tryz.ntmps45
  go_wp2_with (first | ((with_reducible refine gate_callee (f := 58) rfl ?_); refine goesL_ (some 7) rfl rfl Tryz.func58 (by kernel_rfl) rfl #[.string a0, .string a1] rfl (by (try simp only [List.map_toArray, List.map_cons, List.map_nil]); first | done | rfl | (simp only [List.length_drop, List.length_take]; rfl)) ?_; (with_reducible refine (stringslite_HasPrefix.calls a0 a1 t142 _ ?side1 A3.out).mono ?_); (case side1 => repeat (first | exact HLW.out | apply LW.drewN | apply LW.drew)); rintro e w' ⟨rfl, ⟨nd, rfl⟩⟩; refine ⟨_, rfl, ?_⟩))
  go_ret
  exact ⟨by first | rfl | (simp; done) | (simp [*]; done) | (simp; exact isEmpty_bne _) | (simp; exact isEmpty_beq _), by repeat (first | exact Drawn0.refl _ | apply Drawn0.step)⟩

end Go.Proofs.YtlbgphddhjnlcaaGreatDoor.P
