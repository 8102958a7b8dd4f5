-- Written by a program of this session (wip/gen/lprint.py over the kit's print.py) out of the translation. Lean checks it.
import Derived.Test.YtlbgphddhjnlcaaGreatDoorP0
import Derived.Test.YtlbgphddhjnlcaaGreatDoorP2
import Derived.Test.YtlbgphddhjnlcaaGreatDoorP4
import Derived.Test.YtlbgphddhjnlcaaGreatDoorP8
import Derived.Test.YtlbgphddhjnlcaaGreatDoorP9
namespace Go.Proofs.YtlbgphddhjnlcaaGreatDoor.P
open Go.Proofs.YtlbgphddhjnlcaaGreatDoor.E Go.Proofs.YtlbgphddhjnlcaaGreatDoorV
open Go.RowKit Go.Proofs.YtlbgphddhjnlcaaGreatDoorW.PrintWords Go.Proofs.YtlbgphddhjnlcaaGreatDoorW.PrintLast Go.Proofs.YtlbgphddhjnlcaaGreatDoorW.PrintMore
attribute [local go_sem] max2_int min2_int max_two min_two max_three min_three max_four min_four   -- for this text's walks alone
set_option linter.unusedVariables false
set_option linter.unusedSimpArgs false

/-! ### lanternref14_Print: function 14 -/
def lanternref14_Print.j0 : Nat → Int → Int → Option (ByteArray)
  | 0, _, _ => none
  | k + 1, x3, x4 => (lanternref14_Civil.f k x3).bind fun bt248 => (if bt248.1 = 0 then (some (⟨#[]⟩ : ByteArray)) else ((lanternref14_digits.f k bt248.1 4).bind fun t251 => (if t251.size + 1 ≤ 9223372036854775807 then ((lanternref14_digits.f k bt248.2.1 2).bind fun t252 => (if (t251 ++ (⟨#[45]⟩ : ByteArray)).size + t252.size ≤ 9223372036854775807 then (if ((t251 ++ (⟨#[45]⟩ : ByteArray)) ++ t252).size + 1 ≤ 9223372036854775807 then ((lanternref14_digits.f k bt248.2.2 2).bind fun t253 => (if (((t251 ++ (⟨#[45]⟩ : ByteArray)) ++ t252) ++ (⟨#[45]⟩ : ByteArray)).size + t253.size ≤ 9223372036854775807 then (if ((((t251 ++ (⟨#[45]⟩ : ByteArray)) ++ t252) ++ (⟨#[45]⟩ : ByteArray)) ++ t253).size + 1 ≤ 9223372036854775807 then ((lanternref14_digits.f k (wrap64 (Int.tdiv x4 3600)) 2).bind fun t254 => (if (((((t251 ++ (⟨#[45]⟩ : ByteArray)) ++ t252) ++ (⟨#[45]⟩ : ByteArray)) ++ t253) ++ (⟨#[84]⟩ : ByteArray)).size + t254.size ≤ 9223372036854775807 then (if ((((((t251 ++ (⟨#[45]⟩ : ByteArray)) ++ t252) ++ (⟨#[45]⟩ : ByteArray)) ++ t253) ++ (⟨#[84]⟩ : ByteArray)) ++ t254).size + 1 ≤ 9223372036854775807 then ((lanternref14_digits.f k (Int.tmod (wrap64 (Int.tdiv x4 60)) 60) 2).bind fun t255 => (if (((((((t251 ++ (⟨#[45]⟩ : ByteArray)) ++ t252) ++ (⟨#[45]⟩ : ByteArray)) ++ t253) ++ (⟨#[84]⟩ : ByteArray)) ++ t254) ++ (⟨#[58]⟩ : ByteArray)).size + t255.size ≤ 9223372036854775807 then (if ((((((((t251 ++ (⟨#[45]⟩ : ByteArray)) ++ t252) ++ (⟨#[45]⟩ : ByteArray)) ++ t253) ++ (⟨#[84]⟩ : ByteArray)) ++ t254) ++ (⟨#[58]⟩ : ByteArray)) ++ t255).size + 1 ≤ 9223372036854775807 then ((lanternref14_digits.f k (Int.tmod x4 60) 2).bind fun t256 => (if (((((((((t251 ++ (⟨#[45]⟩ : ByteArray)) ++ t252) ++ (⟨#[45]⟩ : ByteArray)) ++ t253) ++ (⟨#[84]⟩ : ByteArray)) ++ t254) ++ (⟨#[58]⟩ : ByteArray)) ++ t255) ++ (⟨#[58]⟩ : ByteArray)).size + t256.size ≤ 9223372036854775807 then (if ((((((((((t251 ++ (⟨#[45]⟩ : ByteArray)) ++ t252) ++ (⟨#[45]⟩ : ByteArray)) ++ t253) ++ (⟨#[84]⟩ : ByteArray)) ++ t254) ++ (⟨#[58]⟩ : ByteArray)) ++ t255) ++ (⟨#[58]⟩ : ByteArray)) ++ t256).size + 1 ≤ 9223372036854775807 then (some (((((((((((t251 ++ (⟨#[45]⟩ : ByteArray)) ++ t252) ++ (⟨#[45]⟩ : ByteArray)) ++ t253) ++ (⟨#[84]⟩ : ByteArray)) ++ t254) ++ (⟨#[58]⟩ : ByteArray)) ++ t255) ++ (⟨#[58]⟩ : ByteArray)) ++ t256) ++ (⟨#[90]⟩ : ByteArray))) else (none)) else (none))) else (none)) else (none))) else (none)) else (none))) else (none)) else (none))) else (none)) else (none))) else (none))))
def lanternref14_Print.f (k : Nat) (a0 : Int) : Option (ByteArray) := if (Int.tmod a0 86400) < 0 then (lanternref14_Print.j0 k (wrap64 ((wrap64 (Int.tdiv a0 86400)) - 1)) (wrap64 ((Int.tmod a0 86400) + 86400))) else (lanternref14_Print.j0 k (wrap64 (Int.tdiv a0 86400)) (Int.tmod a0 86400))
theorem lanternref14_Print.mono_l : ∀ k, (∀ y0 y1, LeO (lanternref14_Print.j0 k y0 y1) (lanternref14_Print.j0 (k + 1) y0 y1))
  | 0 => fun _ _ r h => by simp [lanternref14_Print.j0] at h
  | k + 1 => by
    have ih0 := lanternref14_Print.mono_l k
    · intro y0 y1
      unfold lanternref14_Print.j0
      repeat' first
      | (with_reducible exact ih0 _ _)
      | (with_reducible exact lanternref14_Civil.mono _ _)
      | (with_reducible exact lanternref14_digits.mono _ _ _)
      | (with_reducible exact LeO.refl _)
      | (with_reducible exact LeO.none _)
      | (with_reducible refine LeO.ite ?_ ?_)
      | (with_reducible refine LeO.bind ?_ (fun _ => ?_))
      | exact ih0 _ _
      | exact lanternref14_Civil.mono _ _
      | exact lanternref14_digits.mono _ _ _
      | exact LeO.none _
      | refine LeO.ite ?_ ?_
      | refine LeO.bind ?_ (fun _ => ?_)
theorem lanternref14_Print.mono : ∀ a0 k, LeO (lanternref14_Print.f k a0) (lanternref14_Print.f (k + 1) a0) := by
  intro a0 k
  have ih0 := lanternref14_Print.mono_l k
  unfold lanternref14_Print.f
  repeat' first
      | (with_reducible exact ih0 _ _)
      | (with_reducible exact lanternref14_Civil.mono _ _)
      | (with_reducible exact lanternref14_digits.mono _ _ _)
      | (with_reducible exact LeO.refl _)
      | (with_reducible exact LeO.none _)
      | (with_reducible refine LeO.ite ?_ ?_)
      | (with_reducible refine LeO.bind ?_ (fun _ => ?_))
      | exact ih0 _ _
      | exact lanternref14_Civil.mono _ _
      | exact lanternref14_digits.mono _ _ _
      | exact LeO.none _
      | refine LeO.ite ?_ ?_
      | refine LeO.bind ?_ (fun _ => ?_)
set_option maxHeartbeats 8000000 in
set_option maxRecDepth 100000 in
theorem lanternref14_Print.calls (k : Nat) (a0 : Int) (r : ByteArray) (w : World) (hLW : LW w) (h : lanternref14_Print.f k a0 = some r) :
    Calls Tryz.prog 14 #[.int .i64 a0] w fun e w' => e = .returned (.string r) ∧ Below w.heap.size w w' := by
  have HLW := Aside0.mk hLW
  clear hLW
  have HB := Aside0.mk (Below.refl w.heap.size w)
  have H : (if (Int.tmod a0 86400) < 0 then (lanternref14_Print.j0 k (wrap64 ((wrap64 (Int.tdiv a0 86400)) - 1)) (wrap64 ((Int.tmod a0 86400) + 86400))) else (lanternref14_Print.j0 k (wrap64 (Int.tdiv a0 86400)) (Int.tmod a0 86400))) = some r := h
  clear h
  have HC2 := Aside0.mk H
  clear H
  go_enter Tryz.func14, Tryz.ntmps14
  go_upto_if 13 with (fail)
  go_cut [3, 4] (fun v3 v4 wc => ∃ (kq : Nat) (x3_1 : Int) (x4_1 : Int), v3 = .int .i64 x3_1 ∧ v4 = .int .i64 x4_1 ∧ Aside0 (lanternref14_Print.j0 kq x3_1 x4_1 = some r) ∧ Aside0 (kq ≤ k) ∧ Aside0 (Below w.heap.size w wc))
  case first =>
    have H := HC2.out
    clear HC2
    by_cases c3 : (Int.tmod a0 86400) < 0
    · rw [if_pos c3] at H
      have c3b0 : decide ((Int.tmod a0 86400) < 0) = true := decide_eq_true c3
      clear c3
      (first | rw [c3b0] | (simp only [i64_w, i32_w]; rw [c3b0]) | skip)
      have H' := Aside0.mk H
      clear H
      go_wp2
      go_meet
      case rel => exact ⟨_, (wrap64 ((wrap64 (Int.tdiv a0 86400)) - 1)), (wrap64 ((Int.tmod a0 86400) + 86400)), (by first | rfl | (simp; done) | (simp [*]; done) | (simp; exact isEmpty_bne _) | (simp; exact isEmpty_beq _)), (by first | rfl | (simp; done) | (simp [*]; done) | (simp; exact isEmpty_bne _) | (simp; exact isEmpty_beq _)), H', ⟨by first | omega | exact Nat.le_refl _⟩, ⟨by repeat (first | (with_reducible first | exact HB.out | apply below_alloc | apply pw_below_drewN | apply below_drew1) | exact HB.out)⟩⟩
    · rw [if_neg c3] at H
      have c3b0 : decide ((Int.tmod a0 86400) < 0) = false := decide_eq_false c3
      clear c3
      (first | rw [c3b0] | (simp only [i64_w, i32_w]; rw [c3b0]) | skip)
      have H' := Aside0.mk H
      clear H
      go_wp2
      go_meet
      case rel => exact ⟨_, (wrap64 (Int.tdiv a0 86400)), (Int.tmod a0 86400), (by first | rfl | (simp; done) | (simp [*]; done) | (simp; exact isEmpty_bne _) | (simp; exact isEmpty_beq _)), (by first | rfl | (simp; done) | (simp [*]; done) | (simp; exact isEmpty_bne _) | (simp; exact isEmpty_beq _)), H', ⟨by first | omega | exact Nat.le_refl _⟩, ⟨by repeat (first | (with_reducible first | exact HB.out | apply below_alloc | apply pw_below_drewN | apply below_drew1) | exact HB.out)⟩⟩
  case rest =>
    clear HC2
    try clear c1
    try clear p2
    try clear c3
    try clear c3b0
    obtain ⟨kq, x3_1, x4_1, rfl, rfl, HA, HJ1, HB⟩ := hcut
    cases kq with
    | zero => exact absurd HA.out (by simp [lanternref14_Print.j0])
    | succ kj1 =>
      have H := HA.out
      clear HA
      simp only [lanternref14_Print.j0] at H
      replace H := Option.bind_eq_some_iff.mp H
      obtain ⟨⟨t248, t249, t250⟩, A40, H⟩ := H
      replace H : (if t248 = 0 then (some (⟨#[]⟩ : ByteArray)) else ((lanternref14_digits.f kj1 t248 4).bind fun t251 => (if t251.size + 1 ≤ 9223372036854775807 then ((lanternref14_digits.f kj1 t249 2).bind fun t252 => (if (t251 ++ (⟨#[45]⟩ : ByteArray)).size + t252.size ≤ 9223372036854775807 then (if ((t251 ++ (⟨#[45]⟩ : ByteArray)) ++ t252).size + 1 ≤ 9223372036854775807 then ((lanternref14_digits.f kj1 t250 2).bind fun t253 => (if (((t251 ++ (⟨#[45]⟩ : ByteArray)) ++ t252) ++ (⟨#[45]⟩ : ByteArray)).size + t253.size ≤ 9223372036854775807 then (if ((((t251 ++ (⟨#[45]⟩ : ByteArray)) ++ t252) ++ (⟨#[45]⟩ : ByteArray)) ++ t253).size + 1 ≤ 9223372036854775807 then ((lanternref14_digits.f kj1 (wrap64 (Int.tdiv x4_1 3600)) 2).bind fun t254 => (if (((((t251 ++ (⟨#[45]⟩ : ByteArray)) ++ t252) ++ (⟨#[45]⟩ : ByteArray)) ++ t253) ++ (⟨#[84]⟩ : ByteArray)).size + t254.size ≤ 9223372036854775807 then (if ((((((t251 ++ (⟨#[45]⟩ : ByteArray)) ++ t252) ++ (⟨#[45]⟩ : ByteArray)) ++ t253) ++ (⟨#[84]⟩ : ByteArray)) ++ t254).size + 1 ≤ 9223372036854775807 then ((lanternref14_digits.f kj1 (Int.tmod (wrap64 (Int.tdiv x4_1 60)) 60) 2).bind fun t255 => (if (((((((t251 ++ (⟨#[45]⟩ : ByteArray)) ++ t252) ++ (⟨#[45]⟩ : ByteArray)) ++ t253) ++ (⟨#[84]⟩ : ByteArray)) ++ t254) ++ (⟨#[58]⟩ : ByteArray)).size + t255.size ≤ 9223372036854775807 then (if ((((((((t251 ++ (⟨#[45]⟩ : ByteArray)) ++ t252) ++ (⟨#[45]⟩ : ByteArray)) ++ t253) ++ (⟨#[84]⟩ : ByteArray)) ++ t254) ++ (⟨#[58]⟩ : ByteArray)) ++ t255).size + 1 ≤ 9223372036854775807 then ((lanternref14_digits.f kj1 (Int.tmod x4_1 60) 2).bind fun t256 => (if (((((((((t251 ++ (⟨#[45]⟩ : ByteArray)) ++ t252) ++ (⟨#[45]⟩ : ByteArray)) ++ t253) ++ (⟨#[84]⟩ : ByteArray)) ++ t254) ++ (⟨#[58]⟩ : ByteArray)) ++ t255) ++ (⟨#[58]⟩ : ByteArray)).size + t256.size ≤ 9223372036854775807 then (if ((((((((((t251 ++ (⟨#[45]⟩ : ByteArray)) ++ t252) ++ (⟨#[45]⟩ : ByteArray)) ++ t253) ++ (⟨#[84]⟩ : ByteArray)) ++ t254) ++ (⟨#[58]⟩ : ByteArray)) ++ t255) ++ (⟨#[58]⟩ : ByteArray)) ++ t256).size + 1 ≤ 9223372036854775807 then (some (((((((((((t251 ++ (⟨#[45]⟩ : ByteArray)) ++ t252) ++ (⟨#[45]⟩ : ByteArray)) ++ t253) ++ (⟨#[84]⟩ : ByteArray)) ++ t254) ++ (⟨#[58]⟩ : ByteArray)) ++ t255) ++ (⟨#[58]⟩ : ByteArray)) ++ t256) ++ (⟨#[90]⟩ : ByteArray))) else (none)) else (none))) else (none)) else (none))) else (none)) else (none))) else (none)) else (none))) else (none)) else (none))) else (none)))) = some r := H
      have A4 := Aside0.mk A40
      clear A40
      by_cases c5 : t248 = 0
      · rw [if_pos c5] at H
        have c5b0 : (t248 == 0) = true := beq_iff_eq.mpr c5
        have c5b1 : (t248 != 0) = false := bne_eq_false_iff_eq.mpr c5
        clear c5
        obtain rfl := Option.some.inj H
        go_wp2_with (first | ((with_reducible refine gate_callee (f := 12) rfl ?_); refine goesL_ (some 20) rfl rfl Tryz.func12 (by kernel_rfl) rfl #[.int .i64 x3_1] rfl (by (try simp only [List.map_toArray, List.map_cons, List.map_nil]); first | done | rfl | (simp only [List.length_drop, List.length_take]; rfl)) ?_; (with_reducible refine (lanternref14_Civil.calls kj1 x3_1 t248 t249 t250 _ ?side1 A4.out).mono ?_); (case side1 => exact LW.below HLW.out (by repeat (first | (with_reducible first | exact HB.out | apply below_alloc | apply pw_below_drewN | apply below_drew1) | exact HB.out))); rintro e w' ⟨rfl, ⟨nd, rfl⟩⟩; refine ⟨_, rfl, ?_⟩))
        go_ret
        exact ⟨by first | rfl | (simp [errW_none, errW_some] <;> rfl) | (simp [*, errW_none, errW_some] <;> rfl), by repeat (first | (with_reducible first | exact HB.out | apply below_alloc | apply pw_below_drewN | apply below_drew1) | exact HB.out)⟩
      · rw [if_neg c5] at H
        have c5b0 : (t248 == 0) = false := beq_eq_false_iff_ne.mpr c5
        have c5b1 : (t248 != 0) = true := bne_iff_ne.mpr c5
        replace H := Option.bind_eq_some_iff.mp H
        obtain ⟨t251, A60, H⟩ := H
        replace H : (if t251.size + 1 ≤ 9223372036854775807 then ((lanternref14_digits.f kj1 t249 2).bind fun t252 => (if (t251 ++ (⟨#[45]⟩ : ByteArray)).size + t252.size ≤ 9223372036854775807 then (if ((t251 ++ (⟨#[45]⟩ : ByteArray)) ++ t252).size + 1 ≤ 9223372036854775807 then ((lanternref14_digits.f kj1 t250 2).bind fun t253 => (if (((t251 ++ (⟨#[45]⟩ : ByteArray)) ++ t252) ++ (⟨#[45]⟩ : ByteArray)).size + t253.size ≤ 9223372036854775807 then (if ((((t251 ++ (⟨#[45]⟩ : ByteArray)) ++ t252) ++ (⟨#[45]⟩ : ByteArray)) ++ t253).size + 1 ≤ 9223372036854775807 then ((lanternref14_digits.f kj1 (wrap64 (Int.tdiv x4_1 3600)) 2).bind fun t254 => (if (((((t251 ++ (⟨#[45]⟩ : ByteArray)) ++ t252) ++ (⟨#[45]⟩ : ByteArray)) ++ t253) ++ (⟨#[84]⟩ : ByteArray)).size + t254.size ≤ 9223372036854775807 then (if ((((((t251 ++ (⟨#[45]⟩ : ByteArray)) ++ t252) ++ (⟨#[45]⟩ : ByteArray)) ++ t253) ++ (⟨#[84]⟩ : ByteArray)) ++ t254).size + 1 ≤ 9223372036854775807 then ((lanternref14_digits.f kj1 (Int.tmod (wrap64 (Int.tdiv x4_1 60)) 60) 2).bind fun t255 => (if (((((((t251 ++ (⟨#[45]⟩ : ByteArray)) ++ t252) ++ (⟨#[45]⟩ : ByteArray)) ++ t253) ++ (⟨#[84]⟩ : ByteArray)) ++ t254) ++ (⟨#[58]⟩ : ByteArray)).size + t255.size ≤ 9223372036854775807 then (if ((((((((t251 ++ (⟨#[45]⟩ : ByteArray)) ++ t252) ++ (⟨#[45]⟩ : ByteArray)) ++ t253) ++ (⟨#[84]⟩ : ByteArray)) ++ t254) ++ (⟨#[58]⟩ : ByteArray)) ++ t255).size + 1 ≤ 9223372036854775807 then ((lanternref14_digits.f kj1 (Int.tmod x4_1 60) 2).bind fun t256 => (if (((((((((t251 ++ (⟨#[45]⟩ : ByteArray)) ++ t252) ++ (⟨#[45]⟩ : ByteArray)) ++ t253) ++ (⟨#[84]⟩ : ByteArray)) ++ t254) ++ (⟨#[58]⟩ : ByteArray)) ++ t255) ++ (⟨#[58]⟩ : ByteArray)).size + t256.size ≤ 9223372036854775807 then (if ((((((((((t251 ++ (⟨#[45]⟩ : ByteArray)) ++ t252) ++ (⟨#[45]⟩ : ByteArray)) ++ t253) ++ (⟨#[84]⟩ : ByteArray)) ++ t254) ++ (⟨#[58]⟩ : ByteArray)) ++ t255) ++ (⟨#[58]⟩ : ByteArray)) ++ t256).size + 1 ≤ 9223372036854775807 then (some (((((((((((t251 ++ (⟨#[45]⟩ : ByteArray)) ++ t252) ++ (⟨#[45]⟩ : ByteArray)) ++ t253) ++ (⟨#[84]⟩ : ByteArray)) ++ t254) ++ (⟨#[58]⟩ : ByteArray)) ++ t255) ++ (⟨#[58]⟩ : ByteArray)) ++ t256) ++ (⟨#[90]⟩ : ByteArray))) else (none)) else (none))) else (none)) else (none))) else (none)) else (none))) else (none)) else (none))) else (none)) else (none))) else (none)) = some r := H
        have A6 := Aside0.mk A60
        clear A60
        by_cases c7 : t251.size + 1 ≤ 9223372036854775807
        · rw [if_pos c7] at H
          have c7b0 := eq_true c7
          have c7b1 : decide (t251.size + 1 ≤ 9223372036854775807) = true := decide_eq_true c7
          try have c7b2 : (9223372036854775807 < t251.size + 1) = False := eq_false (Nat.not_lt.2 c7)
          replace H := Option.bind_eq_some_iff.mp H
          obtain ⟨t252, A80, H⟩ := H
          replace H : (if (t251 ++ (⟨#[45]⟩ : ByteArray)).size + t252.size ≤ 9223372036854775807 then (if ((t251 ++ (⟨#[45]⟩ : ByteArray)) ++ t252).size + 1 ≤ 9223372036854775807 then ((lanternref14_digits.f kj1 t250 2).bind fun t253 => (if (((t251 ++ (⟨#[45]⟩ : ByteArray)) ++ t252) ++ (⟨#[45]⟩ : ByteArray)).size + t253.size ≤ 9223372036854775807 then (if ((((t251 ++ (⟨#[45]⟩ : ByteArray)) ++ t252) ++ (⟨#[45]⟩ : ByteArray)) ++ t253).size + 1 ≤ 9223372036854775807 then ((lanternref14_digits.f kj1 (wrap64 (Int.tdiv x4_1 3600)) 2).bind fun t254 => (if (((((t251 ++ (⟨#[45]⟩ : ByteArray)) ++ t252) ++ (⟨#[45]⟩ : ByteArray)) ++ t253) ++ (⟨#[84]⟩ : ByteArray)).size + t254.size ≤ 9223372036854775807 then (if ((((((t251 ++ (⟨#[45]⟩ : ByteArray)) ++ t252) ++ (⟨#[45]⟩ : ByteArray)) ++ t253) ++ (⟨#[84]⟩ : ByteArray)) ++ t254).size + 1 ≤ 9223372036854775807 then ((lanternref14_digits.f kj1 (Int.tmod (wrap64 (Int.tdiv x4_1 60)) 60) 2).bind fun t255 => (if (((((((t251 ++ (⟨#[45]⟩ : ByteArray)) ++ t252) ++ (⟨#[45]⟩ : ByteArray)) ++ t253) ++ (⟨#[84]⟩ : ByteArray)) ++ t254) ++ (⟨#[58]⟩ : ByteArray)).size + t255.size ≤ 9223372036854775807 then (if ((((((((t251 ++ (⟨#[45]⟩ : ByteArray)) ++ t252) ++ (⟨#[45]⟩ : ByteArray)) ++ t253) ++ (⟨#[84]⟩ : ByteArray)) ++ t254) ++ (⟨#[58]⟩ : ByteArray)) ++ t255).size + 1 ≤ 9223372036854775807 then ((lanternref14_digits.f kj1 (Int.tmod x4_1 60) 2).bind fun t256 => (if (((((((((t251 ++ (⟨#[45]⟩ : ByteArray)) ++ t252) ++ (⟨#[45]⟩ : ByteArray)) ++ t253) ++ (⟨#[84]⟩ : ByteArray)) ++ t254) ++ (⟨#[58]⟩ : ByteArray)) ++ t255) ++ (⟨#[58]⟩ : ByteArray)).size + t256.size ≤ 9223372036854775807 then (if ((((((((((t251 ++ (⟨#[45]⟩ : ByteArray)) ++ t252) ++ (⟨#[45]⟩ : ByteArray)) ++ t253) ++ (⟨#[84]⟩ : ByteArray)) ++ t254) ++ (⟨#[58]⟩ : ByteArray)) ++ t255) ++ (⟨#[58]⟩ : ByteArray)) ++ t256).size + 1 ≤ 9223372036854775807 then (some (((((((((((t251 ++ (⟨#[45]⟩ : ByteArray)) ++ t252) ++ (⟨#[45]⟩ : ByteArray)) ++ t253) ++ (⟨#[84]⟩ : ByteArray)) ++ t254) ++ (⟨#[58]⟩ : ByteArray)) ++ t255) ++ (⟨#[58]⟩ : ByteArray)) ++ t256) ++ (⟨#[90]⟩ : ByteArray))) else (none)) else (none))) else (none)) else (none))) else (none)) else (none))) else (none)) else (none))) else (none)) else (none)) = some r := H
          have A8 := Aside0.mk A80
          clear A80
          by_cases c9 : (t251 ++ (⟨#[45]⟩ : ByteArray)).size + t252.size ≤ 9223372036854775807
          · rw [if_pos c9] at H
            have c9b0 := eq_true c9
            have c9b1 : decide ((t251 ++ (⟨#[45]⟩ : ByteArray)).size + t252.size ≤ 9223372036854775807) = true := decide_eq_true c9
            try have c9b2 : (9223372036854775807 < (t251 ++ (⟨#[45]⟩ : ByteArray)).size + t252.size) = False := eq_false (Nat.not_lt.2 c9)
            try have c9b8 : (9223372036854775807 < t251.size + 1 + t252.size) = False := eq_false (by have hq := of_eq_true c9b0; simp only [ByteArray.size_append, ByteArray.size_extract] at hq; have hz0 : (⟨#[45]⟩ : ByteArray).size = 1 := rfl; omega)
            by_cases c10 : ((t251 ++ (⟨#[45]⟩ : ByteArray)) ++ t252).size + 1 ≤ 9223372036854775807
            · rw [if_pos c10] at H
              have c10b0 := eq_true c10
              have c10b1 : decide (((t251 ++ (⟨#[45]⟩ : ByteArray)) ++ t252).size + 1 ≤ 9223372036854775807) = true := decide_eq_true c10
              try have c10b2 : (9223372036854775807 < ((t251 ++ (⟨#[45]⟩ : ByteArray)) ++ t252).size + 1) = False := eq_false (Nat.not_lt.2 c10)
              try have c10b8 : (9223372036854775807 < t251.size + 1 + t252.size + 1) = False := eq_false (by have hq := of_eq_true c10b0; simp only [ByteArray.size_append, ByteArray.size_extract] at hq; have hz0 : (⟨#[45]⟩ : ByteArray).size = 1 := rfl; omega)
              replace H := Option.bind_eq_some_iff.mp H
              obtain ⟨t253, A110, H⟩ := H
              replace H : (if (((t251 ++ (⟨#[45]⟩ : ByteArray)) ++ t252) ++ (⟨#[45]⟩ : ByteArray)).size + t253.size ≤ 9223372036854775807 then (if ((((t251 ++ (⟨#[45]⟩ : ByteArray)) ++ t252) ++ (⟨#[45]⟩ : ByteArray)) ++ t253).size + 1 ≤ 9223372036854775807 then ((lanternref14_digits.f kj1 (wrap64 (Int.tdiv x4_1 3600)) 2).bind fun t254 => (if (((((t251 ++ (⟨#[45]⟩ : ByteArray)) ++ t252) ++ (⟨#[45]⟩ : ByteArray)) ++ t253) ++ (⟨#[84]⟩ : ByteArray)).size + t254.size ≤ 9223372036854775807 then (if ((((((t251 ++ (⟨#[45]⟩ : ByteArray)) ++ t252) ++ (⟨#[45]⟩ : ByteArray)) ++ t253) ++ (⟨#[84]⟩ : ByteArray)) ++ t254).size + 1 ≤ 9223372036854775807 then ((lanternref14_digits.f kj1 (Int.tmod (wrap64 (Int.tdiv x4_1 60)) 60) 2).bind fun t255 => (if (((((((t251 ++ (⟨#[45]⟩ : ByteArray)) ++ t252) ++ (⟨#[45]⟩ : ByteArray)) ++ t253) ++ (⟨#[84]⟩ : ByteArray)) ++ t254) ++ (⟨#[58]⟩ : ByteArray)).size + t255.size ≤ 9223372036854775807 then (if ((((((((t251 ++ (⟨#[45]⟩ : ByteArray)) ++ t252) ++ (⟨#[45]⟩ : ByteArray)) ++ t253) ++ (⟨#[84]⟩ : ByteArray)) ++ t254) ++ (⟨#[58]⟩ : ByteArray)) ++ t255).size + 1 ≤ 9223372036854775807 then ((lanternref14_digits.f kj1 (Int.tmod x4_1 60) 2).bind fun t256 => (if (((((((((t251 ++ (⟨#[45]⟩ : ByteArray)) ++ t252) ++ (⟨#[45]⟩ : ByteArray)) ++ t253) ++ (⟨#[84]⟩ : ByteArray)) ++ t254) ++ (⟨#[58]⟩ : ByteArray)) ++ t255) ++ (⟨#[58]⟩ : ByteArray)).size + t256.size ≤ 9223372036854775807 then (if ((((((((((t251 ++ (⟨#[45]⟩ : ByteArray)) ++ t252) ++ (⟨#[45]⟩ : ByteArray)) ++ t253) ++ (⟨#[84]⟩ : ByteArray)) ++ t254) ++ (⟨#[58]⟩ : ByteArray)) ++ t255) ++ (⟨#[58]⟩ : ByteArray)) ++ t256).size + 1 ≤ 9223372036854775807 then (some (((((((((((t251 ++ (⟨#[45]⟩ : ByteArray)) ++ t252) ++ (⟨#[45]⟩ : ByteArray)) ++ t253) ++ (⟨#[84]⟩ : ByteArray)) ++ t254) ++ (⟨#[58]⟩ : ByteArray)) ++ t255) ++ (⟨#[58]⟩ : ByteArray)) ++ t256) ++ (⟨#[90]⟩ : ByteArray))) else (none)) else (none))) else (none)) else (none))) else (none)) else (none))) else (none)) else (none)) = some r := H
              have A11 := Aside0.mk A110
              clear A110
              by_cases c12 : (((t251 ++ (⟨#[45]⟩ : ByteArray)) ++ t252) ++ (⟨#[45]⟩ : ByteArray)).size + t253.size ≤ 9223372036854775807
              · rw [if_pos c12] at H
                have c12b0 := eq_true c12
                have c12b1 : decide ((((t251 ++ (⟨#[45]⟩ : ByteArray)) ++ t252) ++ (⟨#[45]⟩ : ByteArray)).size + t253.size ≤ 9223372036854775807) = true := decide_eq_true c12
                try have c12b2 : (9223372036854775807 < (((t251 ++ (⟨#[45]⟩ : ByteArray)) ++ t252) ++ (⟨#[45]⟩ : ByteArray)).size + t253.size) = False := eq_false (Nat.not_lt.2 c12)
                try have c12b8 : (9223372036854775807 < t251.size + 1 + t252.size + 1 + t253.size) = False := eq_false (by have hq := of_eq_true c12b0; simp only [ByteArray.size_append, ByteArray.size_extract] at hq; have hz0 : (⟨#[45]⟩ : ByteArray).size = 1 := rfl; omega)
                by_cases c13 : ((((t251 ++ (⟨#[45]⟩ : ByteArray)) ++ t252) ++ (⟨#[45]⟩ : ByteArray)) ++ t253).size + 1 ≤ 9223372036854775807
                · rw [if_pos c13] at H
                  have c13b0 := eq_true c13
                  have c13b1 : decide (((((t251 ++ (⟨#[45]⟩ : ByteArray)) ++ t252) ++ (⟨#[45]⟩ : ByteArray)) ++ t253).size + 1 ≤ 9223372036854775807) = true := decide_eq_true c13
                  try have c13b2 : (9223372036854775807 < ((((t251 ++ (⟨#[45]⟩ : ByteArray)) ++ t252) ++ (⟨#[45]⟩ : ByteArray)) ++ t253).size + 1) = False := eq_false (Nat.not_lt.2 c13)
                  try have c13b8 : (9223372036854775807 < t251.size + 1 + t252.size + 1 + t253.size + 1) = False := eq_false (by have hq := of_eq_true c13b0; simp only [ByteArray.size_append, ByteArray.size_extract] at hq; have hz0 : (⟨#[45]⟩ : ByteArray).size = 1 := rfl; omega)
                  replace H := Option.bind_eq_some_iff.mp H
                  obtain ⟨t254, A140, H⟩ := H
                  replace H : (if (((((t251 ++ (⟨#[45]⟩ : ByteArray)) ++ t252) ++ (⟨#[45]⟩ : ByteArray)) ++ t253) ++ (⟨#[84]⟩ : ByteArray)).size + t254.size ≤ 9223372036854775807 then (if ((((((t251 ++ (⟨#[45]⟩ : ByteArray)) ++ t252) ++ (⟨#[45]⟩ : ByteArray)) ++ t253) ++ (⟨#[84]⟩ : ByteArray)) ++ t254).size + 1 ≤ 9223372036854775807 then ((lanternref14_digits.f kj1 (Int.tmod (wrap64 (Int.tdiv x4_1 60)) 60) 2).bind fun t255 => (if (((((((t251 ++ (⟨#[45]⟩ : ByteArray)) ++ t252) ++ (⟨#[45]⟩ : ByteArray)) ++ t253) ++ (⟨#[84]⟩ : ByteArray)) ++ t254) ++ (⟨#[58]⟩ : ByteArray)).size + t255.size ≤ 9223372036854775807 then (if ((((((((t251 ++ (⟨#[45]⟩ : ByteArray)) ++ t252) ++ (⟨#[45]⟩ : ByteArray)) ++ t253) ++ (⟨#[84]⟩ : ByteArray)) ++ t254) ++ (⟨#[58]⟩ : ByteArray)) ++ t255).size + 1 ≤ 9223372036854775807 then ((lanternref14_digits.f kj1 (Int.tmod x4_1 60) 2).bind fun t256 => (if (((((((((t251 ++ (⟨#[45]⟩ : ByteArray)) ++ t252) ++ (⟨#[45]⟩ : ByteArray)) ++ t253) ++ (⟨#[84]⟩ : ByteArray)) ++ t254) ++ (⟨#[58]⟩ : ByteArray)) ++ t255) ++ (⟨#[58]⟩ : ByteArray)).size + t256.size ≤ 9223372036854775807 then (if ((((((((((t251 ++ (⟨#[45]⟩ : ByteArray)) ++ t252) ++ (⟨#[45]⟩ : ByteArray)) ++ t253) ++ (⟨#[84]⟩ : ByteArray)) ++ t254) ++ (⟨#[58]⟩ : ByteArray)) ++ t255) ++ (⟨#[58]⟩ : ByteArray)) ++ t256).size + 1 ≤ 9223372036854775807 then (some (((((((((((t251 ++ (⟨#[45]⟩ : ByteArray)) ++ t252) ++ (⟨#[45]⟩ : ByteArray)) ++ t253) ++ (⟨#[84]⟩ : ByteArray)) ++ t254) ++ (⟨#[58]⟩ : ByteArray)) ++ t255) ++ (⟨#[58]⟩ : ByteArray)) ++ t256) ++ (⟨#[90]⟩ : ByteArray))) else (none)) else (none))) else (none)) else (none))) else (none)) else (none)) = some r := H
                  have A14 := Aside0.mk A140
                  clear A140
                  by_cases c15 : (((((t251 ++ (⟨#[45]⟩ : ByteArray)) ++ t252) ++ (⟨#[45]⟩ : ByteArray)) ++ t253) ++ (⟨#[84]⟩ : ByteArray)).size + t254.size ≤ 9223372036854775807
                  · rw [if_pos c15] at H
                    have c15b0 := eq_true c15
                    have c15b1 : decide ((((((t251 ++ (⟨#[45]⟩ : ByteArray)) ++ t252) ++ (⟨#[45]⟩ : ByteArray)) ++ t253) ++ (⟨#[84]⟩ : ByteArray)).size + t254.size ≤ 9223372036854775807) = true := decide_eq_true c15
                    try have c15b2 : (9223372036854775807 < (((((t251 ++ (⟨#[45]⟩ : ByteArray)) ++ t252) ++ (⟨#[45]⟩ : ByteArray)) ++ t253) ++ (⟨#[84]⟩ : ByteArray)).size + t254.size) = False := eq_false (Nat.not_lt.2 c15)
                    try have c15b8 : (9223372036854775807 < t251.size + 1 + t252.size + 1 + t253.size + 1 + t254.size) = False := eq_false (by have hq := of_eq_true c15b0; simp only [ByteArray.size_append, ByteArray.size_extract] at hq; have hz0 : (⟨#[45]⟩ : ByteArray).size = 1 := rfl; have hz1 : (⟨#[84]⟩ : ByteArray).size = 1 := rfl; omega)
                    by_cases c16 : ((((((t251 ++ (⟨#[45]⟩ : ByteArray)) ++ t252) ++ (⟨#[45]⟩ : ByteArray)) ++ t253) ++ (⟨#[84]⟩ : ByteArray)) ++ t254).size + 1 ≤ 9223372036854775807
                    · rw [if_pos c16] at H
                      have c16b0 := eq_true c16
                      have c16b1 : decide (((((((t251 ++ (⟨#[45]⟩ : ByteArray)) ++ t252) ++ (⟨#[45]⟩ : ByteArray)) ++ t253) ++ (⟨#[84]⟩ : ByteArray)) ++ t254).size + 1 ≤ 9223372036854775807) = true := decide_eq_true c16
                      try have c16b2 : (9223372036854775807 < ((((((t251 ++ (⟨#[45]⟩ : ByteArray)) ++ t252) ++ (⟨#[45]⟩ : ByteArray)) ++ t253) ++ (⟨#[84]⟩ : ByteArray)) ++ t254).size + 1) = False := eq_false (Nat.not_lt.2 c16)
                      try have c16b8 : (9223372036854775807 < t251.size + 1 + t252.size + 1 + t253.size + 1 + t254.size + 1) = False := eq_false (by have hq := of_eq_true c16b0; simp only [ByteArray.size_append, ByteArray.size_extract] at hq; have hz0 : (⟨#[45]⟩ : ByteArray).size = 1 := rfl; have hz1 : (⟨#[84]⟩ : ByteArray).size = 1 := rfl; omega)
                      replace H := Option.bind_eq_some_iff.mp H
                      obtain ⟨t255, A170, H⟩ := H
                      replace H : (if (((((((t251 ++ (⟨#[45]⟩ : ByteArray)) ++ t252) ++ (⟨#[45]⟩ : ByteArray)) ++ t253) ++ (⟨#[84]⟩ : ByteArray)) ++ t254) ++ (⟨#[58]⟩ : ByteArray)).size + t255.size ≤ 9223372036854775807 then (if ((((((((t251 ++ (⟨#[45]⟩ : ByteArray)) ++ t252) ++ (⟨#[45]⟩ : ByteArray)) ++ t253) ++ (⟨#[84]⟩ : ByteArray)) ++ t254) ++ (⟨#[58]⟩ : ByteArray)) ++ t255).size + 1 ≤ 9223372036854775807 then ((lanternref14_digits.f kj1 (Int.tmod x4_1 60) 2).bind fun t256 => (if (((((((((t251 ++ (⟨#[45]⟩ : ByteArray)) ++ t252) ++ (⟨#[45]⟩ : ByteArray)) ++ t253) ++ (⟨#[84]⟩ : ByteArray)) ++ t254) ++ (⟨#[58]⟩ : ByteArray)) ++ t255) ++ (⟨#[58]⟩ : ByteArray)).size + t256.size ≤ 9223372036854775807 then (if ((((((((((t251 ++ (⟨#[45]⟩ : ByteArray)) ++ t252) ++ (⟨#[45]⟩ : ByteArray)) ++ t253) ++ (⟨#[84]⟩ : ByteArray)) ++ t254) ++ (⟨#[58]⟩ : ByteArray)) ++ t255) ++ (⟨#[58]⟩ : ByteArray)) ++ t256).size + 1 ≤ 9223372036854775807 then (some (((((((((((t251 ++ (⟨#[45]⟩ : ByteArray)) ++ t252) ++ (⟨#[45]⟩ : ByteArray)) ++ t253) ++ (⟨#[84]⟩ : ByteArray)) ++ t254) ++ (⟨#[58]⟩ : ByteArray)) ++ t255) ++ (⟨#[58]⟩ : ByteArray)) ++ t256) ++ (⟨#[90]⟩ : ByteArray))) else (none)) else (none))) else (none)) else (none)) = some r := H
                      have A17 := Aside0.mk A170
                      clear A170
                      by_cases c18 : (((((((t251 ++ (⟨#[45]⟩ : ByteArray)) ++ t252) ++ (⟨#[45]⟩ : ByteArray)) ++ t253) ++ (⟨#[84]⟩ : ByteArray)) ++ t254) ++ (⟨#[58]⟩ : ByteArray)).size + t255.size ≤ 9223372036854775807
                      · rw [if_pos c18] at H
                        have c18b0 := eq_true c18
                        have c18b1 : decide ((((((((t251 ++ (⟨#[45]⟩ : ByteArray)) ++ t252) ++ (⟨#[45]⟩ : ByteArray)) ++ t253) ++ (⟨#[84]⟩ : ByteArray)) ++ t254) ++ (⟨#[58]⟩ : ByteArray)).size + t255.size ≤ 9223372036854775807) = true := decide_eq_true c18
                        try have c18b2 : (9223372036854775807 < (((((((t251 ++ (⟨#[45]⟩ : ByteArray)) ++ t252) ++ (⟨#[45]⟩ : ByteArray)) ++ t253) ++ (⟨#[84]⟩ : ByteArray)) ++ t254) ++ (⟨#[58]⟩ : ByteArray)).size + t255.size) = False := eq_false (Nat.not_lt.2 c18)
                        try have c18b8 : (9223372036854775807 < t251.size + 1 + t252.size + 1 + t253.size + 1 + t254.size + 1 + t255.size) = False := eq_false (by have hq := of_eq_true c18b0; simp only [ByteArray.size_append, ByteArray.size_extract] at hq; have hz0 : (⟨#[45]⟩ : ByteArray).size = 1 := rfl; have hz1 : (⟨#[58]⟩ : ByteArray).size = 1 := rfl; have hz2 : (⟨#[84]⟩ : ByteArray).size = 1 := rfl; omega)
                        by_cases c19 : ((((((((t251 ++ (⟨#[45]⟩ : ByteArray)) ++ t252) ++ (⟨#[45]⟩ : ByteArray)) ++ t253) ++ (⟨#[84]⟩ : ByteArray)) ++ t254) ++ (⟨#[58]⟩ : ByteArray)) ++ t255).size + 1 ≤ 9223372036854775807
                        · rw [if_pos c19] at H
                          have c19b0 := eq_true c19
                          have c19b1 : decide (((((((((t251 ++ (⟨#[45]⟩ : ByteArray)) ++ t252) ++ (⟨#[45]⟩ : ByteArray)) ++ t253) ++ (⟨#[84]⟩ : ByteArray)) ++ t254) ++ (⟨#[58]⟩ : ByteArray)) ++ t255).size + 1 ≤ 9223372036854775807) = true := decide_eq_true c19
                          try have c19b2 : (9223372036854775807 < ((((((((t251 ++ (⟨#[45]⟩ : ByteArray)) ++ t252) ++ (⟨#[45]⟩ : ByteArray)) ++ t253) ++ (⟨#[84]⟩ : ByteArray)) ++ t254) ++ (⟨#[58]⟩ : ByteArray)) ++ t255).size + 1) = False := eq_false (Nat.not_lt.2 c19)
                          try have c19b8 : (9223372036854775807 < t251.size + 1 + t252.size + 1 + t253.size + 1 + t254.size + 1 + t255.size + 1) = False := eq_false (by have hq := of_eq_true c19b0; simp only [ByteArray.size_append, ByteArray.size_extract] at hq; have hz0 : (⟨#[45]⟩ : ByteArray).size = 1 := rfl; have hz1 : (⟨#[58]⟩ : ByteArray).size = 1 := rfl; have hz2 : (⟨#[84]⟩ : ByteArray).size = 1 := rfl; omega)
                          replace H := Option.bind_eq_some_iff.mp H
                          obtain ⟨t256, A200, H⟩ := H
                          replace H : (if (((((((((t251 ++ (⟨#[45]⟩ : ByteArray)) ++ t252) ++ (⟨#[45]⟩ : ByteArray)) ++ t253) ++ (⟨#[84]⟩ : ByteArray)) ++ t254) ++ (⟨#[58]⟩ : ByteArray)) ++ t255) ++ (⟨#[58]⟩ : ByteArray)).size + t256.size ≤ 9223372036854775807 then (if ((((((((((t251 ++ (⟨#[45]⟩ : ByteArray)) ++ t252) ++ (⟨#[45]⟩ : ByteArray)) ++ t253) ++ (⟨#[84]⟩ : ByteArray)) ++ t254) ++ (⟨#[58]⟩ : ByteArray)) ++ t255) ++ (⟨#[58]⟩ : ByteArray)) ++ t256).size + 1 ≤ 9223372036854775807 then (some (((((((((((t251 ++ (⟨#[45]⟩ : ByteArray)) ++ t252) ++ (⟨#[45]⟩ : ByteArray)) ++ t253) ++ (⟨#[84]⟩ : ByteArray)) ++ t254) ++ (⟨#[58]⟩ : ByteArray)) ++ t255) ++ (⟨#[58]⟩ : ByteArray)) ++ t256) ++ (⟨#[90]⟩ : ByteArray))) else (none)) else (none)) = some r := H
                          have A20 := Aside0.mk A200
                          clear A200
                          by_cases c21 : (((((((((t251 ++ (⟨#[45]⟩ : ByteArray)) ++ t252) ++ (⟨#[45]⟩ : ByteArray)) ++ t253) ++ (⟨#[84]⟩ : ByteArray)) ++ t254) ++ (⟨#[58]⟩ : ByteArray)) ++ t255) ++ (⟨#[58]⟩ : ByteArray)).size + t256.size ≤ 9223372036854775807
                          · rw [if_pos c21] at H
                            have c21b0 := eq_true c21
                            have c21b1 : decide ((((((((((t251 ++ (⟨#[45]⟩ : ByteArray)) ++ t252) ++ (⟨#[45]⟩ : ByteArray)) ++ t253) ++ (⟨#[84]⟩ : ByteArray)) ++ t254) ++ (⟨#[58]⟩ : ByteArray)) ++ t255) ++ (⟨#[58]⟩ : ByteArray)).size + t256.size ≤ 9223372036854775807) = true := decide_eq_true c21
                            try have c21b2 : (9223372036854775807 < (((((((((t251 ++ (⟨#[45]⟩ : ByteArray)) ++ t252) ++ (⟨#[45]⟩ : ByteArray)) ++ t253) ++ (⟨#[84]⟩ : ByteArray)) ++ t254) ++ (⟨#[58]⟩ : ByteArray)) ++ t255) ++ (⟨#[58]⟩ : ByteArray)).size + t256.size) = False := eq_false (Nat.not_lt.2 c21)
                            try have c21b8 : (9223372036854775807 < t251.size + 1 + t252.size + 1 + t253.size + 1 + t254.size + 1 + t255.size + 1 + t256.size) = False := eq_false (by have hq := of_eq_true c21b0; simp only [ByteArray.size_append, ByteArray.size_extract] at hq; have hz0 : (⟨#[45]⟩ : ByteArray).size = 1 := rfl; have hz1 : (⟨#[58]⟩ : ByteArray).size = 1 := rfl; have hz2 : (⟨#[84]⟩ : ByteArray).size = 1 := rfl; omega)
                            by_cases c22 : ((((((((((t251 ++ (⟨#[45]⟩ : ByteArray)) ++ t252) ++ (⟨#[45]⟩ : ByteArray)) ++ t253) ++ (⟨#[84]⟩ : ByteArray)) ++ t254) ++ (⟨#[58]⟩ : ByteArray)) ++ t255) ++ (⟨#[58]⟩ : ByteArray)) ++ t256).size + 1 ≤ 9223372036854775807
                            · rw [if_pos c22] at H
                              have c22b0 := eq_true c22
                              have c22b1 : decide (((((((((((t251 ++ (⟨#[45]⟩ : ByteArray)) ++ t252) ++ (⟨#[45]⟩ : ByteArray)) ++ t253) ++ (⟨#[84]⟩ : ByteArray)) ++ t254) ++ (⟨#[58]⟩ : ByteArray)) ++ t255) ++ (⟨#[58]⟩ : ByteArray)) ++ t256).size + 1 ≤ 9223372036854775807) = true := decide_eq_true c22
                              try have c22b2 : (9223372036854775807 < ((((((((((t251 ++ (⟨#[45]⟩ : ByteArray)) ++ t252) ++ (⟨#[45]⟩ : ByteArray)) ++ t253) ++ (⟨#[84]⟩ : ByteArray)) ++ t254) ++ (⟨#[58]⟩ : ByteArray)) ++ t255) ++ (⟨#[58]⟩ : ByteArray)) ++ t256).size + 1) = False := eq_false (Nat.not_lt.2 c22)
                              try have c22b8 : (9223372036854775807 < t251.size + 1 + t252.size + 1 + t253.size + 1 + t254.size + 1 + t255.size + 1 + t256.size + 1) = False := eq_false (by have hq := of_eq_true c22b0; simp only [ByteArray.size_append, ByteArray.size_extract] at hq; have hz0 : (⟨#[45]⟩ : ByteArray).size = 1 := rfl; have hz1 : (⟨#[58]⟩ : ByteArray).size = 1 := rfl; have hz2 : (⟨#[84]⟩ : ByteArray).size = 1 := rfl; omega)
                              obtain rfl := Option.some.inj H
                              go_wp2_with (first | ((with_reducible refine gate_callee (f := 12) rfl ?_); refine goesL_ (some 20) rfl rfl Tryz.func12 (by kernel_rfl) rfl #[.int .i64 x3_1] rfl (by (try simp only [List.map_toArray, List.map_cons, List.map_nil]); first | done | rfl | (simp only [List.length_drop, List.length_take]; rfl)) ?_; (with_reducible refine (lanternref14_Civil.calls kj1 x3_1 t248 t249 t250 _ ?side1 A4.out).mono ?_); (case side1 => exact LW.below HLW.out (by repeat (first | (with_reducible first | exact HB.out | apply below_alloc | apply pw_below_drewN | apply below_drew1) | exact HB.out))); rintro e w' ⟨rfl, ⟨nd, rfl⟩⟩; refine ⟨_, rfl, ?_⟩) | ((with_reducible refine gate_callee (f := 25) rfl ?_); refine goesL_ (some 27) rfl rfl Tryz.func25 (by kernel_rfl) rfl #[.int .i64 t248, .int .i64 4] rfl (by (try simp only [List.map_toArray, List.map_cons, List.map_nil]); first | done | rfl | (simp only [List.length_drop, List.length_take]; rfl)) ?_; (with_reducible refine (lanternref14_digits.calls kj1 t248 4 t251 _ ?side1 A6.out).mono ?_); (case side1 => exact LW.below HLW.out (by repeat (first | (with_reducible first | exact HB.out | apply below_alloc | apply pw_below_drewN | apply below_drew1) | exact HB.out))); rintro e w23 ⟨rfl, hb⟩; refine ⟨_, rfl, ?_⟩; have n0_ := Aside0.mk (below_step (by repeat (first | (with_reducible first | exact HB.out | apply below_alloc | apply pw_below_drewN | apply below_drew1) | exact HB.out)) hb); clear HB; have HB := n0_; clear n0_; (try clear hb); (try clear hb2); (try clear hk); (try clear hi)) | ((with_reducible refine gate_callee (f := 25) rfl ?_); refine goesL_ (some 30) rfl rfl Tryz.func25 (by kernel_rfl) rfl #[.int .i64 t249, .int .i64 2] rfl (by (try simp only [List.map_toArray, List.map_cons, List.map_nil]); first | done | rfl | (simp only [List.length_drop, List.length_take]; rfl)) ?_; (with_reducible refine (lanternref14_digits.calls kj1 t249 2 t252 _ ?side1 A8.out).mono ?_); (case side1 => exact LW.below HLW.out (by repeat (first | (with_reducible first | exact HB.out | apply below_alloc | apply pw_below_drewN | apply below_drew1) | exact HB.out))); rintro e w24 ⟨rfl, hb⟩; refine ⟨_, rfl, ?_⟩; have n0_ := Aside0.mk (below_step (by repeat (first | (with_reducible first | exact HB.out | apply below_alloc | apply pw_below_drewN | apply below_drew1) | exact HB.out)) hb); clear HB; have HB := n0_; clear n0_; (try clear hb); (try clear hb2); (try clear hk); (try clear hi)) | ((with_reducible refine gate_callee (f := 25) rfl ?_); refine goesL_ (some 34) rfl rfl Tryz.func25 (by kernel_rfl) rfl #[.int .i64 t250, .int .i64 2] rfl (by (try simp only [List.map_toArray, List.map_cons, List.map_nil]); first | done | rfl | (simp only [List.length_drop, List.length_take]; rfl)) ?_; (with_reducible refine (lanternref14_digits.calls kj1 t250 2 t253 _ ?side1 A11.out).mono ?_); (case side1 => exact LW.below HLW.out (by repeat (first | (with_reducible first | exact HB.out | apply below_alloc | apply pw_below_drewN | apply below_drew1) | exact HB.out))); rintro e w25 ⟨rfl, hb⟩; refine ⟨_, rfl, ?_⟩; have n0_ := Aside0.mk (below_step (by repeat (first | (with_reducible first | exact HB.out | apply below_alloc | apply pw_below_drewN | apply below_drew1) | exact HB.out)) hb); clear HB; have HB := n0_; clear n0_; (try clear hb); (try clear hb2); (try clear hk); (try clear hi)) | ((with_reducible refine gate_callee (f := 25) rfl ?_); refine goesL_ (some 39) rfl rfl Tryz.func25 (by kernel_rfl) rfl #[.int .i64 (wrap64 (Int.tdiv x4_1 3600)), .int .i64 2] rfl (by (try simp only [List.map_toArray, List.map_cons, List.map_nil]); first | done | rfl | (simp only [List.length_drop, List.length_take]; rfl)) ?_; (with_reducible refine (lanternref14_digits.calls kj1 (wrap64 (Int.tdiv x4_1 3600)) 2 t254 _ ?side1 A14.out).mono ?_); (case side1 => exact LW.below HLW.out (by repeat (first | (with_reducible first | exact HB.out | apply below_alloc | apply pw_below_drewN | apply below_drew1) | exact HB.out))); rintro e w26 ⟨rfl, hb⟩; refine ⟨_, rfl, ?_⟩; have n0_ := Aside0.mk (below_step (by repeat (first | (with_reducible first | exact HB.out | apply below_alloc | apply pw_below_drewN | apply below_drew1) | exact HB.out)) hb); clear HB; have HB := n0_; clear n0_; (try clear hb); (try clear hb2); (try clear hk); (try clear hi)) | ((with_reducible refine gate_callee (f := 25) rfl ?_); refine goesL_ (some 45) rfl rfl Tryz.func25 (by kernel_rfl) rfl #[.int .i64 (Int.tmod (wrap64 (Int.tdiv x4_1 60)) 60), .int .i64 2] rfl (by (try simp only [List.map_toArray, List.map_cons, List.map_nil]); first | done | rfl | (simp only [List.length_drop, List.length_take]; rfl)) ?_; (with_reducible refine (lanternref14_digits.calls kj1 (Int.tmod (wrap64 (Int.tdiv x4_1 60)) 60) 2 t255 _ ?side1 A17.out).mono ?_); (case side1 => exact LW.below HLW.out (by repeat (first | (with_reducible first | exact HB.out | apply below_alloc | apply pw_below_drewN | apply below_drew1) | exact HB.out))); rintro e w27 ⟨rfl, hb⟩; refine ⟨_, rfl, ?_⟩; have n0_ := Aside0.mk (below_step (by repeat (first | (with_reducible first | exact HB.out | apply below_alloc | apply pw_below_drewN | apply below_drew1) | exact HB.out)) hb); clear HB; have HB := n0_; clear n0_; (try clear hb); (try clear hb2); (try clear hk); (try clear hi)) | ((with_reducible refine gate_callee (f := 25) rfl ?_); refine goesL_ (some 50) rfl rfl Tryz.func25 (by kernel_rfl) rfl #[.int .i64 (Int.tmod x4_1 60), .int .i64 2] rfl (by (try simp only [List.map_toArray, List.map_cons, List.map_nil]); first | done | rfl | (simp only [List.length_drop, List.length_take]; rfl)) ?_; (with_reducible refine (lanternref14_digits.calls kj1 (Int.tmod x4_1 60) 2 t256 _ ?side1 A20.out).mono ?_); (case side1 => exact LW.below HLW.out (by repeat (first | (with_reducible first | exact HB.out | apply below_alloc | apply pw_below_drewN | apply below_drew1) | exact HB.out))); rintro e w28 ⟨rfl, hb⟩; refine ⟨_, rfl, ?_⟩; have n0_ := Aside0.mk (below_step (by repeat (first | (with_reducible first | exact HB.out | apply below_alloc | apply pw_below_drewN | apply below_drew1) | exact HB.out)) hb); clear HB; have HB := n0_; clear n0_; (try clear hb); (try clear hb2); (try clear hk); (try clear hi)))
                              go_ret
                              exact ⟨by first | rfl | (simp [errW_none, errW_some] <;> rfl) | (simp [*, errW_none, errW_some] <;> rfl), by repeat (first | (with_reducible first | exact HB.out | apply below_alloc | apply pw_below_drewN | apply below_drew1) | exact HB.out)⟩
                            · rw [if_neg c22] at H
                              exact absurd H (by simp)
                          · rw [if_neg c21] at H
                            exact absurd H (by simp)
                        · rw [if_neg c19] at H
                          exact absurd H (by simp)
                      · rw [if_neg c18] at H
                        exact absurd H (by simp)
                    · rw [if_neg c16] at H
                      exact absurd H (by simp)
                  · rw [if_neg c15] at H
                    exact absurd H (by simp)
                · rw [if_neg c13] at H
                  exact absurd H (by simp)
              · rw [if_neg c12] at H
                exact absurd H (by simp)
            · rw [if_neg c10] at H
              exact absurd H (by simp)
          · rw [if_neg c9] at H
            exact absurd H (by simp)
        · rw [if_neg c7] at H
          exact absurd H (by simp)

/-! ### lanternlaw14_DatePrints: function 5 -/
def lanternlaw14_DatePrints.f (k : Nat) (a0 : Int) : Option (Bool) := (date_Print.f k a0).bind fun bt257 => ((lanternref14_Print.f k a0).bind fun t259 => (if t259.toList = ([] : List UInt8) then (if bt257.2 = 1 then (if bt257.1.toList = ([] : List UInt8) then ((lanternlaw14_awake.f k).bind fun t260 => (some t260)) else (some false)) else (some false)) else ((date_Rfc3339.f k bt257.1).bind fun bt261 => (if bt257.2 = 0 then (if bt257.1.toList = t259.toList then (if bt261.2 = 0 then (if bt261.1 = a0 then ((lanternlaw14_awake.f k).bind fun t263 => (some t263)) else (some false)) else (some false)) else (some false)) else (some false)))))
theorem lanternlaw14_DatePrints.mono : ∀ a0 k, LeO (lanternlaw14_DatePrints.f k a0) (lanternlaw14_DatePrints.f (k + 1) a0) := by
  intro a0 k
  unfold lanternlaw14_DatePrints.f
  repeat' first
      | (with_reducible exact date_Print.mono _ _)
      | (with_reducible exact date_Rfc3339.mono _ _)
      | (with_reducible exact lanternlaw14_awake.mono _)
      | (with_reducible exact lanternref14_Print.mono _ _)
      | (with_reducible exact LeO.refl _)
      | (with_reducible exact LeO.none _)
      | (with_reducible refine LeO.ite ?_ ?_)
      | (with_reducible refine LeO.bind ?_ (fun _ => ?_))
      | exact date_Print.mono _ _
      | exact date_Rfc3339.mono _ _
      | exact lanternlaw14_awake.mono _
      | exact lanternref14_Print.mono _ _
      | exact LeO.none _
      | refine LeO.ite ?_ ?_
      | refine LeO.bind ?_ (fun _ => ?_)
set_option maxHeartbeats 8000000 in
set_option maxRecDepth 100000 in
theorem lanternlaw14_DatePrints.calls (k : Nat) (a0 : Int) (r : Bool) (w : World) (hLW : LW w) (h : lanternlaw14_DatePrints.f k a0 = some r) :
    Calls Tryz.prog 5 #[.int .i64 a0] w fun e w' => e = .returned (.bool r) ∧ Below w.heap.size w w' := by
  have HLW := Aside0.mk hLW
  clear hLW
  have HB := Aside0.mk (Below.refl w.heap.size w)
  have H : ((date_Print.f k a0).bind fun bt257 => ((lanternref14_Print.f k a0).bind fun t259 => (if t259.toList = ([] : List UInt8) then (if bt257.2 = 1 then (if bt257.1.toList = ([] : List UInt8) then ((lanternlaw14_awake.f k).bind fun t260 => (some t260)) else (some false)) else (some false)) else ((date_Rfc3339.f k bt257.1).bind fun bt261 => (if bt257.2 = 0 then (if bt257.1.toList = t259.toList then (if bt261.2 = 0 then (if bt261.1 = a0 then ((lanternlaw14_awake.f k).bind fun t263 => (some t263)) else (some false)) else (some false)) else (some false)) else (some false)))))) = some r := h
  clear h
  replace H := Option.bind_eq_some_iff.mp H
  obtain ⟨⟨t257, t258⟩, A20, H⟩ := H
  replace H : ((lanternref14_Print.f k a0).bind fun t259 => (if t259.toList = ([] : List UInt8) then (if t258 = 1 then (if t257.toList = ([] : List UInt8) then ((lanternlaw14_awake.f k).bind fun t260 => (some t260)) else (some false)) else (some false)) else ((date_Rfc3339.f k t257).bind fun bt261 => (if t258 = 0 then (if t257.toList = t259.toList then (if bt261.2 = 0 then (if bt261.1 = a0 then ((lanternlaw14_awake.f k).bind fun t263 => (some t263)) else (some false)) else (some false)) else (some false)) else (some false))))) = some r := H
  have A2 := Aside0.mk A20
  clear A20
  replace H := Option.bind_eq_some_iff.mp H
  obtain ⟨t259, A30, H⟩ := H
  replace H : (if t259.toList = ([] : List UInt8) then (if t258 = 1 then (if t257.toList = ([] : List UInt8) then ((lanternlaw14_awake.f k).bind fun t260 => (some t260)) else (some false)) else (some false)) else ((date_Rfc3339.f k t257).bind fun bt261 => (if t258 = 0 then (if t257.toList = t259.toList then (if bt261.2 = 0 then (if bt261.1 = a0 then ((lanternlaw14_awake.f k).bind fun t263 => (some t263)) else (some false)) else (some false)) else (some false)) else (some false)))) = some r := H
  have A3 := Aside0.mk A30
  clear A30
  by_cases c4 : t259.toList = ([] : List UInt8)
  · rw [if_pos c4] at H
    have c4b0 : (t259.toList == ([] : List UInt8)) = true := beq_iff_eq.mpr c4
    have c4b1 : (t259.toList != ([] : List UInt8)) = false := bne_eq_false_iff_eq.mpr c4
    clear c4
    by_cases c5 : t258 = 1
    · rw [if_pos c5] at H
      have c5b0 : (t258 == 1) = true := beq_iff_eq.mpr c5
      have c5b1 : (t258 != 1) = false := bne_eq_false_iff_eq.mpr c5
      clear c5
      by_cases c6 : t257.toList = ([] : List UInt8)
      · rw [if_pos c6] at H
        have c6b0 : (t257.toList == ([] : List UInt8)) = true := beq_iff_eq.mpr c6
        have c6b1 : (t257.toList != ([] : List UInt8)) = false := bne_eq_false_iff_eq.mpr c6
        clear c6
        replace H := Option.bind_eq_some_iff.mp H
        obtain ⟨t260, A70, H⟩ := H
        replace H : (some t260) = some r := H
        have A7 := Aside0.mk A70
        clear A70
        obtain rfl := Option.some.inj H
        go_enter Tryz.func5, Tryz.ntmps5
        go_wp2_with (first | ((with_reducible refine gate_callee (f := 13) rfl ?_); refine goesL_ (some 10) rfl rfl Tryz.func13 (by kernel_rfl) rfl #[.int .i64 a0] rfl (by (try simp only [List.map_toArray, List.map_cons, List.map_nil]); first | done | rfl | (simp only [List.length_drop, List.length_take]; rfl)) ?_; (with_reducible refine (date_Print.calls k a0 t257 t258 _ ?side1 A2.out).mono ?_); (case side1 => exact LW.below HLW.out (by repeat (first | (with_reducible first | exact HB.out | apply below_alloc | apply pw_below_drewN | apply below_drew1) | exact HB.out))); rintro e w8 ⟨rfl, hb⟩; refine ⟨_, rfl, ?_⟩; have n0_ := Aside0.mk (below_step (by repeat (first | (with_reducible first | exact HB.out | apply below_alloc | apply pw_below_drewN | apply below_drew1) | exact HB.out)) hb); clear HB; have HB := n0_; clear n0_; (try clear hb); (try clear hb2); (try clear hk); (try clear hi)) | ((with_reducible refine gate_callee (f := 14) rfl ?_); refine goesL_ (some 14) rfl rfl Tryz.func14 (by kernel_rfl) rfl #[.int .i64 a0] rfl (by (try simp only [List.map_toArray, List.map_cons, List.map_nil]); first | done | rfl | (simp only [List.length_drop, List.length_take]; rfl)) ?_; (with_reducible refine (lanternref14_Print.calls k a0 t259 _ ?side1 A3.out).mono ?_); (case side1 => exact LW.below HLW.out (by repeat (first | (with_reducible first | exact HB.out | apply below_alloc | apply pw_below_drewN | apply below_drew1) | exact HB.out))); rintro e w9 ⟨rfl, hb⟩; refine ⟨_, rfl, ?_⟩; have n0_ := Aside0.mk (below_step (by repeat (first | (with_reducible first | exact HB.out | apply below_alloc | apply pw_below_drewN | apply below_drew1) | exact HB.out)) hb); clear HB; have HB := n0_; clear n0_; (try clear hb); (try clear hb2); (try clear hk); (try clear hi)) | (go_at_call 9; (with_reducible refine (lanternlaw14_awake.calls k  t260 _ ?side1 A7.out).mono ?_); (case side1 => exact LW.below HLW.out (by repeat (first | (with_reducible first | exact HB.out | apply below_alloc | apply pw_below_drewN | apply below_drew1) | exact HB.out))); rintro e w10 ⟨rfl, hb⟩; have n0_ := Aside0.mk (below_step (by repeat (first | (with_reducible first | exact HB.out | apply below_alloc | apply pw_below_drewN | apply below_drew1) | exact HB.out)) hb); clear HB; have HB := n0_; clear n0_; (try clear hb); (try clear hb2); (try clear hk); (try clear hi)))
        go_ret
        exact ⟨by first | rfl | (simp [errW_none, errW_some] <;> rfl) | (simp [*, errW_none, errW_some] <;> rfl), by repeat (first | (with_reducible first | exact HB.out | apply below_alloc | apply pw_below_drewN | apply below_drew1) | exact HB.out)⟩
      · rw [if_neg c6] at H
        have c6b0 : (t257.toList == ([] : List UInt8)) = false := beq_eq_false_iff_ne.mpr c6
        have c6b1 : (t257.toList != ([] : List UInt8)) = true := bne_iff_ne.mpr c6
        obtain rfl := Option.some.inj H
        go_enter Tryz.func5, Tryz.ntmps5
        go_wp2_with (first | ((with_reducible refine gate_callee (f := 13) rfl ?_); refine goesL_ (some 10) rfl rfl Tryz.func13 (by kernel_rfl) rfl #[.int .i64 a0] rfl (by (try simp only [List.map_toArray, List.map_cons, List.map_nil]); first | done | rfl | (simp only [List.length_drop, List.length_take]; rfl)) ?_; (with_reducible refine (date_Print.calls k a0 t257 t258 _ ?side1 A2.out).mono ?_); (case side1 => exact LW.below HLW.out (by repeat (first | (with_reducible first | exact HB.out | apply below_alloc | apply pw_below_drewN | apply below_drew1) | exact HB.out))); rintro e w11 ⟨rfl, hb⟩; refine ⟨_, rfl, ?_⟩; have n0_ := Aside0.mk (below_step (by repeat (first | (with_reducible first | exact HB.out | apply below_alloc | apply pw_below_drewN | apply below_drew1) | exact HB.out)) hb); clear HB; have HB := n0_; clear n0_; (try clear hb); (try clear hb2); (try clear hk); (try clear hi)) | ((with_reducible refine gate_callee (f := 14) rfl ?_); refine goesL_ (some 14) rfl rfl Tryz.func14 (by kernel_rfl) rfl #[.int .i64 a0] rfl (by (try simp only [List.map_toArray, List.map_cons, List.map_nil]); first | done | rfl | (simp only [List.length_drop, List.length_take]; rfl)) ?_; (with_reducible refine (lanternref14_Print.calls k a0 t259 _ ?side1 A3.out).mono ?_); (case side1 => exact LW.below HLW.out (by repeat (first | (with_reducible first | exact HB.out | apply below_alloc | apply pw_below_drewN | apply below_drew1) | exact HB.out))); rintro e w12 ⟨rfl, hb⟩; refine ⟨_, rfl, ?_⟩; have n0_ := Aside0.mk (below_step (by repeat (first | (with_reducible first | exact HB.out | apply below_alloc | apply pw_below_drewN | apply below_drew1) | exact HB.out)) hb); clear HB; have HB := n0_; clear n0_; (try clear hb); (try clear hb2); (try clear hk); (try clear hi)))
        go_ret
        exact ⟨by first | rfl | (simp [errW_none, errW_some] <;> rfl) | (simp [*, errW_none, errW_some] <;> rfl), by repeat (first | (with_reducible first | exact HB.out | apply below_alloc | apply pw_below_drewN | apply below_drew1) | exact HB.out)⟩
    · rw [if_neg c5] at H
      have c5b0 : (t258 == 1) = false := beq_eq_false_iff_ne.mpr c5
      have c5b1 : (t258 != 1) = true := bne_iff_ne.mpr c5
      obtain rfl := Option.some.inj H
      go_enter Tryz.func5, Tryz.ntmps5
      go_wp2_with (first | ((with_reducible refine gate_callee (f := 13) rfl ?_); refine goesL_ (some 10) rfl rfl Tryz.func13 (by kernel_rfl) rfl #[.int .i64 a0] rfl (by (try simp only [List.map_toArray, List.map_cons, List.map_nil]); first | done | rfl | (simp only [List.length_drop, List.length_take]; rfl)) ?_; (with_reducible refine (date_Print.calls k a0 t257 t258 _ ?side1 A2.out).mono ?_); (case side1 => exact LW.below HLW.out (by repeat (first | (with_reducible first | exact HB.out | apply below_alloc | apply pw_below_drewN | apply below_drew1) | exact HB.out))); rintro e w13 ⟨rfl, hb⟩; refine ⟨_, rfl, ?_⟩; have n0_ := Aside0.mk (below_step (by repeat (first | (with_reducible first | exact HB.out | apply below_alloc | apply pw_below_drewN | apply below_drew1) | exact HB.out)) hb); clear HB; have HB := n0_; clear n0_; (try clear hb); (try clear hb2); (try clear hk); (try clear hi)) | ((with_reducible refine gate_callee (f := 14) rfl ?_); refine goesL_ (some 14) rfl rfl Tryz.func14 (by kernel_rfl) rfl #[.int .i64 a0] rfl (by (try simp only [List.map_toArray, List.map_cons, List.map_nil]); first | done | rfl | (simp only [List.length_drop, List.length_take]; rfl)) ?_; (with_reducible refine (lanternref14_Print.calls k a0 t259 _ ?side1 A3.out).mono ?_); (case side1 => exact LW.below HLW.out (by repeat (first | (with_reducible first | exact HB.out | apply below_alloc | apply pw_below_drewN | apply below_drew1) | exact HB.out))); rintro e w14 ⟨rfl, hb⟩; refine ⟨_, rfl, ?_⟩; have n0_ := Aside0.mk (below_step (by repeat (first | (with_reducible first | exact HB.out | apply below_alloc | apply pw_below_drewN | apply below_drew1) | exact HB.out)) hb); clear HB; have HB := n0_; clear n0_; (try clear hb); (try clear hb2); (try clear hk); (try clear hi)))
      go_ret
      exact ⟨by first | rfl | (simp [errW_none, errW_some] <;> rfl) | (simp [*, errW_none, errW_some] <;> rfl), by repeat (first | (with_reducible first | exact HB.out | apply below_alloc | apply pw_below_drewN | apply below_drew1) | exact HB.out)⟩
  · rw [if_neg c4] at H
    have c4b0 : (t259.toList == ([] : List UInt8)) = false := beq_eq_false_iff_ne.mpr c4
    have c4b1 : (t259.toList != ([] : List UInt8)) = true := bne_iff_ne.mpr c4
    replace H := Option.bind_eq_some_iff.mp H
    obtain ⟨⟨t261, t262⟩, A150, H⟩ := H
    replace H : (if t258 = 0 then (if t257.toList = t259.toList then (if t262 = 0 then (if t261 = a0 then ((lanternlaw14_awake.f k).bind fun t263 => (some t263)) else (some false)) else (some false)) else (some false)) else (some false)) = some r := H
    have A15 := Aside0.mk A150
    clear A150
    by_cases c16 : t258 = 0
    · rw [if_pos c16] at H
      have c16b0 : (t258 == 0) = true := beq_iff_eq.mpr c16
      have c16b1 : (t258 != 0) = false := bne_eq_false_iff_eq.mpr c16
      clear c16
      by_cases c17 : t257.toList = t259.toList
      · rw [if_pos c17] at H
        have c17b0 : (t257.toList == t259.toList) = true := beq_iff_eq.mpr c17
        have c17b1 : (t257.toList != t259.toList) = false := bne_eq_false_iff_eq.mpr c17
        clear c17
        by_cases c18 : t262 = 0
        · rw [if_pos c18] at H
          have c18b0 : (t262 == 0) = true := beq_iff_eq.mpr c18
          have c18b1 : (t262 != 0) = false := bne_eq_false_iff_eq.mpr c18
          clear c18
          by_cases c19 : t261 = a0
          · rw [if_pos c19] at H
            have c19b0 : (t261 == a0) = true := beq_iff_eq.mpr c19
            have c19b1 : (t261 != a0) = false := bne_eq_false_iff_eq.mpr c19
            clear c19
            replace H := Option.bind_eq_some_iff.mp H
            obtain ⟨t263, A200, H⟩ := H
            replace H : (some t263) = some r := H
            have A20 := Aside0.mk A200
            clear A200
            obtain rfl := Option.some.inj H
            go_enter Tryz.func5, Tryz.ntmps5
            go_wp2_with (first | ((with_reducible refine gate_callee (f := 13) rfl ?_); refine goesL_ (some 10) rfl rfl Tryz.func13 (by kernel_rfl) rfl #[.int .i64 a0] rfl (by (try simp only [List.map_toArray, List.map_cons, List.map_nil]); first | done | rfl | (simp only [List.length_drop, List.length_take]; rfl)) ?_; (with_reducible refine (date_Print.calls k a0 t257 t258 _ ?side1 A2.out).mono ?_); (case side1 => exact LW.below HLW.out (by repeat (first | (with_reducible first | exact HB.out | apply below_alloc | apply pw_below_drewN | apply below_drew1) | exact HB.out))); rintro e w21 ⟨rfl, hb⟩; refine ⟨_, rfl, ?_⟩; have n0_ := Aside0.mk (below_step (by repeat (first | (with_reducible first | exact HB.out | apply below_alloc | apply pw_below_drewN | apply below_drew1) | exact HB.out)) hb); clear HB; have HB := n0_; clear n0_; (try clear hb); (try clear hb2); (try clear hk); (try clear hi)) | ((with_reducible refine gate_callee (f := 14) rfl ?_); refine goesL_ (some 14) rfl rfl Tryz.func14 (by kernel_rfl) rfl #[.int .i64 a0] rfl (by (try simp only [List.map_toArray, List.map_cons, List.map_nil]); first | done | rfl | (simp only [List.length_drop, List.length_take]; rfl)) ?_; (with_reducible refine (lanternref14_Print.calls k a0 t259 _ ?side1 A3.out).mono ?_); (case side1 => exact LW.below HLW.out (by repeat (first | (with_reducible first | exact HB.out | apply below_alloc | apply pw_below_drewN | apply below_drew1) | exact HB.out))); rintro e w22 ⟨rfl, hb⟩; refine ⟨_, rfl, ?_⟩; have n0_ := Aside0.mk (below_step (by repeat (first | (with_reducible first | exact HB.out | apply below_alloc | apply pw_below_drewN | apply below_drew1) | exact HB.out)) hb); clear HB; have HB := n0_; clear n0_; (try clear hb); (try clear hb2); (try clear hk); (try clear hi)) | ((with_reducible refine gate_callee (f := 15) rfl ?_); refine goesL_ (some 28) rfl rfl Tryz.func15 (by kernel_rfl) rfl #[.string t257] rfl (by (try simp only [List.map_toArray, List.map_cons, List.map_nil]); first | done | rfl | (simp only [List.length_drop, List.length_take]; rfl)) ?_; (with_reducible refine (date_Rfc3339.calls k t257 t261 t262 _ ?side1 A15.out).mono ?_); (case side1 => exact LW.below HLW.out (by repeat (first | (with_reducible first | exact HB.out | apply below_alloc | apply pw_below_drewN | apply below_drew1) | exact HB.out))); rintro e w23 ⟨rfl, hb⟩; refine ⟨_, rfl, ?_⟩; have n0_ := Aside0.mk (below_step (by repeat (first | (with_reducible first | exact HB.out | apply below_alloc | apply pw_below_drewN | apply below_drew1) | exact HB.out)) hb); clear HB; have HB := n0_; clear n0_; (try clear hb); (try clear hb2); (try clear hk); (try clear hi)) | (go_at_call 9; (with_reducible refine (lanternlaw14_awake.calls k  t263 _ ?side1 A20.out).mono ?_); (case side1 => exact LW.below HLW.out (by repeat (first | (with_reducible first | exact HB.out | apply below_alloc | apply pw_below_drewN | apply below_drew1) | exact HB.out))); rintro e w24 ⟨rfl, hb⟩; have n0_ := Aside0.mk (below_step (by repeat (first | (with_reducible first | exact HB.out | apply below_alloc | apply pw_below_drewN | apply below_drew1) | exact HB.out)) hb); clear HB; have HB := n0_; clear n0_; (try clear hb); (try clear hb2); (try clear hk); (try clear hi)))
            go_ret
            exact ⟨by first | rfl | (simp [errW_none, errW_some] <;> rfl) | (simp [*, errW_none, errW_some] <;> rfl), by repeat (first | (with_reducible first | exact HB.out | apply below_alloc | apply pw_below_drewN | apply below_drew1) | exact HB.out)⟩
          · rw [if_neg c19] at H
            have c19b0 : (t261 == a0) = false := beq_eq_false_iff_ne.mpr c19
            have c19b1 : (t261 != a0) = true := bne_iff_ne.mpr c19
            obtain rfl := Option.some.inj H
            go_enter Tryz.func5, Tryz.ntmps5
            go_wp2_with (first | ((with_reducible refine gate_callee (f := 13) rfl ?_); refine goesL_ (some 10) rfl rfl Tryz.func13 (by kernel_rfl) rfl #[.int .i64 a0] rfl (by (try simp only [List.map_toArray, List.map_cons, List.map_nil]); first | done | rfl | (simp only [List.length_drop, List.length_take]; rfl)) ?_; (with_reducible refine (date_Print.calls k a0 t257 t258 _ ?side1 A2.out).mono ?_); (case side1 => exact LW.below HLW.out (by repeat (first | (with_reducible first | exact HB.out | apply below_alloc | apply pw_below_drewN | apply below_drew1) | exact HB.out))); rintro e w25 ⟨rfl, hb⟩; refine ⟨_, rfl, ?_⟩; have n0_ := Aside0.mk (below_step (by repeat (first | (with_reducible first | exact HB.out | apply below_alloc | apply pw_below_drewN | apply below_drew1) | exact HB.out)) hb); clear HB; have HB := n0_; clear n0_; (try clear hb); (try clear hb2); (try clear hk); (try clear hi)) | ((with_reducible refine gate_callee (f := 14) rfl ?_); refine goesL_ (some 14) rfl rfl Tryz.func14 (by kernel_rfl) rfl #[.int .i64 a0] rfl (by (try simp only [List.map_toArray, List.map_cons, List.map_nil]); first | done | rfl | (simp only [List.length_drop, List.length_take]; rfl)) ?_; (with_reducible refine (lanternref14_Print.calls k a0 t259 _ ?side1 A3.out).mono ?_); (case side1 => exact LW.below HLW.out (by repeat (first | (with_reducible first | exact HB.out | apply below_alloc | apply pw_below_drewN | apply below_drew1) | exact HB.out))); rintro e w26 ⟨rfl, hb⟩; refine ⟨_, rfl, ?_⟩; have n0_ := Aside0.mk (below_step (by repeat (first | (with_reducible first | exact HB.out | apply below_alloc | apply pw_below_drewN | apply below_drew1) | exact HB.out)) hb); clear HB; have HB := n0_; clear n0_; (try clear hb); (try clear hb2); (try clear hk); (try clear hi)) | ((with_reducible refine gate_callee (f := 15) rfl ?_); refine goesL_ (some 28) rfl rfl Tryz.func15 (by kernel_rfl) rfl #[.string t257] rfl (by (try simp only [List.map_toArray, List.map_cons, List.map_nil]); first | done | rfl | (simp only [List.length_drop, List.length_take]; rfl)) ?_; (with_reducible refine (date_Rfc3339.calls k t257 t261 t262 _ ?side1 A15.out).mono ?_); (case side1 => exact LW.below HLW.out (by repeat (first | (with_reducible first | exact HB.out | apply below_alloc | apply pw_below_drewN | apply below_drew1) | exact HB.out))); rintro e w27 ⟨rfl, hb⟩; refine ⟨_, rfl, ?_⟩; have n0_ := Aside0.mk (below_step (by repeat (first | (with_reducible first | exact HB.out | apply below_alloc | apply pw_below_drewN | apply below_drew1) | exact HB.out)) hb); clear HB; have HB := n0_; clear n0_; (try clear hb); (try clear hb2); (try clear hk); (try clear hi)))
            go_ret
            exact ⟨by first | rfl | (simp [errW_none, errW_some] <;> rfl) | (simp [*, errW_none, errW_some] <;> rfl), by repeat (first | (with_reducible first | exact HB.out | apply below_alloc | apply pw_below_drewN | apply below_drew1) | exact HB.out)⟩
        · rw [if_neg c18] at H
          have c18b0 : (t262 == 0) = false := beq_eq_false_iff_ne.mpr c18
          have c18b1 : (t262 != 0) = true := bne_iff_ne.mpr c18
          obtain rfl := Option.some.inj H
          go_enter Tryz.func5, Tryz.ntmps5
          go_wp2_with (first | ((with_reducible refine gate_callee (f := 13) rfl ?_); refine goesL_ (some 10) rfl rfl Tryz.func13 (by kernel_rfl) rfl #[.int .i64 a0] rfl (by (try simp only [List.map_toArray, List.map_cons, List.map_nil]); first | done | rfl | (simp only [List.length_drop, List.length_take]; rfl)) ?_; (with_reducible refine (date_Print.calls k a0 t257 t258 _ ?side1 A2.out).mono ?_); (case side1 => exact LW.below HLW.out (by repeat (first | (with_reducible first | exact HB.out | apply below_alloc | apply pw_below_drewN | apply below_drew1) | exact HB.out))); rintro e w28 ⟨rfl, hb⟩; refine ⟨_, rfl, ?_⟩; have n0_ := Aside0.mk (below_step (by repeat (first | (with_reducible first | exact HB.out | apply below_alloc | apply pw_below_drewN | apply below_drew1) | exact HB.out)) hb); clear HB; have HB := n0_; clear n0_; (try clear hb); (try clear hb2); (try clear hk); (try clear hi)) | ((with_reducible refine gate_callee (f := 14) rfl ?_); refine goesL_ (some 14) rfl rfl Tryz.func14 (by kernel_rfl) rfl #[.int .i64 a0] rfl (by (try simp only [List.map_toArray, List.map_cons, List.map_nil]); first | done | rfl | (simp only [List.length_drop, List.length_take]; rfl)) ?_; (with_reducible refine (lanternref14_Print.calls k a0 t259 _ ?side1 A3.out).mono ?_); (case side1 => exact LW.below HLW.out (by repeat (first | (with_reducible first | exact HB.out | apply below_alloc | apply pw_below_drewN | apply below_drew1) | exact HB.out))); rintro e w29 ⟨rfl, hb⟩; refine ⟨_, rfl, ?_⟩; have n0_ := Aside0.mk (below_step (by repeat (first | (with_reducible first | exact HB.out | apply below_alloc | apply pw_below_drewN | apply below_drew1) | exact HB.out)) hb); clear HB; have HB := n0_; clear n0_; (try clear hb); (try clear hb2); (try clear hk); (try clear hi)) | ((with_reducible refine gate_callee (f := 15) rfl ?_); refine goesL_ (some 28) rfl rfl Tryz.func15 (by kernel_rfl) rfl #[.string t257] rfl (by (try simp only [List.map_toArray, List.map_cons, List.map_nil]); first | done | rfl | (simp only [List.length_drop, List.length_take]; rfl)) ?_; (with_reducible refine (date_Rfc3339.calls k t257 t261 t262 _ ?side1 A15.out).mono ?_); (case side1 => exact LW.below HLW.out (by repeat (first | (with_reducible first | exact HB.out | apply below_alloc | apply pw_below_drewN | apply below_drew1) | exact HB.out))); rintro e w30 ⟨rfl, hb⟩; refine ⟨_, rfl, ?_⟩; have n0_ := Aside0.mk (below_step (by repeat (first | (with_reducible first | exact HB.out | apply below_alloc | apply pw_below_drewN | apply below_drew1) | exact HB.out)) hb); clear HB; have HB := n0_; clear n0_; (try clear hb); (try clear hb2); (try clear hk); (try clear hi)))
          go_ret
          exact ⟨by first | rfl | (simp [errW_none, errW_some] <;> rfl) | (simp [*, errW_none, errW_some] <;> rfl), by repeat (first | (with_reducible first | exact HB.out | apply below_alloc | apply pw_below_drewN | apply below_drew1) | exact HB.out)⟩
      · rw [if_neg c17] at H
        have c17b0 : (t257.toList == t259.toList) = false := beq_eq_false_iff_ne.mpr c17
        have c17b1 : (t257.toList != t259.toList) = true := bne_iff_ne.mpr c17
        obtain rfl := Option.some.inj H
        go_enter Tryz.func5, Tryz.ntmps5
        go_wp2_with (first | ((with_reducible refine gate_callee (f := 13) rfl ?_); refine goesL_ (some 10) rfl rfl Tryz.func13 (by kernel_rfl) rfl #[.int .i64 a0] rfl (by (try simp only [List.map_toArray, List.map_cons, List.map_nil]); first | done | rfl | (simp only [List.length_drop, List.length_take]; rfl)) ?_; (with_reducible refine (date_Print.calls k a0 t257 t258 _ ?side1 A2.out).mono ?_); (case side1 => exact LW.below HLW.out (by repeat (first | (with_reducible first | exact HB.out | apply below_alloc | apply pw_below_drewN | apply below_drew1) | exact HB.out))); rintro e w31 ⟨rfl, hb⟩; refine ⟨_, rfl, ?_⟩; have n0_ := Aside0.mk (below_step (by repeat (first | (with_reducible first | exact HB.out | apply below_alloc | apply pw_below_drewN | apply below_drew1) | exact HB.out)) hb); clear HB; have HB := n0_; clear n0_; (try clear hb); (try clear hb2); (try clear hk); (try clear hi)) | ((with_reducible refine gate_callee (f := 14) rfl ?_); refine goesL_ (some 14) rfl rfl Tryz.func14 (by kernel_rfl) rfl #[.int .i64 a0] rfl (by (try simp only [List.map_toArray, List.map_cons, List.map_nil]); first | done | rfl | (simp only [List.length_drop, List.length_take]; rfl)) ?_; (with_reducible refine (lanternref14_Print.calls k a0 t259 _ ?side1 A3.out).mono ?_); (case side1 => exact LW.below HLW.out (by repeat (first | (with_reducible first | exact HB.out | apply below_alloc | apply pw_below_drewN | apply below_drew1) | exact HB.out))); rintro e w32 ⟨rfl, hb⟩; refine ⟨_, rfl, ?_⟩; have n0_ := Aside0.mk (below_step (by repeat (first | (with_reducible first | exact HB.out | apply below_alloc | apply pw_below_drewN | apply below_drew1) | exact HB.out)) hb); clear HB; have HB := n0_; clear n0_; (try clear hb); (try clear hb2); (try clear hk); (try clear hi)) | ((with_reducible refine gate_callee (f := 15) rfl ?_); refine goesL_ (some 28) rfl rfl Tryz.func15 (by kernel_rfl) rfl #[.string t257] rfl (by (try simp only [List.map_toArray, List.map_cons, List.map_nil]); first | done | rfl | (simp only [List.length_drop, List.length_take]; rfl)) ?_; (with_reducible refine (date_Rfc3339.calls k t257 t261 t262 _ ?side1 A15.out).mono ?_); (case side1 => exact LW.below HLW.out (by repeat (first | (with_reducible first | exact HB.out | apply below_alloc | apply pw_below_drewN | apply below_drew1) | exact HB.out))); rintro e w33 ⟨rfl, hb⟩; refine ⟨_, rfl, ?_⟩; have n0_ := Aside0.mk (below_step (by repeat (first | (with_reducible first | exact HB.out | apply below_alloc | apply pw_below_drewN | apply below_drew1) | exact HB.out)) hb); clear HB; have HB := n0_; clear n0_; (try clear hb); (try clear hb2); (try clear hk); (try clear hi)))
        go_ret
        exact ⟨by first | rfl | (simp [errW_none, errW_some] <;> rfl) | (simp [*, errW_none, errW_some] <;> rfl), by repeat (first | (with_reducible first | exact HB.out | apply below_alloc | apply pw_below_drewN | apply below_drew1) | exact HB.out)⟩
    · rw [if_neg c16] at H
      have c16b0 : (t258 == 0) = false := beq_eq_false_iff_ne.mpr c16
      have c16b1 : (t258 != 0) = true := bne_iff_ne.mpr c16
      obtain rfl := Option.some.inj H
      go_enter Tryz.func5, Tryz.ntmps5
      go_wp2_with (first | ((with_reducible refine gate_callee (f := 13) rfl ?_); refine goesL_ (some 10) rfl rfl Tryz.func13 (by kernel_rfl) rfl #[.int .i64 a0] rfl (by (try simp only [List.map_toArray, List.map_cons, List.map_nil]); first | done | rfl | (simp only [List.length_drop, List.length_take]; rfl)) ?_; (with_reducible refine (date_Print.calls k a0 t257 t258 _ ?side1 A2.out).mono ?_); (case side1 => exact LW.below HLW.out (by repeat (first | (with_reducible first | exact HB.out | apply below_alloc | apply pw_below_drewN | apply below_drew1) | exact HB.out))); rintro e w34 ⟨rfl, hb⟩; refine ⟨_, rfl, ?_⟩; have n0_ := Aside0.mk (below_step (by repeat (first | (with_reducible first | exact HB.out | apply below_alloc | apply pw_below_drewN | apply below_drew1) | exact HB.out)) hb); clear HB; have HB := n0_; clear n0_; (try clear hb); (try clear hb2); (try clear hk); (try clear hi)) | ((with_reducible refine gate_callee (f := 14) rfl ?_); refine goesL_ (some 14) rfl rfl Tryz.func14 (by kernel_rfl) rfl #[.int .i64 a0] rfl (by (try simp only [List.map_toArray, List.map_cons, List.map_nil]); first | done | rfl | (simp only [List.length_drop, List.length_take]; rfl)) ?_; (with_reducible refine (lanternref14_Print.calls k a0 t259 _ ?side1 A3.out).mono ?_); (case side1 => exact LW.below HLW.out (by repeat (first | (with_reducible first | exact HB.out | apply below_alloc | apply pw_below_drewN | apply below_drew1) | exact HB.out))); rintro e w35 ⟨rfl, hb⟩; refine ⟨_, rfl, ?_⟩; have n0_ := Aside0.mk (below_step (by repeat (first | (with_reducible first | exact HB.out | apply below_alloc | apply pw_below_drewN | apply below_drew1) | exact HB.out)) hb); clear HB; have HB := n0_; clear n0_; (try clear hb); (try clear hb2); (try clear hk); (try clear hi)) | ((with_reducible refine gate_callee (f := 15) rfl ?_); refine goesL_ (some 28) rfl rfl Tryz.func15 (by kernel_rfl) rfl #[.string t257] rfl (by (try simp only [List.map_toArray, List.map_cons, List.map_nil]); first | done | rfl | (simp only [List.length_drop, List.length_take]; rfl)) ?_; (with_reducible refine (date_Rfc3339.calls k t257 t261 t262 _ ?side1 A15.out).mono ?_); (case side1 => exact LW.below HLW.out (by repeat (first | (with_reducible first | exact HB.out | apply below_alloc | apply pw_below_drewN | apply below_drew1) | exact HB.out))); rintro e w36 ⟨rfl, hb⟩; refine ⟨_, rfl, ?_⟩; have n0_ := Aside0.mk (below_step (by repeat (first | (with_reducible first | exact HB.out | apply below_alloc | apply pw_below_drewN | apply below_drew1) | exact HB.out)) hb); clear HB; have HB := n0_; clear n0_; (try clear hb); (try clear hb2); (try clear hk); (try clear hi)))
      go_ret
      exact ⟨by first | rfl | (simp [errW_none, errW_some] <;> rfl) | (simp [*, errW_none, errW_some] <;> rfl), by repeat (first | (with_reducible first | exact HB.out | apply below_alloc | apply pw_below_drewN | apply below_drew1) | exact HB.out)⟩

/-! ### lanternlaw14_pair: function 18 -/
def lanternlaw14_pair.f (a0 : Int) : Option (ByteArray) := if 0 ≤ (wrap64 (Int.tdiv a0 10)) then (if (wrap64 (Int.tdiv a0 10)) ≤ (wrap64 ((wrap64 (Int.tdiv a0 10)) + 1)) then (if (wrap64 ((wrap64 (Int.tdiv a0 10)) + 1)) ≤ 10 then (if 0 ≤ (Int.tmod a0 10) then (if (Int.tmod a0 10) ≤ (wrap64 ((Int.tmod a0 10) + 1)) then (if (wrap64 ((Int.tmod a0 10) + 1)) ≤ 10 then (if ((⟨#[48, 49, 50, 51, 52, 53, 54, 55, 56, 57]⟩ : ByteArray).extract ((wrap64 (Int.tdiv a0 10)) : Int).toNat ((wrap64 ((wrap64 (Int.tdiv a0 10)) + 1)) : Int).toNat).size + ((⟨#[48, 49, 50, 51, 52, 53, 54, 55, 56, 57]⟩ : ByteArray).extract ((Int.tmod a0 10) : Int).toNat ((wrap64 ((Int.tmod a0 10) + 1)) : Int).toNat).size ≤ 9223372036854775807 then (some (((⟨#[48, 49, 50, 51, 52, 53, 54, 55, 56, 57]⟩ : ByteArray).extract ((wrap64 (Int.tdiv a0 10)) : Int).toNat ((wrap64 ((wrap64 (Int.tdiv a0 10)) + 1)) : Int).toNat) ++ ((⟨#[48, 49, 50, 51, 52, 53, 54, 55, 56, 57]⟩ : ByteArray).extract ((Int.tmod a0 10) : Int).toNat ((wrap64 ((Int.tmod a0 10) + 1)) : Int).toNat))) else (none)) else (none)) else (none)) else (none)) else (none)) else (none)) else (none)
set_option maxHeartbeats 8000000 in
set_option maxRecDepth 100000 in
theorem lanternlaw14_pair.calls (a0 : Int) (r : ByteArray) (w : World) (hLW : LW w) (h : lanternlaw14_pair.f a0 = some r) :
    Calls Tryz.prog 18 #[.int .i64 a0] w fun e w' => e = .returned (.string r) ∧ Drawn0 w w' := by
  have HLW := Aside0.mk hLW
  clear hLW
  have H : (if 0 ≤ (wrap64 (Int.tdiv a0 10)) then (if (wrap64 (Int.tdiv a0 10)) ≤ (wrap64 ((wrap64 (Int.tdiv a0 10)) + 1)) then (if (wrap64 ((wrap64 (Int.tdiv a0 10)) + 1)) ≤ 10 then (if 0 ≤ (Int.tmod a0 10) then (if (Int.tmod a0 10) ≤ (wrap64 ((Int.tmod a0 10) + 1)) then (if (wrap64 ((Int.tmod a0 10) + 1)) ≤ 10 then (if ((⟨#[48, 49, 50, 51, 52, 53, 54, 55, 56, 57]⟩ : ByteArray).extract ((wrap64 (Int.tdiv a0 10)) : Int).toNat ((wrap64 ((wrap64 (Int.tdiv a0 10)) + 1)) : Int).toNat).size + ((⟨#[48, 49, 50, 51, 52, 53, 54, 55, 56, 57]⟩ : ByteArray).extract ((Int.tmod a0 10) : Int).toNat ((wrap64 ((Int.tmod a0 10) + 1)) : Int).toNat).size ≤ 9223372036854775807 then (some (((⟨#[48, 49, 50, 51, 52, 53, 54, 55, 56, 57]⟩ : ByteArray).extract ((wrap64 (Int.tdiv a0 10)) : Int).toNat ((wrap64 ((wrap64 (Int.tdiv a0 10)) + 1)) : Int).toNat) ++ ((⟨#[48, 49, 50, 51, 52, 53, 54, 55, 56, 57]⟩ : ByteArray).extract ((Int.tmod a0 10) : Int).toNat ((wrap64 ((Int.tmod a0 10) + 1)) : Int).toNat))) else (none)) else (none)) else (none)) else (none)) else (none)) else (none)) else (none)) = some r := h
  clear h
  obtain ⟨ji2, hji2⟩ : ∃ j_ : Int, (wrap64 (Int.tdiv a0 10)) = j_ := ⟨_, rfl⟩
  replace H : (if 0 ≤ (ji2) then (if (ji2) ≤ (wrap64 ((ji2) + 1)) then (if (wrap64 ((ji2) + 1)) ≤ 10 then (if 0 ≤ (Int.tmod a0 10) then (if (Int.tmod a0 10) ≤ (wrap64 ((Int.tmod a0 10) + 1)) then (if (wrap64 ((Int.tmod a0 10) + 1)) ≤ 10 then (if ((⟨#[48, 49, 50, 51, 52, 53, 54, 55, 56, 57]⟩ : ByteArray).extract ((ji2) : Int).toNat ((wrap64 ((ji2) + 1)) : Int).toNat).size + ((⟨#[48, 49, 50, 51, 52, 53, 54, 55, 56, 57]⟩ : ByteArray).extract ((Int.tmod a0 10) : Int).toNat ((wrap64 ((Int.tmod a0 10) + 1)) : Int).toNat).size ≤ 9223372036854775807 then (some (((⟨#[48, 49, 50, 51, 52, 53, 54, 55, 56, 57]⟩ : ByteArray).extract ((ji2) : Int).toNat ((wrap64 ((ji2) + 1)) : Int).toNat) ++ ((⟨#[48, 49, 50, 51, 52, 53, 54, 55, 56, 57]⟩ : ByteArray).extract ((Int.tmod a0 10) : Int).toNat ((wrap64 ((Int.tmod a0 10) + 1)) : Int).toNat))) else (none)) else (none)) else (none)) else (none)) else (none)) else (none)) else (none)) = some r := by first | (rw [hji2] at H; exact H) | (simp only [hji2] at H ⊢; exact H)
  have hji2w : (IntKind.i64.wrap (Int.tdiv a0 10)) = ji2 := (i64_w _).trans hji2
  by_cases c3 : 0 ≤ (ji2)
  · rw [if_pos c3] at H
    have c3b0 := eq_true c3
    have c3b1 : decide (0 ≤ (ji2)) = true := decide_eq_true c3
    clear c3
    by_cases c4 : (ji2) ≤ (wrap64 ((ji2) + 1))
    · rw [if_pos c4] at H
      have c4b0 := eq_true c4
      have c4b1 : decide ((ji2) ≤ (wrap64 ((ji2) + 1))) = true := decide_eq_true c4
      by_cases c5 : (wrap64 ((ji2) + 1)) ≤ 10
      · rw [if_pos c5] at H
        have c5b0 := eq_true c5
        have c5b1 : decide ((wrap64 ((ji2) + 1)) ≤ 10) = true := decide_eq_true c5
        obtain ⟨ji6, hji6⟩ : ∃ j_ : Int, (Int.tmod a0 10) = j_ := ⟨_, rfl⟩
        replace H : (if 0 ≤ (ji6) then (if (ji6) ≤ (wrap64 ((ji6) + 1)) then (if (wrap64 ((ji6) + 1)) ≤ 10 then (if ((⟨#[48, 49, 50, 51, 52, 53, 54, 55, 56, 57]⟩ : ByteArray).extract ((ji2) : Int).toNat ((wrap64 ((ji2) + 1)) : Int).toNat).size + ((⟨#[48, 49, 50, 51, 52, 53, 54, 55, 56, 57]⟩ : ByteArray).extract ((ji6) : Int).toNat ((wrap64 ((ji6) + 1)) : Int).toNat).size ≤ 9223372036854775807 then (some (((⟨#[48, 49, 50, 51, 52, 53, 54, 55, 56, 57]⟩ : ByteArray).extract ((ji2) : Int).toNat ((wrap64 ((ji2) + 1)) : Int).toNat) ++ ((⟨#[48, 49, 50, 51, 52, 53, 54, 55, 56, 57]⟩ : ByteArray).extract ((ji6) : Int).toNat ((wrap64 ((ji6) + 1)) : Int).toNat))) else (none)) else (none)) else (none)) else (none)) = some r := by first | (rw [hji6] at H; exact H) | (simp only [hji6] at H ⊢; exact H)
        by_cases c7 : 0 ≤ (ji6)
        · rw [if_pos c7] at H
          have c7b0 := eq_true c7
          have c7b1 : decide (0 ≤ (ji6)) = true := decide_eq_true c7
          clear c7
          by_cases c8 : (ji6) ≤ (wrap64 ((ji6) + 1))
          · rw [if_pos c8] at H
            have c8b0 := eq_true c8
            have c8b1 : decide ((ji6) ≤ (wrap64 ((ji6) + 1))) = true := decide_eq_true c8
            by_cases c9 : (wrap64 ((ji6) + 1)) ≤ 10
            · rw [if_pos c9] at H
              have c9b0 := eq_true c9
              have c9b1 : decide ((wrap64 ((ji6) + 1)) ≤ 10) = true := decide_eq_true c9
              by_cases c10 : ((⟨#[48, 49, 50, 51, 52, 53, 54, 55, 56, 57]⟩ : ByteArray).extract ((ji2) : Int).toNat ((wrap64 ((ji2) + 1)) : Int).toNat).size + ((⟨#[48, 49, 50, 51, 52, 53, 54, 55, 56, 57]⟩ : ByteArray).extract ((ji6) : Int).toNat ((wrap64 ((ji6) + 1)) : Int).toNat).size ≤ 9223372036854775807
              · rw [if_pos c10] at H
                have c10b0 := eq_true c10
                have c10b1 : decide (((⟨#[48, 49, 50, 51, 52, 53, 54, 55, 56, 57]⟩ : ByteArray).extract ((ji2) : Int).toNat ((wrap64 ((ji2) + 1)) : Int).toNat).size + ((⟨#[48, 49, 50, 51, 52, 53, 54, 55, 56, 57]⟩ : ByteArray).extract ((ji6) : Int).toNat ((wrap64 ((ji6) + 1)) : Int).toNat).size ≤ 9223372036854775807) = true := decide_eq_true c10
                try have c10b2 : (9223372036854775807 < ((⟨#[48, 49, 50, 51, 52, 53, 54, 55, 56, 57]⟩ : ByteArray).extract ((ji2) : Int).toNat ((wrap64 ((ji2) + 1)) : Int).toNat).size + ((⟨#[48, 49, 50, 51, 52, 53, 54, 55, 56, 57]⟩ : ByteArray).extract ((ji6) : Int).toNat ((wrap64 ((ji6) + 1)) : Int).toNat).size) = False := eq_false (Nat.not_lt.2 c10)
                obtain rfl := Option.some.inj H
                go_enter Tryz.func18, Tryz.ntmps18
                go_wp2
                repeat (go_quiet (fail); try go_wp2)
                go_ret
                exact ⟨by first | rfl | (simp; done) | (simp only [← hji2, ← hji6] <;> (first | rfl | simp)) | (simp [*]; done), by repeat (first | exact Drawn0.refl _ | apply Drawn0.step)⟩
              · rw [if_neg c10] at H
                exact absurd H (by simp)
            · rw [if_neg c9] at H
              exact absurd H (by simp)
          · rw [if_neg c8] at H
            exact absurd H (by simp)
        · rw [if_neg c7] at H
          exact absurd H (by simp)
      · rw [if_neg c5] at H
        exact absurd H (by simp)
    · rw [if_neg c4] at H
      exact absurd H (by simp)
  · rw [if_neg c3] at H
    exact absurd H (by simp)

/-! ### lanternlaw14_spell: function 16 -/
def lanternlaw14_spell.f (a0 : Int) (a1 : Int) : Option (ByteArray × ByteArray × ByteArray) := (lanternlaw14_pair.f (wrap64 (Int.tdiv a0 3600))).bind fun t265 => (if t265.size + 1 ≤ 9223372036854775807 then ((lanternlaw14_pair.f (Int.tmod (wrap64 (Int.tdiv a0 60)) 60)).bind fun t266 => (if (t265 ++ (⟨#[58]⟩ : ByteArray)).size + t266.size ≤ 9223372036854775807 then (if ((t265 ++ (⟨#[58]⟩ : ByteArray)) ++ t266).size + 1 ≤ 9223372036854775807 then ((lanternlaw14_pair.f (Int.tmod a0 60)).bind fun t267 => (if (((t265 ++ (⟨#[58]⟩ : ByteArray)) ++ t266) ++ (⟨#[58]⟩ : ByteArray)).size + t267.size ≤ 9223372036854775807 then ((lanternlaw14_pair.f (wrap64 (Int.tdiv a1 60))).bind fun t268 => ((lanternlaw14_pair.f (Int.tmod a1 60)).bind fun t269 => (some ((((t265 ++ (⟨#[58]⟩ : ByteArray)) ++ t266) ++ (⟨#[58]⟩ : ByteArray)) ++ t267, t268, t269)))) else (none))) else (none)) else (none))) else (none))
set_option maxHeartbeats 8000000 in
set_option maxRecDepth 100000 in
theorem lanternlaw14_spell.calls (a0 : Int) (a1 : Int) (r1 : ByteArray) (r2 : ByteArray) (r3 : ByteArray) (w : World) (hLW : LW w) (h : lanternlaw14_spell.f a0 a1 = some (r1, r2, r3)) :
    Calls Tryz.prog 16 #[.int .i64 a0, .int .i64 a1] w fun e w' => e = .returned (.agg #[.string r1, .string r2, .string r3]) ∧ Below w.heap.size w w' := by
  have hu41 := Tryz.underlying41
  have HLW := Aside0.mk hLW
  clear hLW
  have HB := Aside0.mk (Below.refl w.heap.size w)
  have H : ((lanternlaw14_pair.f (wrap64 (Int.tdiv a0 3600))).bind fun t265 => (if t265.size + 1 ≤ 9223372036854775807 then ((lanternlaw14_pair.f (Int.tmod (wrap64 (Int.tdiv a0 60)) 60)).bind fun t266 => (if (t265 ++ (⟨#[58]⟩ : ByteArray)).size + t266.size ≤ 9223372036854775807 then (if ((t265 ++ (⟨#[58]⟩ : ByteArray)) ++ t266).size + 1 ≤ 9223372036854775807 then ((lanternlaw14_pair.f (Int.tmod a0 60)).bind fun t267 => (if (((t265 ++ (⟨#[58]⟩ : ByteArray)) ++ t266) ++ (⟨#[58]⟩ : ByteArray)).size + t267.size ≤ 9223372036854775807 then ((lanternlaw14_pair.f (wrap64 (Int.tdiv a1 60))).bind fun t268 => ((lanternlaw14_pair.f (Int.tmod a1 60)).bind fun t269 => (some ((((t265 ++ (⟨#[58]⟩ : ByteArray)) ++ t266) ++ (⟨#[58]⟩ : ByteArray)) ++ t267, t268, t269)))) else (none))) else (none)) else (none))) else (none))) = some (r1, r2, r3) := h
  clear h
  replace H := Option.bind_eq_some_iff.mp H
  obtain ⟨t265, A30, H⟩ := H
  replace H : (if t265.size + 1 ≤ 9223372036854775807 then ((lanternlaw14_pair.f (Int.tmod (wrap64 (Int.tdiv a0 60)) 60)).bind fun t266 => (if (t265 ++ (⟨#[58]⟩ : ByteArray)).size + t266.size ≤ 9223372036854775807 then (if ((t265 ++ (⟨#[58]⟩ : ByteArray)) ++ t266).size + 1 ≤ 9223372036854775807 then ((lanternlaw14_pair.f (Int.tmod a0 60)).bind fun t267 => (if (((t265 ++ (⟨#[58]⟩ : ByteArray)) ++ t266) ++ (⟨#[58]⟩ : ByteArray)).size + t267.size ≤ 9223372036854775807 then ((lanternlaw14_pair.f (wrap64 (Int.tdiv a1 60))).bind fun t268 => ((lanternlaw14_pair.f (Int.tmod a1 60)).bind fun t269 => (some ((((t265 ++ (⟨#[58]⟩ : ByteArray)) ++ t266) ++ (⟨#[58]⟩ : ByteArray)) ++ t267, t268, t269)))) else (none))) else (none)) else (none))) else (none)) = some (r1, r2, r3) := H
  have A3 := Aside0.mk A30
  clear A30
  by_cases c4 : t265.size + 1 ≤ 9223372036854775807
  · rw [if_pos c4] at H
    have c4b0 := eq_true c4
    have c4b1 : decide (t265.size + 1 ≤ 9223372036854775807) = true := decide_eq_true c4
    try have c4b2 : (9223372036854775807 < t265.size + 1) = False := eq_false (Nat.not_lt.2 c4)
    replace H := Option.bind_eq_some_iff.mp H
    obtain ⟨t266, A50, H⟩ := H
    replace H : (if (t265 ++ (⟨#[58]⟩ : ByteArray)).size + t266.size ≤ 9223372036854775807 then (if ((t265 ++ (⟨#[58]⟩ : ByteArray)) ++ t266).size + 1 ≤ 9223372036854775807 then ((lanternlaw14_pair.f (Int.tmod a0 60)).bind fun t267 => (if (((t265 ++ (⟨#[58]⟩ : ByteArray)) ++ t266) ++ (⟨#[58]⟩ : ByteArray)).size + t267.size ≤ 9223372036854775807 then ((lanternlaw14_pair.f (wrap64 (Int.tdiv a1 60))).bind fun t268 => ((lanternlaw14_pair.f (Int.tmod a1 60)).bind fun t269 => (some ((((t265 ++ (⟨#[58]⟩ : ByteArray)) ++ t266) ++ (⟨#[58]⟩ : ByteArray)) ++ t267, t268, t269)))) else (none))) else (none)) else (none)) = some (r1, r2, r3) := H
    have A5 := Aside0.mk A50
    clear A50
    by_cases c6 : (t265 ++ (⟨#[58]⟩ : ByteArray)).size + t266.size ≤ 9223372036854775807
    · rw [if_pos c6] at H
      have c6b0 := eq_true c6
      have c6b1 : decide ((t265 ++ (⟨#[58]⟩ : ByteArray)).size + t266.size ≤ 9223372036854775807) = true := decide_eq_true c6
      try have c6b2 : (9223372036854775807 < (t265 ++ (⟨#[58]⟩ : ByteArray)).size + t266.size) = False := eq_false (Nat.not_lt.2 c6)
      try have c6b8 : (9223372036854775807 < t265.size + 1 + t266.size) = False := eq_false (by have hq := of_eq_true c6b0; simp only [ByteArray.size_append, ByteArray.size_extract] at hq; have hz0 : (⟨#[58]⟩ : ByteArray).size = 1 := rfl; omega)
      by_cases c7 : ((t265 ++ (⟨#[58]⟩ : ByteArray)) ++ t266).size + 1 ≤ 9223372036854775807
      · rw [if_pos c7] at H
        have c7b0 := eq_true c7
        have c7b1 : decide (((t265 ++ (⟨#[58]⟩ : ByteArray)) ++ t266).size + 1 ≤ 9223372036854775807) = true := decide_eq_true c7
        try have c7b2 : (9223372036854775807 < ((t265 ++ (⟨#[58]⟩ : ByteArray)) ++ t266).size + 1) = False := eq_false (Nat.not_lt.2 c7)
        try have c7b8 : (9223372036854775807 < t265.size + 1 + t266.size + 1) = False := eq_false (by have hq := of_eq_true c7b0; simp only [ByteArray.size_append, ByteArray.size_extract] at hq; have hz0 : (⟨#[58]⟩ : ByteArray).size = 1 := rfl; omega)
        replace H := Option.bind_eq_some_iff.mp H
        obtain ⟨t267, A80, H⟩ := H
        replace H : (if (((t265 ++ (⟨#[58]⟩ : ByteArray)) ++ t266) ++ (⟨#[58]⟩ : ByteArray)).size + t267.size ≤ 9223372036854775807 then ((lanternlaw14_pair.f (wrap64 (Int.tdiv a1 60))).bind fun t268 => ((lanternlaw14_pair.f (Int.tmod a1 60)).bind fun t269 => (some ((((t265 ++ (⟨#[58]⟩ : ByteArray)) ++ t266) ++ (⟨#[58]⟩ : ByteArray)) ++ t267, t268, t269)))) else (none)) = some (r1, r2, r3) := H
        have A8 := Aside0.mk A80
        clear A80
        by_cases c9 : (((t265 ++ (⟨#[58]⟩ : ByteArray)) ++ t266) ++ (⟨#[58]⟩ : ByteArray)).size + t267.size ≤ 9223372036854775807
        · rw [if_pos c9] at H
          have c9b0 := eq_true c9
          have c9b1 : decide ((((t265 ++ (⟨#[58]⟩ : ByteArray)) ++ t266) ++ (⟨#[58]⟩ : ByteArray)).size + t267.size ≤ 9223372036854775807) = true := decide_eq_true c9
          try have c9b2 : (9223372036854775807 < (((t265 ++ (⟨#[58]⟩ : ByteArray)) ++ t266) ++ (⟨#[58]⟩ : ByteArray)).size + t267.size) = False := eq_false (Nat.not_lt.2 c9)
          try have c9b8 : (9223372036854775807 < t265.size + 1 + t266.size + 1 + t267.size) = False := eq_false (by have hq := of_eq_true c9b0; simp only [ByteArray.size_append, ByteArray.size_extract] at hq; have hz0 : (⟨#[58]⟩ : ByteArray).size = 1 := rfl; omega)
          replace H := Option.bind_eq_some_iff.mp H
          obtain ⟨t268, A100, H⟩ := H
          replace H : ((lanternlaw14_pair.f (Int.tmod a1 60)).bind fun t269 => (some ((((t265 ++ (⟨#[58]⟩ : ByteArray)) ++ t266) ++ (⟨#[58]⟩ : ByteArray)) ++ t267, t268, t269))) = some (r1, r2, r3) := H
          have A10 := Aside0.mk A100
          clear A100
          replace H := Option.bind_eq_some_iff.mp H
          obtain ⟨t269, A110, H⟩ := H
          replace H : (some ((((t265 ++ (⟨#[58]⟩ : ByteArray)) ++ t266) ++ (⟨#[58]⟩ : ByteArray)) ++ t267, t268, t269)) = some (r1, r2, r3) := H
          have A11 := Aside0.mk A110
          clear A110
          simp only [Option.some.injEq, Prod.mk.injEq] at H
          obtain ⟨rfl, rfl, rfl⟩ := H
          go_enter Tryz.func16, Tryz.ntmps16
          go_wp2_with (first | ((with_reducible refine gate_dst (N := 4) rfl ?_); refine box_event ?hg (N := 4) ?hd (cs := #[.string (⟨#[]⟩ : ByteArray), .string (⟨#[]⟩ : ByteArray), .string (⟨#[]⟩ : ByteArray)]) (t := 41) ?hr ?_; (case hd => rfl); (case hg => rfl); (case hr => first | (go_simp; done) | (go_simp; rfl)); intro gb264 hg w12 hbox hb; have n0_ := Aside0.mk (below_step (by repeat (first | (with_reducible first | exact HB.out | apply below_alloc | apply pw_below_drewN | apply below_drew1) | exact HB.out)) hb); have n1_ := Aside0.mk (hbox); have n2_ := Aside0.mk ((by rw [hg]; exact (below_size (by repeat (first | (with_reducible first | exact HB.out | apply below_alloc | apply pw_below_drewN | apply below_drew1) | exact HB.out))) : w.heap.size ≤ gb264)); have n3_ := Aside0.mk ((by rw [hg]; exact (below_size (by repeat (first | (with_reducible first | exact HB.out | apply below_alloc | apply pw_below_drewN | apply below_drew1) | exact HB.out))) : w.heap.size ≤ gb264)); clear HB; have HB := n0_; have BK264 := n1_; have GW264 := n2_; have GE264 := n3_; clear n0_ n1_ n2_ n3_; clear hb hbox hg) | ((with_reducible refine gate_callee (f := 18) rfl ?_); refine goesL_ (some 7) rfl rfl Tryz.func18 (by kernel_rfl) rfl #[.int .i64 (wrap64 (Int.tdiv a0 3600))] rfl (by (try simp only [List.map_toArray, List.map_cons, List.map_nil]); first | done | rfl | (simp only [List.length_drop, List.length_take]; rfl)) ?_; (with_reducible refine (lanternlaw14_pair.calls (wrap64 (Int.tdiv a0 3600)) t265 _ ?side1 A3.out).mono ?_); (case side1 => exact LW.below HLW.out (by repeat (first | (with_reducible first | exact HB.out | apply below_alloc | apply pw_below_drewN | apply below_drew1 | refine below_set ?_ GE264.out) | exact HB.out))); rintro e w' ⟨rfl, ⟨nd, rfl⟩⟩; refine ⟨_, rfl, ?_⟩; (try (rw [drewN_self w12]; generalize hq_ : World.drewN w12 _ = w12; have n0_ : Aside0 (w12.heap[gb264]? = some (.cells #[.string (⟨#[]⟩ : ByteArray), .string (⟨#[]⟩ : ByteArray), .string (⟨#[]⟩ : ByteArray)] 41 (0, 0))) := ⟨by rw [← hq_]; exact (by (with_reducible repeat (first | refine blk_drewN ?_ _ | refine blk_drew ?_ | refine blk_alloc ?_ _)); exact BK264.out)⟩; have n1_ : Aside0 (Below w.heap.size w w12) := ⟨by rw [← hq_]; exact (by repeat (first | (with_reducible first | exact HB.out | apply below_alloc | apply pw_below_drewN | apply below_drew1 | refine below_set ?_ GE264.out) | exact HB.out))⟩; clear BK264 HB hq_; have BK264 := n0_; have HB := n1_; clear n0_ n1_))) | ((with_reducible refine gate_callee (f := 18) rfl ?_); refine goesL_ (some 12) rfl rfl Tryz.func18 (by kernel_rfl) rfl #[.int .i64 (Int.tmod (wrap64 (Int.tdiv a0 60)) 60)] rfl (by (try simp only [List.map_toArray, List.map_cons, List.map_nil]); first | done | rfl | (simp only [List.length_drop, List.length_take]; rfl)) ?_; (with_reducible refine (lanternlaw14_pair.calls (Int.tmod (wrap64 (Int.tdiv a0 60)) 60) t266 _ ?side1 A5.out).mono ?_); (case side1 => exact LW.below HLW.out (by repeat (first | (with_reducible first | exact HB.out | apply below_alloc | apply pw_below_drewN | apply below_drew1 | refine below_set ?_ GE264.out) | exact HB.out))); rintro e w' ⟨rfl, ⟨nd, rfl⟩⟩; refine ⟨_, rfl, ?_⟩; (try (rw [drewN_self w12]; generalize hq_ : World.drewN w12 _ = w12; have n0_ : Aside0 (w12.heap[gb264]? = some (.cells #[.string (⟨#[]⟩ : ByteArray), .string (⟨#[]⟩ : ByteArray), .string (⟨#[]⟩ : ByteArray)] 41 (0, 0))) := ⟨by rw [← hq_]; exact (by (with_reducible repeat (first | refine blk_drewN ?_ _ | refine blk_drew ?_ | refine blk_alloc ?_ _)); exact BK264.out)⟩; have n1_ : Aside0 (Below w.heap.size w w12) := ⟨by rw [← hq_]; exact (by repeat (first | (with_reducible first | exact HB.out | apply below_alloc | apply pw_below_drewN | apply below_drew1 | refine below_set ?_ GE264.out) | exact HB.out))⟩; clear BK264 HB hq_; have BK264 := n0_; have HB := n1_; clear n0_ n1_))) | ((with_reducible refine gate_callee (f := 18) rfl ?_); refine goesL_ (some 17) rfl rfl Tryz.func18 (by kernel_rfl) rfl #[.int .i64 (Int.tmod a0 60)] rfl (by (try simp only [List.map_toArray, List.map_cons, List.map_nil]); first | done | rfl | (simp only [List.length_drop, List.length_take]; rfl)) ?_; (with_reducible refine (lanternlaw14_pair.calls (Int.tmod a0 60) t267 _ ?side1 A8.out).mono ?_); (case side1 => exact LW.below HLW.out (by repeat (first | (with_reducible first | exact HB.out | apply below_alloc | apply pw_below_drewN | apply below_drew1 | refine below_set ?_ GE264.out) | exact HB.out))); rintro e w' ⟨rfl, ⟨nd, rfl⟩⟩; refine ⟨_, rfl, ?_⟩; (try (rw [drewN_self w12]; generalize hq_ : World.drewN w12 _ = w12; have n0_ : Aside0 (w12.heap[gb264]? = some (.cells #[.string (⟨#[]⟩ : ByteArray), .string (⟨#[]⟩ : ByteArray), .string (⟨#[]⟩ : ByteArray)] 41 (0, 0))) := ⟨by rw [← hq_]; exact (by (with_reducible repeat (first | refine blk_drewN ?_ _ | refine blk_drew ?_ | refine blk_alloc ?_ _)); exact BK264.out)⟩; have n1_ : Aside0 (Below w.heap.size w w12) := ⟨by rw [← hq_]; exact (by repeat (first | (with_reducible first | exact HB.out | apply below_alloc | apply pw_below_drewN | apply below_drew1 | refine below_set ?_ GE264.out) | exact HB.out))⟩; clear BK264 HB hq_; have BK264 := n0_; have HB := n1_; clear n0_ n1_))) | ((with_reducible refine gate_callee (f := 18) rfl ?_); refine goesL_ (some 21) rfl rfl Tryz.func18 (by kernel_rfl) rfl #[.int .i64 (wrap64 (Int.tdiv a1 60))] rfl (by (try simp only [List.map_toArray, List.map_cons, List.map_nil]); first | done | rfl | (simp only [List.length_drop, List.length_take]; rfl)) ?_; (with_reducible refine (lanternlaw14_pair.calls (wrap64 (Int.tdiv a1 60)) t268 _ ?side1 A10.out).mono ?_); (case side1 => exact LW.below HLW.out (by repeat (first | (with_reducible first | exact HB.out | apply below_alloc | apply pw_below_drewN | apply below_drew1 | refine below_set ?_ GE264.out) | exact HB.out))); rintro e w' ⟨rfl, ⟨nd, rfl⟩⟩; refine ⟨_, rfl, ?_⟩; (try (rw [drewN_self w12]; generalize hq_ : World.drewN w12 _ = w12; have n0_ : Aside0 (w12.heap[gb264]? = some (.cells #[.string (⟨#[]⟩ : ByteArray), .string (⟨#[]⟩ : ByteArray), .string (⟨#[]⟩ : ByteArray)] 41 (0, 0))) := ⟨by rw [← hq_]; exact (by (with_reducible repeat (first | refine blk_drewN ?_ _ | refine blk_drew ?_ | refine blk_alloc ?_ _)); exact BK264.out)⟩; have n1_ : Aside0 (Below w.heap.size w w12) := ⟨by rw [← hq_]; exact (by repeat (first | (with_reducible first | exact HB.out | apply below_alloc | apply pw_below_drewN | apply below_drew1 | refine below_set ?_ GE264.out) | exact HB.out))⟩; clear BK264 HB hq_; have BK264 := n0_; have HB := n1_; clear n0_ n1_))) | ((with_reducible refine gate_callee (f := 18) rfl ?_); refine goesL_ (some 24) rfl rfl Tryz.func18 (by kernel_rfl) rfl #[.int .i64 (Int.tmod a1 60)] rfl (by (try simp only [List.map_toArray, List.map_cons, List.map_nil]); first | done | rfl | (simp only [List.length_drop, List.length_take]; rfl)) ?_; (with_reducible refine (lanternlaw14_pair.calls (Int.tmod a1 60) t269 _ ?side1 A11.out).mono ?_); (case side1 => exact LW.below HLW.out (by repeat (first | (with_reducible first | exact HB.out | apply below_alloc | apply pw_below_drewN | apply below_drew1 | refine below_set ?_ GE264.out) | exact HB.out))); rintro e w' ⟨rfl, ⟨nd, rfl⟩⟩; refine ⟨_, rfl, ?_⟩; (try (rw [drewN_self w12]; generalize hq_ : World.drewN w12 _ = w12; have n0_ : Aside0 (w12.heap[gb264]? = some (.cells #[.string (⟨#[]⟩ : ByteArray), .string (⟨#[]⟩ : ByteArray), .string (⟨#[]⟩ : ByteArray)] 41 (0, 0))) := ⟨by rw [← hq_]; exact (by (with_reducible repeat (first | refine blk_drewN ?_ _ | refine blk_drew ?_ | refine blk_alloc ?_ _)); exact BK264.out)⟩; have n1_ : Aside0 (Below w.heap.size w w12) := ⟨by rw [← hq_]; exact (by repeat (first | (with_reducible first | exact HB.out | apply below_alloc | apply pw_below_drewN | apply below_drew1 | refine below_set ?_ GE264.out) | exact HB.out))⟩; clear BK264 HB hq_; have BK264 := n0_; have HB := n1_; clear n0_ n1_)); have hcz13_0 : w12.cell? ⟨gb264, 0, none⟩ = some (.string (⟨#[]⟩ : ByteArray)) := (blk_cell BK264.out 0).trans rfl; have hcz13_1 : w12.cell? ⟨gb264, 1, none⟩ = some (.string (⟨#[]⟩ : ByteArray)) := (blk_cell BK264.out 1).trans rfl; have hcz13_2 : w12.cell? ⟨gb264, 2, none⟩ = some (.string (⟨#[]⟩ : ByteArray)) := (blk_cell BK264.out 2).trans rfl; have hfz13_0 := blk_frozen BK264.out 0; have hfz13_1 := blk_frozen BK264.out 1; have hfz13_2 := blk_frozen BK264.out 2))
          refine bodyPost_ret (results_cell_row rfl _ _ gb264 41 #[.string ((((t265 ++ (⟨#[58]⟩ : ByteArray)) ++ t266) ++ (⟨#[58]⟩ : ByteArray)) ++ t267), .string t268, .string t269] (0, 0) _ rfl (by (with_reducible repeat (first | refine blk_drewN ?_ _ | refine blk_drew ?_ | refine blk_alloc ?_ _)); refine blk_put (cs := #[.string ((((t265 ++ (⟨#[58]⟩ : ByteArray)) ++ t266) ++ (⟨#[58]⟩ : ByteArray)) ++ t267), .string t268, .string (⟨#[]⟩ : ByteArray)]) ?_ 2 _ rfl; (with_reducible repeat (first | refine blk_drewN ?_ _ | refine blk_drew ?_ | refine blk_alloc ?_ _)); refine blk_put (cs := #[.string ((((t265 ++ (⟨#[58]⟩ : ByteArray)) ++ t266) ++ (⟨#[58]⟩ : ByteArray)) ++ t267), .string (⟨#[]⟩ : ByteArray), .string (⟨#[]⟩ : ByteArray)]) ?_ 1 _ rfl; (with_reducible repeat (first | refine blk_drewN ?_ _ | refine blk_drew ?_ | refine blk_alloc ?_ _)); refine blk_put (cs := #[.string (⟨#[]⟩ : ByteArray), .string (⟨#[]⟩ : ByteArray), .string (⟨#[]⟩ : ByteArray)]) ?_ 0 _ rfl; (with_reducible repeat (first | refine blk_drewN ?_ _ | refine blk_drew ?_ | refine blk_alloc ?_ _)); exact BK264.out) Tryz.underlying41 rfl (by kernel_rfl)) rfl ?_
          exact ⟨by first | rfl | (simp [errW_none, errW_some] <;> rfl) | (simp [*, errW_none, errW_some] <;> rfl), by repeat (first | (with_reducible first | exact HB.out | apply below_alloc | apply pw_below_drewN | apply below_drew1 | refine below_set ?_ GE264.out) | exact HB.out)⟩
        · rw [if_neg c9] at H
          exact absurd H (by simp)
      · rw [if_neg c7] at H
        exact absurd H (by simp)
    · rw [if_neg c6] at H
      exact absurd H (by simp)
  · rw [if_neg c4] at H
    exact absurd H (by simp)

/-! ### lanternlaw14_four: function 17 -/
def lanternlaw14_four.f (a0 : Int) : Option (ByteArray) := (lanternlaw14_pair.f (wrap64 (Int.tdiv a0 100))).bind fun t270 => ((lanternlaw14_pair.f (Int.tmod a0 100)).bind fun t271 => (if t270.size + t271.size ≤ 9223372036854775807 then (some (t270 ++ t271)) else (none)))
set_option maxHeartbeats 8000000 in
set_option maxRecDepth 100000 in
theorem lanternlaw14_four.calls (a0 : Int) (r : ByteArray) (w : World) (hLW : LW w) (h : lanternlaw14_four.f a0 = some r) :
    Calls Tryz.prog 17 #[.int .i64 a0] w fun e w' => e = .returned (.string r) ∧ Drawn0 w w' := by
  have HLW := Aside0.mk hLW
  clear hLW
  have H : ((lanternlaw14_pair.f (wrap64 (Int.tdiv a0 100))).bind fun t270 => ((lanternlaw14_pair.f (Int.tmod a0 100)).bind fun t271 => (if t270.size + t271.size ≤ 9223372036854775807 then (some (t270 ++ t271)) else (none)))) = some r := h
  clear h
  replace H := Option.bind_eq_some_iff.mp H
  obtain ⟨t270, A20, H⟩ := H
  replace H : ((lanternlaw14_pair.f (Int.tmod a0 100)).bind fun t271 => (if t270.size + t271.size ≤ 9223372036854775807 then (some (t270 ++ t271)) else (none))) = some r := H
  have A2 := Aside0.mk A20
  clear A20
  replace H := Option.bind_eq_some_iff.mp H
  obtain ⟨t271, A30, H⟩ := H
  replace H : (if t270.size + t271.size ≤ 9223372036854775807 then (some (t270 ++ t271)) else (none)) = some r := H
  have A3 := Aside0.mk A30
  clear A30
  by_cases c4 : t270.size + t271.size ≤ 9223372036854775807
  · rw [if_pos c4] at H
    have c4b0 := eq_true c4
    have c4b1 : decide (t270.size + t271.size ≤ 9223372036854775807) = true := decide_eq_true c4
    try have c4b2 : (9223372036854775807 < t270.size + t271.size) = False := eq_false (Nat.not_lt.2 c4)
    obtain rfl := Option.some.inj H
    go_enter Tryz.func17, Tryz.ntmps17
    go_wp2_with (first | ((with_reducible refine gate_callee (f := 18) rfl ?_); refine goesL_ (some 5) rfl rfl Tryz.func18 (by kernel_rfl) rfl #[.int .i64 (wrap64 (Int.tdiv a0 100))] rfl (by (try simp only [List.map_toArray, List.map_cons, List.map_nil]); first | done | rfl | (simp only [List.length_drop, List.length_take]; rfl)) ?_; (with_reducible refine (lanternlaw14_pair.calls (wrap64 (Int.tdiv a0 100)) t270 _ ?side1 A2.out).mono ?_); (case side1 => repeat (first | exact HLW.out | apply LW.drewN | apply LW.drew)); rintro e w' ⟨rfl, ⟨nd, rfl⟩⟩; refine ⟨_, rfl, ?_⟩) | ((with_reducible refine gate_callee (f := 18) rfl ?_); refine goesL_ (some 8) rfl rfl Tryz.func18 (by kernel_rfl) rfl #[.int .i64 (Int.tmod a0 100)] rfl (by (try simp only [List.map_toArray, List.map_cons, List.map_nil]); first | done | rfl | (simp only [List.length_drop, List.length_take]; rfl)) ?_; (with_reducible refine (lanternlaw14_pair.calls (Int.tmod a0 100) t271 _ ?side1 A3.out).mono ?_); (case side1 => repeat (first | exact HLW.out | apply LW.drewN | apply LW.drew)); rintro e w' ⟨rfl, ⟨nd, rfl⟩⟩; refine ⟨_, rfl, ?_⟩))
    go_ret
    exact ⟨by first | rfl | (simp; done) | (simp [*]; done) | (simp; exact isEmpty_bne _) | (simp; exact isEmpty_beq _), by repeat (first | exact Drawn0.refl _ | apply Drawn0.step)⟩
  · rw [if_neg c4] at H
    exact absurd H (by simp)

-- NOT PRINTED: function 6 (lanternlaw14_DateZones)

end Go.Proofs.YtlbgphddhjnlcaaGreatDoor.P
