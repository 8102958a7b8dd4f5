-- Written by a program of this session (wip/gen/lprint.py over the kit's print.py) out of the translation. Lean checks it.
import Derived.Test.YtimffmddegnkjaaDoorP0
import Derived.Test.YtimffmddegnkjaaDoorP1
import Derived.Test.YtimffmddegnkjaaDoorP2
namespace Go.Proofs.YtimffmddegnkjaaDoor.P
open Go.Proofs.YtimffmddegnkjaaDoor.E Go.Proofs.YtimffmddegnkjaaDoorV
open Go.Proofs.YtimffmddegnkjaaDoor.I
open Go.Proofs.YtimffmddegnkjaaDoor.J
open Go.RowKit Go.Proofs.YtimffmddegnkjaaDoorW.PrintWords Go.Proofs.YtimffmddegnkjaaDoorW.PrintLast Go.Proofs.YtimffmddegnkjaaDoorW.PrintMore
attribute [local go_sem] max2_int min2_int max_two min_two max_three min_three max_four min_four   -- for this text's walks alone
set_option linter.unusedVariables false
set_option linter.unusedSimpArgs false

/-! ### lanternref12_reference: function 25 -/
mutual
def lanternref12_reference.j0 : Nat → ByteArray → Bool → Option (ByteArray)
  | 0, _, _ => none
  | k + 1, x0, x19 => if x19 = true then ((lanternref12_names.f x0).bind fun t130 => (some t130)) else (if 1 < (x0.size : Int) then (if (bt x0 1) = 120 then (lanternref12_reference.j1 k x0 16 2 6) else (lanternref12_reference.j1 k x0 10 1 7)) else (none))
def lanternref12_reference.j1 : Nat → ByteArray → Int → Int → Int → Option (ByteArray)
  | 0, _, _, _, _ => none
  | k + 1, x0, x3, x4, x5 => if (x0.size : Int) = x4 then (lanternref12_reference.j2 k x0 x3 x4 true) else (lanternref12_reference.j2 k x0 x3 x4 (decide ((wrap64 ((x0.size : Int) - x4)) > x5)))
def lanternref12_reference.j2 : Nat → ByteArray → Int → Int → Bool → Option (ByteArray)
  | 0, _, _, _, _ => none
  | k + 1, x0, x3, x4, x36 => if x36 = true then (some (⟨#[]⟩ : ByteArray)) else (lanternref12_reference.l0 k x0 x3 0 x4)
def lanternref12_reference.l0 : Nat → ByteArray → Int → Int → Int → Option (ByteArray)
  | 0, _, _, _, _ => none
  | k + 1, x0, x3, x6, x7 => if x7 < (x0.size : Int) then (if 0 ≤ x7 then (if (bt x0 x7) ≥ 48 then (lanternref12_reference.j4 k x0 x3 x6 x7 99 (bt x0 x7) (decide ((bt x0 x7) ≤ 57))) else (lanternref12_reference.j4 k x0 x3 x6 x7 99 (bt x0 x7) false)) else (none)) else ((lanternref12_Utf8.f x6).bind fun bt131 => (if bt131.2 = true then ((lanternref01_Xml.f k (([x6] : List Int))).bind fun t136 => (if t136 = true then (some bt131.1) else (some (⟨#[]⟩ : ByteArray)))) else (some (⟨#[]⟩ : ByteArray))))
def lanternref12_reference.j4 : Nat → ByteArray → Int → Int → Int → Int → Int → Bool → Option (ByteArray)
  | 0, _, _, _, _, _, _, _ => none
  | k + 1, x0, x3, x6, x7, x8, x9, x47 => if x47 = true then (if ((x9 - 48) % 256) ≥ x3 then (some (⟨#[]⟩ : ByteArray)) else (lanternref12_reference.l0 k x0 x3 (wrap64 ((wrap64 (x6 * x3)) + ((x9 - 48) % 256))) (wrap64 (x7 + 1)))) else (if x9 ≥ 97 then (lanternref12_reference.j5 k x0 x3 x6 x7 x8 x9 (decide (x9 ≤ 102))) else (lanternref12_reference.j5 k x0 x3 x6 x7 x8 x9 false))
def lanternref12_reference.j5 : Nat → ByteArray → Int → Int → Int → Int → Int → Bool → Option (ByteArray)
  | 0, _, _, _, _, _, _, _ => none
  | k + 1, x0, x3, x6, x7, x8, x9, x57 => if x57 = true then (if (((x9 - 97) % 256) + 10) ≥ x3 then (some (⟨#[]⟩ : ByteArray)) else (lanternref12_reference.l0 k x0 x3 (wrap64 ((wrap64 (x6 * x3)) + (((x9 - 97) % 256) + 10))) (wrap64 (x7 + 1)))) else (if x9 ≥ 65 then (lanternref12_reference.j6 k x0 x3 x6 x7 x8 x9 (decide (x9 ≤ 70))) else (lanternref12_reference.j6 k x0 x3 x6 x7 x8 x9 false))
def lanternref12_reference.j6 : Nat → ByteArray → Int → Int → Int → Int → Int → Bool → Option (ByteArray)
  | 0, _, _, _, _, _, _, _ => none
  | k + 1, x0, x3, x6, x7, x8, x9, x68 => if x68 = true then (if (((x9 - 65) % 256) + 10) ≥ x3 then (some (⟨#[]⟩ : ByteArray)) else (lanternref12_reference.l0 k x0 x3 (wrap64 ((wrap64 (x6 * x3)) + (((x9 - 65) % 256) + 10))) (wrap64 (x7 + 1)))) else (if x8 ≥ x3 then (some (⟨#[]⟩ : ByteArray)) else (lanternref12_reference.l0 k x0 x3 (wrap64 ((wrap64 (x6 * x3)) + x8)) (wrap64 (x7 + 1))))
end
def lanternref12_reference.f (k : Nat) (a0 : ByteArray) : Option (ByteArray) := if (a0.size : Int) < 2 then (lanternref12_reference.j0 k a0 true) else (if 0 < (a0.size : Int) then (lanternref12_reference.j0 k a0 ((bt a0 0) != 35)) else (none))
theorem lanternref12_reference.mono_l : ∀ k, (∀ y0 y1, LeO (lanternref12_reference.j0 k y0 y1) (lanternref12_reference.j0 (k + 1) y0 y1)) ∧ (∀ y0 y1 y2 y3, LeO (lanternref12_reference.j1 k y0 y1 y2 y3) (lanternref12_reference.j1 (k + 1) y0 y1 y2 y3)) ∧ (∀ y0 y1 y2 y3, LeO (lanternref12_reference.j2 k y0 y1 y2 y3) (lanternref12_reference.j2 (k + 1) y0 y1 y2 y3)) ∧ (∀ y0 y1 y2 y3, LeO (lanternref12_reference.l0 k y0 y1 y2 y3) (lanternref12_reference.l0 (k + 1) y0 y1 y2 y3)) ∧ (∀ y0 y1 y2 y3 y4 y5 y6, LeO (lanternref12_reference.j4 k y0 y1 y2 y3 y4 y5 y6) (lanternref12_reference.j4 (k + 1) y0 y1 y2 y3 y4 y5 y6)) ∧ (∀ y0 y1 y2 y3 y4 y5 y6, LeO (lanternref12_reference.j5 k y0 y1 y2 y3 y4 y5 y6) (lanternref12_reference.j5 (k + 1) y0 y1 y2 y3 y4 y5 y6)) ∧ (∀ y0 y1 y2 y3 y4 y5 y6, LeO (lanternref12_reference.j6 k y0 y1 y2 y3 y4 y5 y6) (lanternref12_reference.j6 (k + 1) y0 y1 y2 y3 y4 y5 y6))
  | 0 => ⟨fun _ _ r h => by simp [lanternref12_reference.j0] at h, fun _ _ _ _ r h => by simp [lanternref12_reference.j1] at h, fun _ _ _ _ r h => by simp [lanternref12_reference.j2] at h, fun _ _ _ _ r h => by simp [lanternref12_reference.l0] at h, fun _ _ _ _ _ _ _ r h => by simp [lanternref12_reference.j4] at h, fun _ _ _ _ _ _ _ r h => by simp [lanternref12_reference.j5] at h, fun _ _ _ _ _ _ _ r h => by simp [lanternref12_reference.j6] at h⟩
  | k + 1 => by
    obtain ⟨ih0, ih1, ih2, ih3, ih4, ih5, ih6⟩ := lanternref12_reference.mono_l k
    refine ⟨?_, ?_, ?_, ?_, ?_, ?_, ?_⟩
    · intro y0 y1
      unfold lanternref12_reference.j0
      repeat' first
      | (with_reducible exact ih0 _ _)
      | (with_reducible exact ih1 _ _ _ _)
      | (with_reducible exact ih2 _ _ _ _)
      | (with_reducible exact ih3 _ _ _ _)
      | (with_reducible exact ih4 _ _ _ _ _ _ _)
      | (with_reducible exact ih5 _ _ _ _ _ _ _)
      | (with_reducible exact ih6 _ _ _ _ _ _ _)
      | (with_reducible exact lanternref01_Xml.mono _ _)
      | (with_reducible exact LeO.refl _)
      | (with_reducible exact LeO.none _)
      | (with_reducible refine LeO.ite ?_ ?_)
      | (with_reducible refine LeO.bind ?_ (fun _ => ?_))
      | exact ih0 _ _
      | exact ih1 _ _ _ _
      | exact ih2 _ _ _ _
      | exact ih3 _ _ _ _
      | exact ih4 _ _ _ _ _ _ _
      | exact ih5 _ _ _ _ _ _ _
      | exact ih6 _ _ _ _ _ _ _
      | exact lanternref01_Xml.mono _ _
      | exact LeO.none _
      | refine LeO.ite ?_ ?_
      | refine LeO.bind ?_ (fun _ => ?_)
    · intro y0 y1 y2 y3
      unfold lanternref12_reference.j1
      repeat' first
      | (with_reducible exact ih0 _ _)
      | (with_reducible exact ih1 _ _ _ _)
      | (with_reducible exact ih2 _ _ _ _)
      | (with_reducible exact ih3 _ _ _ _)
      | (with_reducible exact ih4 _ _ _ _ _ _ _)
      | (with_reducible exact ih5 _ _ _ _ _ _ _)
      | (with_reducible exact ih6 _ _ _ _ _ _ _)
      | (with_reducible exact lanternref01_Xml.mono _ _)
      | (with_reducible exact LeO.refl _)
      | (with_reducible exact LeO.none _)
      | (with_reducible refine LeO.ite ?_ ?_)
      | (with_reducible refine LeO.bind ?_ (fun _ => ?_))
      | exact ih0 _ _
      | exact ih1 _ _ _ _
      | exact ih2 _ _ _ _
      | exact ih3 _ _ _ _
      | exact ih4 _ _ _ _ _ _ _
      | exact ih5 _ _ _ _ _ _ _
      | exact ih6 _ _ _ _ _ _ _
      | exact lanternref01_Xml.mono _ _
      | exact LeO.none _
      | refine LeO.ite ?_ ?_
      | refine LeO.bind ?_ (fun _ => ?_)
    · intro y0 y1 y2 y3
      unfold lanternref12_reference.j2
      repeat' first
      | (with_reducible exact ih0 _ _)
      | (with_reducible exact ih1 _ _ _ _)
      | (with_reducible exact ih2 _ _ _ _)
      | (with_reducible exact ih3 _ _ _ _)
      | (with_reducible exact ih4 _ _ _ _ _ _ _)
      | (with_reducible exact ih5 _ _ _ _ _ _ _)
      | (with_reducible exact ih6 _ _ _ _ _ _ _)
      | (with_reducible exact lanternref01_Xml.mono _ _)
      | (with_reducible exact LeO.refl _)
      | (with_reducible exact LeO.none _)
      | (with_reducible refine LeO.ite ?_ ?_)
      | (with_reducible refine LeO.bind ?_ (fun _ => ?_))
      | exact ih0 _ _
      | exact ih1 _ _ _ _
      | exact ih2 _ _ _ _
      | exact ih3 _ _ _ _
      | exact ih4 _ _ _ _ _ _ _
      | exact ih5 _ _ _ _ _ _ _
      | exact ih6 _ _ _ _ _ _ _
      | exact lanternref01_Xml.mono _ _
      | exact LeO.none _
      | refine LeO.ite ?_ ?_
      | refine LeO.bind ?_ (fun _ => ?_)
    · intro y0 y1 y2 y3
      unfold lanternref12_reference.l0
      repeat' first
      | (with_reducible exact ih0 _ _)
      | (with_reducible exact ih1 _ _ _ _)
      | (with_reducible exact ih2 _ _ _ _)
      | (with_reducible exact ih3 _ _ _ _)
      | (with_reducible exact ih4 _ _ _ _ _ _ _)
      | (with_reducible exact ih5 _ _ _ _ _ _ _)
      | (with_reducible exact ih6 _ _ _ _ _ _ _)
      | (with_reducible exact lanternref01_Xml.mono _ _)
      | (with_reducible exact LeO.refl _)
      | (with_reducible exact LeO.none _)
      | (with_reducible refine LeO.ite ?_ ?_)
      | (with_reducible refine LeO.bind ?_ (fun _ => ?_))
      | exact ih0 _ _
      | exact ih1 _ _ _ _
      | exact ih2 _ _ _ _
      | exact ih3 _ _ _ _
      | exact ih4 _ _ _ _ _ _ _
      | exact ih5 _ _ _ _ _ _ _
      | exact ih6 _ _ _ _ _ _ _
      | exact lanternref01_Xml.mono _ _
      | exact LeO.none _
      | refine LeO.ite ?_ ?_
      | refine LeO.bind ?_ (fun _ => ?_)
    · intro y0 y1 y2 y3 y4 y5 y6
      unfold lanternref12_reference.j4
      repeat' first
      | (with_reducible exact ih0 _ _)
      | (with_reducible exact ih1 _ _ _ _)
      | (with_reducible exact ih2 _ _ _ _)
      | (with_reducible exact ih3 _ _ _ _)
      | (with_reducible exact ih4 _ _ _ _ _ _ _)
      | (with_reducible exact ih5 _ _ _ _ _ _ _)
      | (with_reducible exact ih6 _ _ _ _ _ _ _)
      | (with_reducible exact lanternref01_Xml.mono _ _)
      | (with_reducible exact LeO.refl _)
      | (with_reducible exact LeO.none _)
      | (with_reducible refine LeO.ite ?_ ?_)
      | (with_reducible refine LeO.bind ?_ (fun _ => ?_))
      | exact ih0 _ _
      | exact ih1 _ _ _ _
      | exact ih2 _ _ _ _
      | exact ih3 _ _ _ _
      | exact ih4 _ _ _ _ _ _ _
      | exact ih5 _ _ _ _ _ _ _
      | exact ih6 _ _ _ _ _ _ _
      | exact lanternref01_Xml.mono _ _
      | exact LeO.none _
      | refine LeO.ite ?_ ?_
      | refine LeO.bind ?_ (fun _ => ?_)
    · intro y0 y1 y2 y3 y4 y5 y6
      unfold lanternref12_reference.j5
      repeat' first
      | (with_reducible exact ih0 _ _)
      | (with_reducible exact ih1 _ _ _ _)
      | (with_reducible exact ih2 _ _ _ _)
      | (with_reducible exact ih3 _ _ _ _)
      | (with_reducible exact ih4 _ _ _ _ _ _ _)
      | (with_reducible exact ih5 _ _ _ _ _ _ _)
      | (with_reducible exact ih6 _ _ _ _ _ _ _)
      | (with_reducible exact lanternref01_Xml.mono _ _)
      | (with_reducible exact LeO.refl _)
      | (with_reducible exact LeO.none _)
      | (with_reducible refine LeO.ite ?_ ?_)
      | (with_reducible refine LeO.bind ?_ (fun _ => ?_))
      | exact ih0 _ _
      | exact ih1 _ _ _ _
      | exact ih2 _ _ _ _
      | exact ih3 _ _ _ _
      | exact ih4 _ _ _ _ _ _ _
      | exact ih5 _ _ _ _ _ _ _
      | exact ih6 _ _ _ _ _ _ _
      | exact lanternref01_Xml.mono _ _
      | exact LeO.none _
      | refine LeO.ite ?_ ?_
      | refine LeO.bind ?_ (fun _ => ?_)
    · intro y0 y1 y2 y3 y4 y5 y6
      unfold lanternref12_reference.j6
      repeat' first
      | (with_reducible exact ih0 _ _)
      | (with_reducible exact ih1 _ _ _ _)
      | (with_reducible exact ih2 _ _ _ _)
      | (with_reducible exact ih3 _ _ _ _)
      | (with_reducible exact ih4 _ _ _ _ _ _ _)
      | (with_reducible exact ih5 _ _ _ _ _ _ _)
      | (with_reducible exact ih6 _ _ _ _ _ _ _)
      | (with_reducible exact lanternref01_Xml.mono _ _)
      | (with_reducible exact LeO.refl _)
      | (with_reducible exact LeO.none _)
      | (with_reducible refine LeO.ite ?_ ?_)
      | (with_reducible refine LeO.bind ?_ (fun _ => ?_))
      | exact ih0 _ _
      | exact ih1 _ _ _ _
      | exact ih2 _ _ _ _
      | exact ih3 _ _ _ _
      | exact ih4 _ _ _ _ _ _ _
      | exact ih5 _ _ _ _ _ _ _
      | exact ih6 _ _ _ _ _ _ _
      | exact lanternref01_Xml.mono _ _
      | exact LeO.none _
      | refine LeO.ite ?_ ?_
      | refine LeO.bind ?_ (fun _ => ?_)
theorem lanternref12_reference.mono : ∀ a0 k, LeO (lanternref12_reference.f k a0) (lanternref12_reference.f (k + 1) a0) := by
  intro a0 k
  obtain ⟨ih0, ih1, ih2, ih3, ih4, ih5, ih6⟩ := lanternref12_reference.mono_l k
  unfold lanternref12_reference.f
  repeat' first
      | (with_reducible exact ih0 _ _)
      | (with_reducible exact ih1 _ _ _ _)
      | (with_reducible exact ih2 _ _ _ _)
      | (with_reducible exact ih3 _ _ _ _)
      | (with_reducible exact ih4 _ _ _ _ _ _ _)
      | (with_reducible exact ih5 _ _ _ _ _ _ _)
      | (with_reducible exact ih6 _ _ _ _ _ _ _)
      | (with_reducible exact lanternref01_Xml.mono _ _)
      | (with_reducible exact LeO.refl _)
      | (with_reducible exact LeO.none _)
      | (with_reducible refine LeO.ite ?_ ?_)
      | (with_reducible refine LeO.bind ?_ (fun _ => ?_))
      | exact ih0 _ _
      | exact ih1 _ _ _ _
      | exact ih2 _ _ _ _
      | exact ih3 _ _ _ _
      | exact ih4 _ _ _ _ _ _ _
      | exact ih5 _ _ _ _ _ _ _
      | exact ih6 _ _ _ _ _ _ _
      | exact lanternref01_Xml.mono _ _
      | exact LeO.none _
      | refine LeO.ite ?_ ?_
      | refine LeO.bind ?_ (fun _ => ?_)
set_option maxHeartbeats 8000000 in
set_option maxRecDepth 100000 in
theorem lanternref12_reference.calls (k : Nat) (a0 : ByteArray) (r : ByteArray) (w : World) (hLW : LW w) (h : lanternref12_reference.f k a0 = some r) :
    Calls Tryd.prog 25 #[.string a0] w fun e w' => e = .returned (.string r) ∧ Below w.heap.size w w' := by
  have HLW := Aside0.mk hLW
  clear hLW
  have HB := Aside0.mk (Below.refl w.heap.size w)
  have H : (if (a0.size : Int) < 2 then (lanternref12_reference.j0 k a0 true) else (if 0 < (a0.size : Int) then (lanternref12_reference.j0 k a0 ((bt a0 0) != 35)) else (none))) = some r := h
  clear h
  have HC2 := Aside0.mk H
  clear H
  go_enter Tryd.func25, Tryd.ntmps25
  go_upto_region 1 with (fail)
  go_cut [19] (fun v19 wc => ∃ (kq : Nat) (x19_1 : Bool), v19 = .bool x19_1 ∧ Aside0 (lanternref12_reference.j0 kq a0 x19_1 = some r) ∧ Aside0 (kq ≤ k) ∧ Aside0 (Below w.heap.size w wc))
  case first =>
    have H := HC2.out
    clear HC2
    by_cases c3 : (a0.size : Int) < 2
    · rw [if_pos c3] at H
      have c3b0 : decide ((a0.size : Int) < 2) = true := decide_eq_true c3
      have c3b1 : decide (a0.size < 2) = true := decide_eq_true (by omega)
      clear c3
      (first | rw [c3b0] | (simp only [i64_w, i32_w]; rw [c3b0]) | skip)
      have H' := Aside0.mk H
      clear H
      go_wp2
      go_meet
      case rel => exact ⟨_, (true), (by first | rfl | (simp; done) | (simp [*]; done) | (simp; exact isEmpty_bne _) | (simp; exact isEmpty_beq _)), H', ⟨by first | omega | exact Nat.le_refl _⟩, ⟨by repeat (first | (with_reducible first | exact HB.out | apply below_alloc | apply pw_below_drewN | apply below_drew1) | exact HB.out)⟩⟩
    · rw [if_neg c3] at H
      have c3b0 : decide ((a0.size : Int) < 2) = false := decide_eq_false c3
      have c3b1 : decide (a0.size < 2) = false := decide_eq_false (by omega)
      clear c3
      (first | rw [c3b0] | (simp only [i64_w, i32_w]; rw [c3b0]) | skip)
      by_cases c4 : 0 < (a0.size : Int)
      · rw [if_pos c4] at H
        have c4b0 : decide (0 < (a0.size : Int)) = true := decide_eq_true c4
        have c4b1 : decide (0 < a0.size) = true := decide_eq_true (by omega)
        clear c4
        have H' := Aside0.mk H
        clear H
        have p5 : 0 ≤ (0 : Int) := (by omega)
        have q5 : 0 < a0.size := (by have : (0 : Int) < (a0.size : Int) := of_decide_eq_true (by first | (with_reducible assumption) | assumption); omega)
        have hx5 : ∀ h : 0 < a0.size, ((a0[0]'h).toNat : Int) = bt a0 0 := bt_at a0 0
        clear p5
        have qi5 : (0 < (a0.size : Int)) = True := eq_true (of_decide_eq_true (by first | (with_reducible assumption) | assumption))
        replace q5 := eq_true q5
        go_wp2
        go_meet
        case rel => exact ⟨_, (((bt a0 0) != 35)), (by first | rfl | (simp; done) | (simp [*]; done) | (simp; exact isEmpty_bne _) | (simp; exact isEmpty_beq _)), H', ⟨by first | omega | exact Nat.le_refl _⟩, ⟨by repeat (first | (with_reducible first | exact HB.out | apply below_alloc | apply pw_below_drewN | apply below_drew1) | exact HB.out)⟩⟩
      · rw [if_neg c4] at H
        exact absurd H (by simp)
  case rest =>
    clear HC2
    try clear c2
    try clear p2
    try clear c3
    try clear c3b0
    try clear c3b1
    try clear c4
    try clear c4b0
    try clear c4b1
    try clear p5
    try clear q5
    try clear hx5
    try clear qi5
    try clear p5
    try clear q5
    obtain ⟨kq, x19_1, rfl, HA, HJ1, HB⟩ := hcut
    cases kq with
    | zero => exact absurd HA.out (by simp [lanternref12_reference.j0])
    | succ kj1 =>
      have H := HA.out
      clear HA
      simp only [lanternref12_reference.j0] at H
      by_cases c6 : x19_1 = true
      · subst c6
        have H1 : ((lanternref12_names.f a0).bind fun t130 => (some t130)) = some r := by rw [if_pos rfl] at H; exact H
        clear H
        have H := H1
        clear H1
        replace H := Option.bind_eq_some_iff.mp H
        obtain ⟨t130, A70, H⟩ := H
        replace H : (some t130) = some r := H
        have A7 := Aside0.mk A70
        clear A70
        obtain rfl := Option.some.inj H
        go_wp2_with (first | ((with_reducible refine gate_callee (f := 40) rfl ?_); refine goesL_ (some 21) rfl rfl Tryd.func40 (by kernel_rfl) rfl #[.string a0] rfl (by (try simp only [List.map_toArray, List.map_cons, List.map_nil]); first | done | rfl | (simp only [List.length_drop, List.length_take]; rfl)) ?_; (with_reducible refine (lanternref12_names.calls a0 t130 _ ?side1 A7.out).mono ?_); (case side1 => exact LW.below HLW.out (by repeat (first | (with_reducible first | exact HB.out | apply below_alloc | apply pw_below_drewN | apply below_drew1) | exact HB.out))); rintro e w' ⟨rfl, ⟨nd, rfl⟩⟩; refine ⟨_, rfl, ?_⟩))
        go_ret
        exact ⟨by first | rfl | (simp [errW_none, errW_some] <;> rfl) | (simp [*, errW_none, errW_some] <;> rfl), by repeat (first | (with_reducible first | exact HB.out | apply below_alloc | apply pw_below_drewN | apply below_drew1) | exact HB.out)⟩
      · replace c6 := Bool.eq_false_iff.mpr c6
        subst c6
        have H1 : (if 1 < (a0.size : Int) then (if (bt a0 1) = 120 then (lanternref12_reference.j1 kj1 a0 16 2 6) else (lanternref12_reference.j1 kj1 a0 10 1 7)) else (none)) = some r := by rw [if_neg (show ¬ (false = true) by decide)] at H; exact H
        clear H
        have H := H1
        clear H1
        by_cases c8 : 1 < (a0.size : Int)
        · rw [if_pos c8] at H
          have c8b0 : decide (1 < (a0.size : Int)) = true := decide_eq_true c8
          have c8b1 : decide (1 < a0.size) = true := decide_eq_true (by omega)
          clear c8
          have HC10 := Aside0.mk H
          clear H
          have p9 : 0 ≤ (1 : Int) := (by omega)
          have q9 : 1 < a0.size := (by have : (1 : Int) < (a0.size : Int) := of_decide_eq_true (by first | (with_reducible assumption) | assumption); omega)
          have hx9 : ∀ h : 1 < a0.size, ((a0[1]'h).toNat : Int) = bt a0 1 := bt_at a0 1
          clear p9
          have qi9 : (1 < (a0.size : Int)) = True := eq_true (of_decide_eq_true (by first | (with_reducible assumption) | assumption))
          replace q9 := eq_true q9
          go_upto_if 24 with (fail)
          go_cut [3, 4, 5] (fun v3 v4 v5 wc => ∃ (kq : Nat) (x3_9 : Int) (x4_9 : Int) (x5_9 : Int), v3 = .int .i64 x3_9 ∧ v4 = .int .i64 x4_9 ∧ v5 = .int .i64 x5_9 ∧ Aside0 (lanternref12_reference.j1 kq a0 x3_9 x4_9 x5_9 = some r) ∧ Aside0 (kq ≤ kj1) ∧ Aside0 (Below w.heap.size w wc))
          case first =>
            have H := HC10.out
            clear HC10
            by_cases c11 : (bt a0 1) = 120
            · rw [if_pos c11] at H
              have c11b0 : ((bt a0 1) == 120) = true := beq_iff_eq.mpr c11
              have c11b1 : ((bt a0 1) != 120) = false := bne_eq_false_iff_eq.mpr c11
              clear c11
              (first | rw [c11b0] | (simp only [i64_w, i32_w]; rw [c11b0]) | skip)
              have H' := Aside0.mk H
              clear H
              go_wp2
              go_meet
              case rel => exact ⟨_, (16), (2), (6), (by first | rfl | (simp; done) | (simp [*]; done) | (simp; exact isEmpty_bne _) | (simp; exact isEmpty_beq _)), (by first | rfl | (simp; done) | (simp [*]; done) | (simp; exact isEmpty_bne _) | (simp; exact isEmpty_beq _)), (by first | rfl | (simp; done) | (simp [*]; done) | (simp; exact isEmpty_bne _) | (simp; exact isEmpty_beq _)), H', ⟨by have := HJ1.out; first | omega | exact Nat.le_refl _⟩, ⟨by repeat (first | (with_reducible first | exact HB.out | apply below_alloc | apply pw_below_drewN | apply below_drew1) | exact HB.out)⟩⟩
            · rw [if_neg c11] at H
              have c11b0 : ((bt a0 1) == 120) = false := beq_eq_false_iff_ne.mpr c11
              have c11b1 : ((bt a0 1) != 120) = true := bne_iff_ne.mpr c11
              (first | rw [c11b0] | (simp only [i64_w, i32_w]; rw [c11b0]) | skip)
              have H' := Aside0.mk H
              clear H
              go_wp2
              go_meet
              case rel => exact ⟨_, (10), (1), (7), (by first | rfl | (simp; done) | (simp [*]; done) | (simp; exact isEmpty_bne _) | (simp; exact isEmpty_beq _)), (by first | rfl | (simp; done) | (simp [*]; done) | (simp; exact isEmpty_bne _) | (simp; exact isEmpty_beq _)), (by first | rfl | (simp; done) | (simp [*]; done) | (simp; exact isEmpty_bne _) | (simp; exact isEmpty_beq _)), H', ⟨by have := HJ1.out; first | omega | exact Nat.le_refl _⟩, ⟨by repeat (first | (with_reducible first | exact HB.out | apply below_alloc | apply pw_below_drewN | apply below_drew1) | exact HB.out)⟩⟩
          case rest =>
            clear HC10
            try clear c1
            try clear c2
            try clear p2
            try clear c3
            try clear c3b0
            try clear c3b1
            try clear c4
            try clear c4b0
            try clear c4b1
            try clear p5
            try clear q5
            try clear hx5
            try clear qi5
            try clear c6
            try clear c8
            try clear c8b0
            try clear c8b1
            try clear p9
            try clear q9
            try clear hx9
            try clear qi9
            try clear c11
            try clear c11b0
            try clear c11b1
            try clear p2
            try clear p5
            try clear p9
            try clear q5
            try clear q9
            obtain ⟨kq, x3_9, x4_9, x5_9, rfl, rfl, rfl, HA, HJ9, HB⟩ := hcut
            cases kq with
            | zero => exact absurd HA.out (by simp [lanternref12_reference.j1])
            | succ kj9 =>
              have H := HA.out
              clear HA
              simp only [lanternref12_reference.j1] at H
              have HC12 := Aside0.mk H
              clear H
              go_upto_region 6 with (fail)
              go_cut [36] (fun v36 wc => ∃ (kq : Nat) (x36_11 : Bool), v36 = .bool x36_11 ∧ Aside0 (lanternref12_reference.j2 kq a0 x3_9 x4_9 x36_11 = some r) ∧ Aside0 (kq ≤ kj9) ∧ Aside0 (Below w.heap.size w wc))
              case first =>
                have H := HC12.out
                clear HC12
                by_cases c13 : (a0.size : Int) = x4_9
                · rw [if_pos c13] at H
                  have c13b0 : ((a0.size : Int) == x4_9) = true := beq_iff_eq.mpr c13
                  have c13b1 : ((a0.size : Int) != x4_9) = false := bne_eq_false_iff_eq.mpr c13
                  clear c13
                  (first | rw [c13b0] | (simp only [i64_w, i32_w]; rw [c13b0]) | skip)
                  have H' := Aside0.mk H
                  clear H
                  go_wp2
                  go_meet
                  case rel => exact ⟨_, (true), (by first | rfl | (simp; done) | (simp [*]; done) | (simp; exact isEmpty_bne _) | (simp; exact isEmpty_beq _)), H', ⟨by have := HJ1.out; have := HJ9.out; first | omega | exact Nat.le_refl _⟩, ⟨by repeat (first | (with_reducible first | exact HB.out | apply below_alloc | apply pw_below_drewN | apply below_drew1) | exact HB.out)⟩⟩
                · rw [if_neg c13] at H
                  have c13b0 : ((a0.size : Int) == x4_9) = false := beq_eq_false_iff_ne.mpr c13
                  have c13b1 : ((a0.size : Int) != x4_9) = true := bne_iff_ne.mpr c13
                  (first | rw [c13b0] | (simp only [i64_w, i32_w]; rw [c13b0]) | skip)
                  have H' := Aside0.mk H
                  clear H
                  go_wp2
                  go_meet
                  case rel => exact ⟨_, (decide ((wrap64 ((a0.size : Int) - x4_9)) > x5_9)), (by first | rfl | (simp; done) | (simp [*]; done) | (simp; exact isEmpty_bne _) | (simp; exact isEmpty_beq _)), H', ⟨by have := HJ1.out; have := HJ9.out; first | omega | exact Nat.le_refl _⟩, ⟨by repeat (first | (with_reducible first | exact HB.out | apply below_alloc | apply pw_below_drewN | apply below_drew1) | exact HB.out)⟩⟩
              case rest =>
                clear HC12
                try clear c1
                try clear c2
                try clear p2
                try clear c3
                try clear c3b0
                try clear c3b1
                try clear c4
                try clear c4b0
                try clear c4b1
                try clear p5
                try clear q5
                try clear hx5
                try clear qi5
                try clear c6
                try clear p6
                try clear c8
                try clear c8b0
                try clear c8b1
                try clear p9
                try clear q9
                try clear hx9
                try clear qi9
                try clear c11
                try clear c11b0
                try clear c11b1
                try clear c13
                try clear c13b0
                try clear c13b1
                try clear p2
                try clear p5
                try clear p9
                try clear q5
                try clear q9
                obtain ⟨kq, x36_11, rfl, HA, HJ11, HB⟩ := hcut
                cases kq with
                | zero => exact absurd HA.out (by simp [lanternref12_reference.j2])
                | succ kj11 =>
                  have H := HA.out
                  clear HA
                  simp only [lanternref12_reference.j2] at H
                  by_cases c14 : x36_11 = true
                  · subst c14
                    have H1 : (some (⟨#[]⟩ : ByteArray)) = some r := by rw [if_pos rfl] at H; exact H
                    clear H
                    have H := H1
                    clear H1
                    obtain rfl := Option.some.inj H
                    go_wp2
                    go_ret
                    exact ⟨by first | rfl | (simp [errW_none, errW_some] <;> rfl) | (simp [*, errW_none, errW_some] <;> rfl), by repeat (first | (with_reducible first | exact HB.out | apply below_alloc | apply pw_below_drewN | apply below_drew1) | exact HB.out)⟩
                  · replace c14 := Bool.eq_false_iff.mpr c14
                    subst c14
                    have H1 : (lanternref12_reference.l0 kj11 a0 x3_9 0 x4_9) = some r := by rw [if_neg (show ¬ (false = true) by decide)] at H; exact H
                    clear H
                    have H := H1
                    clear H1
                    have H' := Aside0.mk H
                    clear H
                    go_wp2
                    go_loopg [6, 7] kj11 (fun kq v6 v7 w' => ∃ (x6_4 : Int) (x7_4 : Int), v6 = .int .i64 x6_4 ∧ v7 = .int .i64 x7_4 ∧ Aside0 (lanternref12_reference.l0 kq a0 x3_9 x6_4 x7_4 = some r) ∧ Aside0 (kq ≤ kj11) ∧ Aside0 (Below w.heap.size w w'))
                    case atStart => exact ⟨(0), (x4_9), (by first | rfl | (simp; done) | (simp [*]; done) | (simp; exact isEmpty_bne _) | (simp; exact isEmpty_beq _)), (by first | rfl | (simp; done) | (simp [*]; done) | (simp; exact isEmpty_bne _) | (simp; exact isEmpty_beq _)), H', ⟨Nat.le_refl _⟩, ⟨by repeat (first | (with_reducible first | exact HB.out | apply below_alloc | apply pw_below_drewN | apply below_drew1) | exact HB.out)⟩⟩
                    case round =>
                      clear H'
                      try clear c1
                      try clear c2
                      try clear p2
                      try clear c3
                      try clear c3b0
                      try clear c3b1
                      try clear c4
                      try clear c4b0
                      try clear c4b1
                      try clear p5
                      try clear q5
                      try clear hx5
                      try clear qi5
                      try clear c6
                      try clear p6
                      try clear c8
                      try clear c8b0
                      try clear c8b1
                      try clear p9
                      try clear q9
                      try clear hx9
                      try clear qi9
                      try clear c11
                      try clear c11b0
                      try clear c11b1
                      try clear c13
                      try clear c13b0
                      try clear c13b1
                      try clear c14
                      try clear p2
                      try clear p5
                      try clear p6
                      try clear p9
                      try clear q5
                      try clear q9
                      obtain ⟨x6_4, x7_4, rfl, rfl, HA, HK4, HB⟩ := hrel
                      cases gk with
                      | zero => exact absurd HA.out (by simp [lanternref12_reference.l0])
                      | succ k4 =>
                        have H := HA.out
                        clear HA
                        simp only [lanternref12_reference.l0] at H
                        by_cases c15 : x7_4 < (a0.size : Int)
                        · rw [if_pos c15] at H
                          have c15b0 : decide (x7_4 < (a0.size : Int)) = true := decide_eq_true c15
                          clear c15
                          by_cases c16 : 0 ≤ x7_4
                          · rw [if_pos c16] at H
                            have c16b0 : decide (0 ≤ x7_4) = true := decide_eq_true c16
                            clear c16
                            have HC18 := Aside0.mk H
                            clear H
                            have p17 : 0 ≤ (x7_4 : Int) := of_decide_eq_true (by first | (with_reducible assumption) | assumption)
                            have q17 : x7_4 < (a0.size : Int) := of_decide_eq_true (by first | (with_reducible assumption) | assumption)
                            have hx17 := bt_at a0 x7_4
                            replace p17 := eq_true p17
                            replace q17 := eq_true q17
                            go_upto_region 14 with (fail)
                            go_cut [47] (fun v47 wc => ∃ (kq : Nat) (x47_17 : Bool), v47 = .bool x47_17 ∧ Aside0 (lanternref12_reference.j4 kq a0 x3_9 x6_4 x7_4 99 (bt a0 x7_4) x47_17 = some r) ∧ Aside0 (kq ≤ k4) ∧ Aside0 (Below w.heap.size w wc))
                            case first =>
                              have H := HC18.out
                              clear HC18
                              by_cases c19 : (bt a0 x7_4) ≥ 48
                              · rw [if_pos c19] at H
                                have c19b0 : decide (48 ≤ (bt a0 x7_4)) = true := decide_eq_true c19
                                clear c19
                                (first | rw [c19b0] | (simp only [i64_w, i32_w]; rw [c19b0]) | skip)
                                have H' := Aside0.mk H
                                clear H
                                go_wp2
                                go_meet
                                case rel => exact ⟨_, (decide ((bt a0 x7_4) ≤ 57)), (by first | rfl | (simp; done) | (simp [*]; done) | (simp; exact isEmpty_bne _) | (simp; exact isEmpty_beq _)), H', ⟨by have := HJ1.out; have := HJ9.out; have := HJ11.out; have := HK4.out; first | omega | exact Nat.le_refl _⟩, ⟨by repeat (first | (with_reducible first | exact HB.out | apply below_alloc | apply pw_below_drewN | apply below_drew1) | exact HB.out)⟩⟩
                              · rw [if_neg c19] at H
                                have c19b0 : decide (48 ≤ (bt a0 x7_4)) = false := decide_eq_false c19
                                clear c19
                                (first | rw [c19b0] | (simp only [i64_w, i32_w]; rw [c19b0]) | skip)
                                have H' := Aside0.mk H
                                clear H
                                go_wp2
                                go_meet
                                case rel => exact ⟨_, (false), (by first | rfl | (simp; done) | (simp [*]; done) | (simp; exact isEmpty_bne _) | (simp; exact isEmpty_beq _)), H', ⟨by have := HJ1.out; have := HJ9.out; have := HJ11.out; have := HK4.out; first | omega | exact Nat.le_refl _⟩, ⟨by repeat (first | (with_reducible first | exact HB.out | apply below_alloc | apply pw_below_drewN | apply below_drew1) | exact HB.out)⟩⟩
                            case rest =>
                              clear HC18
                              try clear c1
                              try clear p1
                              try clear q1
                              try clear hx1
                              try clear c2
                              try clear p2
                              try clear c3
                              try clear c3b0
                              try clear c3b1
                              try clear c4
                              try clear c4b0
                              try clear c4b1
                              try clear p5
                              try clear q5
                              try clear hx5
                              try clear qi5
                              try clear c6
                              try clear p6
                              try clear c8
                              try clear c8b0
                              try clear c8b1
                              try clear p9
                              try clear q9
                              try clear hx9
                              try clear qi9
                              try clear c11
                              try clear c11b0
                              try clear c11b1
                              try clear c13
                              try clear c13b0
                              try clear c13b1
                              try clear c14
                              try clear c15
                              try clear c15b0
                              try clear c16
                              try clear c16b0
                              try clear p17
                              try clear q17
                              try clear hx17
                              try clear c19
                              try clear c19b0
                              try clear p17
                              try clear p2
                              try clear p5
                              try clear p6
                              try clear p9
                              try clear q17
                              try clear q5
                              try clear q9
                              obtain ⟨kq, x47_17, rfl, HA, HJ17, HB⟩ := hcut
                              cases kq with
                              | zero => exact absurd HA.out (by simp [lanternref12_reference.j4])
                              | succ kj17 =>
                                have H := HA.out
                                clear HA
                                simp only [lanternref12_reference.j4] at H
                                by_cases c20 : x47_17 = true
                                · subst c20
                                  have H1 : (if (((bt a0 x7_4) - 48) % 256) ≥ x3_9 then (some (⟨#[]⟩ : ByteArray)) else (lanternref12_reference.l0 kj17 a0 x3_9 (wrap64 ((wrap64 (x6_4 * x3_9)) + (((bt a0 x7_4) - 48) % 256))) (wrap64 (x7_4 + 1)))) = some r := by rw [if_pos rfl] at H; exact H
                                  clear H
                                  have H := H1
                                  clear H1
                                  by_cases c21 : (((bt a0 x7_4) - 48) % 256) ≥ x3_9
                                  · rw [if_pos c21] at H
                                    have c21b0 : decide (x3_9 ≤ (((bt a0 x7_4) - 48) % 256)) = true := decide_eq_true c21
                                    clear c21
                                    obtain rfl := Option.some.inj H
                                    go_wp2
                                    go_ret
                                    exact ⟨by first | rfl | (simp [errW_none, errW_some] <;> rfl) | (simp [*, errW_none, errW_some] <;> rfl), by repeat (first | (with_reducible first | exact HB.out | apply below_alloc | apply pw_below_drewN | apply below_drew1) | exact HB.out)⟩
                                  · rw [if_neg c21] at H
                                    have c21b0 : decide (x3_9 ≤ (((bt a0 x7_4) - 48) % 256)) = false := decide_eq_false c21
                                    clear c21
                                    have H' := Aside0.mk H
                                    clear H
                                    go_wp2
                                    go_roundg kj17
                                    case measure => have := HJ1.out; have := HJ9.out; have := HJ11.out; have := HK4.out; have := HJ17.out; omega
                                    case rel => exact ⟨(wrap64 ((wrap64 (x6_4 * x3_9)) + (((bt a0 x7_4) - 48) % 256))), (wrap64 (x7_4 + 1)), (by first | rfl | (simp; done) | (simp [*]; done) | (simp; exact isEmpty_bne _) | (simp; exact isEmpty_beq _)), (by first | rfl | (simp; done) | (simp [*]; done) | (simp; exact isEmpty_bne _) | (simp; exact isEmpty_beq _)), H', ⟨by have := HJ1.out; have := HJ9.out; have := HJ11.out; have := HK4.out; have := HJ17.out; omega⟩, ⟨by repeat (first | (with_reducible first | exact HB.out | apply below_alloc | apply pw_below_drewN | apply below_drew1) | exact HB.out)⟩⟩
                                · replace c20 := Bool.eq_false_iff.mpr c20
                                  subst c20
                                  have H1 : (if (bt a0 x7_4) ≥ 97 then (lanternref12_reference.j5 kj17 a0 x3_9 x6_4 x7_4 99 (bt a0 x7_4) (decide ((bt a0 x7_4) ≤ 102))) else (lanternref12_reference.j5 kj17 a0 x3_9 x6_4 x7_4 99 (bt a0 x7_4) false)) = some r := by rw [if_neg (show ¬ (false = true) by decide)] at H; exact H
                                  clear H
                                  have H := H1
                                  clear H1
                                  have HC22 := Aside0.mk H
                                  clear H
                                  go_upto_region 16 with (fail)
                                  go_cut [57] (fun v57 wc => ∃ (kq : Nat) (x57_21 : Bool), v57 = .bool x57_21 ∧ Aside0 (lanternref12_reference.j5 kq a0 x3_9 x6_4 x7_4 99 (bt a0 x7_4) x57_21 = some r) ∧ Aside0 (kq ≤ kj17) ∧ Aside0 (Below w.heap.size w wc))
                                  case first =>
                                    have H := HC22.out
                                    clear HC22
                                    by_cases c23 : (bt a0 x7_4) ≥ 97
                                    · rw [if_pos c23] at H
                                      have c23b0 : decide (97 ≤ (bt a0 x7_4)) = true := decide_eq_true c23
                                      clear c23
                                      (first | rw [c23b0] | (simp only [i64_w, i32_w]; rw [c23b0]) | skip)
                                      have H' := Aside0.mk H
                                      clear H
                                      go_wp2
                                      go_meet
                                      case rel => exact ⟨_, (decide ((bt a0 x7_4) ≤ 102)), (by first | rfl | (simp; done) | (simp [*]; done) | (simp; exact isEmpty_bne _) | (simp; exact isEmpty_beq _)), H', ⟨by have := HJ1.out; have := HJ9.out; have := HJ11.out; have := HK4.out; have := HJ17.out; first | omega | exact Nat.le_refl _⟩, ⟨by repeat (first | (with_reducible first | exact HB.out | apply below_alloc | apply pw_below_drewN | apply below_drew1) | exact HB.out)⟩⟩
                                    · rw [if_neg c23] at H
                                      have c23b0 : decide (97 ≤ (bt a0 x7_4)) = false := decide_eq_false c23
                                      clear c23
                                      (first | rw [c23b0] | (simp only [i64_w, i32_w]; rw [c23b0]) | skip)
                                      have H' := Aside0.mk H
                                      clear H
                                      go_wp2
                                      go_meet
                                      case rel => exact ⟨_, (false), (by first | rfl | (simp; done) | (simp [*]; done) | (simp; exact isEmpty_bne _) | (simp; exact isEmpty_beq _)), H', ⟨by have := HJ1.out; have := HJ9.out; have := HJ11.out; have := HK4.out; have := HJ17.out; first | omega | exact Nat.le_refl _⟩, ⟨by repeat (first | (with_reducible first | exact HB.out | apply below_alloc | apply pw_below_drewN | apply below_drew1) | exact HB.out)⟩⟩
                                  case rest =>
                                    clear HC22
                                    try clear c1
                                    try clear p1
                                    try clear q1
                                    try clear hx1
                                    try clear c2
                                    try clear p2
                                    try clear c3
                                    try clear c3b0
                                    try clear c3b1
                                    try clear c4
                                    try clear c4b0
                                    try clear c4b1
                                    try clear p5
                                    try clear q5
                                    try clear hx5
                                    try clear qi5
                                    try clear c6
                                    try clear p6
                                    try clear c8
                                    try clear c8b0
                                    try clear c8b1
                                    try clear p9
                                    try clear q9
                                    try clear hx9
                                    try clear qi9
                                    try clear c11
                                    try clear c11b0
                                    try clear c11b1
                                    try clear c13
                                    try clear c13b0
                                    try clear c13b1
                                    try clear c14
                                    try clear c15
                                    try clear c15b0
                                    try clear c16
                                    try clear c16b0
                                    try clear p17
                                    try clear q17
                                    try clear hx17
                                    try clear c19
                                    try clear c19b0
                                    try clear c20
                                    try clear c21
                                    try clear c21b0
                                    try clear c23
                                    try clear c23b0
                                    try clear p1
                                    try clear p17
                                    try clear p2
                                    try clear p5
                                    try clear p6
                                    try clear p9
                                    try clear q1
                                    try clear q17
                                    try clear q5
                                    try clear q9
                                    obtain ⟨kq, x57_21, rfl, HA, HJ21, HB⟩ := hcut
                                    cases kq with
                                    | zero => exact absurd HA.out (by simp [lanternref12_reference.j5])
                                    | succ kj21 =>
                                      have H := HA.out
                                      clear HA
                                      simp only [lanternref12_reference.j5] at H
                                      by_cases c24 : x57_21 = true
                                      · subst c24
                                        have H1 : (if ((((bt a0 x7_4) - 97) % 256) + 10) ≥ x3_9 then (some (⟨#[]⟩ : ByteArray)) else (lanternref12_reference.l0 kj21 a0 x3_9 (wrap64 ((wrap64 (x6_4 * x3_9)) + ((((bt a0 x7_4) - 97) % 256) + 10))) (wrap64 (x7_4 + 1)))) = some r := by rw [if_pos rfl] at H; exact H
                                        clear H
                                        have H := H1
                                        clear H1
                                        by_cases c25 : ((((bt a0 x7_4) - 97) % 256) + 10) ≥ x3_9
                                        · rw [if_pos c25] at H
                                          have c25b0 : decide (x3_9 ≤ ((((bt a0 x7_4) - 97) % 256) + 10)) = true := decide_eq_true c25
                                          clear c25
                                          obtain rfl := Option.some.inj H
                                          go_wp2
                                          go_ret
                                          exact ⟨by first | rfl | (simp [errW_none, errW_some] <;> rfl) | (simp [*, errW_none, errW_some] <;> rfl), by repeat (first | (with_reducible first | exact HB.out | apply below_alloc | apply pw_below_drewN | apply below_drew1) | exact HB.out)⟩
                                        · rw [if_neg c25] at H
                                          have c25b0 : decide (x3_9 ≤ ((((bt a0 x7_4) - 97) % 256) + 10)) = false := decide_eq_false c25
                                          clear c25
                                          have H' := Aside0.mk H
                                          clear H
                                          go_wp2
                                          go_roundg kj21
                                          case measure => have := HJ1.out; have := HJ9.out; have := HJ11.out; have := HK4.out; have := HJ17.out; have := HJ21.out; omega
                                          case rel => exact ⟨(wrap64 ((wrap64 (x6_4 * x3_9)) + ((((bt a0 x7_4) - 97) % 256) + 10))), (wrap64 (x7_4 + 1)), (by first | rfl | (simp; done) | (simp [*]; done) | (simp; exact isEmpty_bne _) | (simp; exact isEmpty_beq _)), (by first | rfl | (simp; done) | (simp [*]; done) | (simp; exact isEmpty_bne _) | (simp; exact isEmpty_beq _)), H', ⟨by have := HJ1.out; have := HJ9.out; have := HJ11.out; have := HK4.out; have := HJ17.out; have := HJ21.out; omega⟩, ⟨by repeat (first | (with_reducible first | exact HB.out | apply below_alloc | apply pw_below_drewN | apply below_drew1) | exact HB.out)⟩⟩
                                      · replace c24 := Bool.eq_false_iff.mpr c24
                                        subst c24
                                        have H1 : (if (bt a0 x7_4) ≥ 65 then (lanternref12_reference.j6 kj21 a0 x3_9 x6_4 x7_4 99 (bt a0 x7_4) (decide ((bt a0 x7_4) ≤ 70))) else (lanternref12_reference.j6 kj21 a0 x3_9 x6_4 x7_4 99 (bt a0 x7_4) false)) = some r := by rw [if_neg (show ¬ (false = true) by decide)] at H; exact H
                                        clear H
                                        have H := H1
                                        clear H1
                                        have HC26 := Aside0.mk H
                                        clear H
                                        go_upto_region 18 with (fail)
                                        go_cut [68] (fun v68 wc => ∃ (kq : Nat) (x68_25 : Bool), v68 = .bool x68_25 ∧ Aside0 (lanternref12_reference.j6 kq a0 x3_9 x6_4 x7_4 99 (bt a0 x7_4) x68_25 = some r) ∧ Aside0 (kq ≤ kj21) ∧ Aside0 (Below w.heap.size w wc))
                                        case first =>
                                          have H := HC26.out
                                          clear HC26
                                          by_cases c27 : (bt a0 x7_4) ≥ 65
                                          · rw [if_pos c27] at H
                                            have c27b0 : decide (65 ≤ (bt a0 x7_4)) = true := decide_eq_true c27
                                            clear c27
                                            (first | rw [c27b0] | (simp only [i64_w, i32_w]; rw [c27b0]) | skip)
                                            have H' := Aside0.mk H
                                            clear H
                                            go_wp2
                                            go_meet
                                            case rel => exact ⟨_, (decide ((bt a0 x7_4) ≤ 70)), (by first | rfl | (simp; done) | (simp [*]; done) | (simp; exact isEmpty_bne _) | (simp; exact isEmpty_beq _)), H', ⟨by have := HJ1.out; have := HJ9.out; have := HJ11.out; have := HK4.out; have := HJ17.out; have := HJ21.out; first | omega | exact Nat.le_refl _⟩, ⟨by repeat (first | (with_reducible first | exact HB.out | apply below_alloc | apply pw_below_drewN | apply below_drew1) | exact HB.out)⟩⟩
                                          · rw [if_neg c27] at H
                                            have c27b0 : decide (65 ≤ (bt a0 x7_4)) = false := decide_eq_false c27
                                            clear c27
                                            (first | rw [c27b0] | (simp only [i64_w, i32_w]; rw [c27b0]) | skip)
                                            have H' := Aside0.mk H
                                            clear H
                                            go_wp2
                                            go_meet
                                            case rel => exact ⟨_, (false), (by first | rfl | (simp; done) | (simp [*]; done) | (simp; exact isEmpty_bne _) | (simp; exact isEmpty_beq _)), H', ⟨by have := HJ1.out; have := HJ9.out; have := HJ11.out; have := HK4.out; have := HJ17.out; have := HJ21.out; first | omega | exact Nat.le_refl _⟩, ⟨by repeat (first | (with_reducible first | exact HB.out | apply below_alloc | apply pw_below_drewN | apply below_drew1) | exact HB.out)⟩⟩
                                        case rest =>
                                          clear HC26
                                          try clear c1
                                          try clear p1
                                          try clear q1
                                          try clear hx1
                                          try clear c2
                                          try clear p2
                                          try clear c3
                                          try clear c3b0
                                          try clear c3b1
                                          try clear c4
                                          try clear c4b0
                                          try clear c4b1
                                          try clear p5
                                          try clear q5
                                          try clear hx5
                                          try clear qi5
                                          try clear c6
                                          try clear p6
                                          try clear c8
                                          try clear c8b0
                                          try clear c8b1
                                          try clear p9
                                          try clear q9
                                          try clear hx9
                                          try clear qi9
                                          try clear c11
                                          try clear c11b0
                                          try clear c11b1
                                          try clear c13
                                          try clear c13b0
                                          try clear c13b1
                                          try clear c14
                                          try clear c15
                                          try clear c15b0
                                          try clear c16
                                          try clear c16b0
                                          try clear p17
                                          try clear q17
                                          try clear hx17
                                          try clear c19
                                          try clear c19b0
                                          try clear c20
                                          try clear c21
                                          try clear c21b0
                                          try clear c23
                                          try clear c23b0
                                          try clear c24
                                          try clear c25
                                          try clear c25b0
                                          try clear c27
                                          try clear c27b0
                                          try clear p1
                                          try clear p17
                                          try clear p2
                                          try clear p5
                                          try clear p6
                                          try clear p9
                                          try clear q1
                                          try clear q17
                                          try clear q5
                                          try clear q9
                                          obtain ⟨kq, x68_25, rfl, HA, HJ25, HB⟩ := hcut
                                          cases kq with
                                          | zero => exact absurd HA.out (by simp [lanternref12_reference.j6])
                                          | succ kj25 =>
                                            have H := HA.out
                                            clear HA
                                            simp only [lanternref12_reference.j6] at H
                                            by_cases c28 : x68_25 = true
                                            · subst c28
                                              have H1 : (if ((((bt a0 x7_4) - 65) % 256) + 10) ≥ x3_9 then (some (⟨#[]⟩ : ByteArray)) else (lanternref12_reference.l0 kj25 a0 x3_9 (wrap64 ((wrap64 (x6_4 * x3_9)) + ((((bt a0 x7_4) - 65) % 256) + 10))) (wrap64 (x7_4 + 1)))) = some r := by rw [if_pos rfl] at H; exact H
                                              clear H
                                              have H := H1
                                              clear H1
                                              by_cases c29 : ((((bt a0 x7_4) - 65) % 256) + 10) ≥ x3_9
                                              · rw [if_pos c29] at H
                                                have c29b0 : decide (x3_9 ≤ ((((bt a0 x7_4) - 65) % 256) + 10)) = true := decide_eq_true c29
                                                clear c29
                                                obtain rfl := Option.some.inj H
                                                go_wp2
                                                go_ret
                                                exact ⟨by first | rfl | (simp [errW_none, errW_some] <;> rfl) | (simp [*, errW_none, errW_some] <;> rfl), by repeat (first | (with_reducible first | exact HB.out | apply below_alloc | apply pw_below_drewN | apply below_drew1) | exact HB.out)⟩
                                              · rw [if_neg c29] at H
                                                have c29b0 : decide (x3_9 ≤ ((((bt a0 x7_4) - 65) % 256) + 10)) = false := decide_eq_false c29
                                                clear c29
                                                have H' := Aside0.mk H
                                                clear H
                                                go_wp2
                                                go_roundg kj25
                                                case measure => have := HJ1.out; have := HJ9.out; have := HJ11.out; have := HK4.out; have := HJ17.out; have := HJ21.out; have := HJ25.out; omega
                                                case rel => exact ⟨(wrap64 ((wrap64 (x6_4 * x3_9)) + ((((bt a0 x7_4) - 65) % 256) + 10))), (wrap64 (x7_4 + 1)), (by first | rfl | (simp; done) | (simp [*]; done) | (simp; exact isEmpty_bne _) | (simp; exact isEmpty_beq _)), (by first | rfl | (simp; done) | (simp [*]; done) | (simp; exact isEmpty_bne _) | (simp; exact isEmpty_beq _)), H', ⟨by have := HJ1.out; have := HJ9.out; have := HJ11.out; have := HK4.out; have := HJ17.out; have := HJ21.out; have := HJ25.out; omega⟩, ⟨by repeat (first | (with_reducible first | exact HB.out | apply below_alloc | apply pw_below_drewN | apply below_drew1) | exact HB.out)⟩⟩
                                            · replace c28 := Bool.eq_false_iff.mpr c28
                                              subst c28
                                              have H1 : (if 99 ≥ x3_9 then (some (⟨#[]⟩ : ByteArray)) else (lanternref12_reference.l0 kj25 a0 x3_9 (wrap64 ((wrap64 (x6_4 * x3_9)) + 99)) (wrap64 (x7_4 + 1)))) = some r := by rw [if_neg (show ¬ (false = true) by decide)] at H; exact H
                                              clear H
                                              have H := H1
                                              clear H1
                                              by_cases c30 : 99 ≥ x3_9
                                              · rw [if_pos c30] at H
                                                have c30b0 : decide (x3_9 ≤ 99) = true := decide_eq_true c30
                                                clear c30
                                                obtain rfl := Option.some.inj H
                                                go_wp2
                                                go_ret
                                                exact ⟨by first | rfl | (simp [errW_none, errW_some] <;> rfl) | (simp [*, errW_none, errW_some] <;> rfl), by repeat (first | (with_reducible first | exact HB.out | apply below_alloc | apply pw_below_drewN | apply below_drew1) | exact HB.out)⟩
                                              · rw [if_neg c30] at H
                                                have c30b0 : decide (x3_9 ≤ 99) = false := decide_eq_false c30
                                                clear c30
                                                have H' := Aside0.mk H
                                                clear H
                                                go_wp2
                                                go_roundg kj25
                                                case measure => have := HJ1.out; have := HJ9.out; have := HJ11.out; have := HK4.out; have := HJ17.out; have := HJ21.out; have := HJ25.out; omega
                                                case rel => exact ⟨(wrap64 ((wrap64 (x6_4 * x3_9)) + 99)), (wrap64 (x7_4 + 1)), (by first | rfl | (simp; done) | (simp [*]; done) | (simp; exact isEmpty_bne _) | (simp; exact isEmpty_beq _)), (by first | rfl | (simp; done) | (simp [*]; done) | (simp; exact isEmpty_bne _) | (simp; exact isEmpty_beq _)), H', ⟨by have := HJ1.out; have := HJ9.out; have := HJ11.out; have := HK4.out; have := HJ17.out; have := HJ21.out; have := HJ25.out; omega⟩, ⟨by repeat (first | (with_reducible first | exact HB.out | apply below_alloc | apply pw_below_drewN | apply below_drew1) | exact HB.out)⟩⟩
                          · rw [if_neg c16] at H
                            exact absurd H (by simp)
                        · rw [if_neg c15] at H
                          have c15b0 : decide (x7_4 < (a0.size : Int)) = false := decide_eq_false c15
                          clear c15
                          replace H := Option.bind_eq_some_iff.mp H
                          obtain ⟨⟨t131, t132⟩, A310, H⟩ := H
                          replace H : (if t132 = true then ((lanternref01_Xml.f k4 (([x6_4] : List Int))).bind fun t136 => (if t136 = true then (some t131) else (some (⟨#[]⟩ : ByteArray)))) else (some (⟨#[]⟩ : ByteArray))) = some r := H
                          have A31 := Aside0.mk A310
                          clear A310
                          by_cases c32 : t132 = true
                          · subst c32
                            have H1 : ((lanternref01_Xml.f k4 (([x6_4] : List Int))).bind fun t136 => (if t136 = true then (some t131) else (some (⟨#[]⟩ : ByteArray)))) = some r := by rw [if_pos rfl] at H; exact H
                            clear H
                            have H := H1
                            clear H1
                            obtain ⟨y133, hy133⟩ : ∃ y_ : List Int, y_ = (([x6_4] : List Int)) := ⟨_, rfl⟩
                            replace H : ((lanternref01_Xml.f k4 y133).bind fun t136 => (if t136 = true then (some t131) else (some (⟨#[]⟩ : ByteArray)))) = some r := by first | (rw [hy133]; with_reducible exact H) | (have H2_ := (Option.bind_some _ _).symm.trans H; rw [hy133]; with_reducible exact H2_) | (have H2_ := (Option.bind_some _ _).symm.trans H; with_reducible exact H2_) | with_reducible exact H | (rw [hy133]; exact H) | exact H
                            have Ny133 := Aside0.mk hy133
                            clear hy133
                            replace H := Option.bind_eq_some_iff.mp H
                            obtain ⟨t136, A330, H⟩ := H
                            replace H : (if t136 = true then (some t131) else (some (⟨#[]⟩ : ByteArray))) = some r := H
                            have A33 := Aside0.mk A330
                            clear A330
                            by_cases c34 : t136 = true
                            · subst c34
                              have H1 : (some t131) = some r := by rw [if_pos rfl] at H; exact H
                              clear H
                              have H := H1
                              clear H1
                              obtain rfl := Option.some.inj H
                              go_wp2_with (first | ((with_reducible refine gate_callee (f := 10) rfl ?_); refine goesL_ (some 89) rfl rfl Tryd.func10 (by kernel_rfl) rfl #[.int .i64 x6_4] rfl (by (try simp only [List.map_toArray, List.map_cons, List.map_nil]); first | done | rfl | (simp only [List.length_drop, List.length_take]; rfl)) ?_; (with_reducible refine (lanternref12_Utf8.calls x6_4 t131 true _ ?side1 A31.out).mono ?_); (case side1 => exact LW.below HLW.out (by repeat (first | (with_reducible first | exact HB.out | apply below_alloc | apply pw_below_drewN | apply below_drew1) | exact HB.out))); rintro e w35 ⟨rfl, hb⟩; refine ⟨_, rfl, ?_⟩; have n0_ := Aside0.mk (below_step (by repeat (first | (with_reducible first | exact HB.out | apply below_alloc | apply pw_below_drewN | apply below_drew1) | exact HB.out)) hb); clear HB; have HB := n0_; clear n0_; (try clear hb); (try clear hb2); (try clear hk); (try clear hi)) | ((with_reducible refine gate_dst (N := 96) rfl ?_); (try (refine gate_guard (by rfl) ?_; dsimp only)); refine Kd.R_lit (Kd.int .i64) _ 3 ?hg (N := 96) ?hd (xs := ([x6_4] : List Int)) (inner := [.int .i64 x6_4]) (ok := fun _ => True) (okp := fun _ => True) ?hr ?hp (fun _ hk => hk) trivial (Below.refl _ _) (Nat.le_refl _) (by simp) ?_; (case hd => rfl); (case hg => rfl); (case hr => first | (go_simp; done) | (go_simp; rfl)); (case hp => exact (Reps.one (show Kd.M (Kd.int .i64) _ _ _ x6_4 [.int .i64 x6_4] from rfl) (Reps.none _ _))); intro v134 w36 ho37 hb hg_ hnew_; clear hg_ hnew_; (first | rw [← Ny133.out] at ho37 | (simp only [Int.reduceToNat] at ho37; rw [← Ny133.out] at ho37)); have n0_ := Aside0.mk (Kd.R_lower ho37 (below_size (by repeat (first | (with_reducible first | exact HB.out | apply below_alloc | apply pw_below_drewN | apply below_drew1) | exact HB.out)))); have n1_ := Aside0.mk (below_step (by repeat (first | (with_reducible first | exact HB.out | apply below_alloc | apply pw_below_drewN | apply below_drew1) | exact HB.out)) hb); clear HB; have HO135 := n0_; have HB := n1_; clear n0_ n1_; clear hb ho37; obtain ⟨Ao38, co38, eo38⟩ := Kd.R_slice HO135.out; subst eo38) | (go_at_call 27; (with_reducible refine (lanternref01_Xml.calls k4 _ _ y133 true _ ?side3 ?side1 ?side2 A33.out).mono ?_); (case side1 => repeat (first | exact (Kd.R_reads' HO135.out).2.2 | (with_reducible refine Kd.C_alloc ?_ _) | (with_reducible refine Kd.C_drewN ?_ _) | (with_reducible refine Kd.C_drew ?_))); (case side2 => exact (Kd.R_reads' HO135.out).2.1); (case side3 => exact LW.below HLW.out (by repeat (first | (with_reducible first | exact HB.out | apply below_alloc | apply pw_below_drewN | apply below_drew1) | exact HB.out))); rintro e w' ⟨rfl, ⟨nd, rfl⟩⟩))
                              go_ret
                              exact ⟨by first | rfl | (simp [errW_none, errW_some] <;> rfl) | (simp [*, errW_none, errW_some] <;> rfl), by repeat (first | (with_reducible first | exact HB.out | apply below_alloc | apply pw_below_drewN | apply below_drew1) | exact HB.out)⟩
                            · replace c34 := Bool.eq_false_iff.mpr c34
                              subst c34
                              have H1 : (some (⟨#[]⟩ : ByteArray)) = some r := by rw [if_neg (show ¬ (false = true) by decide)] at H; exact H
                              clear H
                              have H := H1
                              clear H1
                              obtain rfl := Option.some.inj H
                              go_wp2_with (first | ((with_reducible refine gate_callee (f := 10) rfl ?_); refine goesL_ (some 89) rfl rfl Tryd.func10 (by kernel_rfl) rfl #[.int .i64 x6_4] rfl (by (try simp only [List.map_toArray, List.map_cons, List.map_nil]); first | done | rfl | (simp only [List.length_drop, List.length_take]; rfl)) ?_; (with_reducible refine (lanternref12_Utf8.calls x6_4 t131 true _ ?side1 A31.out).mono ?_); (case side1 => exact LW.below HLW.out (by repeat (first | (with_reducible first | exact HB.out | apply below_alloc | apply pw_below_drewN | apply below_drew1) | exact HB.out))); rintro e w39 ⟨rfl, hb⟩; refine ⟨_, rfl, ?_⟩; have n0_ := Aside0.mk (below_step (by repeat (first | (with_reducible first | exact HB.out | apply below_alloc | apply pw_below_drewN | apply below_drew1) | exact HB.out)) hb); clear HB; have HB := n0_; clear n0_; (try clear hb); (try clear hb2); (try clear hk); (try clear hi)) | ((with_reducible refine gate_dst (N := 96) rfl ?_); (try (refine gate_guard (by rfl) ?_; dsimp only)); refine Kd.R_lit (Kd.int .i64) _ 3 ?hg (N := 96) ?hd (xs := ([x6_4] : List Int)) (inner := [.int .i64 x6_4]) (ok := fun _ => True) (okp := fun _ => True) ?hr ?hp (fun _ hk => hk) trivial (Below.refl _ _) (Nat.le_refl _) (by simp) ?_; (case hd => rfl); (case hg => rfl); (case hr => first | (go_simp; done) | (go_simp; rfl)); (case hp => exact (Reps.one (show Kd.M (Kd.int .i64) _ _ _ x6_4 [.int .i64 x6_4] from rfl) (Reps.none _ _))); intro v134 w40 ho41 hb hg_ hnew_; clear hg_ hnew_; (first | rw [← Ny133.out] at ho41 | (simp only [Int.reduceToNat] at ho41; rw [← Ny133.out] at ho41)); have n0_ := Aside0.mk (Kd.R_lower ho41 (below_size (by repeat (first | (with_reducible first | exact HB.out | apply below_alloc | apply pw_below_drewN | apply below_drew1) | exact HB.out)))); have n1_ := Aside0.mk (below_step (by repeat (first | (with_reducible first | exact HB.out | apply below_alloc | apply pw_below_drewN | apply below_drew1) | exact HB.out)) hb); clear HB; have HO135 := n0_; have HB := n1_; clear n0_ n1_; clear hb ho41; obtain ⟨Ao42, co42, eo42⟩ := Kd.R_slice HO135.out; subst eo42) | (go_at_call 27; (with_reducible refine (lanternref01_Xml.calls k4 _ _ y133 false _ ?side3 ?side1 ?side2 A33.out).mono ?_); (case side1 => repeat (first | exact (Kd.R_reads' HO135.out).2.2 | (with_reducible refine Kd.C_alloc ?_ _) | (with_reducible refine Kd.C_drewN ?_ _) | (with_reducible refine Kd.C_drew ?_))); (case side2 => exact (Kd.R_reads' HO135.out).2.1); (case side3 => exact LW.below HLW.out (by repeat (first | (with_reducible first | exact HB.out | apply below_alloc | apply pw_below_drewN | apply below_drew1) | exact HB.out))); rintro e w' ⟨rfl, ⟨nd, rfl⟩⟩))
                              go_ret
                              exact ⟨by first | rfl | (simp [errW_none, errW_some] <;> rfl) | (simp [*, errW_none, errW_some] <;> rfl), by repeat (first | (with_reducible first | exact HB.out | apply below_alloc | apply pw_below_drewN | apply below_drew1) | exact HB.out)⟩
                          · replace c32 := Bool.eq_false_iff.mpr c32
                            subst c32
                            have H1 : (some (⟨#[]⟩ : ByteArray)) = some r := by rw [if_neg (show ¬ (false = true) by decide)] at H; exact H
                            clear H
                            have H := H1
                            clear H1
                            obtain rfl := Option.some.inj H
                            go_wp2_with (first | ((with_reducible refine gate_callee (f := 10) rfl ?_); refine goesL_ (some 89) rfl rfl Tryd.func10 (by kernel_rfl) rfl #[.int .i64 x6_4] rfl (by (try simp only [List.map_toArray, List.map_cons, List.map_nil]); first | done | rfl | (simp only [List.length_drop, List.length_take]; rfl)) ?_; (with_reducible refine (lanternref12_Utf8.calls x6_4 t131 false _ ?side1 A31.out).mono ?_); (case side1 => exact LW.below HLW.out (by repeat (first | (with_reducible first | exact HB.out | apply below_alloc | apply pw_below_drewN | apply below_drew1) | exact HB.out))); rintro e w43 ⟨rfl, hb⟩; refine ⟨_, rfl, ?_⟩; have n0_ := Aside0.mk (below_step (by repeat (first | (with_reducible first | exact HB.out | apply below_alloc | apply pw_below_drewN | apply below_drew1) | exact HB.out)) hb); clear HB; have HB := n0_; clear n0_; (try clear hb); (try clear hb2); (try clear hk); (try clear hi)))
                            go_ret
                            exact ⟨by first | rfl | (simp [errW_none, errW_some] <;> rfl) | (simp [*, errW_none, errW_some] <;> rfl), by repeat (first | (with_reducible first | exact HB.out | apply below_alloc | apply pw_below_drewN | apply below_drew1) | exact HB.out)⟩
        · rw [if_neg c8] at H
          exact absurd H (by simp)

end Go.Proofs.YtimffmddegnkjaaDoor.P
