-- Written by a program of this session (wip/gen/lprint.py over the kit's print.py) out of the translation. Lean checks it.
import Derived.Test.YtlbgphddhjnlcaaGreatDoorP0
import Derived.Test.YtlbgphddhjnlcaaGreatDoorP2
import Derived.Test.YtlbgphddhjnlcaaGreatDoorP3
import Derived.Test.YtlbgphddhjnlcaaGreatDoorP5
import Derived.Test.YtlbgphddhjnlcaaGreatDoorP6
namespace Go.Proofs.YtlbgphddhjnlcaaGreatDoor.P
open Go.Proofs.YtlbgphddhjnlcaaGreatDoor.E Go.Proofs.YtlbgphddhjnlcaaGreatDoorV
open Go.RowKit Go.Proofs.YtlbgphddhjnlcaaGreatDoorW.PrintWords Go.Proofs.YtlbgphddhjnlcaaGreatDoorW.PrintLast Go.Proofs.YtlbgphddhjnlcaaGreatDoorW.PrintMore
attribute [local go_sem] max2_int min2_int max_two min_two max_three min_three max_four min_four   -- for this text's walks alone
set_option linter.unusedVariables false
set_option linter.unusedSimpArgs false

/-! ### date_Rfc822: function 19 -/
mutual
def date_Rfc822.j0 : Nat → List ByteArray → Bool → Option (Int × Int)
  | 0, _, _ => none
  | k + 1, x4, x22 => if x22 = true then (if 1 ≤ (x4.length : Int) then (date_Rfc822.j1 k (x4.drop (1 : Int).toNat)) else (none)) else (date_Rfc822.j1 k x4)
def date_Rfc822.j1 : Nat → List ByteArray → Option (Int × Int)
  | 0, _ => none
  | k + 1, x4 => if (x4.length : Int) = 5 then (if 0 < (x4.length : Int) then ((date_number.f (rdOf ByteArray.empty x4 0) 1).bind fun t193 => ((date_number.f (rdOf ByteArray.empty x4 0) 2).bind fun t195 => (if 2 < (x4.length : Int) then ((date_number.f (rdOf ByteArray.empty x4 2) 4).bind fun t197 => ((date_number.f (rdOf ByteArray.empty x4 2) 2).bind fun t199 => (if t199 ≥ 50 then (date_Rfc822.j2 k x4 (mx t193 t195) (wrap64 (1900 + t199))) else (if t199 ≥ 0 then (date_Rfc822.j2 k x4 (mx t193 t195) (wrap64 (2000 + t199))) else (date_Rfc822.j2 k x4 (mx t193 t195) t197))))) else (none)))) else (none)) else (some (0, 5))
def date_Rfc822.j2 : Nat → List ByteArray → Int → Int → Option (Int × Int)
  | 0, _, _, _ => none
  | k + 1, x4, x5, x6 => if 4 < (x4.length : Int) then ((date_named.f k (rdOf ByteArray.empty x4 4)).bind fun bt201 => (if bt201.2 = true then (if 1 < (x4.length : Int) then ((date_place.f k (rdOf ByteArray.empty x4 1) (⟨#[106, 97, 110, 32, 102, 101, 98, 32, 109, 97, 114, 32, 97, 112, 114, 32, 109, 97, 121, 32, 106, 117, 110, 32, 106, 117, 108, 32, 97, 117, 103, 32, 115, 101, 112, 32, 111, 99, 116, 32, 110, 111, 118, 32, 100, 101, 99]⟩ : ByteArray)).bind fun t204 => (if 3 < (x4.length : Int) then ((date_clock.f k (rdOf ByteArray.empty x4 3) false).bind fun t206 => ((date_when.f k x6 t204 x5 t206 bt201.1).bind fun bt207 => (some (bt207.1, bt207.2)))) else (none))) else (none)) else (some (0, 5)))) else (none)
end
def date_Rfc822.f (k : Nat) (a0 : ByteArray) : Option (Int × Int) := (text_Lower.f a0).bind fun t183 => ((text_Words.f k t183).bind fun t184 => (if (t184.length : Int) = 6 then (if 0 < (t184.length : Int) then ((date_place.f k (rdOf ByteArray.empty t184 0) (⟨#[109, 111, 110, 44, 32, 116, 117, 101, 44, 32, 119, 101, 100, 44, 32, 116, 104, 117, 44, 32, 102, 114, 105, 44, 32, 115, 97, 116, 44, 32, 115, 117, 110, 44]⟩ : ByteArray)).bind fun t188 => (date_Rfc822.j0 k t184 (decide (t188 > 0)))) else (none)) else (date_Rfc822.j0 k t184 false)))
theorem date_Rfc822.mono_l : ∀ k, (∀ y0 y1, LeO (date_Rfc822.j0 k y0 y1) (date_Rfc822.j0 (k + 1) y0 y1)) ∧ (∀ y0, LeO (date_Rfc822.j1 k y0) (date_Rfc822.j1 (k + 1) y0)) ∧ (∀ y0 y1 y2, LeO (date_Rfc822.j2 k y0 y1 y2) (date_Rfc822.j2 (k + 1) y0 y1 y2))
  | 0 => ⟨fun _ _ r h => by simp [date_Rfc822.j0] at h, fun _ r h => by simp [date_Rfc822.j1] at h, fun _ _ _ r h => by simp [date_Rfc822.j2] at h⟩
  | k + 1 => by
    obtain ⟨ih0, ih1, ih2⟩ := date_Rfc822.mono_l k
    refine ⟨?_, ?_, ?_⟩
    · intro y0 y1
      unfold date_Rfc822.j0
      repeat' first
      | (with_reducible exact ih0 _ _)
      | (with_reducible exact ih1 _)
      | (with_reducible exact ih2 _ _ _)
      | (with_reducible exact date_clock.mono _ _ _)
      | (with_reducible exact date_named.mono _ _)
      | (with_reducible exact date_place.mono _ _ _)
      | (with_reducible exact date_when.mono _ _ _ _ _ _)
      | (with_reducible exact text_Words.mono _ _)
      | (with_reducible exact LeO.refl _)
      | (with_reducible exact LeO.none _)
      | (with_reducible refine LeO.ite ?_ ?_)
      | (with_reducible refine LeO.bind ?_ (fun _ => ?_))
      | exact ih0 _ _
      | exact ih1 _
      | exact ih2 _ _ _
      | exact date_clock.mono _ _ _
      | exact date_named.mono _ _
      | exact date_place.mono _ _ _
      | exact date_when.mono _ _ _ _ _ _
      | exact text_Words.mono _ _
      | exact LeO.none _
      | refine LeO.ite ?_ ?_
      | refine LeO.bind ?_ (fun _ => ?_)
    · intro y0
      unfold date_Rfc822.j1
      repeat' first
      | (with_reducible exact ih0 _ _)
      | (with_reducible exact ih1 _)
      | (with_reducible exact ih2 _ _ _)
      | (with_reducible exact date_clock.mono _ _ _)
      | (with_reducible exact date_named.mono _ _)
      | (with_reducible exact date_place.mono _ _ _)
      | (with_reducible exact date_when.mono _ _ _ _ _ _)
      | (with_reducible exact text_Words.mono _ _)
      | (with_reducible exact LeO.refl _)
      | (with_reducible exact LeO.none _)
      | (with_reducible refine LeO.ite ?_ ?_)
      | (with_reducible refine LeO.bind ?_ (fun _ => ?_))
      | exact ih0 _ _
      | exact ih1 _
      | exact ih2 _ _ _
      | exact date_clock.mono _ _ _
      | exact date_named.mono _ _
      | exact date_place.mono _ _ _
      | exact date_when.mono _ _ _ _ _ _
      | exact text_Words.mono _ _
      | exact LeO.none _
      | refine LeO.ite ?_ ?_
      | refine LeO.bind ?_ (fun _ => ?_)
    · intro y0 y1 y2
      unfold date_Rfc822.j2
      repeat' first
      | (with_reducible exact ih0 _ _)
      | (with_reducible exact ih1 _)
      | (with_reducible exact ih2 _ _ _)
      | (with_reducible exact date_clock.mono _ _ _)
      | (with_reducible exact date_named.mono _ _)
      | (with_reducible exact date_place.mono _ _ _)
      | (with_reducible exact date_when.mono _ _ _ _ _ _)
      | (with_reducible exact text_Words.mono _ _)
      | (with_reducible exact LeO.refl _)
      | (with_reducible exact LeO.none _)
      | (with_reducible refine LeO.ite ?_ ?_)
      | (with_reducible refine LeO.bind ?_ (fun _ => ?_))
      | exact ih0 _ _
      | exact ih1 _
      | exact ih2 _ _ _
      | exact date_clock.mono _ _ _
      | exact date_named.mono _ _
      | exact date_place.mono _ _ _
      | exact date_when.mono _ _ _ _ _ _
      | exact text_Words.mono _ _
      | exact LeO.none _
      | refine LeO.ite ?_ ?_
      | refine LeO.bind ?_ (fun _ => ?_)
theorem date_Rfc822.mono : ∀ a0 k, LeO (date_Rfc822.f k a0) (date_Rfc822.f (k + 1) a0) := by
  intro a0 k
  obtain ⟨ih0, ih1, ih2⟩ := date_Rfc822.mono_l k
  unfold date_Rfc822.f
  repeat' first
      | (with_reducible exact ih0 _ _)
      | (with_reducible exact ih1 _)
      | (with_reducible exact ih2 _ _ _)
      | (with_reducible exact date_clock.mono _ _ _)
      | (with_reducible exact date_named.mono _ _)
      | (with_reducible exact date_place.mono _ _ _)
      | (with_reducible exact date_when.mono _ _ _ _ _ _)
      | (with_reducible exact text_Words.mono _ _)
      | (with_reducible exact LeO.refl _)
      | (with_reducible exact LeO.none _)
      | (with_reducible refine LeO.ite ?_ ?_)
      | (with_reducible refine LeO.bind ?_ (fun _ => ?_))
      | exact ih0 _ _
      | exact ih1 _
      | exact ih2 _ _ _
      | exact date_clock.mono _ _ _
      | exact date_named.mono _ _
      | exact date_place.mono _ _ _
      | exact date_when.mono _ _ _ _ _ _
      | exact text_Words.mono _ _
      | exact LeO.none _
      | refine LeO.ite ?_ ?_
      | refine LeO.bind ?_ (fun _ => ?_)
def date_Rfc822.T6 : Bool × List (List Nat × List Nat) := (true, [([], []), ([0], [0]), ([1], [1]), ([2], [2]), ([], []), ([4], [4]), ([5], [5]), ([6, 3], [6]), ([3, 7], [3, 7]), ([], []), ([9], [9]), ([10], [10]), ([11, 7], [11]), ([8, 12, 0, 1, 2, 3, 4, 5, 6, 7, 8], [8]), ([12, 13, 0, 1, 2, 3, 4, 5, 6, 7, 8, 9, 10, 11, 12, 13], [12])])
def date_Rfc822.B6 : List Nat := [0, 1, 3, 7, 0, 16, 48, 127, 255, 0, 512, 1536, 3839, 8191, 16383]
theorem date_Rfc822.tab6 : rtab .any (opsOf Tryz.f19 6) = date_Rfc822.T6 := by kernel_rfl
theorem date_Rfc822.bits6 : waitsOk date_Rfc822.T6.2 date_Rfc822.B6 = true := by kernel_rfl
def date_Rfc822.T15 : Bool × List (List Nat × List Nat) := (true, [([], []), ([], []), ([1], [1]), ([2], [2]), ([3], [3]), ([], []), ([], []), ([6], [6]), ([7], [7]), ([8, 4], [8]), ([], []), ([0, 4, 5, 9, 10, 9], [0, 4, 5, 9, 10]), ([11], [11]), ([11], [11]), ([12, 11, 0, 1, 2, 3, 4, 5, 6, 7, 8, 9, 10, 11, 12, 13], [12]), ([13, 14, 0, 1, 2, 3, 4, 5, 6, 7, 8, 9, 10, 11, 12, 13, 14], [13])])
def date_Rfc822.B15 : List Nat := [0, 0, 2, 6, 14, 0, 0, 64, 192, 478, 0, 2047, 4095, 4095, 16383, 32767]
theorem date_Rfc822.tab15 : rtab .any (opsOf Tryz.f19 15) = date_Rfc822.T15 := by kernel_rfl
theorem date_Rfc822.bits15 : waitsOk date_Rfc822.T15.2 date_Rfc822.B15 = true := by kernel_rfl
set_option maxHeartbeats 8000000 in
set_option maxRecDepth 100000 in
theorem date_Rfc822.calls (k : Nat) (a0 : ByteArray) (r1 : Int) (r2 : Int) (w : World) (hLW : LW w) (h : date_Rfc822.f k a0 = some (r1, r2)) :
    Calls Tryz.prog 19 #[.string a0] w fun e w' => e = .returned (.tuple #[.int .i64 r1, .int .i64 r2]) ∧ Below w.heap.size w w' := by
  have HLW := Aside0.mk hLW
  clear hLW
  have HB := Aside0.mk (Below.refl w.heap.size w)
  have H : ((text_Lower.f a0).bind fun t183 => ((text_Words.f k t183).bind fun t184 => (if (t184.length : Int) = 6 then (if 0 < (t184.length : Int) then ((date_place.f k (rdOf ByteArray.empty t184 0) (⟨#[109, 111, 110, 44, 32, 116, 117, 101, 44, 32, 119, 101, 100, 44, 32, 116, 104, 117, 44, 32, 102, 114, 105, 44, 32, 115, 97, 116, 44, 32, 115, 117, 110, 44]⟩ : ByteArray)).bind fun t188 => (date_Rfc822.j0 k t184 (decide (t188 > 0)))) else (none)) else (date_Rfc822.j0 k t184 false)))) = some (r1, r2) := h
  clear h
  replace H := Option.bind_eq_some_iff.mp H
  obtain ⟨t183, A20, H⟩ := H
  replace H : ((text_Words.f k t183).bind fun t184 => (if (t184.length : Int) = 6 then (if 0 < (t184.length : Int) then ((date_place.f k (rdOf ByteArray.empty t184 0) (⟨#[109, 111, 110, 44, 32, 116, 117, 101, 44, 32, 119, 101, 100, 44, 32, 116, 104, 117, 44, 32, 102, 114, 105, 44, 32, 115, 97, 116, 44, 32, 115, 117, 110, 44]⟩ : ByteArray)).bind fun t188 => (date_Rfc822.j0 k t184 (decide (t188 > 0)))) else (none)) else (date_Rfc822.j0 k t184 false))) = some (r1, r2) := H
  have A2 := Aside0.mk A20
  clear A20
  replace H := Option.bind_eq_some_iff.mp H
  obtain ⟨t184, A30, H⟩ := H
  replace H : (if (t184.length : Int) = 6 then (if 0 < (t184.length : Int) then ((date_place.f k (rdOf ByteArray.empty t184 0) (⟨#[109, 111, 110, 44, 32, 116, 117, 101, 44, 32, 119, 101, 100, 44, 32, 116, 104, 117, 44, 32, 102, 114, 105, 44, 32, 115, 97, 116, 44, 32, 115, 117, 110, 44]⟩ : ByteArray)).bind fun t188 => (date_Rfc822.j0 k t184 (decide (t188 > 0)))) else (none)) else (date_Rfc822.j0 k t184 false)) = some (r1, r2) := H
  have A3 := Aside0.mk A30
  clear A30
  have HC4 := Aside0.mk H
  clear H
  go_enter Tryz.func19, Tryz.ntmps19
  go_upto_region 2 with (first | ((with_reducible refine gate_callee (f := 26) rfl ?_); refine goesL_ (some 11) rfl rfl Tryz.func26 (by kernel_rfl) rfl #[.string a0] rfl (by (try simp only [List.map_toArray, List.map_cons, List.map_nil]); first | done | rfl | (simp only [List.length_drop, List.length_take]; rfl)) ?_; (with_reducible refine (text_Lower.calls a0 t183 _ ?side1 A2.out).mono ?_); (case side1 => exact LW.below HLW.out (by repeat (first | (with_reducible first | exact HB.out | apply below_alloc | apply pw_below_drewN | apply below_drew1) | exact HB.out))); rintro e w5 ⟨rfl, hb⟩; refine ⟨_, rfl, ?_⟩; have n0_ := Aside0.mk (below_step (by repeat (first | (with_reducible first | exact HB.out | apply below_alloc | apply pw_below_drewN | apply below_drew1) | exact HB.out)) hb); clear HB; have HB := n0_; clear n0_; (try clear hb); (try clear hb2); (try clear hk); (try clear hi)) | ((with_reducible refine gate_callee (f := 33) rfl ?_); refine goesL_ (some 12) rfl rfl Tryz.func33 (by kernel_rfl) rfl #[.string t183] rfl (by (try simp only [List.map_toArray, List.map_cons, List.map_nil]); first | done | rfl | (simp only [List.length_drop, List.length_take]; rfl)) ?_; (with_reducible refine (text_Words.calls k t183 t184 _ ?side1 A3.out).mono ?_); (case side1 => exact LW.below HLW.out (by repeat (first | (with_reducible first | exact HB.out | apply below_alloc | apply pw_below_drewN | apply below_drew1) | exact HB.out))); rintro e w6 ⟨v185, rfl, ho0, hb⟩; refine ⟨_, rfl, ?_⟩; have n0_ := Aside0.mk (Kd.R_lower ho0 (below_size (by repeat (first | (with_reducible first | exact HB.out | apply below_alloc | apply pw_below_drewN | apply below_drew1) | exact HB.out)))); have n1_ := Aside0.mk (below_step (by repeat (first | (with_reducible first | exact HB.out | apply below_alloc | apply pw_below_drewN | apply below_drew1) | exact HB.out)) hb); clear HB; have HO186 := n0_; have HB := n1_; clear n0_ n1_; (try clear hb); (try clear hb2); (try clear hk); (try clear hi); (try clear ho0)))
  (try simp only [Act.put, List.setIfInBounds_toArray, List.set_cons_zero, List.set_cons_succ])
  go_cut [22] (fun v22 wc => ∃ (kq : Nat) (x22_3 : Bool), v22 = .bool x22_3 ∧ Aside0 (date_Rfc822.j0 kq t184 x22_3 = some (r1, r2)) ∧ Aside0 (kq ≤ k) ∧ Aside0 (Kd.Q Kd.string 9 wc w.heap.size (fun _ => True) v185 t184) ∧ Aside0 (Below w.heap.size w wc))
  case first =>
    have H := HC4.out
    clear HC4
    by_cases c7 : (t184.length : Int) = 6
    · rw [if_pos c7] at H
      have c7b0 : ((t184.length : Int) == 6) = true := beq_iff_eq.mpr c7
      have c7b1 : ((t184.length : Int) != 6) = false := bne_eq_false_iff_eq.mpr c7
      clear c7
      (first | rw [c7b0] | (simp only [i64_w, i32_w]; rw [c7b0]) | skip)
      by_cases c8 : 0 < (t184.length : Int)
      · rw [if_pos c8] at H
        have c8b0 : decide (0 < (t184.length : Int)) = true := decide_eq_true c8
        have c8b1 : decide (0 < t184.length) = true := decide_eq_true (by omega)
        clear c8
        replace H := Option.bind_eq_some_iff.mp H
        obtain ⟨t188, A90, H⟩ := H
        replace H : (date_Rfc822.j0 k t184 (decide (t188 > 0))) = some (r1, r2) := H
        have A9 := Aside0.mk A90
        clear A90
        have H' := Aside0.mk H
        clear H
        obtain ⟨Ao10, co10, eo10⟩ := Kd.R_slice HO186.out
        subst eo10
        have p187 : 0 ≤ (0 : Int) := (by omega)
        have q187 : 0 < (t184.length : Int) := of_decide_eq_true (by first | (with_reducible assumption) | assumption)
        obtain ⟨ad187, e187, hx187_0⟩ := Kd.at_string (Kd.R_reads' HO186.out).2.2 0 p187 q187
        cases e187
        have qi187 : (0 < t184.length) = True := eq_true (by omega)
        (try rw [show ((0 : Int)).toNat = 0 from rfl] at hx187_0)
        (try rw [Addr.add_zero'] at hx187_0)
        replace p187 := eq_true p187
        replace q187 := eq_true q187
        go_wp2_with (first | (go_at_call 34; (with_reducible refine (date_place.calls k (rdOf ByteArray.empty t184 0) (⟨#[109, 111, 110, 44, 32, 116, 117, 101, 44, 32, 119, 101, 100, 44, 32, 116, 104, 117, 44, 32, 102, 114, 105, 44, 32, 115, 97, 116, 44, 32, 115, 117, 110, 44]⟩ : ByteArray) t188 _ ?side1 A9.out).mono ?_); (case side1 => exact LW.below HLW.out (by repeat (first | (with_reducible first | exact HB.out | apply below_alloc | apply pw_below_drewN | apply below_drew1) | exact HB.out))); rintro e w11 ⟨rfl, hb⟩; have n0_ := Aside0.mk (Kd.R_below (by (with_reducible repeat (first | apply Kd.R_alloc | apply Kd.R_drewN | apply Kd.R_drew)); exact HO186.out) hb); have n1_ := Aside0.mk (below_step (by repeat (first | (with_reducible first | exact HB.out | apply below_alloc | apply pw_below_drewN | apply below_drew1) | exact HB.out)) hb); clear HO186; clear HB; have HO186 := n0_; have HB := n1_; clear n0_ n1_; (try clear hb); (try clear hb2); (try clear hk); (try clear hi)))
        go_meet
        case rel => exact ⟨_, (decide (t188 > 0)), (by first | rfl | (simp; done) | (simp [*]; done) | (simp; exact isEmpty_bne _) | (simp; exact isEmpty_beq _)), H', ⟨by first | omega | exact Nat.le_refl _⟩, ⟨Kd.Q_of_R (by (with_reducible repeat (first | apply Kd.R_alloc | apply Kd.R_drewN | apply Kd.R_drew)); exact HO186.out)⟩, ⟨by repeat (first | (with_reducible first | exact HB.out | apply below_alloc | apply pw_below_drewN | apply below_drew1) | exact HB.out)⟩⟩
      · rw [if_neg c8] at H
        exact absurd H (by simp)
    · rw [if_neg c7] at H
      have c7b0 : ((t184.length : Int) == 6) = false := beq_eq_false_iff_ne.mpr c7
      have c7b1 : ((t184.length : Int) != 6) = true := bne_iff_ne.mpr c7
      (first | rw [c7b0] | (simp only [i64_w, i32_w]; rw [c7b0]) | skip)
      have H' := Aside0.mk H
      clear H
      obtain ⟨Ao12, co12, eo12⟩ := Kd.R_slice HO186.out
      subst eo12
      go_wp2
      go_meet
      case rel => exact ⟨_, (false), (by first | rfl | (simp; done) | (simp [*]; done) | (simp; exact isEmpty_bne _) | (simp; exact isEmpty_beq _)), H', ⟨by first | omega | exact Nat.le_refl _⟩, ⟨Kd.Q_of_R (by (with_reducible repeat (first | apply Kd.R_alloc | apply Kd.R_drewN | apply Kd.R_drew)); exact HO186.out)⟩, ⟨by repeat (first | (with_reducible first | exact HB.out | apply below_alloc | apply pw_below_drewN | apply below_drew1) | exact HB.out)⟩⟩
  case rest =>
    clear HC4
    try clear c1
    try clear p1
    try clear q1
    try clear hx1
    try clear qi1
    try clear c2
    try clear p2
    try clear c3
    try clear c7
    try clear c7b0
    try clear c7b1
    try clear c8
    try clear c8b0
    try clear c8b1
    try clear hx187_0
    try clear p187
    try clear q187
    obtain ⟨kq, x22_3, rfl, HA, HJ3, HO_4, HB⟩ := hcut
    cases kq with
    | zero => exact absurd HA.out (by simp [date_Rfc822.j0])
    | succ kj3 =>
      have H := HA.out
      clear HA
      simp only [date_Rfc822.j0] at H
      have HC13 := Aside0.mk H
      clear H
      go_upto_if 22 with (fail)
      go_cut [4] (fun v4 wc => ∃ (kq : Nat) (x4_12 : List ByteArray), Aside0 (date_Rfc822.j1 kq x4_12 = some (r1, r2)) ∧ Aside0 (kq ≤ kj3) ∧ Aside0 (Kd.Q Kd.string 9 wc w.heap.size (fun _ => True) v4 x4_12) ∧ Aside0 (Below w.heap.size w wc))
      case first =>
        have H := HC13.out
        clear HC13
        by_cases c14 : x22_3 = true
        · subst c14
          have H1 : (if 1 ≤ (t184.length : Int) then (date_Rfc822.j1 kj3 (t184.drop (1 : Int).toNat)) else (none)) = some (r1, r2) := by rw [if_pos rfl] at H; exact H
          clear H
          have H := H1
          clear H1
          by_cases c15 : 1 ≤ (t184.length : Int)
          · rw [if_pos c15] at H
            have c15b0 := eq_true c15
            have c15b1 : decide (1 ≤ (t184.length : Int)) = true := decide_eq_true c15
            clear c15
            obtain ⟨y189, hy189⟩ : ∃ y_ : List ByteArray, y_ = (t184.drop (1 : Int).toNat) := ⟨_, rfl⟩
            replace H : (date_Rfc822.j1 kj3 y189) = some (r1, r2) := by first | (rw [hy189]; with_reducible exact H) | (have H2_ := (Option.bind_some _ _).symm.trans H; rw [hy189]; with_reducible exact H2_) | (have H2_ := (Option.bind_some _ _).symm.trans H; with_reducible exact H2_) | with_reducible exact H | (rw [hy189]; exact H) | exact H
            have Ny189 := Aside0.mk hy189
            clear hy189
            have H' := Aside0.mk H
            clear H
            obtain ⟨Ao16, co16, eo16, _⟩ := Kd.Q_slice HO_4.out
            subst eo16
            have q17 : (1 : Int) ≤ ((t184.length : Int) : Int) := of_decide_eq_true (by first | (with_reducible assumption) | assumption)
            obtain ⟨i017, hi017, _, hsz17, _⟩ := info_parts info9
            have hcut17 := cut_from (P := Tryz.prog) 57 9 .i64 Tryz.underlying57 hi017 1 hsz17 Ao16 t184.length co16 1 (by omega) q17
            have hr17 := Kd.Q_drop (k := (1 : Int).toNat) HO_4.out (by omega)
            obtain ⟨A17, hA17⟩ : ∃ A1, A1 = (if co16 = (1 : Int).toNat then Ao16 else (Ao16 : Option Addr).map (·.add ((1 : Int).toNat * 1))) := ⟨_, rfl⟩
            obtain ⟨c17, hc17⟩ : ∃ c1, c1 = co16 - (1 : Int).toNat := ⟨_, rfl⟩
            have hy17 : y189.length = t184.length - (1 : Int).toNat := (by rw [Ny189.out, List.length_drop])
            rw [← Ny189.out] at hr17
            rw [← hy17, ← hA17, ← hc17] at hcut17
            replace hr17 : Kd.Q Kd.string 9 wc w.heap.size (fun _ => True) (.slice A17 y189.length c17) y189 := (by rw [hA17, hc17, hy17]; exact hr17)
            have HE17 : Aside0 ((Value.slice A17 y189.length c17).ownBlock = (.slice Ao16 t184.length co16 : Value).ownBlock) := ⟨by rw [hA17]; split <;> (cases (Ao16 : Option Addr) <;> rfl)⟩
            clear hy17 hi017 hsz17 HO_4 hA17 hc17
            have HO191 := Aside0.mk hr17
            clear hr17
            replace q17 := eq_true q17
            go_wp2
            go_meet
            case rel => exact ⟨_, (y189), H', ⟨by have := HJ3.out; first | omega | exact Nat.le_refl _⟩, ⟨by (with_reducible repeat (first | apply Kd.Q_alloc | apply Kd.Q_drewN | apply Kd.Q_drew)); exact HO191.out⟩, ⟨by repeat (first | (with_reducible first | exact HB.out | apply below_alloc | apply pw_below_drewN | apply below_drew1) | exact HB.out)⟩⟩
          · rw [if_neg c15] at H
            exact absurd H (by simp)
        · replace c14 := Bool.eq_false_iff.mpr c14
          subst c14
          have H1 : (date_Rfc822.j1 kj3 t184) = some (r1, r2) := by rw [if_neg (show ¬ (false = true) by decide)] at H; exact H
          clear H
          have H := H1
          clear H1
          have H' := Aside0.mk H
          clear H
          go_wp2
          go_meet
          case rel => exact ⟨_, (t184), H', ⟨by have := HJ3.out; first | omega | exact Nat.le_refl _⟩, ⟨by (with_reducible repeat (first | apply Kd.Q_alloc | apply Kd.Q_drewN | apply Kd.Q_drew)); exact HO_4.out⟩, ⟨by repeat (first | (with_reducible first | exact HB.out | apply below_alloc | apply pw_below_drewN | apply below_drew1) | exact HB.out)⟩⟩
      case rest =>
        clear HC13
        try clear c1
        try clear p1
        try clear q1
        try clear hx1
        try clear qi1
        try clear c2
        try clear p2
        try clear c3
        try clear c7
        try clear c7b0
        try clear c7b1
        try clear c8
        try clear c8b0
        try clear c8b1
        try clear c14
        try clear c15
        try clear c15b0
        try clear c15b1
        try clear c17
        try clear q17
        try clear hx187_0
        try clear p1
        try clear p187
        try clear p2
        try clear q1
        try clear q17
        try clear q187
        obtain ⟨kq, x4_12, HA, HJ12, HO_4, HB⟩ := hcut
        cases kq with
        | zero => exact absurd HA.out (by simp [date_Rfc822.j1])
        | succ kj12 =>
          have H := HA.out
          clear HA
          simp only [date_Rfc822.j1] at H
          by_cases c18 : (x4_12.length : Int) = 5
          · rw [if_pos c18] at H
            have c18b0 : ((x4_12.length : Int) == 5) = true := beq_iff_eq.mpr c18
            have c18b1 : ((x4_12.length : Int) != 5) = false := bne_eq_false_iff_eq.mpr c18
            clear c18
            by_cases c19 : 0 < (x4_12.length : Int)
            · rw [if_pos c19] at H
              have c19b0 : decide (0 < (x4_12.length : Int)) = true := decide_eq_true c19
              have c19b1 : decide (0 < x4_12.length) = true := decide_eq_true (by omega)
              clear c19
              replace H := Option.bind_eq_some_iff.mp H
              obtain ⟨t193, A200, H⟩ := H
              replace H : ((date_number.f (rdOf ByteArray.empty x4_12 0) 2).bind fun t195 => (if 2 < (x4_12.length : Int) then ((date_number.f (rdOf ByteArray.empty x4_12 2) 4).bind fun t197 => ((date_number.f (rdOf ByteArray.empty x4_12 2) 2).bind fun t199 => (if t199 ≥ 50 then (date_Rfc822.j2 kj12 x4_12 (mx t193 t195) (wrap64 (1900 + t199))) else (if t199 ≥ 0 then (date_Rfc822.j2 kj12 x4_12 (mx t193 t195) (wrap64 (2000 + t199))) else (date_Rfc822.j2 kj12 x4_12 (mx t193 t195) t197))))) else (none))) = some (r1, r2) := H
              have A20 := Aside0.mk A200
              clear A200
              replace H := Option.bind_eq_some_iff.mp H
              obtain ⟨t195, A210, H⟩ := H
              replace H : (if 2 < (x4_12.length : Int) then ((date_number.f (rdOf ByteArray.empty x4_12 2) 4).bind fun t197 => ((date_number.f (rdOf ByteArray.empty x4_12 2) 2).bind fun t199 => (if t199 ≥ 50 then (date_Rfc822.j2 kj12 x4_12 (mx t193 t195) (wrap64 (1900 + t199))) else (if t199 ≥ 0 then (date_Rfc822.j2 kj12 x4_12 (mx t193 t195) (wrap64 (2000 + t199))) else (date_Rfc822.j2 kj12 x4_12 (mx t193 t195) t197))))) else (none)) = some (r1, r2) := H
              have A21 := Aside0.mk A210
              clear A210
              obtain ⟨ji22, hji22⟩ : ∃ j_ : Int, (mx t193 t195) = j_ := ⟨_, rfl⟩
              replace H : (if 2 < (x4_12.length : Int) then ((date_number.f (rdOf ByteArray.empty x4_12 2) 4).bind fun t197 => ((date_number.f (rdOf ByteArray.empty x4_12 2) 2).bind fun t199 => (if t199 ≥ 50 then (date_Rfc822.j2 kj12 x4_12 ji22 (wrap64 (1900 + t199))) else (if t199 ≥ 0 then (date_Rfc822.j2 kj12 x4_12 ji22 (wrap64 (2000 + t199))) else (date_Rfc822.j2 kj12 x4_12 ji22 t197))))) else (none)) = some (r1, r2) := by first | (rw [hji22] at H; exact H) | (simp only [hji22] at H ⊢; exact H)
              (try rw [hji22] at A20)
              (try rw [hji22] at A21)
              have hji22_ : (if t193 < t195 then t195 else t193) = ji22 := hji22
              by_cases c23 : 2 < (x4_12.length : Int)
              · rw [if_pos c23] at H
                have c23b0 : decide (2 < (x4_12.length : Int)) = true := decide_eq_true c23
                have c23b1 : decide (2 < x4_12.length) = true := decide_eq_true (by omega)
                clear c23
                replace H := Option.bind_eq_some_iff.mp H
                obtain ⟨t197, A240, H⟩ := H
                replace H : ((date_number.f (rdOf ByteArray.empty x4_12 2) 2).bind fun t199 => (if t199 ≥ 50 then (date_Rfc822.j2 kj12 x4_12 ji22 (wrap64 (1900 + t199))) else (if t199 ≥ 0 then (date_Rfc822.j2 kj12 x4_12 ji22 (wrap64 (2000 + t199))) else (date_Rfc822.j2 kj12 x4_12 ji22 t197)))) = some (r1, r2) := H
                have A24 := Aside0.mk A240
                clear A240
                replace H := Option.bind_eq_some_iff.mp H
                obtain ⟨t199, A250, H⟩ := H
                replace H : (if t199 ≥ 50 then (date_Rfc822.j2 kj12 x4_12 ji22 (wrap64 (1900 + t199))) else (if t199 ≥ 0 then (date_Rfc822.j2 kj12 x4_12 ji22 (wrap64 (2000 + t199))) else (date_Rfc822.j2 kj12 x4_12 ji22 t197))) = some (r1, r2) := H
                have A25 := Aside0.mk A250
                clear A250
                have HC26 := Aside0.mk H
                clear H
                obtain ⟨Ao27, co27, eo27, _⟩ := Kd.Q_slice HO_4.out
                subst eo27
                try go_wp2
                have n0_ := Aside0.mk (Kd.Q_drew HO_4.out)
                have n1_ := Aside0.mk (below_drew1 HB.out)
                clear HO_4
                clear HB
                have HO_4 := n0_
                have HB := n1_
                clear n0_ n1_
                have p192 : 0 ≤ (0 : Int) := (by omega)
                have q192 : 0 < (x4_12.length : Int) := of_decide_eq_true (by first | (with_reducible assumption) | assumption)
                obtain ⟨ad192, e192, hx192_0⟩ := Kd.at_string (Kd.Q_reads' HO_4.out).2.2 0 p192 q192
                cases e192
                have qi192 : (0 < x4_12.length) = True := eq_true (by omega)
                (try rw [show ((0 : Int)).toNat = 0 from rfl] at hx192_0)
                (try rw [Addr.add_zero'] at hx192_0)
                replace p192 := eq_true p192
                replace q192 := eq_true q192
                have p194 : 0 ≤ (0 : Int) := (by omega)
                have q194 : 0 < (x4_12.length : Int) := of_decide_eq_true (by first | (with_reducible assumption) | assumption)
                obtain ⟨ad194, e194, hx194_0⟩ := Kd.at_string (Kd.Q_reads' HO_4.out).2.2 0 p194 q194
                obtain rfl : ad192 = ad194 := (by injection e194)
                have qi194 : (0 < x4_12.length) = True := eq_true (by omega)
                (try rw [show ((0 : Int)).toNat = 0 from rfl] at hx194_0)
                (try rw [Addr.add_zero'] at hx194_0)
                replace p194 := eq_true p194
                replace q194 := eq_true q194
                have p196 : 0 ≤ (2 : Int) := (by omega)
                have q196 : 2 < (x4_12.length : Int) := of_decide_eq_true (by first | (with_reducible assumption) | assumption)
                obtain ⟨ad196, e196, hx196_0⟩ := Kd.at_string (Kd.Q_reads' HO_4.out).2.2 2 p196 q196
                obtain rfl : ad192 = ad196 := (by injection e196)
                (try simp only [show (2 : Int).toNat = 2 from rfl, Nat.reduceMul, Nat.reduceEqDiff, Go.Addr.add, ↓reduceIte] at hx196_0)
                have qi196 : (2 < x4_12.length) = True := eq_true (by omega)
                (try rw [show ((2 : Int)).toNat = 2 from rfl] at hx196_0)
                replace p196 := eq_true p196
                replace q196 := eq_true q196
                refine start_ (n := 15) (S := fun w' => w'.cell? ad192 = some (.string (rdOf ByteArray.empty x4_12 0)) ∧ w'.cell? ad192 = some (.string (rdOf ByteArray.empty x4_12 0)) ∧ w'.cell? ⟨ad192.block, ad192.off + 2, none⟩ = some (.string (rdOf ByteArray.empty x4_12 2))) (ds := []) #[false, false, false, false, false, false, false, false, false, false, false, false, false, false, false] (by kernel_rfl) rfl rfl ⟨hx192_0, hx194_0, hx196_0⟩ (fun hHeld => ?_); refine with_tabW date_Rfc822.tab6 date_Rfc822.bits6 (fun HT_ HW_ => ?_)
                generalize wc.drew = w28 at HO_4 HB hx192_0 hx194_0 hx196_0 hHeld ⊢
                refine pure_ (i := 0) (N := some 28) (v := ?_) (a' := ?_) #[true, false, false, false, false, false, false, false, false, false, false, false, false, false, false] rfl rfl (any_of HT_.out (by kernel_rfl)) (fun _ _ _ h => h) (Or.inl ⟨by rfl, ?_⟩) ?_ ?_
                rotate_left
                · intro w'
                  go_simp
                  with_reducible rfl
                rotate_left
                · simp only [Act.put, List.setIfInBounds_toArray, List.set_cons_zero, List.set_cons_succ, i64_w, i32_w]
                  rfl
                refine pure_ (i := 1) (N := some 29) (v := ?_) (a' := ?_) #[true, true, false, false, false, false, false, false, false, false, false, false, false, false, false] rfl rfl (any_of HT_.out (by kernel_rfl)) (fun _ _ _ h => h) (Or.inl ⟨by rfl, ?_⟩) ?_ ?_
                rotate_left
                · intro w'
                  go_simp
                  with_reducible rfl
                rotate_left
                · simp only [Act.put, List.setIfInBounds_toArray, List.set_cons_zero, List.set_cons_succ, i64_w, i32_w]
                  rfl
                refine pure_ (i := 4) (N := some 32) (v := ?_) (a' := ?_) #[true, true, false, false, true, false, false, false, false, false, false, false, false, false, false] rfl rfl (any_of HT_.out (by kernel_rfl)) (fun _ _ _ h => h) (Or.inl ⟨by rfl, ?_⟩) ?_ ?_
                rotate_left
                · intro w'
                  go_simp
                  with_reducible rfl
                rotate_left
                · simp only [Act.put, List.setIfInBounds_toArray, List.set_cons_zero, List.set_cons_succ, i64_w, i32_w]
                  rfl
                refine pure_ (i := 5) (N := some 33) (v := ?_) (a' := ?_) #[true, true, false, false, true, true, false, false, false, false, false, false, false, false, false] rfl rfl (any_of HT_.out (by kernel_rfl)) (fun _ _ _ h => h) (Or.inl ⟨by rfl, ?_⟩) ?_ ?_
                rotate_left
                · intro w'
                  go_simp
                  with_reducible rfl
                rotate_left
                · simp only [Act.put, List.setIfInBounds_toArray, List.set_cons_zero, List.set_cons_succ, i64_w, i32_w]
                  rfl
                refine pure_ (i := 9) (N := some 37) (v := ?_) (a' := ?_) #[true, true, false, false, true, true, false, false, false, true, false, false, false, false, false] rfl rfl (any_of HT_.out (by kernel_rfl)) (fun _ _ _ h => h) (Or.inl ⟨by rfl, ?_⟩) ?_ ?_
                rotate_left
                · intro w'
                  go_simp
                  with_reducible rfl
                rotate_left
                · simp only [Act.put, List.setIfInBounds_toArray, List.set_cons_zero, List.set_cons_succ, i64_w, i32_w]
                  rfl
                refine pure_ (i := 10) (N := some 38) (v := ?_) (a' := ?_) #[true, true, false, false, true, true, false, false, false, true, true, false, false, false, false] rfl rfl (any_of HT_.out (by kernel_rfl)) (fun _ _ _ h => h) (Or.inl ⟨by rfl, ?_⟩) ?_ ?_
                rotate_left
                · intro w'
                  go_simp
                  with_reducible rfl
                rotate_left
                · simp only [Act.put, List.setIfInBounds_toArray, List.set_cons_zero, List.set_cons_succ, i64_w, i32_w]
                  rfl
                refine take_ (i := 2) (N := some 30) (v := ?_) (a' := ?_) #[true, true, true, false, true, true, false, false, false, true, true, false, false, false, false] rfl rfl (take_ofW HT_.out HW_.out (by kernel_rfl)) (fun _ _ _ h => h) (Or.inl ⟨by rfl, ?_⟩) hHeld ?_ ?_
                rotate_left
                · rintro w' ⟨s0, s1, s2⟩
                  go_simp
                  with_reducible rfl
                rotate_left
                · simp only [Act.put, List.setIfInBounds_toArray, List.set_cons_zero, List.set_cons_succ, i64_w, i32_w]
                  rfl
                refine take_ (i := 6) (N := some 34) (v := ?_) (a' := ?_) #[true, true, true, false, true, true, true, false, false, true, true, false, false, false, false] rfl rfl (take_ofW HT_.out HW_.out (by kernel_rfl)) (fun _ _ _ h => h) (Or.inl ⟨by rfl, ?_⟩) hHeld ?_ ?_
                rotate_left
                · rintro w' ⟨s0, s1, s2⟩
                  go_simp
                  with_reducible rfl
                rotate_left
                · simp only [Act.put, List.setIfInBounds_toArray, List.set_cons_zero, List.set_cons_succ, i64_w, i32_w]
                  rfl
                refine take_ (i := 11) (N := some 39) (v := ?_) (a' := ?_) #[true, true, true, false, true, true, true, false, false, true, true, true, false, false, false] rfl rfl (take_ofW HT_.out HW_.out (by kernel_rfl)) (fun _ _ _ h => h) (Or.inl ⟨by rfl, ?_⟩) hHeld ?_ ?_
                rotate_left
                · rintro w' ⟨s0, s1, s2⟩
                  go_simp
                  with_reducible rfl
                rotate_left
                · simp only [Act.put, List.setIfInBounds_toArray, List.set_cons_zero, List.set_cons_succ, i64_w, i32_w]
                  rfl
                refine one_ (i := 3) (N := some 31) #[true, true, true, true, true, true, true, false, false, true, true, true, false, false, false] rfl rfl (one_of HT_.out (by kernel_rfl)) (by decide) (fun K hK => ?_)
                refine goes_ Tryz.func32 (by kernel_rfl) rfl #[.string (rdOf ByteArray.empty x4_12 0), .int .i64 1] (by rfl) rfl rfl (by (try simp only [List.map_toArray, List.map_cons, List.map_nil]); first | done | rfl | (simp only [List.length_drop, List.length_take]; rfl)) ?_
                with_reducible refine (date_number.calls (rdOf ByteArray.empty x4_12 0) 1 t193 _ ?side1 A20.out).mono ?_
                (case side1 => exact LW.below HLW.out (by repeat (first | (with_reducible first | exact HB.out | apply below_alloc | apply pw_below_drewN | apply below_drew1) | exact HB.out)))
                rintro e w29 ⟨rfl, hb⟩
                have HS0_ := (hb.cell (World.block_lt_of_cell? _ _ (hHeld.1))).trans (hHeld.1)
                have HS1_ := (hb.cell (World.block_lt_of_cell? _ _ (hHeld.2.1))).trans (hHeld.2.1)
                have HS2_ := (hb.cell (World.block_lt_of_cell? _ _ (hHeld.2.2))).trans (hHeld.2.2)
                refine ⟨_, rfl, ?_⟩
                have n0_ := Aside0.mk (Kd.Q_below (by (with_reducible repeat (first | apply Kd.Q_alloc | apply Kd.Q_drewN | apply Kd.Q_drew)); exact HO_4.out) hb)
                have n1_ := Aside0.mk (below_step (by repeat (first | (with_reducible first | exact HB.out | apply below_alloc | apply pw_below_drewN | apply below_drew1) | exact HB.out)) hb)
                clear HO_4
                clear HB
                have HO_4 := n0_
                have HB := n1_
                clear n0_ n1_
                (try clear hb)
                (try clear hb2)
                (try clear hk)
                (try clear hi)
                refine hK.out _ _ ⟨HS0_, HS1_, HS2_⟩ (fun hHeld => ?_)
                clear hK K
                refine norm_ (a' := ?_) ?_ ?_
                rotate_left
                · show Act.put _ (some 31) _ = _
                  simp only [Act.put, List.setIfInBounds_toArray, List.set_cons_zero, List.set_cons_succ, i64_w, i32_w]
                  rfl
                refine one_ (i := 7) (N := some 35) #[true, true, true, true, true, true, true, true, false, true, true, true, false, false, false] rfl rfl (one_of HT_.out (by kernel_rfl)) (by decide) (fun K hK => ?_)
                refine goes_ Tryz.func32 (by kernel_rfl) rfl #[.string (rdOf ByteArray.empty x4_12 0), .int .i64 2] (by rfl) rfl rfl (by (try simp only [List.map_toArray, List.map_cons, List.map_nil]); first | done | rfl | (simp only [List.length_drop, List.length_take]; rfl)) ?_
                with_reducible refine (date_number.calls (rdOf ByteArray.empty x4_12 0) 2 t195 _ ?side1 A21.out).mono ?_
                (case side1 => exact LW.below HLW.out (by repeat (first | (with_reducible first | exact HB.out | apply below_alloc | apply pw_below_drewN | apply below_drew1) | exact HB.out)))
                rintro e w30 ⟨rfl, hb⟩
                have HS0_ := (hb.cell (World.block_lt_of_cell? _ _ (hHeld.1))).trans (hHeld.1)
                have HS1_ := (hb.cell (World.block_lt_of_cell? _ _ (hHeld.2.1))).trans (hHeld.2.1)
                have HS2_ := (hb.cell (World.block_lt_of_cell? _ _ (hHeld.2.2))).trans (hHeld.2.2)
                refine ⟨_, rfl, ?_⟩
                have n0_ := Aside0.mk (Kd.Q_below (by (with_reducible repeat (first | apply Kd.Q_alloc | apply Kd.Q_drewN | apply Kd.Q_drew)); exact HO_4.out) hb)
                have n1_ := Aside0.mk (below_step (by repeat (first | (with_reducible first | exact HB.out | apply below_alloc | apply pw_below_drewN | apply below_drew1) | exact HB.out)) hb)
                clear HO_4
                clear HB
                have HO_4 := n0_
                have HB := n1_
                clear n0_ n1_
                (try clear hb)
                (try clear hb2)
                (try clear hk)
                (try clear hi)
                refine hK.out _ _ ⟨HS0_, HS1_, HS2_⟩ (fun hHeld => ?_)
                clear hK K
                refine norm_ (a' := ?_) ?_ ?_
                rotate_left
                · show Act.put _ (some 35) _ = _
                  simp only [Act.put, List.setIfInBounds_toArray, List.set_cons_zero, List.set_cons_succ, i64_w, i32_w]
                  rfl
                refine pure_ (i := 8) (N := some 36) (v := ?_) (a' := ?_) #[true, true, true, true, true, true, true, true, true, true, true, true, false, false, false] rfl rfl (any_of HT_.out (by kernel_rfl)) (fun _ _ _ h => h) (Or.inl ⟨by rfl, ?_⟩) ?_ ?_
                rotate_left
                · intro w'
                  go_simp
                  with_reducible rfl
                rotate_left
                · simp only [Act.put, List.setIfInBounds_toArray, List.set_cons_zero, List.set_cons_succ, i64_w, i32_w]
                  rfl
                refine one_ (i := 12) (N := some 40) #[true, true, true, true, true, true, true, true, true, true, true, true, true, false, false] rfl rfl (one_of HT_.out (by kernel_rfl)) (by decide) (fun K hK => ?_)
                refine goes_ Tryz.func32 (by kernel_rfl) rfl #[.string (rdOf ByteArray.empty x4_12 2), .int .i64 4] (by rfl) rfl rfl (by (try simp only [List.map_toArray, List.map_cons, List.map_nil]); first | done | rfl | (simp only [List.length_drop, List.length_take]; rfl)) ?_
                with_reducible refine (date_number.calls (rdOf ByteArray.empty x4_12 2) 4 t197 _ ?side1 A24.out).mono ?_
                (case side1 => exact LW.below HLW.out (by repeat (first | (with_reducible first | exact HB.out | apply below_alloc | apply pw_below_drewN | apply below_drew1) | exact HB.out)))
                rintro e w31 ⟨rfl, hb⟩
                have HS0_ := (hb.cell (World.block_lt_of_cell? _ _ (hHeld.1))).trans (hHeld.1)
                have HS1_ := (hb.cell (World.block_lt_of_cell? _ _ (hHeld.2.1))).trans (hHeld.2.1)
                have HS2_ := (hb.cell (World.block_lt_of_cell? _ _ (hHeld.2.2))).trans (hHeld.2.2)
                refine ⟨_, rfl, ?_⟩
                have n0_ := Aside0.mk (Kd.Q_below (by (with_reducible repeat (first | apply Kd.Q_alloc | apply Kd.Q_drewN | apply Kd.Q_drew)); exact HO_4.out) hb)
                have n1_ := Aside0.mk (below_step (by repeat (first | (with_reducible first | exact HB.out | apply below_alloc | apply pw_below_drewN | apply below_drew1) | exact HB.out)) hb)
                clear HO_4
                clear HB
                have HO_4 := n0_
                have HB := n1_
                clear n0_ n1_
                (try clear hb)
                (try clear hb2)
                (try clear hk)
                (try clear hi)
                refine hK.out _ _ ⟨HS0_, HS1_, HS2_⟩ (fun hHeld => ?_)
                clear hK K
                refine norm_ (a' := ?_) ?_ ?_
                rotate_left
                · show Act.put _ (some 40) _ = _
                  simp only [Act.put, List.setIfInBounds_toArray, List.set_cons_zero, List.set_cons_succ, i64_w, i32_w]
                  rfl
                refine pure_ (i := 13) (N := some 5) (v := ?_) (a' := ?_) #[true, true, true, true, true, true, true, true, true, true, true, true, true, true, false] rfl rfl (any_of HT_.out (by kernel_rfl)) (fun _ _ _ h => h) (Or.inl ⟨by rfl, ?_⟩) ?_ ?_
                rotate_left
                · intro w'
                  go_simp
                  with_reducible rfl
                rotate_left
                · simp only [Act.put, List.setIfInBounds_toArray, List.set_cons_zero, List.set_cons_succ, i64_w, i32_w]
                  rfl
                refine pure_ (i := 14) (N := some 6) (v := ?_) (a' := ?_) #[true, true, true, true, true, true, true, true, true, true, true, true, true, true, true] rfl rfl (any_of HT_.out (by kernel_rfl)) (fun _ _ _ h => h) (Or.inl ⟨by rfl, ?_⟩) ?_ ?_
                rotate_left
                · intro w'
                  go_simp
                  with_reducible rfl
                rotate_left
                · simp only [Act.put, List.setIfInBounds_toArray, List.set_cons_zero, List.set_cons_succ, i64_w, i32_w]
                  rfl
                refine done_ (done_of HT_.out (by kernel_rfl)) ?_
                have p198 : 0 ≤ (2 : Int) := (by omega)
                have q198 : 2 < (x4_12.length : Int) := of_decide_eq_true (by first | (with_reducible assumption) | assumption)
                obtain ⟨ad198, e198, hx198_0⟩ := Kd.at_string (Kd.Q_reads' HO_4.out).2.2 2 p198 q198
                obtain rfl : ad192 = ad198 := (by injection e198)
                (try simp only [show (2 : Int).toNat = 2 from rfl, Nat.reduceMul, Nat.reduceEqDiff, Go.Addr.add, ↓reduceIte] at hx198_0)
                have qi198 : (2 < x4_12.length) = True := eq_true (by omega)
                (try rw [show ((2 : Int)).toNat = 2 from rfl] at hx198_0)
                replace p198 := eq_true p198
                replace q198 := eq_true q198
                go_upto_if 46 with (first | ((with_reducible refine gate_callee (f := 32) rfl ?_); refine goesL_ (some 44) rfl rfl Tryz.func32 (by kernel_rfl) rfl #[.string (rdOf ByteArray.empty x4_12 2), .int .i64 2] rfl (by (try simp only [List.map_toArray, List.map_cons, List.map_nil]); first | done | rfl | (simp only [List.length_drop, List.length_take]; rfl)) ?_; (with_reducible refine (date_number.calls (rdOf ByteArray.empty x4_12 2) 2 t199 _ ?side1 A25.out).mono ?_); (case side1 => exact LW.below HLW.out (by repeat (first | (with_reducible first | exact HB.out | apply below_alloc | apply pw_below_drewN | apply below_drew1) | exact HB.out))); rintro e w32 ⟨rfl, hb⟩; refine ⟨_, rfl, ?_⟩; have n0_ := Aside0.mk (Kd.Q_below (by (with_reducible repeat (first | apply Kd.Q_alloc | apply Kd.Q_drewN | apply Kd.Q_drew)); exact HO_4.out) hb); have n1_ := Aside0.mk (below_step (by repeat (first | (with_reducible first | exact HB.out | apply below_alloc | apply pw_below_drewN | apply below_drew1) | exact HB.out)) hb); clear HO_4; clear HB; have HO_4 := n0_; have HB := n1_; clear n0_ n1_; (try clear hb); (try clear hb2); (try clear hk); (try clear hi)))
                (try simp only [Act.put, List.setIfInBounds_toArray, List.set_cons_zero, List.set_cons_succ])
                go_cut [6] (fun v6 wc => ∃ (kq : Nat) (x6_25 : Int), v6 = .int .i64 x6_25 ∧ Aside0 (date_Rfc822.j2 kq x4_12 ji22 x6_25 = some (r1, r2)) ∧ Aside0 (kq ≤ kj12) ∧ Aside0 (Kd.Q Kd.string 9 wc w.heap.size (fun _ => True) (.slice (some ad192) x4_12.length co27) x4_12) ∧ Aside0 (Below w.heap.size w wc))
                case first =>
                  have H := HC26.out
                  clear HC26
                  by_cases c33 : t199 ≥ 50
                  · rw [if_pos c33] at H
                    have c33b0 : decide (50 ≤ t199) = true := decide_eq_true c33
                    clear c33
                    (first | rw [c33b0] | (simp only [i64_w, i32_w]; rw [c33b0]) | skip)
                    have H' := Aside0.mk H
                    clear H
                    go_wp2
                    go_meet
                    case rel => exact ⟨_, (wrap64 (1900 + t199)), (by first | rfl | (simp; done) | (simp [*]; done) | (simp; exact isEmpty_bne _) | (simp; exact isEmpty_beq _)), H', ⟨by have := HJ3.out; have := HJ12.out; first | omega | exact Nat.le_refl _⟩, ⟨by (with_reducible repeat (first | apply Kd.Q_alloc | apply Kd.Q_drewN | apply Kd.Q_drew)); exact HO_4.out⟩, ⟨by repeat (first | (with_reducible first | exact HB.out | apply below_alloc | apply pw_below_drewN | apply below_drew1) | exact HB.out)⟩⟩
                  · rw [if_neg c33] at H
                    have c33b0 : decide (50 ≤ t199) = false := decide_eq_false c33
                    clear c33
                    (first | rw [c33b0] | (simp only [i64_w, i32_w]; rw [c33b0]) | skip)
                    by_cases c34 : t199 ≥ 0
                    · rw [if_pos c34] at H
                      have c34b0 : decide (0 ≤ t199) = true := decide_eq_true c34
                      clear c34
                      have H' := Aside0.mk H
                      clear H
                      go_wp2
                      go_meet
                      case rel => exact ⟨_, (wrap64 (2000 + t199)), (by first | rfl | (simp; done) | (simp [*]; done) | (simp; exact isEmpty_bne _) | (simp; exact isEmpty_beq _)), H', ⟨by have := HJ3.out; have := HJ12.out; first | omega | exact Nat.le_refl _⟩, ⟨by (with_reducible repeat (first | apply Kd.Q_alloc | apply Kd.Q_drewN | apply Kd.Q_drew)); exact HO_4.out⟩, ⟨by repeat (first | (with_reducible first | exact HB.out | apply below_alloc | apply pw_below_drewN | apply below_drew1) | exact HB.out)⟩⟩
                    · rw [if_neg c34] at H
                      have c34b0 : decide (0 ≤ t199) = false := decide_eq_false c34
                      clear c34
                      have H' := Aside0.mk H
                      clear H
                      go_wp2
                      go_meet
                      case rel => exact ⟨_, (t197), (by first | rfl | (simp; done) | (simp [*]; done) | (simp; exact isEmpty_bne _) | (simp; exact isEmpty_beq _)), H', ⟨by have := HJ3.out; have := HJ12.out; first | omega | exact Nat.le_refl _⟩, ⟨by (with_reducible repeat (first | apply Kd.Q_alloc | apply Kd.Q_drewN | apply Kd.Q_drew)); exact HO_4.out⟩, ⟨by repeat (first | (with_reducible first | exact HB.out | apply below_alloc | apply pw_below_drewN | apply below_drew1) | exact HB.out)⟩⟩
                case rest =>
                  clear HC26
                  try clear c1
                  try clear p1
                  try clear q1
                  try clear hx1
                  try clear qi1
                  try clear c2
                  try clear p2
                  try clear c3
                  try clear p6
                  try clear c7
                  try clear c7b0
                  try clear c7b1
                  try clear c8
                  try clear c8b0
                  try clear c8b1
                  try clear c14
                  try clear c15
                  try clear c15b0
                  try clear c15b1
                  try clear c17
                  try clear q17
                  try clear c18
                  try clear c18b0
                  try clear c18b1
                  try clear p18
                  try clear q18
                  try clear hx18
                  try clear qi18
                  try clear c19
                  try clear c19b0
                  try clear c19b1
                  try clear p19
                  try clear q19
                  try clear hx19
                  try clear qi19
                  try clear c23
                  try clear c23b0
                  try clear c23b1
                  try clear c26
                  try clear c32
                  try clear c33
                  try clear c33b0
                  try clear c34
                  try clear c34b0
                  try clear hx187_0
                  try clear hx192_0
                  try clear hx194_0
                  try clear hx196_0
                  try clear hx198_0
                  try clear p1
                  try clear p187
                  try clear p192
                  try clear p194
                  try clear p196
                  try clear p198
                  try clear p2
                  try clear q1
                  try clear q17
                  try clear q187
                  try clear q192
                  try clear q194
                  try clear q196
                  try clear q198
                  obtain ⟨kq, x6_25, rfl, HA, HJ25, HO_4, HB⟩ := hcut
                  cases kq with
                  | zero => exact absurd HA.out (by simp [date_Rfc822.j2])
                  | succ kj25 =>
                    have H := HA.out
                    clear HA
                    simp only [date_Rfc822.j2] at H
                    by_cases c35 : 4 < (x4_12.length : Int)
                    · rw [if_pos c35] at H
                      have c35b0 : decide (4 < (x4_12.length : Int)) = true := decide_eq_true c35
                      have c35b1 : decide (4 < x4_12.length) = true := decide_eq_true (by omega)
                      clear c35
                      replace H := Option.bind_eq_some_iff.mp H
                      obtain ⟨⟨t201, t202⟩, A360, H⟩ := H
                      replace H : (if t202 = true then (if 1 < (x4_12.length : Int) then ((date_place.f kj25 (rdOf ByteArray.empty x4_12 1) (⟨#[106, 97, 110, 32, 102, 101, 98, 32, 109, 97, 114, 32, 97, 112, 114, 32, 109, 97, 121, 32, 106, 117, 110, 32, 106, 117, 108, 32, 97, 117, 103, 32, 115, 101, 112, 32, 111, 99, 116, 32, 110, 111, 118, 32, 100, 101, 99]⟩ : ByteArray)).bind fun t204 => (if 3 < (x4_12.length : Int) then ((date_clock.f kj25 (rdOf ByteArray.empty x4_12 3) false).bind fun t206 => ((date_when.f kj25 x6_25 t204 ji22 t206 t201).bind fun bt207 => (some (bt207.1, bt207.2)))) else (none))) else (none)) else (some (0, 5))) = some (r1, r2) := H
                      have A36 := Aside0.mk A360
                      clear A360
                      by_cases c37 : t202 = true
                      · subst c37
                        have H1 : (if 1 < (x4_12.length : Int) then ((date_place.f kj25 (rdOf ByteArray.empty x4_12 1) (⟨#[106, 97, 110, 32, 102, 101, 98, 32, 109, 97, 114, 32, 97, 112, 114, 32, 109, 97, 121, 32, 106, 117, 110, 32, 106, 117, 108, 32, 97, 117, 103, 32, 115, 101, 112, 32, 111, 99, 116, 32, 110, 111, 118, 32, 100, 101, 99]⟩ : ByteArray)).bind fun t204 => (if 3 < (x4_12.length : Int) then ((date_clock.f kj25 (rdOf ByteArray.empty x4_12 3) false).bind fun t206 => ((date_when.f kj25 x6_25 t204 ji22 t206 t201).bind fun bt207 => (some (bt207.1, bt207.2)))) else (none))) else (none)) = some (r1, r2) := by rw [if_pos rfl] at H; exact H
                        clear H
                        have H := H1
                        clear H1
                        by_cases c38 : 1 < (x4_12.length : Int)
                        · rw [if_pos c38] at H
                          have c38b0 : decide (1 < (x4_12.length : Int)) = true := decide_eq_true c38
                          have c38b1 : decide (1 < x4_12.length) = true := decide_eq_true (by omega)
                          clear c38
                          replace H := Option.bind_eq_some_iff.mp H
                          obtain ⟨t204, A390, H⟩ := H
                          replace H : (if 3 < (x4_12.length : Int) then ((date_clock.f kj25 (rdOf ByteArray.empty x4_12 3) false).bind fun t206 => ((date_when.f kj25 x6_25 t204 ji22 t206 t201).bind fun bt207 => (some (bt207.1, bt207.2)))) else (none)) = some (r1, r2) := H
                          have A39 := Aside0.mk A390
                          clear A390
                          by_cases c40 : 3 < (x4_12.length : Int)
                          · rw [if_pos c40] at H
                            have c40b0 : decide (3 < (x4_12.length : Int)) = true := decide_eq_true c40
                            have c40b1 : decide (3 < x4_12.length) = true := decide_eq_true (by omega)
                            clear c40
                            replace H := Option.bind_eq_some_iff.mp H
                            obtain ⟨t206, A410, H⟩ := H
                            replace H : ((date_when.f kj25 x6_25 t204 ji22 t206 t201).bind fun bt207 => (some (bt207.1, bt207.2))) = some (r1, r2) := H
                            have A41 := Aside0.mk A410
                            clear A410
                            replace H := Option.bind_eq_some_iff.mp H
                            obtain ⟨⟨t207, t208⟩, A420, H⟩ := H
                            replace H : (some (t207, t208)) = some (r1, r2) := H
                            have A42 := Aside0.mk A420
                            clear A420
                            simp only [Option.some.injEq, Prod.mk.injEq] at H
                            obtain ⟨rfl, rfl⟩ := H
                            have p200 : 0 ≤ (4 : Int) := (by omega)
                            have q200 : 4 < (x4_12.length : Int) := of_decide_eq_true (by first | (with_reducible assumption) | assumption)
                            obtain ⟨ad200, e200, hx200_0⟩ := Kd.at_string (Kd.Q_reads' HO_4.out).2.2 4 p200 q200
                            obtain rfl : ad192 = ad200 := (by injection e200)
                            (try simp only [show (4 : Int).toNat = 4 from rfl, Nat.reduceMul, Nat.reduceEqDiff, Go.Addr.add, ↓reduceIte] at hx200_0)
                            have qi200 : (4 < x4_12.length) = True := eq_true (by omega)
                            (try rw [show ((4 : Int)).toNat = 4 from rfl] at hx200_0)
                            replace p200 := eq_true p200
                            replace q200 := eq_true q200
                            try go_wp2_with (first | ((with_reducible refine gate_callee (f := 35) rfl ?_); refine goesL_ (some 57) rfl rfl Tryz.func35 (by kernel_rfl) rfl #[.string (rdOf ByteArray.empty x4_12 4)] rfl (by (try simp only [List.map_toArray, List.map_cons, List.map_nil]); first | done | rfl | (simp only [List.length_drop, List.length_take]; rfl)) ?_; (with_reducible refine (date_named.calls kj25 (rdOf ByteArray.empty x4_12 4) t201 true _ ?side1 A36.out).mono ?_); (case side1 => exact LW.below HLW.out (by repeat (first | (with_reducible first | exact HB.out | apply below_alloc | apply pw_below_drewN | apply below_drew1) | exact HB.out))); rintro e w43 ⟨rfl, hb⟩; refine ⟨_, rfl, ?_⟩; have n0_ := Aside0.mk (Kd.Q_below (by (with_reducible repeat (first | apply Kd.Q_alloc | apply Kd.Q_drewN | apply Kd.Q_drew)); exact HO_4.out) hb); have n1_ := Aside0.mk (below_step (by repeat (first | (with_reducible first | exact HB.out | apply below_alloc | apply pw_below_drewN | apply below_drew1) | exact HB.out)) hb); clear HO_4; clear HB; have HO_4 := n0_; have HB := n1_; clear n0_ n1_; (try clear hb); (try clear hb2); (try clear hk); (try clear hi)))
                            have n0_ := Aside0.mk (Kd.Q_drew HO_4.out)
                            have n1_ := Aside0.mk (below_drew1 HB.out)
                            clear HO_4
                            clear HB
                            have HO_4 := n0_
                            have HB := n1_
                            clear n0_ n1_
                            have p203 : 0 ≤ (1 : Int) := (by omega)
                            have q203 : 1 < (x4_12.length : Int) := of_decide_eq_true (by first | (with_reducible assumption) | assumption)
                            obtain ⟨ad203, e203, hx203_0⟩ := Kd.at_string (Kd.Q_reads' HO_4.out).2.2 1 p203 q203
                            obtain rfl : ad192 = ad203 := (by injection e203)
                            (try simp only [show (1 : Int).toNat = 1 from rfl, Nat.reduceMul, Nat.reduceEqDiff, Go.Addr.add, ↓reduceIte] at hx203_0)
                            have qi203 : (1 < x4_12.length) = True := eq_true (by omega)
                            (try rw [show ((1 : Int)).toNat = 1 from rfl] at hx203_0)
                            replace p203 := eq_true p203
                            replace q203 := eq_true q203
                            have p205 : 0 ≤ (3 : Int) := (by omega)
                            have q205 : 3 < (x4_12.length : Int) := of_decide_eq_true (by first | (with_reducible assumption) | assumption)
                            obtain ⟨ad205, e205, hx205_0⟩ := Kd.at_string (Kd.Q_reads' HO_4.out).2.2 3 p205 q205
                            obtain rfl : ad192 = ad205 := (by injection e205)
                            (try simp only [show (3 : Int).toNat = 3 from rfl, Nat.reduceMul, Nat.reduceEqDiff, Go.Addr.add, ↓reduceIte] at hx205_0)
                            have qi205 : (3 < x4_12.length) = True := eq_true (by omega)
                            (try rw [show ((3 : Int)).toNat = 3 from rfl] at hx205_0)
                            replace p205 := eq_true p205
                            replace q205 := eq_true q205
                            refine start_ (n := 16) (S := fun w' => w'.cell? ⟨ad192.block, ad192.off + 1, none⟩ = some (.string (rdOf ByteArray.empty x4_12 1)) ∧ w'.cell? ⟨ad192.block, ad192.off + 3, none⟩ = some (.string (rdOf ByteArray.empty x4_12 3))) (ds := []) #[false, false, false, false, false, false, false, false, false, false, false, false, false, false, false, false] (by kernel_rfl) rfl rfl ⟨hx203_0, hx205_0⟩ (fun hHeld => ?_); refine with_tabW date_Rfc822.tab15 date_Rfc822.bits15 (fun HT_ HW_ => ?_)
                            generalize w43.drew = w44 at HO_4 HB hx203_0 hx205_0 hHeld ⊢
                            refine pure_ (i := 0) (N := some 62) (v := ?_) (a' := ?_) #[true, false, false, false, false, false, false, false, false, false, false, false, false, false, false, false] rfl rfl (any_of HT_.out (by kernel_rfl)) (fun _ _ _ h => h) (Or.inl ⟨by rfl, ?_⟩) ?_ ?_
                            rotate_left
                            · intro w'
                              go_simp
                              with_reducible rfl
                            rotate_left
                            · simp only [Act.put, List.setIfInBounds_toArray, List.set_cons_zero, List.set_cons_succ, i64_w, i32_w]
                              rfl
                            refine pure_ (i := 1) (N := some 63) (v := ?_) (a' := ?_) #[true, true, false, false, false, false, false, false, false, false, false, false, false, false, false, false] rfl rfl (any_of HT_.out (by kernel_rfl)) (fun _ _ _ h => h) (Or.inl ⟨by rfl, ?_⟩) ?_ ?_
                            rotate_left
                            · intro w'
                              go_simp
                              with_reducible rfl
                            rotate_left
                            · simp only [Act.put, List.setIfInBounds_toArray, List.set_cons_zero, List.set_cons_succ, i64_w, i32_w]
                              rfl
                            refine pure_ (i := 2) (N := some 64) (v := ?_) (a' := ?_) #[true, true, true, false, false, false, false, false, false, false, false, false, false, false, false, false] rfl rfl (any_of HT_.out (by kernel_rfl)) (fun _ _ _ h => h) (Or.inl ⟨by rfl, ?_⟩) ?_ ?_
                            rotate_left
                            · intro w'
                              go_simp
                              with_reducible rfl
                            rotate_left
                            · simp only [Act.put, List.setIfInBounds_toArray, List.set_cons_zero, List.set_cons_succ, i64_w, i32_w]
                              rfl
                            refine pure_ (i := 5) (N := some 67) (v := ?_) (a' := ?_) #[true, true, true, false, false, true, false, false, false, false, false, false, false, false, false, false] rfl rfl (any_of HT_.out (by kernel_rfl)) (fun _ _ _ h => h) (Or.inl ⟨by rfl, ?_⟩) ?_ ?_
                            rotate_left
                            · intro w'
                              go_simp
                              with_reducible rfl
                            rotate_left
                            · simp only [Act.put, List.setIfInBounds_toArray, List.set_cons_zero, List.set_cons_succ, i64_w, i32_w]
                              rfl
                            refine pure_ (i := 6) (N := some 68) (v := ?_) (a' := ?_) #[true, true, true, false, false, true, true, false, false, false, false, false, false, false, false, false] rfl rfl (any_of HT_.out (by kernel_rfl)) (fun _ _ _ h => h) (Or.inl ⟨by rfl, ?_⟩) ?_ ?_
                            rotate_left
                            · intro w'
                              go_simp
                              with_reducible rfl
                            rotate_left
                            · simp only [Act.put, List.setIfInBounds_toArray, List.set_cons_zero, List.set_cons_succ, i64_w, i32_w]
                              rfl
                            refine pure_ (i := 7) (N := some 69) (v := ?_) (a' := ?_) #[true, true, true, false, false, true, true, true, false, false, false, false, false, false, false, false] rfl rfl (any_of HT_.out (by kernel_rfl)) (fun _ _ _ h => h) (Or.inl ⟨by rfl, ?_⟩) ?_ ?_
                            rotate_left
                            · intro w'
                              go_simp
                              with_reducible rfl
                            rotate_left
                            · simp only [Act.put, List.setIfInBounds_toArray, List.set_cons_zero, List.set_cons_succ, i64_w, i32_w]
                              rfl
                            refine pure_ (i := 10) (N := some 72) (v := ?_) (a' := ?_) #[true, true, true, false, false, true, true, true, false, false, true, false, false, false, false, false] rfl rfl (any_of HT_.out (by kernel_rfl)) (fun _ _ _ h => h) (Or.inl ⟨by rfl, ?_⟩) ?_ ?_
                            rotate_left
                            · intro w'
                              go_simp
                              with_reducible rfl
                            rotate_left
                            · simp only [Act.put, List.setIfInBounds_toArray, List.set_cons_zero, List.set_cons_succ, i64_w, i32_w]
                              rfl
                            refine take_ (i := 3) (N := some 65) (v := ?_) (a' := ?_) #[true, true, true, true, false, true, true, true, false, false, true, false, false, false, false, false] rfl rfl (take_ofW HT_.out HW_.out (by kernel_rfl)) (fun _ _ _ h => h) (Or.inl ⟨by rfl, ?_⟩) hHeld ?_ ?_
                            rotate_left
                            · rintro w' ⟨s0, s1⟩
                              go_simp
                              with_reducible rfl
                            rotate_left
                            · simp only [Act.put, List.setIfInBounds_toArray, List.set_cons_zero, List.set_cons_succ, i64_w, i32_w]
                              rfl
                            refine take_ (i := 8) (N := some 70) (v := ?_) (a' := ?_) #[true, true, true, true, false, true, true, true, true, false, true, false, false, false, false, false] rfl rfl (take_ofW HT_.out HW_.out (by kernel_rfl)) (fun _ _ _ h => h) (Or.inl ⟨by rfl, ?_⟩) hHeld ?_ ?_
                            rotate_left
                            · rintro w' ⟨s0, s1⟩
                              go_simp
                              with_reducible rfl
                            rotate_left
                            · simp only [Act.put, List.setIfInBounds_toArray, List.set_cons_zero, List.set_cons_succ, i64_w, i32_w]
                              rfl
                            refine one_ (i := 4) (N := some 66) #[true, true, true, true, true, true, true, true, true, false, true, false, false, false, false, false] rfl rfl (one_of HT_.out (by kernel_rfl)) (by decide) (fun K hK => ?_)
                            refine goes_ Tryz.func34 (by kernel_rfl) rfl #[.string (rdOf ByteArray.empty x4_12 1), .string (⟨#[106, 97, 110, 32, 102, 101, 98, 32, 109, 97, 114, 32, 97, 112, 114, 32, 109, 97, 121, 32, 106, 117, 110, 32, 106, 117, 108, 32, 97, 117, 103, 32, 115, 101, 112, 32, 111, 99, 116, 32, 110, 111, 118, 32, 100, 101, 99]⟩ : ByteArray)] (by rfl) rfl rfl (by (try simp only [List.map_toArray, List.map_cons, List.map_nil]); first | done | rfl | (simp only [List.length_drop, List.length_take]; rfl)) ?_
                            with_reducible refine (date_place.calls kj25 (rdOf ByteArray.empty x4_12 1) (⟨#[106, 97, 110, 32, 102, 101, 98, 32, 109, 97, 114, 32, 97, 112, 114, 32, 109, 97, 121, 32, 106, 117, 110, 32, 106, 117, 108, 32, 97, 117, 103, 32, 115, 101, 112, 32, 111, 99, 116, 32, 110, 111, 118, 32, 100, 101, 99]⟩ : ByteArray) t204 _ ?side1 A39.out).mono ?_
                            (case side1 => exact LW.below HLW.out (by repeat (first | (with_reducible first | exact HB.out | apply below_alloc | apply pw_below_drewN | apply below_drew1) | exact HB.out)))
                            rintro e w45 ⟨rfl, hb⟩
                            have HS0_ := (hb.cell (World.block_lt_of_cell? _ _ (hHeld.1))).trans (hHeld.1)
                            have HS1_ := (hb.cell (World.block_lt_of_cell? _ _ (hHeld.2))).trans (hHeld.2)
                            refine ⟨_, rfl, ?_⟩
                            have n0_ := Aside0.mk (Kd.Q_below (by (with_reducible repeat (first | apply Kd.Q_alloc | apply Kd.Q_drewN | apply Kd.Q_drew)); exact HO_4.out) hb)
                            have n1_ := Aside0.mk (below_step (by repeat (first | (with_reducible first | exact HB.out | apply below_alloc | apply pw_below_drewN | apply below_drew1) | exact HB.out)) hb)
                            clear HO_4
                            clear HB
                            have HO_4 := n0_
                            have HB := n1_
                            clear n0_ n1_
                            (try clear hb)
                            (try clear hb2)
                            (try clear hk)
                            (try clear hi)
                            refine hK.out _ _ ⟨HS0_, HS1_⟩ (fun hHeld => ?_)
                            clear hK K
                            refine norm_ (a' := ?_) ?_ ?_
                            rotate_left
                            · show Act.put _ (some 66) _ = _
                              simp only [Act.put, List.setIfInBounds_toArray, List.set_cons_zero, List.set_cons_succ, i64_w, i32_w]
                              rfl
                            refine one_ (i := 9) (N := some 71) #[true, true, true, true, true, true, true, true, true, true, true, false, false, false, false, false] rfl rfl (one_of HT_.out (by kernel_rfl)) (by decide) (fun K hK => ?_)
                            refine goes_ Tryz.func27 (by kernel_rfl) rfl #[.string (rdOf ByteArray.empty x4_12 3), .bool false] (by rfl) rfl rfl (by (try simp only [List.map_toArray, List.map_cons, List.map_nil]); first | done | rfl | (simp only [List.length_drop, List.length_take]; rfl)) ?_
                            with_reducible refine (date_clock.calls kj25 (rdOf ByteArray.empty x4_12 3) false t206 _ ?side1 A41.out).mono ?_
                            (case side1 => exact LW.below HLW.out (by repeat (first | (with_reducible first | exact HB.out | apply below_alloc | apply pw_below_drewN | apply below_drew1) | exact HB.out)))
                            rintro e w46 ⟨rfl, hb⟩
                            have HS0_ := (hb.cell (World.block_lt_of_cell? _ _ (hHeld.1))).trans (hHeld.1)
                            have HS1_ := (hb.cell (World.block_lt_of_cell? _ _ (hHeld.2))).trans (hHeld.2)
                            refine ⟨_, rfl, ?_⟩
                            have n0_ := Aside0.mk (Kd.Q_below (by (with_reducible repeat (first | apply Kd.Q_alloc | apply Kd.Q_drewN | apply Kd.Q_drew)); exact HO_4.out) hb)
                            have n1_ := Aside0.mk (below_step (by repeat (first | (with_reducible first | exact HB.out | apply below_alloc | apply pw_below_drewN | apply below_drew1) | exact HB.out)) hb)
                            clear HO_4
                            clear HB
                            have HO_4 := n0_
                            have HB := n1_
                            clear n0_ n1_
                            (try clear hb)
                            (try clear hb2)
                            (try clear hk)
                            (try clear hi)
                            refine hK.out _ _ ⟨HS0_, HS1_⟩ (fun hHeld => ?_)
                            clear hK K
                            refine norm_ (a' := ?_) ?_ ?_
                            rotate_left
                            · show Act.put _ (some 71) _ = _
                              simp only [Act.put, List.setIfInBounds_toArray, List.set_cons_zero, List.set_cons_succ, i64_w, i32_w]
                              rfl
                            refine one_ (i := 11) (N := some 73) #[true, true, true, true, true, true, true, true, true, true, true, true, false, false, false, false] rfl rfl (one_of HT_.out (by kernel_rfl)) (by decide) (fun K hK => ?_)
                            refine goes_ Tryz.func31 (by kernel_rfl) rfl #[.int .i64 x6_25, .int .i64 t204, .int .i64 ji22, .int .i64 t206, .int .i64 t201] (by rfl) rfl rfl (by (try simp only [List.map_toArray, List.map_cons, List.map_nil]); first | done | (simp only [hji22]; rfl) | rfl | (simp only [List.length_drop, List.length_take]; rfl)) ?_
                            with_reducible refine (date_when.calls kj25 x6_25 t204 ji22 t206 t201 t207 t208 _ ?side1 A42.out).mono ?_
                            (case side1 => exact LW.below HLW.out (by repeat (first | (with_reducible first | exact HB.out | apply below_alloc | apply pw_below_drewN | apply below_drew1) | exact HB.out)))
                            rintro e w' ⟨rfl, ⟨nd, rfl⟩⟩
                            refine ⟨_, rfl, ?_⟩
                            refine hK.out _ _ ⟨hHeld.1, hHeld.2⟩ (fun hHeld => ?_)
                            clear hK K
                            refine norm_ (a' := ?_) ?_ ?_
                            rotate_left
                            · show Act.put _ (some 73) _ = _
                              simp only [Act.put, List.setIfInBounds_toArray, List.set_cons_zero, List.set_cons_succ, i64_w, i32_w]
                              rfl
                            refine pure_ (i := 12) (N := some 74) (v := ?_) (a' := ?_) #[true, true, true, true, true, true, true, true, true, true, true, true, true, false, false, false] rfl rfl (any_of HT_.out (by kernel_rfl)) (fun _ _ _ h => h) (Or.inl ⟨by rfl, ?_⟩) ?_ ?_
                            rotate_left
                            · intro w'
                              go_simp
                              with_reducible rfl
                            rotate_left
                            · simp only [Act.put, List.setIfInBounds_toArray, List.set_cons_zero, List.set_cons_succ, i64_w, i32_w]
                              rfl
                            refine pure_ (i := 13) (N := some 75) (v := ?_) (a' := ?_) #[true, true, true, true, true, true, true, true, true, true, true, true, true, true, false, false] rfl rfl (any_of HT_.out (by kernel_rfl)) (fun _ _ _ h => h) (Or.inl ⟨by rfl, ?_⟩) ?_ ?_
                            rotate_left
                            · intro w'
                              go_simp
                              with_reducible rfl
                            rotate_left
                            · simp only [Act.put, List.setIfInBounds_toArray, List.set_cons_zero, List.set_cons_succ, i64_w, i32_w]
                              rfl
                            refine pure_ (i := 14) (N := some 2) (v := ?_) (a' := ?_) #[true, true, true, true, true, true, true, true, true, true, true, true, true, true, true, false] rfl rfl (any_of HT_.out (by kernel_rfl)) (fun _ _ _ h => h) (Or.inl ⟨by rfl, ?_⟩) ?_ ?_
                            rotate_left
                            · intro w'
                              go_simp
                              with_reducible rfl
                            rotate_left
                            · simp only [Act.put, List.setIfInBounds_toArray, List.set_cons_zero, List.set_cons_succ, i64_w, i32_w]
                              rfl
                            refine pure_ (i := 15) (N := some 3) (v := ?_) (a' := ?_) #[true, true, true, true, true, true, true, true, true, true, true, true, true, true, true, true] rfl rfl (any_of HT_.out (by kernel_rfl)) (fun _ _ _ h => h) (Or.inl ⟨by rfl, ?_⟩) ?_ ?_
                            rotate_left
                            · intro w'
                              go_simp
                              with_reducible rfl
                            rotate_left
                            · simp only [Act.put, List.setIfInBounds_toArray, List.set_cons_zero, List.set_cons_succ, i64_w, i32_w]
                              rfl
                            refine done_ (done_of HT_.out (by kernel_rfl)) ?_
                            try go_wp2
                            go_ret2
                            exact ⟨by first | rfl | (simp [errW_none, errW_some] <;> rfl) | (simp only [← hji22]; first | rfl | (simp [errW_none, errW_some] <;> rfl)) | (simp [*, errW_none, errW_some] <;> rfl), by repeat (first | (with_reducible first | exact HB.out | apply below_alloc | apply pw_below_drewN | apply below_drew1) | exact HB.out)⟩
                          · rw [if_neg c40] at H
                            exact absurd H (by simp)
                        · rw [if_neg c38] at H
                          exact absurd H (by simp)
                      · replace c37 := Bool.eq_false_iff.mpr c37
                        subst c37
                        have H1 : (some (0, 5)) = some (r1, r2) := by rw [if_neg (show ¬ (false = true) by decide)] at H; exact H
                        clear H
                        have H := H1
                        clear H1
                        simp only [Option.some.injEq, Prod.mk.injEq] at H
                        obtain ⟨rfl, rfl⟩ := H
                        have p200 : 0 ≤ (4 : Int) := (by omega)
                        have q200 : 4 < (x4_12.length : Int) := of_decide_eq_true (by first | (with_reducible assumption) | assumption)
                        obtain ⟨ad200, e200, hx200_0⟩ := Kd.at_string (Kd.Q_reads' HO_4.out).2.2 4 p200 q200
                        obtain rfl : ad192 = ad200 := (by injection e200)
                        (try simp only [show (4 : Int).toNat = 4 from rfl, Nat.reduceMul, Nat.reduceEqDiff, Go.Addr.add, ↓reduceIte] at hx200_0)
                        have qi200 : (4 < x4_12.length) = True := eq_true (by omega)
                        (try rw [show ((4 : Int)).toNat = 4 from rfl] at hx200_0)
                        replace p200 := eq_true p200
                        replace q200 := eq_true q200
                        go_wp2_with (first | ((with_reducible refine gate_callee (f := 35) rfl ?_); refine goesL_ (some 57) rfl rfl Tryz.func35 (by kernel_rfl) rfl #[.string (rdOf ByteArray.empty x4_12 4)] rfl (by (try simp only [List.map_toArray, List.map_cons, List.map_nil]); first | done | rfl | (simp only [List.length_drop, List.length_take]; rfl)) ?_; (with_reducible refine (date_named.calls kj25 (rdOf ByteArray.empty x4_12 4) t201 false _ ?side1 A36.out).mono ?_); (case side1 => exact LW.below HLW.out (by repeat (first | (with_reducible first | exact HB.out | apply below_alloc | apply pw_below_drewN | apply below_drew1) | exact HB.out))); rintro e w47 ⟨rfl, hb⟩; refine ⟨_, rfl, ?_⟩; have n0_ := Aside0.mk (Kd.Q_below (by (with_reducible repeat (first | apply Kd.Q_alloc | apply Kd.Q_drewN | apply Kd.Q_drew)); exact HO_4.out) hb); have n1_ := Aside0.mk (below_step (by repeat (first | (with_reducible first | exact HB.out | apply below_alloc | apply pw_below_drewN | apply below_drew1) | exact HB.out)) hb); clear HO_4; clear HB; have HO_4 := n0_; have HB := n1_; clear n0_ n1_; (try clear hb); (try clear hb2); (try clear hk); (try clear hi)))
                        go_ret2
                        exact ⟨by first | rfl | (simp [errW_none, errW_some] <;> rfl) | (simp only [← hji22]; first | rfl | (simp [errW_none, errW_some] <;> rfl)) | (simp [*, errW_none, errW_some] <;> rfl), by repeat (first | (with_reducible first | exact HB.out | apply below_alloc | apply pw_below_drewN | apply below_drew1) | exact HB.out)⟩
                    · rw [if_neg c35] at H
                      exact absurd H (by simp)
              · rw [if_neg c23] at H
                exact absurd H (by simp)
            · rw [if_neg c19] at H
              exact absurd H (by simp)
          · rw [if_neg c18] at H
            have c18b0 : ((x4_12.length : Int) == 5) = false := beq_eq_false_iff_ne.mpr c18
            have c18b1 : ((x4_12.length : Int) != 5) = true := bne_iff_ne.mpr c18
            simp only [Option.some.injEq, Prod.mk.injEq] at H
            obtain ⟨rfl, rfl⟩ := H
            obtain ⟨Ao48, co48, eo48, _⟩ := Kd.Q_slice HO_4.out
            subst eo48
            go_wp2
            go_ret2
            exact ⟨by first | rfl | (simp [errW_none, errW_some] <;> rfl) | (simp [*, errW_none, errW_some] <;> rfl), by repeat (first | (with_reducible first | exact HB.out | apply below_alloc | apply pw_below_drewN | apply below_drew1) | exact HB.out)⟩

end Go.Proofs.YtlbgphddhjnlcaaGreatDoor.P
