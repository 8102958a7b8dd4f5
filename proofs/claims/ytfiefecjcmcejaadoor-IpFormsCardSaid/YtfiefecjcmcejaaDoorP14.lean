-- Written by a program of this session (wip/gen/lprint.py over the kit's print.py) out of the translation. Lean checks it.
import Derived.Test.YtfiefecjcmcejaaDoorP0
import Derived.Test.YtfiefecjcmcejaaDoorP1
import Derived.Test.YtfiefecjcmcejaaDoorP5
import Derived.Test.YtfiefecjcmcejaaDoorP7
import Derived.Test.YtfiefecjcmcejaaDoorP11
import Derived.Test.YtfiefecjcmcejaaDoorP13
namespace Go.Proofs.YtfiefecjcmcejaaDoor.P
open Go.Proofs.YtfiefecjcmcejaaDoor.E Go.Proofs.YtfiefecjcmcejaaDoorV
open Go.RowKit Go.Proofs.YtfiefecjcmcejaaDoorW.PrintWords Go.Proofs.YtfiefecjcmcejaaDoorW.PrintLast Go.Proofs.YtfiefecjcmcejaaDoorW.PrintMore
attribute [local go_sem] max2_int min2_int max_two min_two max_three min_three max_four min_four   -- for this text's walks alone
set_option linter.unusedVariables false
set_option linter.unusedSimpArgs false

attribute [local go_sem high] eqA25
def lanternlaw05_IpPrints.f (k : Nat) (a0_0 : Bool) (a0_1 : Int) (a0_2 : Int) (a0_3 : Int) (a0_4 : Int) (a0_5 : Int) (a0_6 : Int) (a0_7 : Int) (a0_8 : Int) (a0_9 : Int) (a0_10 : Int) (a0_11 : Int) (a0_12 : Int) (a0_13 : Int) (a0_14 : Int) (a0_15 : Int) (a0_16 : Int) : Option (Bool) := (ip_Print.f k a0_0 a0_1 a0_2 a0_3 a0_4 a0_5 a0_6 a0_7 a0_8 a0_9 a0_10 a0_11 a0_12 a0_13 a0_14 a0_15 a0_16).bind fun bt459 => ((lanternref05_May.f k a0_0 a0_1 a0_2 a0_3 a0_4 a0_5 a0_6 a0_7 a0_8 a0_9 a0_10 a0_11 a0_12 a0_13 a0_14 a0_15 a0_16).bind fun t461 => (if t461 = true then ((ip_Parse.f k bt459.1).bind fun bt464 => ((ip_Check.f a0_0 a0_1 a0_2 a0_3 a0_4 a0_5 a0_6 a0_7 a0_8 a0_9 a0_10 a0_11 a0_12 a0_13 a0_14 a0_15 a0_16).bind fun t483 => (if t483 = 0 then (if bt459.2 = 0 then ((lanternref05_Print.f k a0_0 a0_1 a0_2 a0_3 a0_4 a0_5 a0_6 a0_7 a0_8 a0_9 a0_10 a0_11 a0_12 a0_13 a0_14 a0_15 a0_16).bind fun t484 => (if bt459.1.toList = t484.toList then (if bt464.2.2.2.2.2.2.2.2.2.2.2.2.2.2.2.2.2 = 0 then (if (bt464.1 == a0_0 && ((bt464.2.1 == a0_1 && (bt464.2.2.1 == a0_2 && (bt464.2.2.2.1 == a0_3 && (bt464.2.2.2.2.1 == a0_4 && (bt464.2.2.2.2.2.1 == a0_5 && (bt464.2.2.2.2.2.2.1 == a0_6 && (bt464.2.2.2.2.2.2.2.1 == a0_7 && (bt464.2.2.2.2.2.2.2.2.1 == a0_8 && (bt464.2.2.2.2.2.2.2.2.2.1 == a0_9 && (bt464.2.2.2.2.2.2.2.2.2.2.1 == a0_10 && (bt464.2.2.2.2.2.2.2.2.2.2.2.1 == a0_11 && (bt464.2.2.2.2.2.2.2.2.2.2.2.2.1 == a0_12 && (bt464.2.2.2.2.2.2.2.2.2.2.2.2.2.1 == a0_13 && (bt464.2.2.2.2.2.2.2.2.2.2.2.2.2.2.1 == a0_14 && (bt464.2.2.2.2.2.2.2.2.2.2.2.2.2.2.2.1 == a0_15 && (bt464.2.2.2.2.2.2.2.2.2.2.2.2.2.2.2.2.1 == a0_16)))))))))))))))))) = true then ((lanternlaw05_awake.f k).bind fun t485 => (some t485)) else (some false)) else (some false)) else (some false))) else (some false)) else (some false)))) else ((ip_Check.f a0_0 a0_1 a0_2 a0_3 a0_4 a0_5 a0_6 a0_7 a0_8 a0_9 a0_10 a0_11 a0_12 a0_13 a0_14 a0_15 a0_16).bind fun t462 => (if t462 = 1 then (if bt459.2 = 1 then (if bt459.1.toList = ([] : List UInt8) then ((lanternlaw05_awake.f k).bind fun t463 => (some t463)) else (some false)) else (some false)) else (some false)))))
theorem lanternlaw05_IpPrints.mono : ∀ a0 a1 a2 a3 a4 a5 a6 a7 a8 a9 a10 a11 a12 a13 a14 a15 a16 k, LeO (lanternlaw05_IpPrints.f k a0 a1 a2 a3 a4 a5 a6 a7 a8 a9 a10 a11 a12 a13 a14 a15 a16) (lanternlaw05_IpPrints.f (k + 1) a0 a1 a2 a3 a4 a5 a6 a7 a8 a9 a10 a11 a12 a13 a14 a15 a16) := by
 intro a0 a1 a2 a3 a4 a5 a6 a7 a8 a9 a10 a11 a12 a13 a14 a15 a16 k
 unfold lanternlaw05_IpPrints.f
 repeat' first
   | (with_reducible exact ip_Parse.mono _ _)
   | (with_reducible exact ip_Print.mono _ _ _ _ _ _ _ _ _ _ _ _ _ _ _ _ _ _)
   | (with_reducible exact lanternlaw05_awake.mono _)
   | (with_reducible exact lanternref05_May.mono _ _ _ _ _ _ _ _ _ _ _ _ _ _ _ _ _ _)
   | (with_reducible exact lanternref05_Print.mono _ _ _ _ _ _ _ _ _ _ _ _ _ _ _ _ _ _)
   | (with_reducible exact LeO.refl _)
   | (with_reducible exact LeO.none _)
   | (with_reducible refine LeO.ite ?_ ?_)
   | (with_reducible refine LeO.bind ?_ (fun _ => ?_))
   | exact ip_Parse.mono _ _
   | exact ip_Print.mono _ _ _ _ _ _ _ _ _ _ _ _ _ _ _ _ _ _
   | exact lanternlaw05_awake.mono _
   | exact lanternref05_May.mono _ _ _ _ _ _ _ _ _ _ _ _ _ _ _ _ _ _
   | exact lanternref05_Print.mono _ _ _ _ _ _ _ _ _ _ _ _ _ _ _ _ _ _
   | exact LeO.none _
   | refine LeO.ite ?_ ?_
   | refine LeO.bind ?_ (fun _ => ?_)
mutual
def lanternlaw05_form.j0 : Nat → Int → Int → Int → ByteArray → Option (ByteArray)
 | 0, _, _, _, _ => none
 | k + 1, x0, x1, x5, x6 => if (Int.tmod x1 3) = 2 then (lanternlaw05_form.j1 k x0 16 x6) else (lanternlaw05_form.j1 k x0 x5 x6)
def lanternlaw05_form.j1 : Nat → Int → Int → ByteArray → Option (ByteArray)
 | 0, _, _, _ => none
 | k + 1, x0, x5, x6 => lanternlaw05_form.l0 k x5 x6 x0
def lanternlaw05_form.l0 : Nat → Int → ByteArray → Int → Option (ByteArray)
 | 0, _, _, _ => none
 | k + 1, x5, x6, x7 => if x7 > 0 then (if x5 = 0 then (none) else (if 0 ≤ (Int.tmod x7 x5) then (if (Int.tmod x7 x5) ≤ (IntKind.u64.wrap ((Int.tmod x7 x5) + 1)) then (if (IntKind.u64.wrap ((Int.tmod x7 x5) + 1)) ≤ 16 then (if ((⟨#[48, 49, 50, 51, 52, 53, 54, 55, 56, 57, 97, 98, 99, 100, 101, 102]⟩ : ByteArray).extract ((Int.tmod x7 x5) : Int).toNat ((IntKind.u64.wrap ((Int.tmod x7 x5) + 1)) : Int).toNat).size + x6.size ≤ 9223372036854775807 then (lanternlaw05_form.l0 k x5 (((⟨#[48, 49, 50, 51, 52, 53, 54, 55, 56, 57, 97, 98, 99, 100, 101, 102]⟩ : ByteArray).extract ((Int.tmod x7 x5) : Int).toNat ((IntKind.u64.wrap ((Int.tmod x7 x5) + 1)) : Int).toNat) ++ x6) (IntKind.u64.wrap (Int.tdiv x7 x5))) else (none)) else (none)) else (none)) else (none))) else (if x6.toList = ([] : List UInt8) then (if x5 = 0 then (none) else (if 0 ≤ (Int.tmod x7 x5) then (if (Int.tmod x7 x5) ≤ (IntKind.u64.wrap ((Int.tmod x7 x5) + 1)) then (if (IntKind.u64.wrap ((Int.tmod x7 x5) + 1)) ≤ 16 then (if ((⟨#[48, 49, 50, 51, 52, 53, 54, 55, 56, 57, 97, 98, 99, 100, 101, 102]⟩ : ByteArray).extract ((Int.tmod x7 x5) : Int).toNat ((IntKind.u64.wrap ((Int.tmod x7 x5) + 1)) : Int).toNat).size + x6.size ≤ 9223372036854775807 then (lanternlaw05_form.l0 k x5 (((⟨#[48, 49, 50, 51, 52, 53, 54, 55, 56, 57, 97, 98, 99, 100, 101, 102]⟩ : ByteArray).extract ((Int.tmod x7 x5) : Int).toNat ((IntKind.u64.wrap ((Int.tmod x7 x5) + 1)) : Int).toNat) ++ x6) (IntKind.u64.wrap (Int.tdiv x7 x5))) else (none)) else (none)) else (none)) else (none))) else (if x5 = 8 then (if 1 + x6.size ≤ 9223372036854775807 then (some ((⟨#[48]⟩ : ByteArray) ++ x6)) else (none)) else (if x5 = 16 then (if 2 + x6.size ≤ 9223372036854775807 then (some ((⟨#[48, 120]⟩ : ByteArray) ++ x6)) else (none)) else (some x6))))
end
def lanternlaw05_form.f (k : Nat) (a0 : Int) (a1 : Int) : Option (ByteArray) := if (Int.tmod a1 3) = 1 then (lanternlaw05_form.j0 k a0 a1 8 (⟨#[]⟩ : ByteArray)) else (lanternlaw05_form.j0 k a0 a1 10 (⟨#[]⟩ : ByteArray))
theorem lanternlaw05_form.mono_l : ∀ k, (∀ y0 y1 y2 y3, LeO (lanternlaw05_form.j0 k y0 y1 y2 y3) (lanternlaw05_form.j0 (k + 1) y0 y1 y2 y3)) ∧ (∀ y0 y1 y2, LeO (lanternlaw05_form.j1 k y0 y1 y2) (lanternlaw05_form.j1 (k + 1) y0 y1 y2)) ∧ (∀ y0 y1 y2, LeO (lanternlaw05_form.l0 k y0 y1 y2) (lanternlaw05_form.l0 (k + 1) y0 y1 y2))
 | 0 => ⟨fun _ _ _ _ r h => by simp [lanternlaw05_form.j0] at h, fun _ _ _ r h => by simp [lanternlaw05_form.j1] at h, fun _ _ _ r h => by simp [lanternlaw05_form.l0] at h⟩
 | k + 1 => by
  obtain ⟨ih0, ih1, ih2⟩ := lanternlaw05_form.mono_l k
  refine ⟨?_, ?_, ?_⟩
  ·intro y0 y1 y2 y3
   unfold lanternlaw05_form.j0
   repeat' first
   | (with_reducible exact ih0 _ _ _ _)
   | (with_reducible exact ih1 _ _ _)
   | (with_reducible exact ih2 _ _ _)
   | (with_reducible exact LeO.refl _)
   | (with_reducible exact LeO.none _)
   | (with_reducible refine LeO.ite ?_ ?_)
   | (with_reducible refine LeO.bind ?_ (fun _ => ?_))
   | exact ih0 _ _ _ _
   | exact ih1 _ _ _
   | exact ih2 _ _ _
   | exact LeO.none _
   | refine LeO.ite ?_ ?_
   | refine LeO.bind ?_ (fun _ => ?_)
  ·intro y0 y1 y2
   unfold lanternlaw05_form.j1
   repeat' first
   | (with_reducible exact ih0 _ _ _ _)
   | (with_reducible exact ih1 _ _ _)
   | (with_reducible exact ih2 _ _ _)
   | (with_reducible exact LeO.refl _)
   | (with_reducible exact LeO.none _)
   | (with_reducible refine LeO.ite ?_ ?_)
   | (with_reducible refine LeO.bind ?_ (fun _ => ?_))
   | exact ih0 _ _ _ _
   | exact ih1 _ _ _
   | exact ih2 _ _ _
   | exact LeO.none _
   | refine LeO.ite ?_ ?_
   | refine LeO.bind ?_ (fun _ => ?_)
  ·intro y0 y1 y2
   unfold lanternlaw05_form.l0
   repeat' first
   | (with_reducible exact ih0 _ _ _ _)
   | (with_reducible exact ih1 _ _ _)
   | (with_reducible exact ih2 _ _ _)
   | (with_reducible exact LeO.refl _)
   | (with_reducible exact LeO.none _)
   | (with_reducible refine LeO.ite ?_ ?_)
   | (with_reducible refine LeO.bind ?_ (fun _ => ?_))
   | exact ih0 _ _ _ _
   | exact ih1 _ _ _
   | exact ih2 _ _ _
   | exact LeO.none _
   | refine LeO.ite ?_ ?_
   | refine LeO.bind ?_ (fun _ => ?_)
theorem lanternlaw05_form.mono : ∀ a0 a1 k, LeO (lanternlaw05_form.f k a0 a1) (lanternlaw05_form.f (k + 1) a0 a1) := by
 intro a0 a1 k
 obtain ⟨ih0, ih1, ih2⟩ := lanternlaw05_form.mono_l k
 unfold lanternlaw05_form.f
 repeat' first
   | (with_reducible exact ih0 _ _ _ _)
   | (with_reducible exact ih1 _ _ _)
   | (with_reducible exact ih2 _ _ _)
   | (with_reducible exact LeO.refl _)
   | (with_reducible exact LeO.none _)
   | (with_reducible refine LeO.ite ?_ ?_)
   | (with_reducible refine LeO.bind ?_ (fun _ => ?_))
   | exact ih0 _ _ _ _
   | exact ih1 _ _ _
   | exact ih2 _ _ _
   | exact LeO.none _
   | refine LeO.ite ?_ ?_
   | refine LeO.bind ?_ (fun _ => ?_)
set_option maxHeartbeats 8000000 in
set_option maxRecDepth 100000 in
theorem lanternlaw05_form.calls (k : Nat) (a0 : Int) (a1 : Int) (r : ByteArray) (w : World) (hLW : LW w) (h : lanternlaw05_form.f k a0 a1 = some r) :
  Calls Tryd.prog 15 #[.int .u64 a0, .int .u8 a1] w fun e w' => e = .returned (.string r) ∧ Drawn0 w w' := by
 have HLW := Aside0.mk hLW
 clear hLW
 have H : (if (Int.tmod a1 3) = 1 then (lanternlaw05_form.j0 k a0 a1 8 (⟨#[]⟩ : ByteArray)) else (lanternlaw05_form.j0 k a0 a1 10 (⟨#[]⟩ : ByteArray))) = some r := h
 clear h
 have HC3 := Aside0.mk H
 clear H
 go_enter Tryd.func15, Tryd.ntmps15
 go_upto_if 10 with (fail)
 repeat (go_quiet (fail); go_upto_if 10 with (fail))
 go_cut [5] (fun v5 wc => ∃ (kq : Nat) (x5_2 : Int), v5 = .int .u64 x5_2 ∧ Aside0 (lanternlaw05_form.j0 kq a0 a1 x5_2 (⟨#[]⟩ : ByteArray) = some r) ∧ Aside0 (kq ≤ k) ∧ Drawn0 w wc)
 case first =>
  have H := HC3.out
  clear HC3
  by_cases c4 : (Int.tmod a1 3) = 1
  ·rw [if_pos c4] at H
   have c4b0 : ((Int.tmod a1 3) == 1) = true := beq_iff_eq.mpr c4
   have c4b1 : ((Int.tmod a1 3) != 1) = false := bne_eq_false_iff_eq.mpr c4
   clear c4
   (first | rw [c4b0] | (simp only [i64_w, i32_w]; rw [c4b0]) | skip)
   have H' := Aside0.mk H
   clear H
   go_wp2
   repeat (go_quiet (fail); try go_wp2)
   go_meet
   case rel => exact ⟨_, (8), (by first | rfl | (simp; done) | (simp [*]; done) | (simp; exact isEmpty_bne _) | (simp; exact isEmpty_beq _)), H', ⟨by first | omega | exact Nat.le_refl _⟩, by repeat (first | exact Drawn0.refl _ | apply Drawn0.step)⟩
  ·rw [if_neg c4] at H
   have c4b0 : ((Int.tmod a1 3) == 1) = false := beq_eq_false_iff_ne.mpr c4
   have c4b1 : ((Int.tmod a1 3) != 1) = true := bne_iff_ne.mpr c4
   (first | rw [c4b0] | (simp only [i64_w, i32_w]; rw [c4b0]) | skip)
   have H' := Aside0.mk H
   clear H
   go_wp2
   repeat (go_quiet (fail); try go_wp2)
   go_meet
   case rel => exact ⟨_, (10), (by first | rfl | (simp; done) | (simp [*]; done) | (simp; exact isEmpty_bne _) | (simp; exact isEmpty_beq _)), H', ⟨by first | omega | exact Nat.le_refl _⟩, by repeat (first | exact Drawn0.refl _ | apply Drawn0.step)⟩
 case rest =>
  clear HC3
  try clear c1
  try clear p2
  try clear c4
  try clear c4b0
  try clear c4b1
  obtain ⟨kq, x5_2, rfl, HA, HJ2, ⟨mc2, rfl⟩⟩ := hcut
  cases kq with
  | zero => exact absurd HA.out (by simp [lanternlaw05_form.j0])
  | succ kj2 =>
   have H := HA.out
   clear HA
   simp only [lanternlaw05_form.j0] at H
   have HC5 := Aside0.mk H
   clear H
   go_upto_if 13 with (fail)
   repeat (go_quiet (fail); go_upto_if 13 with (fail))
   go_cut [5] (fun v5 wc => ∃ (kq : Nat) (x5_4 : Int), v5 = .int .u64 x5_4 ∧ Aside0 (lanternlaw05_form.j1 kq a0 x5_4 (⟨#[]⟩ : ByteArray) = some r) ∧ Aside0 (kq ≤ kj2) ∧ Drawn0 w wc)
   case first =>
    have H := HC5.out
    clear HC5
    by_cases c6 : (Int.tmod a1 3) = 2
    ·rw [if_pos c6] at H
     have c6b0 : ((Int.tmod a1 3) == 2) = true := beq_iff_eq.mpr c6
     have c6b1 : ((Int.tmod a1 3) != 2) = false := bne_eq_false_iff_eq.mpr c6
     clear c6
     (first | rw [c6b0] | (simp only [i64_w, i32_w]; rw [c6b0]) | skip)
     have H' := Aside0.mk H
     clear H
     go_wp2
     repeat (go_quiet (fail); try go_wp2)
     go_meet
     case rel => exact ⟨_, (16), (by first | rfl | (simp; done) | (simp [*]; done) | (simp; exact isEmpty_bne _) | (simp; exact isEmpty_beq _)), H', ⟨by have := HJ2.out; first | omega | exact Nat.le_refl _⟩, by repeat (first | exact Drawn0.refl _ | apply Drawn0.step)⟩
    ·rw [if_neg c6] at H
     have c6b0 : ((Int.tmod a1 3) == 2) = false := beq_eq_false_iff_ne.mpr c6
     have c6b1 : ((Int.tmod a1 3) != 2) = true := bne_iff_ne.mpr c6
     (first | rw [c6b0] | (simp only [i64_w, i32_w]; rw [c6b0]) | skip)
     have H' := Aside0.mk H
     clear H
     go_wp2
     repeat (go_quiet (fail); try go_wp2)
     go_meet
     case rel => exact ⟨_, (x5_2), (by first | rfl | (simp; done) | (simp [*]; done) | (simp; exact isEmpty_bne _) | (simp; exact isEmpty_beq _)), H', ⟨by have := HJ2.out; first | omega | exact Nat.le_refl _⟩, by repeat (first | exact Drawn0.refl _ | apply Drawn0.step)⟩
   case rest =>
    clear HC5
    try clear c1
    try clear c2
    try clear p2
    try clear c4
    try clear c4b0
    try clear c4b1
    try clear c6
    try clear c6b0
    try clear c6b1
    try clear p2
    obtain ⟨kq, x5_4, rfl, HA, HJ4, ⟨mc4, rfl⟩⟩ := hcut
    cases kq with
    | zero => exact absurd HA.out (by simp [lanternlaw05_form.j1])
    | succ kj4 =>
     have H := HA.out
     clear HA
     simp only [lanternlaw05_form.j1] at H
     have H' := Aside0.mk H
     clear H
     go_wp2
     repeat (go_quiet (fail); try go_wp2)
     go_loopg [6, 7] kj4 (fun kq v6 v7 w' => ∃ (x6_3 : ByteArray) (x7_3 : Int), v6 = .string x6_3 ∧ v7 = .int .u64 x7_3 ∧ Aside0 (lanternlaw05_form.l0 kq x5_4 x6_3 x7_3 = some r) ∧ Aside0 (kq ≤ kj4) ∧ Drawn0 w w')
     case atStart => exact ⟨((⟨#[]⟩ : ByteArray)), (a0), (by first | rfl | (simp; done) | (simp [*]; done) | (simp; exact isEmpty_bne _) | (simp; exact isEmpty_beq _)), (by first | rfl | (simp; done) | (simp [*]; done) | (simp; exact isEmpty_bne _) | (simp; exact isEmpty_beq _)), H', ⟨Nat.le_refl _⟩, by repeat (first | exact Drawn0.refl _ | apply Drawn0.step)⟩
     case round =>
      clear H'
      try clear c1
      try clear c2
      try clear p2
      try clear c4
      try clear c4b0
      try clear c4b1
      try clear c6
      try clear c6b0
      try clear c6b1
      try clear p2
      obtain ⟨x6_3, x7_3, rfl, rfl, HA, HK3, ⟨m3, rfl⟩⟩ := hrel
      cases gk with
      | zero => exact absurd HA.out (by simp [lanternlaw05_form.l0])
      | succ k3 =>
       have H := HA.out
       clear HA
       simp only [lanternlaw05_form.l0] at H
       by_cases c7 : x7_3 > 0
       ·rw [if_pos c7] at H
        have c7b0 : decide (0 < x7_3) = true := decide_eq_true c7
        clear c7
        by_cases c8 : x5_4 = 0
        ·rw [if_pos c8] at H
         exact absurd H (by simp)
        ·rw [if_neg c8] at H
         have c8b0 : (x5_4 == 0) = false := beq_eq_false_iff_ne.mpr c8
         have c8b1 : (x5_4 != 0) = true := bne_iff_ne.mpr c8
         obtain ⟨ji9, hji9⟩ : ∃ j_ : Int, (Int.tmod x7_3 x5_4) = j_ := ⟨_, rfl⟩
         replace H : (if 0 ≤ (ji9) then (if (ji9) ≤ (IntKind.u64.wrap ((ji9) + 1)) then (if (IntKind.u64.wrap ((ji9) + 1)) ≤ 16 then (if ((⟨#[48, 49, 50, 51, 52, 53, 54, 55, 56, 57, 97, 98, 99, 100, 101, 102]⟩ : ByteArray).extract ((ji9) : Int).toNat ((IntKind.u64.wrap ((ji9) + 1)) : Int).toNat).size + x6_3.size ≤ 9223372036854775807 then (lanternlaw05_form.l0 k3 x5_4 (((⟨#[48, 49, 50, 51, 52, 53, 54, 55, 56, 57, 97, 98, 99, 100, 101, 102]⟩ : ByteArray).extract ((ji9) : Int).toNat ((IntKind.u64.wrap ((ji9) + 1)) : Int).toNat) ++ x6_3) (IntKind.u64.wrap (Int.tdiv x7_3 x5_4))) else (none)) else (none)) else (none)) else (none)) = some r := by first | (rw [hji9] at H; exact H) | (simp only [hji9] at H ⊢; exact H)
         by_cases c10 : 0 ≤ (ji9)
         ·rw [if_pos c10] at H
          have c10b0 := eq_true c10
          have c10b1 : decide (0 ≤ (ji9)) = true := decide_eq_true c10
          clear c10
          by_cases c11 : (ji9) ≤ (IntKind.u64.wrap ((ji9) + 1))
          ·rw [if_pos c11] at H
           have c11b0 := eq_true c11
           have c11b1 : decide ((ji9) ≤ (IntKind.u64.wrap ((ji9) + 1))) = true := decide_eq_true c11
           by_cases c12 : (IntKind.u64.wrap ((ji9) + 1)) ≤ 16
           ·rw [if_pos c12] at H
            have c12b0 := eq_true c12
            have c12b1 : decide ((IntKind.u64.wrap ((ji9) + 1)) ≤ 16) = true := decide_eq_true c12
            by_cases c13 : ((⟨#[48, 49, 50, 51, 52, 53, 54, 55, 56, 57, 97, 98, 99, 100, 101, 102]⟩ : ByteArray).extract ((ji9) : Int).toNat ((IntKind.u64.wrap ((ji9) + 1)) : Int).toNat).size + x6_3.size ≤ 9223372036854775807
            ·rw [if_pos c13] at H
             have c13b0 := eq_true c13
             have c13b1 : decide (((⟨#[48, 49, 50, 51, 52, 53, 54, 55, 56, 57, 97, 98, 99, 100, 101, 102]⟩ : ByteArray).extract ((ji9) : Int).toNat ((IntKind.u64.wrap ((ji9) + 1)) : Int).toNat).size + x6_3.size ≤ 9223372036854775807) = true := decide_eq_true c13
             try have c13b2 : (9223372036854775807 < ((⟨#[48, 49, 50, 51, 52, 53, 54, 55, 56, 57, 97, 98, 99, 100, 101, 102]⟩ : ByteArray).extract ((ji9) : Int).toNat ((IntKind.u64.wrap ((ji9) + 1)) : Int).toNat).size + x6_3.size) = False := eq_false (Nat.not_lt.2 c13)
             try have c13b8 : (9223372036854775807 < 16 + ji9.size + u64.size + ji9.size + x6_3.size) = False := eq_false (by have hq := of_eq_true c13b0; simp only [ByteArray.size_append, ByteArray.size_extract] at hq; have hz0 : (⟨#[48, 49, 50, 51, 52, 53, 54, 55, 56, 57, 97, 98, 99, 100, 101, 102]⟩ : ByteArray).size = 16 := rfl; omega)
             have H' := Aside0.mk H
             clear H
             go_wp2
             repeat (go_quiet (fail); try go_wp2)
             go_roundg k3
             case measure => have := HJ2.out; have := HJ4.out; have := HK3.out; omega
             case rel => exact ⟨(((⟨#[48, 49, 50, 51, 52, 53, 54, 55, 56, 57, 97, 98, 99, 100, 101, 102]⟩ : ByteArray).extract ((ji9) : Int).toNat ((IntKind.u64.wrap ((ji9) + 1)) : Int).toNat) ++ x6_3), (IntKind.u64.wrap (Int.tdiv x7_3 x5_4)), (by first | rfl | (simp; done) | (simp only [← hji9] <;> (first | rfl | simp)) | (simp [*]; done)), (by first | rfl | (simp; done) | (simp [*]; done) | (simp; exact isEmpty_bne _) | (simp; exact isEmpty_beq _)), H', ⟨by have := HJ2.out; have := HJ4.out; have := HK3.out; omega⟩, by repeat (first | exact Drawn0.refl _ | apply Drawn0.step)⟩
            ·rw [if_neg c13] at H
             exact absurd H (by simp)
           ·rw [if_neg c12] at H
            exact absurd H (by simp)
          ·rw [if_neg c11] at H
           exact absurd H (by simp)
         ·rw [if_neg c10] at H
          exact absurd H (by simp)
       ·rw [if_neg c7] at H
        have c7b0 : decide (0 < x7_3) = false := decide_eq_false c7
        clear c7
        by_cases c14 : x6_3.toList = ([] : List UInt8)
        ·rw [if_pos c14] at H
         have c14b0 : (x6_3.toList == ([] : List UInt8)) = true := beq_iff_eq.mpr c14
         have c14b1 : (x6_3.toList != ([] : List UInt8)) = false := bne_eq_false_iff_eq.mpr c14
         clear c14
         by_cases c15 : x5_4 = 0
         ·rw [if_pos c15] at H
          exact absurd H (by simp)
         ·rw [if_neg c15] at H
          have c15b0 : (x5_4 == 0) = false := beq_eq_false_iff_ne.mpr c15
          have c15b1 : (x5_4 != 0) = true := bne_iff_ne.mpr c15
          obtain ⟨ji16, hji16⟩ : ∃ j_ : Int, (Int.tmod x7_3 x5_4) = j_ := ⟨_, rfl⟩
          replace H : (if 0 ≤ (ji16) then (if (ji16) ≤ (IntKind.u64.wrap ((ji16) + 1)) then (if (IntKind.u64.wrap ((ji16) + 1)) ≤ 16 then (if ((⟨#[48, 49, 50, 51, 52, 53, 54, 55, 56, 57, 97, 98, 99, 100, 101, 102]⟩ : ByteArray).extract ((ji16) : Int).toNat ((IntKind.u64.wrap ((ji16) + 1)) : Int).toNat).size + x6_3.size ≤ 9223372036854775807 then (lanternlaw05_form.l0 k3 x5_4 (((⟨#[48, 49, 50, 51, 52, 53, 54, 55, 56, 57, 97, 98, 99, 100, 101, 102]⟩ : ByteArray).extract ((ji16) : Int).toNat ((IntKind.u64.wrap ((ji16) + 1)) : Int).toNat) ++ x6_3) (IntKind.u64.wrap (Int.tdiv x7_3 x5_4))) else (none)) else (none)) else (none)) else (none)) = some r := by first | (rw [hji16] at H; exact H) | (simp only [hji16] at H ⊢; exact H)
          by_cases c17 : 0 ≤ (ji16)
          ·rw [if_pos c17] at H
           have c17b0 := eq_true c17
           have c17b1 : decide (0 ≤ (ji16)) = true := decide_eq_true c17
           clear c17
           by_cases c18 : (ji16) ≤ (IntKind.u64.wrap ((ji16) + 1))
           ·rw [if_pos c18] at H
            have c18b0 := eq_true c18
            have c18b1 : decide ((ji16) ≤ (IntKind.u64.wrap ((ji16) + 1))) = true := decide_eq_true c18
            by_cases c19 : (IntKind.u64.wrap ((ji16) + 1)) ≤ 16
            ·rw [if_pos c19] at H
             have c19b0 := eq_true c19
             have c19b1 : decide ((IntKind.u64.wrap ((ji16) + 1)) ≤ 16) = true := decide_eq_true c19
             by_cases c20 : ((⟨#[48, 49, 50, 51, 52, 53, 54, 55, 56, 57, 97, 98, 99, 100, 101, 102]⟩ : ByteArray).extract ((ji16) : Int).toNat ((IntKind.u64.wrap ((ji16) + 1)) : Int).toNat).size + x6_3.size ≤ 9223372036854775807
             ·rw [if_pos c20] at H
              have c20b0 := eq_true c20
              have c20b1 : decide (((⟨#[48, 49, 50, 51, 52, 53, 54, 55, 56, 57, 97, 98, 99, 100, 101, 102]⟩ : ByteArray).extract ((ji16) : Int).toNat ((IntKind.u64.wrap ((ji16) + 1)) : Int).toNat).size + x6_3.size ≤ 9223372036854775807) = true := decide_eq_true c20
              try have c20b2 : (9223372036854775807 < ((⟨#[48, 49, 50, 51, 52, 53, 54, 55, 56, 57, 97, 98, 99, 100, 101, 102]⟩ : ByteArray).extract ((ji16) : Int).toNat ((IntKind.u64.wrap ((ji16) + 1)) : Int).toNat).size + x6_3.size) = False := eq_false (Nat.not_lt.2 c20)
              try have c20b8 : (9223372036854775807 < 16 + ji16.size + u64.size + ji16.size + x6_3.size) = False := eq_false (by have hq := of_eq_true c20b0; simp only [ByteArray.size_append, ByteArray.size_extract] at hq; have hz0 : (⟨#[48, 49, 50, 51, 52, 53, 54, 55, 56, 57, 97, 98, 99, 100, 101, 102]⟩ : ByteArray).size = 16 := rfl; omega)
              have H' := Aside0.mk H
              clear H
              go_wp2
              repeat (go_quiet (fail); try go_wp2)
              go_roundg k3
              case measure => have := HJ2.out; have := HJ4.out; have := HK3.out; omega
              case rel => exact ⟨(((⟨#[48, 49, 50, 51, 52, 53, 54, 55, 56, 57, 97, 98, 99, 100, 101, 102]⟩ : ByteArray).extract ((ji16) : Int).toNat ((IntKind.u64.wrap ((ji16) + 1)) : Int).toNat) ++ x6_3), (IntKind.u64.wrap (Int.tdiv x7_3 x5_4)), (by first | rfl | (simp; done) | (simp only [← hji16] <;> (first | rfl | simp)) | (simp [*]; done)), (by first | rfl | (simp; done) | (simp [*]; done) | (simp; exact isEmpty_bne _) | (simp; exact isEmpty_beq _)), H', ⟨by have := HJ2.out; have := HJ4.out; have := HK3.out; omega⟩, by repeat (first | exact Drawn0.refl _ | apply Drawn0.step)⟩
             ·rw [if_neg c20] at H
              exact absurd H (by simp)
            ·rw [if_neg c19] at H
             exact absurd H (by simp)
           ·rw [if_neg c18] at H
            exact absurd H (by simp)
          ·rw [if_neg c17] at H
           exact absurd H (by simp)
        ·rw [if_neg c14] at H
         have c14b0 : (x6_3.toList == ([] : List UInt8)) = false := beq_eq_false_iff_ne.mpr c14
         have c14b1 : (x6_3.toList != ([] : List UInt8)) = true := bne_iff_ne.mpr c14
         by_cases c21 : x5_4 = 8
         ·rw [if_pos c21] at H
          have c21b0 : (x5_4 == 8) = true := beq_iff_eq.mpr c21
          have c21b1 : (x5_4 != 8) = false := bne_eq_false_iff_eq.mpr c21
          clear c21
          by_cases c22 : 1 + x6_3.size ≤ 9223372036854775807
          ·rw [if_pos c22] at H
           have c22b0 := eq_true c22
           have c22b1 : decide (1 + x6_3.size ≤ 9223372036854775807) = true := decide_eq_true c22
           try have c22b2 : (9223372036854775807 < 1 + x6_3.size) = False := eq_false (Nat.not_lt.2 c22)
           obtain rfl := Option.some.inj H
           go_wp2
           repeat (go_quiet (fail); try go_wp2)
           go_ret
           exact ⟨by first | rfl | (simp; done) | (simp [*]; done) | (simp; exact isEmpty_bne _) | (simp; exact isEmpty_beq _), by repeat (first | exact Drawn0.refl _ | apply Drawn0.step)⟩
          ·rw [if_neg c22] at H
           exact absurd H (by simp)
         ·rw [if_neg c21] at H
          have c21b0 : (x5_4 == 8) = false := beq_eq_false_iff_ne.mpr c21
          have c21b1 : (x5_4 != 8) = true := bne_iff_ne.mpr c21
          by_cases c23 : x5_4 = 16
          ·rw [if_pos c23] at H
           have c23b0 : (x5_4 == 16) = true := beq_iff_eq.mpr c23
           have c23b1 : (x5_4 != 16) = false := bne_eq_false_iff_eq.mpr c23
           clear c23
           by_cases c24 : 2 + x6_3.size ≤ 9223372036854775807
           ·rw [if_pos c24] at H
            have c24b0 := eq_true c24
            have c24b1 : decide (2 + x6_3.size ≤ 9223372036854775807) = true := decide_eq_true c24
            try have c24b2 : (9223372036854775807 < 2 + x6_3.size) = False := eq_false (Nat.not_lt.2 c24)
            obtain rfl := Option.some.inj H
            go_wp2
            repeat (go_quiet (fail); try go_wp2)
            go_ret
            exact ⟨by first | rfl | (simp; done) | (simp [*]; done) | (simp; exact isEmpty_bne _) | (simp; exact isEmpty_beq _), by repeat (first | exact Drawn0.refl _ | apply Drawn0.step)⟩
           ·rw [if_neg c24] at H
            exact absurd H (by simp)
          ·rw [if_neg c23] at H
           have c23b0 : (x5_4 == 16) = false := beq_eq_false_iff_ne.mpr c23
           have c23b1 : (x5_4 != 16) = true := bne_iff_ne.mpr c23
           obtain rfl := Option.some.inj H
           go_wp2
           repeat (go_quiet (fail); try go_wp2)
           go_ret
           exact ⟨by first | rfl | (simp; done) | (simp [*]; done) | (simp; exact isEmpty_bne _) | (simp; exact isEmpty_beq _), by repeat (first | exact Drawn0.refl _ | apply Drawn0.step)⟩

end Go.Proofs.YtfiefecjcmcejaaDoor.P
