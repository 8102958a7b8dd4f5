-- Written by a program of this session (wip/gen/lprint.py over the kit's print.py) out of the translation. Lean checks it.
import Derived.Test.YtdopafhppaalfaaGreatDoorP0
import Derived.Test.YtdopafhppaalfaaGreatDoorP13
import Derived.Test.YtdopafhppaalfaaGreatDoorP14
import Derived.Test.YtdopafhppaalfaaGreatDoorZ
namespace Go.Proofs.YtdopafhppaalfaaGreatDoor.P
open Go.Proofs.YtdopafhppaalfaaGreatDoorZ
open Go.Proofs.YtdopafhppaalfaaGreatDoor.E Go.Proofs.YtdopafhppaalfaaGreatDoorV
open Go.RowKit Go.Proofs.YtdopafhppaalfaaGreatDoorW.PrintWords Go.Proofs.YtdopafhppaalfaaGreatDoorW.PrintLast Go.Proofs.YtdopafhppaalfaaGreatDoorW.PrintMore
attribute [local go_sem] max2_int min2_int max_two min_two max_three min_three max_four min_four   -- for this text's walks alone
set_option linter.unusedVariables false
set_option linter.unusedSimpArgs false

mutual
def lanternref05_Print.l0 : Nat → List Int → Int → Bool → Int → Int → Int → Int → Int → Int → Int → Int → Int → Int → Int → Int → Int → Int → Int → Int → Option (ByteArray)
 | 0, _, _, _, _, _, _, _, _, _, _, _, _, _, _, _, _, _, _, _ => none
 | k + 1, x3, x4, V0, V1, V2, V3, V4, V5, V6, V7, V8, V9, V10, V11, V12, V13, V14, V15, V16 => if x4 < 8 then (if 0 ≤ (wrap64 (2 * x4)) then (if (wrap64 (2 * x4)) < 16 then (if 0 ≤ (wrap64 ((wrap64 (2 * x4)) + 1)) then (if (wrap64 ((wrap64 (2 * x4)) + 1)) < 16 then (if x3.length < 17592186044416 then (lanternref05_Print.l0 k (x3 ++ [wrap64 ((wrap64 ((wrap64 (rd [V1, V2, V3, V4, V5, V6, V7, V8, V9, V10, V11, V12, V13, V14, V15, V16] (wrap64 (2 * x4)))) * 256)) + (wrap64 (rd [V1, V2, V3, V4, V5, V6, V7, V8, V9, V10, V11, V12, V13, V14, V15, V16] (wrap64 ((wrap64 (2 * x4)) + 1)))))]) (wrap64 (x4 + 1)) V0 V1 V2 V3 V4 V5 V6 V7 V8 V9 V10 V11 V12 V13 V14 V15 V16) else (none)) else (none)) else (none)) else (none)) else (none)) else (lanternref05_Print.l1 k x3 0 0 0)
def lanternref05_Print.l1 : Nat → List Int → Int → Int → Int → Option (ByteArray)
 | 0, _, _, _, _ => none
 | k + 1, x3, x5, x6, x7 => if x7 < 8 then (lanternref05_Print.l2 k x3 x5 x6 x7 8) else (lanternref05_Print.l4 k x3 x5 x6 (⟨#[]⟩ : ByteArray) 0)
def lanternref05_Print.l2 : Nat → List Int → Int → Int → Int → Int → Option (ByteArray)
 | 0, _, _, _, _, _ => none
 | k + 1, x3, x5, x6, x7, x8 => if x8 > x7 then (lanternref05_Print.l3 k x3 x5 x6 x7 x8 true x7) else (lanternref05_Print.l1 k x3 x5 x6 (wrap64 (x7 + 1)))
def lanternref05_Print.l3 : Nat → List Int → Int → Int → Int → Int → Bool → Int → Option (ByteArray)
 | 0, _, _, _, _, _, _, _ => none
 | k + 1, x3, x5, x6, x7, x8, x9, x10 => if x10 < x8 then (if x9 = true then (if 0 ≤ x10 then (if x10 < (x3.length : Int) then (lanternref05_Print.l3 k x3 x5 x6 x7 x8 ((rd x3 x10) == 0) (wrap64 (x10 + 1))) else (none)) else (none)) else (lanternref05_Print.l3 k x3 x5 x6 x7 x8 false (wrap64 (x10 + 1)))) else (if x9 = true then (if (wrap64 (x8 - x7)) > x6 then (lanternref05_Print.l2 k x3 x7 (wrap64 (x8 - x7)) x7 (wrap64 (x8 - 1))) else (lanternref05_Print.l2 k x3 x5 x6 x7 (wrap64 (x8 - 1)))) else (lanternref05_Print.l2 k x3 x5 x6 x7 (wrap64 (x8 - 1))))
def lanternref05_Print.l4 : Nat → List Int → Int → Int → ByteArray → Int → Option (ByteArray)
 | 0, _, _, _, _, _ => none
 | k + 1, x3, x5, x6, x11, x12 => if x12 < 8 then (if x6 ≥ 2 then (lanternref05_Print.j5 k x3 x5 x6 x11 x12 (x12 == x5)) else (lanternref05_Print.j5 k x3 x5 x6 x11 x12 false)) else (some x11)
def lanternref05_Print.j5 : Nat → List Int → Int → Int → ByteArray → Int → Bool → Option (ByteArray)
 | 0, _, _, _, _, _, _ => none
 | k + 1, x3, x5, x6, x11, x12, x91 => if x91 = true then (if x11.size + 2 ≤ 9223372036854775807 then (lanternref05_Print.j6 k x3 x5 x6 (x11 ++ (⟨#[58, 58]⟩ : ByteArray)) x12) else (none)) else (lanternref05_Print.j6 k x3 x5 x6 x11 x12)
def lanternref05_Print.j6 : Nat → List Int → Int → Int → ByteArray → Int → Option (ByteArray)
 | 0, _, _, _, _, _ => none
 | k + 1, x3, x5, x6, x11, x12 => if x6 ≥ 2 then (if x12 ≥ x5 then (lanternref05_Print.j7 k x3 x5 x6 x11 x12 (decide (x12 < (wrap64 (x5 + x6))))) else (lanternref05_Print.j7 k x3 x5 x6 x11 x12 false)) else (lanternref05_Print.j7 k x3 x5 x6 x11 x12 false)
def lanternref05_Print.j7 : Nat → List Int → Int → Int → ByteArray → Int → Bool → Option (ByteArray)
 | 0, _, _, _, _, _, _ => none
 | k + 1, x3, x5, x6, x11, x12, x107 => if x107 = true then (lanternref05_Print.l4 k x3 x5 x6 x11 (wrap64 (x12 + 1))) else (if x12 > 0 then (if x6 ≥ 2 then (if (x12 = (wrap64 (x5 + x6))) then (if 0 ≤ x12 then (if x12 < (x3.length : Int) then ((lanternref05_digits.f k (rd x3 x12) 16).bind fun t495 => (if x11.size + t495.size ≤ 9223372036854775807 then (lanternref05_Print.l4 k x3 x5 x6 (x11 ++ t495) (wrap64 (x12 + 1))) else (none))) else (none)) else (none)) else (if x11.size + 1 ≤ 9223372036854775807 then (if 0 ≤ x12 then (if x12 < (x3.length : Int) then ((lanternref05_digits.f k (rd x3 x12) 16).bind fun t497 => (if (x11 ++ (⟨#[58]⟩ : ByteArray)).size + t497.size ≤ 9223372036854775807 then (lanternref05_Print.l4 k x3 x5 x6 ((x11 ++ (⟨#[58]⟩ : ByteArray)) ++ t497) (wrap64 (x12 + 1))) else (none))) else (none)) else (none)) else (none))) else (if x11.size + 1 ≤ 9223372036854775807 then (if 0 ≤ x12 then (if x12 < (x3.length : Int) then ((lanternref05_digits.f k (rd x3 x12) 16).bind fun t499 => (if (x11 ++ (⟨#[58]⟩ : ByteArray)).size + t499.size ≤ 9223372036854775807 then (lanternref05_Print.l4 k x3 x5 x6 ((x11 ++ (⟨#[58]⟩ : ByteArray)) ++ t499) (wrap64 (x12 + 1))) else (none))) else (none)) else (none)) else (none))) else (if 0 ≤ x12 then (if x12 < (x3.length : Int) then ((lanternref05_digits.f k (rd x3 x12) 16).bind fun t501 => (if x11.size + t501.size ≤ 9223372036854775807 then (lanternref05_Print.l4 k x3 x5 x6 (x11 ++ t501) (wrap64 (x12 + 1))) else (none))) else (none)) else (none)))
end
def lanternref05_Print.f (k : Nat) (z0 : Bool) (z1 : Int) (z2 : Int) (z3 : Int) (z4 : Int) (z5 : Int) (z6 : Int) (z7 : Int) (z8 : Int) (z9 : Int) (za : Int) (zb : Int) (zc : Int) (zd : Int) (ze : Int) (zf : Int) (zg : Int) : Option (ByteArray) := if z0 = true then ((lanternref05_Mapped.f k z0 z1 z2 z3 z4 z5 z6 z7 z8 z9 za zb zc zd ze zf zg).bind fun t483 => (if t483 = true then ((lanternref05_dots.f k z0 z1 z2 z3 z4 z5 z6 z7 z8 z9 za zb zc zd ze zf zg).bind fun t484 => (if 7 + t484.size ≤ 9223372036854775807 then (some ((⟨#[58, 58, 102, 102, 102, 102, 58]⟩ : ByteArray) ++ t484)) else (none))) else (lanternref05_Print.l0 k (([] : List Int)) 0 z0 z1 z2 z3 z4 z5 z6 z7 z8 z9 za zb zc zd ze zf zg))) else ((lanternref05_dots.f k z0 z1 z2 z3 z4 z5 z6 z7 z8 z9 za zb zc zd ze zf zg).bind fun t482 => (some t482))
theorem lanternref05_Print.mono_l : ∀ k, (∀ y0 y1 y2 y3 y4 y5 y6 y7 y8 y9 y10 y11 y12 y13 y14 y15 y16 y17 y18, LeO (lanternref05_Print.l0 k y0 y1 y2 y3 y4 y5 y6 y7 y8 y9 y10 y11 y12 y13 y14 y15 y16 y17 y18) (lanternref05_Print.l0 (k + 1) y0 y1 y2 y3 y4 y5 y6 y7 y8 y9 y10 y11 y12 y13 y14 y15 y16 y17 y18)) ∧ (∀ y0 y1 y2 y3, LeO (lanternref05_Print.l1 k y0 y1 y2 y3) (lanternref05_Print.l1 (k + 1) y0 y1 y2 y3)) ∧ (∀ y0 y1 y2 y3 y4, LeO (lanternref05_Print.l2 k y0 y1 y2 y3 y4) (lanternref05_Print.l2 (k + 1) y0 y1 y2 y3 y4)) ∧ (∀ y0 y1 y2 y3 y4 y5 y6, LeO (lanternref05_Print.l3 k y0 y1 y2 y3 y4 y5 y6) (lanternref05_Print.l3 (k + 1) y0 y1 y2 y3 y4 y5 y6)) ∧ (∀ y0 y1 y2 y3 y4, LeO (lanternref05_Print.l4 k y0 y1 y2 y3 y4) (lanternref05_Print.l4 (k + 1) y0 y1 y2 y3 y4)) ∧ (∀ y0 y1 y2 y3 y4 y5, LeO (lanternref05_Print.j5 k y0 y1 y2 y3 y4 y5) (lanternref05_Print.j5 (k + 1) y0 y1 y2 y3 y4 y5)) ∧ (∀ y0 y1 y2 y3 y4, LeO (lanternref05_Print.j6 k y0 y1 y2 y3 y4) (lanternref05_Print.j6 (k + 1) y0 y1 y2 y3 y4)) ∧ (∀ y0 y1 y2 y3 y4 y5, LeO (lanternref05_Print.j7 k y0 y1 y2 y3 y4 y5) (lanternref05_Print.j7 (k + 1) y0 y1 y2 y3 y4 y5))
 | 0 => ⟨fun _ _ _ _ _ _ _ _ _ _ _ _ _ _ _ _ _ _ _ r h => by simp [lanternref05_Print.l0] at h, fun _ _ _ _ r h => by simp [lanternref05_Print.l1] at h, fun _ _ _ _ _ r h => by simp [lanternref05_Print.l2] at h, fun _ _ _ _ _ _ _ r h => by simp [lanternref05_Print.l3] at h, fun _ _ _ _ _ r h => by simp [lanternref05_Print.l4] at h, fun _ _ _ _ _ _ r h => by simp [lanternref05_Print.j5] at h, fun _ _ _ _ _ r h => by simp [lanternref05_Print.j6] at h, fun _ _ _ _ _ _ r h => by simp [lanternref05_Print.j7] at h⟩
 | k + 1 => by
  obtain ⟨ih0, ih1, ih2, ih3, ih4, ih5, ih6, ih7⟩ := lanternref05_Print.mono_l k
  refine ⟨?_, ?_, ?_, ?_, ?_, ?_, ?_, ?_⟩
  ·intro y0 y1 y2 y3 y4 y5 y6 y7 y8 y9 y10 y11 y12 y13 y14 y15 y16 y17 y18
   unfold lanternref05_Print.l0
   repeat' first
   | (with_reducible exact ih0 _ _ _ _ _ _ _ _ _ _ _ _ _ _ _ _ _ _ _)
   | (with_reducible exact ih1 _ _ _ _)
   | (with_reducible exact ih2 _ _ _ _ _)
   | (with_reducible exact ih3 _ _ _ _ _ _ _)
   | (with_reducible exact ih4 _ _ _ _ _)
   | (with_reducible exact ih5 _ _ _ _ _ _)
   | (with_reducible exact ih6 _ _ _ _ _)
   | (with_reducible exact ih7 _ _ _ _ _ _)
   | (with_reducible exact lanternref05_Mapped.mono _ _ _ _ _ _ _ _ _ _ _ _ _ _ _ _ _ _)
   | (with_reducible exact lanternref05_digits.mono _ _ _)
   | (with_reducible exact lanternref05_dots.mono _ _ _ _ _ _ _ _ _ _ _ _ _ _ _ _ _ _)
   | (with_reducible exact LeO.refl _)
   | (with_reducible exact LeO.none _)
   | (with_reducible refine LeO.ite ?_ ?_)
   | (with_reducible refine LeO.bind ?_ (fun _ => ?_))
   | exact ih0 _ _ _ _ _ _ _ _ _ _ _ _ _ _ _ _ _ _ _
   | exact ih1 _ _ _ _
   | exact ih2 _ _ _ _ _
   | exact ih3 _ _ _ _ _ _ _
   | exact ih4 _ _ _ _ _
   | exact ih5 _ _ _ _ _ _
   | exact ih6 _ _ _ _ _
   | exact ih7 _ _ _ _ _ _
   | exact lanternref05_Mapped.mono _ _ _ _ _ _ _ _ _ _ _ _ _ _ _ _ _ _
   | exact lanternref05_digits.mono _ _ _
   | exact lanternref05_dots.mono _ _ _ _ _ _ _ _ _ _ _ _ _ _ _ _ _ _
   | exact LeO.none _
   | refine LeO.ite ?_ ?_
   | refine LeO.bind ?_ (fun _ => ?_)
  ·intro y0 y1 y2 y3
   unfold lanternref05_Print.l1
   repeat' first
   | (with_reducible exact ih0 _ _ _ _ _ _ _ _ _ _ _ _ _ _ _ _ _ _ _)
   | (with_reducible exact ih1 _ _ _ _)
   | (with_reducible exact ih2 _ _ _ _ _)
   | (with_reducible exact ih3 _ _ _ _ _ _ _)
   | (with_reducible exact ih4 _ _ _ _ _)
   | (with_reducible exact ih5 _ _ _ _ _ _)
   | (with_reducible exact ih6 _ _ _ _ _)
   | (with_reducible exact ih7 _ _ _ _ _ _)
   | (with_reducible exact lanternref05_Mapped.mono _ _ _ _ _ _ _ _ _ _ _ _ _ _ _ _ _ _)
   | (with_reducible exact lanternref05_digits.mono _ _ _)
   | (with_reducible exact lanternref05_dots.mono _ _ _ _ _ _ _ _ _ _ _ _ _ _ _ _ _ _)
   | (with_reducible exact LeO.refl _)
   | (with_reducible exact LeO.none _)
   | (with_reducible refine LeO.ite ?_ ?_)
   | (with_reducible refine LeO.bind ?_ (fun _ => ?_))
   | exact ih0 _ _ _ _ _ _ _ _ _ _ _ _ _ _ _ _ _ _ _
   | exact ih1 _ _ _ _
   | exact ih2 _ _ _ _ _
   | exact ih3 _ _ _ _ _ _ _
   | exact ih4 _ _ _ _ _
   | exact ih5 _ _ _ _ _ _
   | exact ih6 _ _ _ _ _
   | exact ih7 _ _ _ _ _ _
   | exact lanternref05_Mapped.mono _ _ _ _ _ _ _ _ _ _ _ _ _ _ _ _ _ _
   | exact lanternref05_digits.mono _ _ _
   | exact lanternref05_dots.mono _ _ _ _ _ _ _ _ _ _ _ _ _ _ _ _ _ _
   | exact LeO.none _
   | refine LeO.ite ?_ ?_
   | refine LeO.bind ?_ (fun _ => ?_)
  ·intro y0 y1 y2 y3 y4
   unfold lanternref05_Print.l2
   repeat' first
   | (with_reducible exact ih0 _ _ _ _ _ _ _ _ _ _ _ _ _ _ _ _ _ _ _)
   | (with_reducible exact ih1 _ _ _ _)
   | (with_reducible exact ih2 _ _ _ _ _)
   | (with_reducible exact ih3 _ _ _ _ _ _ _)
   | (with_reducible exact ih4 _ _ _ _ _)
   | (with_reducible exact ih5 _ _ _ _ _ _)
   | (with_reducible exact ih6 _ _ _ _ _)
   | (with_reducible exact ih7 _ _ _ _ _ _)
   | (with_reducible exact lanternref05_Mapped.mono _ _ _ _ _ _ _ _ _ _ _ _ _ _ _ _ _ _)
   | (with_reducible exact lanternref05_digits.mono _ _ _)
   | (with_reducible exact lanternref05_dots.mono _ _ _ _ _ _ _ _ _ _ _ _ _ _ _ _ _ _)
   | (with_reducible exact LeO.refl _)
   | (with_reducible exact LeO.none _)
   | (with_reducible refine LeO.ite ?_ ?_)
   | (with_reducible refine LeO.bind ?_ (fun _ => ?_))
   | exact ih0 _ _ _ _ _ _ _ _ _ _ _ _ _ _ _ _ _ _ _
   | exact ih1 _ _ _ _
   | exact ih2 _ _ _ _ _
   | exact ih3 _ _ _ _ _ _ _
   | exact ih4 _ _ _ _ _
   | exact ih5 _ _ _ _ _ _
   | exact ih6 _ _ _ _ _
   | exact ih7 _ _ _ _ _ _
   | exact lanternref05_Mapped.mono _ _ _ _ _ _ _ _ _ _ _ _ _ _ _ _ _ _
   | exact lanternref05_digits.mono _ _ _
   | exact lanternref05_dots.mono _ _ _ _ _ _ _ _ _ _ _ _ _ _ _ _ _ _
   | exact LeO.none _
   | refine LeO.ite ?_ ?_
   | refine LeO.bind ?_ (fun _ => ?_)
  ·intro y0 y1 y2 y3 y4 y5 y6
   unfold lanternref05_Print.l3
   repeat' first
   | (with_reducible exact ih0 _ _ _ _ _ _ _ _ _ _ _ _ _ _ _ _ _ _ _)
   | (with_reducible exact ih1 _ _ _ _)
   | (with_reducible exact ih2 _ _ _ _ _)
   | (with_reducible exact ih3 _ _ _ _ _ _ _)
   | (with_reducible exact ih4 _ _ _ _ _)
   | (with_reducible exact ih5 _ _ _ _ _ _)
   | (with_reducible exact ih6 _ _ _ _ _)
   | (with_reducible exact ih7 _ _ _ _ _ _)
   | (with_reducible exact lanternref05_Mapped.mono _ _ _ _ _ _ _ _ _ _ _ _ _ _ _ _ _ _)
   | (with_reducible exact lanternref05_digits.mono _ _ _)
   | (with_reducible exact lanternref05_dots.mono _ _ _ _ _ _ _ _ _ _ _ _ _ _ _ _ _ _)
   | (with_reducible exact LeO.refl _)
   | (with_reducible exact LeO.none _)
   | (with_reducible refine LeO.ite ?_ ?_)
   | (with_reducible refine LeO.bind ?_ (fun _ => ?_))
   | exact ih0 _ _ _ _ _ _ _ _ _ _ _ _ _ _ _ _ _ _ _
   | exact ih1 _ _ _ _
   | exact ih2 _ _ _ _ _
   | exact ih3 _ _ _ _ _ _ _
   | exact ih4 _ _ _ _ _
   | exact ih5 _ _ _ _ _ _
   | exact ih6 _ _ _ _ _
   | exact ih7 _ _ _ _ _ _
   | exact lanternref05_Mapped.mono _ _ _ _ _ _ _ _ _ _ _ _ _ _ _ _ _ _
   | exact lanternref05_digits.mono _ _ _
   | exact lanternref05_dots.mono _ _ _ _ _ _ _ _ _ _ _ _ _ _ _ _ _ _
   | exact LeO.none _
   | refine LeO.ite ?_ ?_
   | refine LeO.bind ?_ (fun _ => ?_)
  ·intro y0 y1 y2 y3 y4
   unfold lanternref05_Print.l4
   repeat' first
   | (with_reducible exact ih0 _ _ _ _ _ _ _ _ _ _ _ _ _ _ _ _ _ _ _)
   | (with_reducible exact ih1 _ _ _ _)
   | (with_reducible exact ih2 _ _ _ _ _)
   | (with_reducible exact ih3 _ _ _ _ _ _ _)
   | (with_reducible exact ih4 _ _ _ _ _)
   | (with_reducible exact ih5 _ _ _ _ _ _)
   | (with_reducible exact ih6 _ _ _ _ _)
   | (with_reducible exact ih7 _ _ _ _ _ _)
   | (with_reducible exact lanternref05_Mapped.mono _ _ _ _ _ _ _ _ _ _ _ _ _ _ _ _ _ _)
   | (with_reducible exact lanternref05_digits.mono _ _ _)
   | (with_reducible exact lanternref05_dots.mono _ _ _ _ _ _ _ _ _ _ _ _ _ _ _ _ _ _)
   | (with_reducible exact LeO.refl _)
   | (with_reducible exact LeO.none _)
   | (with_reducible refine LeO.ite ?_ ?_)
   | (with_reducible refine LeO.bind ?_ (fun _ => ?_))
   | exact ih0 _ _ _ _ _ _ _ _ _ _ _ _ _ _ _ _ _ _ _
   | exact ih1 _ _ _ _
   | exact ih2 _ _ _ _ _
   | exact ih3 _ _ _ _ _ _ _
   | exact ih4 _ _ _ _ _
   | exact ih5 _ _ _ _ _ _
   | exact ih6 _ _ _ _ _
   | exact ih7 _ _ _ _ _ _
   | exact lanternref05_Mapped.mono _ _ _ _ _ _ _ _ _ _ _ _ _ _ _ _ _ _
   | exact lanternref05_digits.mono _ _ _
   | exact lanternref05_dots.mono _ _ _ _ _ _ _ _ _ _ _ _ _ _ _ _ _ _
   | exact LeO.none _
   | refine LeO.ite ?_ ?_
   | refine LeO.bind ?_ (fun _ => ?_)
  ·intro y0 y1 y2 y3 y4 y5
   unfold lanternref05_Print.j5
   repeat' first
   | (with_reducible exact ih0 _ _ _ _ _ _ _ _ _ _ _ _ _ _ _ _ _ _ _)
   | (with_reducible exact ih1 _ _ _ _)
   | (with_reducible exact ih2 _ _ _ _ _)
   | (with_reducible exact ih3 _ _ _ _ _ _ _)
   | (with_reducible exact ih4 _ _ _ _ _)
   | (with_reducible exact ih5 _ _ _ _ _ _)
   | (with_reducible exact ih6 _ _ _ _ _)
   | (with_reducible exact ih7 _ _ _ _ _ _)
   | (with_reducible exact lanternref05_Mapped.mono _ _ _ _ _ _ _ _ _ _ _ _ _ _ _ _ _ _)
   | (with_reducible exact lanternref05_digits.mono _ _ _)
   | (with_reducible exact lanternref05_dots.mono _ _ _ _ _ _ _ _ _ _ _ _ _ _ _ _ _ _)
   | (with_reducible exact LeO.refl _)
   | (with_reducible exact LeO.none _)
   | (with_reducible refine LeO.ite ?_ ?_)
   | (with_reducible refine LeO.bind ?_ (fun _ => ?_))
   | exact ih0 _ _ _ _ _ _ _ _ _ _ _ _ _ _ _ _ _ _ _
   | exact ih1 _ _ _ _
   | exact ih2 _ _ _ _ _
   | exact ih3 _ _ _ _ _ _ _
   | exact ih4 _ _ _ _ _
   | exact ih5 _ _ _ _ _ _
   | exact ih6 _ _ _ _ _
   | exact ih7 _ _ _ _ _ _
   | exact lanternref05_Mapped.mono _ _ _ _ _ _ _ _ _ _ _ _ _ _ _ _ _ _
   | exact lanternref05_digits.mono _ _ _
   | exact lanternref05_dots.mono _ _ _ _ _ _ _ _ _ _ _ _ _ _ _ _ _ _
   | exact LeO.none _
   | refine LeO.ite ?_ ?_
   | refine LeO.bind ?_ (fun _ => ?_)
  ·intro y0 y1 y2 y3 y4
   unfold lanternref05_Print.j6
   repeat' first
   | (with_reducible exact ih0 _ _ _ _ _ _ _ _ _ _ _ _ _ _ _ _ _ _ _)
   | (with_reducible exact ih1 _ _ _ _)
   | (with_reducible exact ih2 _ _ _ _ _)
   | (with_reducible exact ih3 _ _ _ _ _ _ _)
   | (with_reducible exact ih4 _ _ _ _ _)
   | (with_reducible exact ih5 _ _ _ _ _ _)
   | (with_reducible exact ih6 _ _ _ _ _)
   | (with_reducible exact ih7 _ _ _ _ _ _)
   | (with_reducible exact lanternref05_Mapped.mono _ _ _ _ _ _ _ _ _ _ _ _ _ _ _ _ _ _)
   | (with_reducible exact lanternref05_digits.mono _ _ _)
   | (with_reducible exact lanternref05_dots.mono _ _ _ _ _ _ _ _ _ _ _ _ _ _ _ _ _ _)
   | (with_reducible exact LeO.refl _)
   | (with_reducible exact LeO.none _)
   | (with_reducible refine LeO.ite ?_ ?_)
   | (with_reducible refine LeO.bind ?_ (fun _ => ?_))
   | exact ih0 _ _ _ _ _ _ _ _ _ _ _ _ _ _ _ _ _ _ _
   | exact ih1 _ _ _ _
   | exact ih2 _ _ _ _ _
   | exact ih3 _ _ _ _ _ _ _
   | exact ih4 _ _ _ _ _
   | exact ih5 _ _ _ _ _ _
   | exact ih6 _ _ _ _ _
   | exact ih7 _ _ _ _ _ _
   | exact lanternref05_Mapped.mono _ _ _ _ _ _ _ _ _ _ _ _ _ _ _ _ _ _
   | exact lanternref05_digits.mono _ _ _
   | exact lanternref05_dots.mono _ _ _ _ _ _ _ _ _ _ _ _ _ _ _ _ _ _
   | exact LeO.none _
   | refine LeO.ite ?_ ?_
   | refine LeO.bind ?_ (fun _ => ?_)
  ·intro y0 y1 y2 y3 y4 y5
   unfold lanternref05_Print.j7
   repeat' first
   | (with_reducible exact ih0 _ _ _ _ _ _ _ _ _ _ _ _ _ _ _ _ _ _ _)
   | (with_reducible exact ih1 _ _ _ _)
   | (with_reducible exact ih2 _ _ _ _ _)
   | (with_reducible exact ih3 _ _ _ _ _ _ _)
   | (with_reducible exact ih4 _ _ _ _ _)
   | (with_reducible exact ih5 _ _ _ _ _ _)
   | (with_reducible exact ih6 _ _ _ _ _)
   | (with_reducible exact ih7 _ _ _ _ _ _)
   | (with_reducible exact lanternref05_Mapped.mono _ _ _ _ _ _ _ _ _ _ _ _ _ _ _ _ _ _)
   | (with_reducible exact lanternref05_digits.mono _ _ _)
   | (with_reducible exact lanternref05_dots.mono _ _ _ _ _ _ _ _ _ _ _ _ _ _ _ _ _ _)
   | (with_reducible exact LeO.refl _)
   | (with_reducible exact LeO.none _)
   | (with_reducible refine LeO.ite ?_ ?_)
   | (with_reducible refine LeO.bind ?_ (fun _ => ?_))
   | exact ih0 _ _ _ _ _ _ _ _ _ _ _ _ _ _ _ _ _ _ _
   | exact ih1 _ _ _ _
   | exact ih2 _ _ _ _ _
   | exact ih3 _ _ _ _ _ _ _
   | exact ih4 _ _ _ _ _
   | exact ih5 _ _ _ _ _ _
   | exact ih6 _ _ _ _ _
   | exact ih7 _ _ _ _ _ _
   | exact lanternref05_Mapped.mono _ _ _ _ _ _ _ _ _ _ _ _ _ _ _ _ _ _
   | exact lanternref05_digits.mono _ _ _
   | exact lanternref05_dots.mono _ _ _ _ _ _ _ _ _ _ _ _ _ _ _ _ _ _
   | exact LeO.none _
   | refine LeO.ite ?_ ?_
   | refine LeO.bind ?_ (fun _ => ?_)
theorem lanternref05_Print.mono : ∀ a0 a1 a2 a3 a4 a5 a6 a7 a8 a9 a10 a11 a12 a13 a14 a15 a16 k, LeO (lanternref05_Print.f k a0 a1 a2 a3 a4 a5 a6 a7 a8 a9 a10 a11 a12 a13 a14 a15 a16) (lanternref05_Print.f (k + 1) a0 a1 a2 a3 a4 a5 a6 a7 a8 a9 a10 a11 a12 a13 a14 a15 a16) := by
 intro a0 a1 a2 a3 a4 a5 a6 a7 a8 a9 a10 a11 a12 a13 a14 a15 a16 k
 obtain ⟨ih0, ih1, ih2, ih3, ih4, ih5, ih6, ih7⟩ := lanternref05_Print.mono_l k
 unfold lanternref05_Print.f
 repeat' first
   | (with_reducible exact ih0 _ _ _ _ _ _ _ _ _ _ _ _ _ _ _ _ _ _ _)
   | (with_reducible exact ih1 _ _ _ _)
   | (with_reducible exact ih2 _ _ _ _ _)
   | (with_reducible exact ih3 _ _ _ _ _ _ _)
   | (with_reducible exact ih4 _ _ _ _ _)
   | (with_reducible exact ih5 _ _ _ _ _ _)
   | (with_reducible exact ih6 _ _ _ _ _)
   | (with_reducible exact ih7 _ _ _ _ _ _)
   | (with_reducible exact lanternref05_Mapped.mono _ _ _ _ _ _ _ _ _ _ _ _ _ _ _ _ _ _)
   | (with_reducible exact lanternref05_digits.mono _ _ _)
   | (with_reducible exact lanternref05_dots.mono _ _ _ _ _ _ _ _ _ _ _ _ _ _ _ _ _ _)
   | (with_reducible exact LeO.refl _)
   | (with_reducible exact LeO.none _)
   | (with_reducible refine LeO.ite ?_ ?_)
   | (with_reducible refine LeO.bind ?_ (fun _ => ?_))
   | exact ih0 _ _ _ _ _ _ _ _ _ _ _ _ _ _ _ _ _ _ _
   | exact ih1 _ _ _ _
   | exact ih2 _ _ _ _ _
   | exact ih3 _ _ _ _ _ _ _
   | exact ih4 _ _ _ _ _
   | exact ih5 _ _ _ _ _ _
   | exact ih6 _ _ _ _ _
   | exact ih7 _ _ _ _ _ _
   | exact lanternref05_Mapped.mono _ _ _ _ _ _ _ _ _ _ _ _ _ _ _ _ _ _
   | exact lanternref05_digits.mono _ _ _
   | exact lanternref05_dots.mono _ _ _ _ _ _ _ _ _ _ _ _ _ _ _ _ _ _
   | exact LeO.none _
   | refine LeO.ite ?_ ?_
   | refine LeO.bind ?_ (fun _ => ?_)
def lanternref05_Print.T9 : Bool × List (List Nat × List Nat) := (true, [([], []), ([], []), ([1], [1]), ([], []), ([3, 2], [2, 3]), ([4], [4]), ([5], [5]), ([6], [6]), ([], []), ([8], [8]), ([9], [9]), ([], []), ([11, 10], [10, 11]), ([12], [12]), ([13], [13]), ([7, 14], [7, 14]), ([15], [15]), ([0, 16], [0, 16]), ([17, 17, 0, 1, 2, 3, 4, 5, 6, 7, 8, 9, 10, 11, 12, 13, 14, 15, 16, 17], [0, 17])])
def lanternref05_Print.B9 : List Nat := [0, 0, 2, 0, 14, 30, 62, 126, 0, 256, 768, 0, 3840, 7936, 16128, 32766, 65534, 131071, 262143]
theorem lanternref05_Print.tab9 : rtab .any (opsOf Tryz.f24 9) = lanternref05_Print.T9 := by kernel_rfl
theorem lanternref05_Print.bits9 : waitsOk lanternref05_Print.T9.2 lanternref05_Print.B9 = true := by kernel_rfl
set_option maxHeartbeats 8000000 in
set_option maxRecDepth 100000 in
theorem lanternref05_Print.calls (k : Nat) (z0 : Bool) (z1 : Int) (z2 : Int) (z3 : Int) (z4 : Int) (z5 : Int) (z6 : Int) (z7 : Int) (z8 : Int) (z9 : Int) (za : Int) (zb : Int) (zc : Int) (zd : Int) (ze : Int) (zf : Int) (zg : Int) (r : ByteArray) (w : World) (hLW : LW w) (h : lanternref05_Print.f k z0 z1 z2 z3 z4 z5 z6 z7 z8 z9 za zb zc zd ze zf zg = some r) :
  Calls Tryz.prog 24 #[.agg (ag_ z0 z1 z2 z3 z4 z5 z6 z7 z8 z9 za zb zc zd ze zf zg)] w fun e w' => e = .returned (.string r) ∧ Below w.heap.size w w' := by
 have hu24 := Tryz.underlying24
 have HLW := Aside0.mk hLW
 clear hLW
 have HB := Aside0.mk (Below.refl w.heap.size w)
 have H := h
 unfold lanternref05_Print.f at H
 clear h
 by_cases c2 : z0 = true
 ·subst c2
  replace H := ifT_ H
  replace H := Option.bind_eq_some_iff.mp H
  obtain ⟨t483, A30, H⟩ := H
  (try dsimp only at H)
  have A3 := Aside0.mk A30
  clear A30
  by_cases c4 : t483 = true
  ·subst c4
   replace H := ifT_ H
   replace H := Option.bind_eq_some_iff.mp H
   obtain ⟨t484, A50, H⟩ := H
   (try dsimp only at H)
   have A5 := Aside0.mk A50
   clear A50
   by_cases c6 : 7 + t484.size ≤ 9223372036854775807
   ·rw [if_pos c6] at H
    have c6b0 := eq_true c6
    have c6b1 := decide_eq_true c6
    try have c6b2 : (9223372036854775807 < 7 + t484.size) = False := eq_false (Nat.not_lt.2 c6)
    obtain rfl := Option.some.inj H
    go_enter Tryz.func24, Tryz.ntmps24
    go_wp2_with (first | ((with_reducible refine gate_dst (N := 1) rfl ?_); refine bx_ 1 (ag_ true z1 z2 z3 z4 z5 z6 z7 z8 z9 za zb zc zd ze zf zg) 24 ?_; intro gb481 hg w7 hbox hb; have BK481 := Aside0.mk (hbox); have GW481 := Aside0.mk (ge_ (w := w) hg); have GE481 := Aside0.mk (ge_ (w := w) hg); replace HB := Aside0.mk (below_step bq_ hb); clear hb hbox hg; obtain ⟨hcz8_0, hcz8_1, hcz8_2, hcz8_3, hcz8_4, hcz8_5, hcz8_6, hcz8_7, hcz8_8, hcz8_9, hcz8_10, hcz8_11, hcz8_12, hcz8_13, hcz8_14, hcz8_15, hcz8_16⟩ := c17_ BK481; obtain ⟨hfz8_0, hfz8_1, hfz8_2, hfz8_3, hfz8_4, hfz8_5, hfz8_6, hfz8_7, hfz8_8, hfz8_9, hfz8_10, hfz8_11, hfz8_12, hfz8_13, hfz8_14, hfz8_15, hfz8_16⟩ := f17_ BK481) | ((with_reducible refine gate_dst (N := 18) rfl ?_); (try (refine gate_guard (by rfl) ?_; dsimp only)); refine load_box ?hg 24 (.tmp 1) rfl BK481.out [] (al_ true z1 z2 z3 z4 z5 z6 z7 z8 z9 za zb zc zd ze zf zg) [] rfl 0 rfl rfl Tryz.underlying24 rfl (by kernel_rfl) ?_; (case hg => rfl)) | ((with_reducible refine gate_callee (f := 50) rfl ?_); refine goesL_ (some 19) rfl rfl Tryz.func50 (by kernel_rfl) rfl #[.agg (ag_ true z1 z2 z3 z4 z5 z6 z7 z8 z9 za zb zc zd ze zf zg)] rfl lq_ ?_; (with_reducible refine (lanternref05_Mapped.calls k true z1 z2 z3 z4 z5 z6 z7 z8 z9 za zb zc zd ze zf zg true _ ?side1 A3.out).mono ?_); (case side1 => exact lg_); rintro e w9 ⟨rfl, hb⟩; refine ⟨_, rfl, ?_⟩; replace BK481 := Aside0.mk (bb_ BK481 hb); replace HB := Aside0.mk (below_step bg_ hb); (try clear hb); (try clear hb2); (try clear hk); (try clear hi)) | ((with_reducible refine gate_dst (N := 20) rfl ?_); (try (refine gate_guard (by rfl) ?_; dsimp only)); refine load_box ?hg 24 (.tmp 1) rfl BK481.out [] (al_ true z1 z2 z3 z4 z5 z6 z7 z8 z9 za zb zc zd ze zf zg) [] rfl 0 rfl rfl Tryz.underlying24 rfl (by kernel_rfl) ?_; (case hg => rfl)) | ((with_reducible refine gate_callee (f := 49) rfl ?_); refine goesL_ (some 21) rfl rfl Tryz.func49 (by kernel_rfl) rfl #[.agg (ag_ true z1 z2 z3 z4 z5 z6 z7 z8 z9 za zb zc zd ze zf zg)] rfl lq_ ?_; (with_reducible refine (lanternref05_dots.calls k true z1 z2 z3 z4 z5 z6 z7 z8 z9 za zb zc zd ze zf zg t484 _ ?side1 A5.out).mono ?_); (case side1 => exact lg_); rintro e w10 ⟨rfl, hb⟩; refine ⟨_, rfl, ?_⟩; replace BK481 := Aside0.mk (bb_ BK481 hb); replace HB := Aside0.mk (below_step bg_ hb); (try clear hb); (try clear hb2); (try clear hk); (try clear hi)))
    go_ret
    exact ⟨rq_, bg_⟩
   ·rw [if_neg c6] at H
    exact absurd H (by simp)
  ·replace c4 := Bool.eq_false_iff.mpr c4
   subst c4
   replace H := ifF_ H
   obtain ⟨y485, hy485⟩ : ∃ y_ : List Int, y_ = (([] : List Int)) := ⟨_, rfl⟩
   replace H : (lanternref05_Print.l0 k y485 0 true z1 z2 z3 z4 z5 z6 z7 z8 z9 za zb zc zd ze zf zg) = some r := by first | (rw [hy485]; with_reducible exact H) | (have H2_ := (Option.bind_some _ _).symm.trans H; rw [hy485]; with_reducible exact H2_) | (have H2_ := (Option.bind_some _ _).symm.trans H; with_reducible exact H2_) | with_reducible exact H | (rw [hy485]; exact H) | exact H
   have Ny485 := Aside0.mk hy485
   clear hy485
   have H' := Aside0.mk H
   clear H
   go_enter Tryz.func24, Tryz.ntmps24
   go_wp2_with (first | ((with_reducible refine gate_dst (N := 1) rfl ?_); refine bx_ 1 (ag_ true z1 z2 z3 z4 z5 z6 z7 z8 z9 za zb zc zd ze zf zg) 24 ?_; intro gb481 hg w11 hbox hb; have BK481 := Aside0.mk (hbox); have GW481 := Aside0.mk (ge_ (w := w) hg); have GE481 := Aside0.mk (ge_ (w := w) hg); replace HB := Aside0.mk (below_step bq_ hb); clear hb hbox hg; obtain ⟨hcz12_0, hcz12_1, hcz12_2, hcz12_3, hcz12_4, hcz12_5, hcz12_6, hcz12_7, hcz12_8, hcz12_9, hcz12_10, hcz12_11, hcz12_12, hcz12_13, hcz12_14, hcz12_15, hcz12_16⟩ := c17_ BK481; obtain ⟨hfz12_0, hfz12_1, hfz12_2, hfz12_3, hfz12_4, hfz12_5, hfz12_6, hfz12_7, hfz12_8, hfz12_9, hfz12_10, hfz12_11, hfz12_12, hfz12_13, hfz12_14, hfz12_15, hfz12_16⟩ := f17_ BK481) | ((with_reducible refine gate_dst (N := 18) rfl ?_); (try (refine gate_guard (by rfl) ?_; dsimp only)); refine load_box ?hg 24 (.tmp 1) rfl BK481.out [] (al_ true z1 z2 z3 z4 z5 z6 z7 z8 z9 za zb zc zd ze zf zg) [] rfl 0 rfl rfl Tryz.underlying24 rfl (by kernel_rfl) ?_; (case hg => rfl)) | ((with_reducible refine gate_callee (f := 50) rfl ?_); refine goesL_ (some 19) rfl rfl Tryz.func50 (by kernel_rfl) rfl #[.agg (ag_ true z1 z2 z3 z4 z5 z6 z7 z8 z9 za zb zc zd ze zf zg)] rfl lq_ ?_; (with_reducible refine (lanternref05_Mapped.calls k true z1 z2 z3 z4 z5 z6 z7 z8 z9 za zb zc zd ze zf zg false _ ?side1 A3.out).mono ?_); (case side1 => exact lg_); rintro e w13 ⟨rfl, hb⟩; refine ⟨_, rfl, ?_⟩; replace BK481 := Aside0.mk (bb_ BK481 hb); replace HB := Aside0.mk (below_step bg_ hb); (try clear hb); (try clear hb2); (try clear hk); (try clear hi)) | ((with_reducible refine gate_dst (N := 23) rfl ?_); refine Kd.R_lit (Kd.int .i64) _ 3 ?hg (N := 23) ?hd (xs := ([] : List Int)) (inner := []) (ok := fun _ => True) (okp := fun _ => True) ?hr ?hp (fun _ hk => hk) trivial (Below.refl _ _) (Nat.le_refl _) (by simp) ?_; (case hd => rfl); (case hg => rfl); (case hr => first | (go_simp; done) | (go_simp; rfl)); (case hp => exact (Reps.none _ _)); intro v486 w14 ho15 hb hg_ hnew_; clear hg_ hnew_; (first | rw [← Ny485.out] at ho15 | (simp only [Int.reduceToNat] at ho15; rw [← Ny485.out] at ho15)); have HO487 := Aside0.mk (Kd.R_lower ho15 (below_size bg_)); replace BK481 := Aside0.mk (bb_ BK481 hb); replace HB := Aside0.mk (below_step bg_ hb); clear hb ho15))
   go_loopg [3, 4] k (fun kq v3 v4 w' => ∃ (x3_1 : List Int) (x4_1 : Int), v4 = .int .i64 x4_1 ∧ Aside0 (lanternref05_Print.l0 kq x3_1 x4_1 true z1 z2 z3 z4 z5 z6 z7 z8 z9 za zb zc zd ze zf zg = some r) ∧ Aside0 (kq ≤ k) ∧ Aside0 (Kd.R (Kd.int .i64) 3 w' w.heap.size (fun _ => True) v3 x3_1) ∧ Aside0 (w'.heap[gb481]? = some (.cells (ag_ true z1 z2 z3 z4 z5 z6 z7 z8 z9 za zb zc zd ze zf zg) 24 (0, 0))) ∧ Aside0 (Below w.heap.size w w'))
   case atStart => exact ⟨(y485), (0), sq_, H', ⟨Nat.le_refl _⟩, ⟨by (with_reducible repeat (first | apply Kd.R_alloc | apply Kd.R_drewN | apply Kd.R_drew)); exact HO487.out⟩, ⟨bk_⟩, ⟨bg_⟩⟩
   case round =>
    clear H'
    obtain ⟨x3_1, x4_1, rfl, HA, HK1, HO_3, BK481, HB⟩ := hrel
    cases gk with
    | zero => exact absurd HA.out (by simp [lanternref05_Print.l0])
    | succ k1 =>
     have H := HA.out
     clear HA
     simp only [lanternref05_Print.l0] at H
     by_cases c16 : x4_1 < 8
     ·rw [if_pos c16] at H
      have c16b0 := decide_eq_true c16
      clear c16
      obtain ⟨ji17, hji17⟩ : ∃ j_ : Int, (wrap64 (2 * x4_1)) = j_ := ⟨_, rfl⟩
      replace H : (if 0 ≤ (ji17) then (if (ji17) < 16 then (if 0 ≤ (wrap64 ((ji17) + 1)) then (if (wrap64 ((ji17) + 1)) < 16 then (if x3_1.length < 17592186044416 then (lanternref05_Print.l0 k1 (x3_1 ++ [wrap64 ((wrap64 ((wrap64 (rd [z1, z2, z3, z4, z5, z6, z7, z8, z9, za, zb, zc, zd, ze, zf, zg] (ji17))) * 256)) + (wrap64 (rd [z1, z2, z3, z4, z5, z6, z7, z8, z9, za, zb, zc, zd, ze, zf, zg] (wrap64 ((ji17) + 1)))))]) (wrap64 (x4_1 + 1)) true z1 z2 z3 z4 z5 z6 z7 z8 z9 za zb zc zd ze zf zg) else (none)) else (none)) else (none)) else (none)) else (none)) = some r := by first | (rw [hji17] at H; exact H) | (simp only [hji17] at H ⊢; exact H)
      have hji17w : (IntKind.i64.wrap (2 * x4_1)) = ji17 := (i64_w _).trans hji17
      by_cases c18 : 0 ≤ (ji17)
      ·rw [if_pos c18] at H
       have c18b0 := decide_eq_true c18
       clear c18
       by_cases c19 : (ji17) < 16
       ·rw [if_pos c19] at H
        have c19b0 := decide_eq_true c19
        clear c19
        obtain ⟨ji20, hji20⟩ : ∃ j_ : Int, (wrap64 ((ji17) + 1)) = j_ := ⟨_, rfl⟩
        replace H : (if 0 ≤ (ji20) then (if (ji20) < 16 then (if x3_1.length < 17592186044416 then (lanternref05_Print.l0 k1 (x3_1 ++ [wrap64 ((wrap64 ((wrap64 (rd [z1, z2, z3, z4, z5, z6, z7, z8, z9, za, zb, zc, zd, ze, zf, zg] (ji17))) * 256)) + (wrap64 (rd [z1, z2, z3, z4, z5, z6, z7, z8, z9, za, zb, zc, zd, ze, zf, zg] (ji20))))]) (wrap64 (x4_1 + 1)) true z1 z2 z3 z4 z5 z6 z7 z8 z9 za zb zc zd ze zf zg) else (none)) else (none)) else (none)) = some r := by first | (rw [hji20] at H; exact H) | (simp only [hji20] at H ⊢; exact H)
        have hji20w : (IntKind.i64.wrap ((ji17) + 1)) = ji20 := (i64_w _).trans hji20
        by_cases c21 : 0 ≤ (ji20)
        ·rw [if_pos c21] at H
         have c21b0 := decide_eq_true c21
         clear c21
         by_cases c22 : (ji20) < 16
         ·rw [if_pos c22] at H
          have c22b0 := decide_eq_true c22
          clear c22
          by_cases c23 : x3_1.length < 17592186044416
          ·rw [if_pos c23] at H
           have LMc23 := Aside0.mk c23
           clear c23
           obtain ⟨y490, hy490⟩ : ∃ y_ : List Int, y_ = (x3_1 ++ [wrap64 ((wrap64 ((wrap64 (rd [z1, z2, z3, z4, z5, z6, z7, z8, z9, za, zb, zc, zd, ze, zf, zg] (ji17))) * 256)) + (wrap64 (rd [z1, z2, z3, z4, z5, z6, z7, z8, z9, za, zb, zc, zd, ze, zf, zg] (ji20))))]) := ⟨_, rfl⟩
           replace H : (lanternref05_Print.l0 k1 y490 (wrap64 (x4_1 + 1)) true z1 z2 z3 z4 z5 z6 z7 z8 z9 za zb zc zd ze zf zg) = some r := by first | (rw [hy490]; with_reducible exact H) | (have H2_ := (Option.bind_some _ _).symm.trans H; rw [hy490]; with_reducible exact H2_) | (have H2_ := (Option.bind_some _ _).symm.trans H; with_reducible exact H2_) | with_reducible exact H | (rw [hy490]; exact H) | exact H
           have Ny490 := Aside0.mk hy490
           clear hy490
           have H' := Aside0.mk H
           clear H
           try go_wp2
           replace HO_3 := Aside0.mk (Kd.R_drew HO_3.out)
           replace BK481 := Aside0.mk (blk_drew BK481.out)
           replace HB := Aside0.mk (below_drew1 HB.out)
           have par25 : (0 ≤ (ji17)) = True := eq_true (of_decide_eq_true as_)
           have qar25 : ((ji17) < 16) = True := eq_true (of_decide_eq_true as_)
           have par26 : (0 ≤ (ji20)) = True := eq_true (of_decide_eq_true as_)
           have qar26 : ((ji20) < 16) = True := eq_true (of_decide_eq_true as_)
           refine start_ (n := 19) (S := fun w' => w'.cell? ⟨gb481, 0, none⟩ = some (.bool true) ∧ w'.cell? ⟨gb481, 1, none⟩ = some (.int .u8 z1) ∧ w'.cell? ⟨gb481, 2, none⟩ = some (.int .u8 z2) ∧ w'.cell? ⟨gb481, 3, none⟩ = some (.int .u8 z3) ∧ w'.cell? ⟨gb481, 4, none⟩ = some (.int .u8 z4) ∧ w'.cell? ⟨gb481, 5, none⟩ = some (.int .u8 z5) ∧ w'.cell? ⟨gb481, 6, none⟩ = some (.int .u8 z6) ∧ w'.cell? ⟨gb481, 7, none⟩ = some (.int .u8 z7) ∧ w'.cell? ⟨gb481, 8, none⟩ = some (.int .u8 z8) ∧ w'.cell? ⟨gb481, 9, none⟩ = some (.int .u8 z9) ∧ w'.cell? ⟨gb481, 10, none⟩ = some (.int .u8 za) ∧ w'.cell? ⟨gb481, 11, none⟩ = some (.int .u8 zb) ∧ w'.cell? ⟨gb481, 12, none⟩ = some (.int .u8 zc) ∧ w'.cell? ⟨gb481, 13, none⟩ = some (.int .u8 zd) ∧ w'.cell? ⟨gb481, 14, none⟩ = some (.int .u8 ze) ∧ w'.cell? ⟨gb481, 15, none⟩ = some (.int .u8 zf) ∧ w'.cell? ⟨gb481, 16, none⟩ = some (.int .u8 zg) ∧ w'.cell? ⟨gb481, 1 + ((ji17)).toNat, none⟩ = some (.int .u8 (rd [z1, z2, z3, z4, z5, z6, z7, z8, z9, za, zb, zc, zd, ze, zf, zg] (ji17))) ∧ w'.cell? ⟨gb481, 1 + ((ji20)).toNat, none⟩ = some (.int .u8 (rd [z1, z2, z3, z4, z5, z6, z7, z8, z9, za, zb, zc, zd, ze, zf, zg] (ji20)))) (ds := []) (bv_ 0 19) (by kernel_rfl) rfl rfl ⟨(blk_cell BK481.out 0).trans rfl, (blk_cell BK481.out 1).trans rfl, (blk_cell BK481.out 2).trans rfl, (blk_cell BK481.out 3).trans rfl, (blk_cell BK481.out 4).trans rfl, (blk_cell BK481.out 5).trans rfl, (blk_cell BK481.out 6).trans rfl, (blk_cell BK481.out 7).trans rfl, (blk_cell BK481.out 8).trans rfl, (blk_cell BK481.out 9).trans rfl, (blk_cell BK481.out 10).trans rfl, (blk_cell BK481.out 11).trans rfl, (blk_cell BK481.out 12).trans rfl, (blk_cell BK481.out 13).trans rfl, (blk_cell BK481.out 14).trans rfl, (blk_cell BK481.out 15).trans rfl, (blk_cell BK481.out 16).trans rfl, (blk_idx BK481.out .u8 [.bool true] [z1, z2, z3, z4, z5, z6, z7, z8, z9, za, zb, zc, zd, ze, zf, zg] [] rfl (ji17) (of_decide_eq_true as_) (of_decide_eq_true as_) rfl), (blk_idx BK481.out .u8 [.bool true] [z1, z2, z3, z4, z5, z6, z7, z8, z9, za, zb, zc, zd, ze, zf, zg] [] rfl (ji20) (of_decide_eq_true as_) (of_decide_eq_true as_) rfl)⟩ (fun hHeld => ?_); refine with_tabW lanternref05_Print.tab9 lanternref05_Print.bits9 (fun HT_ HW_ => ?_)
           generalize wr.drew = w24 at HO_3 BK481 HB hHeld ⊢
           refine pl_ 0 28 ?_ 1 18 HT_ ?_ ?_ ?_ ?_
           rotate_left
           ·intro w'
            go_simp
            with_reducible rfl
           rotate_left
           ·simp only [Act.put, sa_, s0_, s1_, i64_w, i32_w]
            rfl
           refine pl_ 1 29 ?_ 2 17 HT_ ?_ ?_ ?_ ?_
           rotate_left
           ·intro w'
            go_simp
            with_reducible rfl
           rotate_left
           ·simp only [Act.put, sa_, s0_, s1_, i64_w, i32_w]
            rfl
           refine pl_ 2 30 ?_ 3 16 HT_ ?_ ?_ ?_ ?_
           rotate_left
           ·intro w'
            go_simp
            with_reducible rfl
           rotate_left
           ·simp only [Act.put, sa_, s0_, s1_, i64_w, i32_w]
            rfl
           refine pl_ 3 31 ?_ 4 15 HT_ ?_ ?_ ?_ ?_
           rotate_left
           ·intro w'
            go_simp
            with_reducible rfl
           rotate_left
           ·simp only [Act.put, sa_, s0_, s1_, i64_w, i32_w]
            rfl
           refine pl_ 4 32 ?_ 5 14 HT_ ?_ ?_ ?_ ?_
           rotate_left
           ·intro w'
            go_simp
            with_reducible rfl
           rotate_left
           ·simp only [Act.put, sa_, s0_, s1_, i64_w, i32_w]
            rfl
           refine pure_ (i := 8) (N := some 36) (v := ?_) (a' := ?_) #[true, true, true, true, true, false, false, false, true, false, false, false, false, false, false, false, false, false, false] rfl rfl (any_of HT_.out (by kernel_rfl)) (fun _ _ _ h => h) (Or.inl ⟨by rfl, ?_⟩) ?_ ?_
           rotate_left
           ·intro w'
            go_simp
            with_reducible rfl
           rotate_left
           ·simp only [Act.put, sa_, s0_, s1_, i64_w, i32_w]
            rfl
           refine pure_ (i := 9) (N := some 37) (v := ?_) (a' := ?_) #[true, true, true, true, true, false, false, false, true, true, false, false, false, false, false, false, false, false, false] rfl rfl (any_of HT_.out (by kernel_rfl)) (fun _ _ _ h => h) (Or.inl ⟨by rfl, ?_⟩) ?_ ?_
           rotate_left
           ·intro w'
            go_simp
            with_reducible rfl
           rotate_left
           ·simp only [Act.put, sa_, s0_, s1_, i64_w, i32_w]
            rfl
           refine pure_ (i := 10) (N := some 38) (v := ?_) (a' := ?_) #[true, true, true, true, true, false, false, false, true, true, true, false, false, false, false, false, false, false, false] rfl rfl (any_of HT_.out (by kernel_rfl)) (fun _ _ _ h => h) (Or.inl ⟨by rfl, ?_⟩) ?_ ?_
           rotate_left
           ·intro w'
            go_simp
            with_reducible rfl
           rotate_left
           ·simp only [Act.put, sa_, s0_, s1_, i64_w, i32_w]
            rfl
           refine pure_ (i := 11) (N := some 39) (v := ?_) (a' := ?_) #[true, true, true, true, true, false, false, false, true, true, true, true, false, false, false, false, false, false, false] rfl rfl (any_of HT_.out (by kernel_rfl)) (fun _ _ _ h => h) (Or.inl ⟨by rfl, ?_⟩) ?_ ?_
           rotate_left
           ·intro w'
            go_simp
            with_reducible rfl
           rotate_left
           ·simp only [Act.put, sa_, s0_, s1_, i64_w, i32_w]
            rfl
           refine pure_ (i := 12) (N := some 40) (v := ?_) (a' := ?_) #[true, true, true, true, true, false, false, false, true, true, true, true, true, false, false, false, false, false, false] rfl rfl (any_of HT_.out (by kernel_rfl)) (fun _ _ _ h => h) (Or.inl ⟨by rfl, ?_⟩) ?_ ?_
           rotate_left
           ·intro w'
            go_simp
            with_reducible rfl
           rotate_left
           ·simp only [Act.put, sa_, s0_, s1_, i64_w, i32_w]
            rfl
           refine take_ (i := 5) (N := some 33) (v := ?_) (a' := ?_) #[true, true, true, true, true, true, false, false, true, true, true, true, true, false, false, false, false, false, false] rfl rfl (take_ofW HT_.out HW_.out (by kernel_rfl)) (fun _ _ _ h => h) (Or.inl ⟨by rfl, ?_⟩) hHeld ?_ ?_
           rotate_left
           ·rintro w' ⟨s0, s1, s2, s3, s4, s5, s6, s7, s8, s9, s10, s11, s12, s13, s14, s15, s16, s17, s18⟩
            go_simp
            with_reducible rfl
           rotate_left
           ·simp only [Act.put, sa_, s0_, s1_, i64_w, i32_w]
            rfl
           refine pure_ (i := 6) (N := some 34) (v := ?_) (a' := ?_) #[true, true, true, true, true, true, true, false, true, true, true, true, true, false, false, false, false, false, false] rfl rfl (any_of HT_.out (by kernel_rfl)) (fun _ _ _ h => h) (Or.inl ⟨by rfl, ?_⟩) ?_ ?_
           rotate_left
           ·intro w'
            go_simp
            with_reducible rfl
           rotate_left
           ·simp only [Act.put, sa_, s0_, s1_, i64_w, i32_w]
            rfl
           refine pl_ 7 35 ?_ 13 6 HT_ ?_ ?_ ?_ ?_
           rotate_left
           ·intro w'
            go_simp
            with_reducible rfl
           rotate_left
           ·simp only [Act.put, sa_, s0_, s1_, i64_w, i32_w]
            rfl
           refine tl_ 13 41 ?_ 14 5 HT_ HW_ ?_ hHeld ?_ ?_ ?_
           rotate_left
           ·rintro w' ⟨s0, s1, s2, s3, s4, s5, s6, s7, s8, s9, s10, s11, s12, s13, s14, s15, s16, s17, s18⟩
            go_simp
            with_reducible rfl
           rotate_left
           ·simp only [Act.put, sa_, s0_, s1_, i64_w, i32_w]
            rfl
           refine pl_ 14 42 ?_ 15 4 HT_ ?_ ?_ ?_ ?_
           rotate_left
           ·intro w'
            go_simp
            with_reducible rfl
           rotate_left
           ·simp only [Act.put, sa_, s0_, s1_, i64_w, i32_w]
            rfl
           refine pl_ 15 43 ?_ 16 3 HT_ ?_ ?_ ?_ ?_
           rotate_left
           ·intro w'
            go_simp
            with_reducible rfl
           rotate_left
           ·simp only [Act.put, sa_, s0_, s1_, i64_w, i32_w]
            rfl
           refine one_ (i := 16) (N := some 44) (bv_ 17 2) rfl rfl (one_of HT_.out (by kernel_rfl)) (by decide) (fun K hK => ?_)
           refine value_ (w1 := ?_) (v := ?_) (by rfl) rfl ?_ ?_
           rotate_left 2
           ·go_simp
            constructor
            ·rfl
            ·rfl
           refine hK.out _ _ ⟨(blk_cell (blk_alloc BK481.out _) 0).trans rfl, (blk_cell (blk_alloc BK481.out _) 1).trans rfl, (blk_cell (blk_alloc BK481.out _) 2).trans rfl, (blk_cell (blk_alloc BK481.out _) 3).trans rfl, (blk_cell (blk_alloc BK481.out _) 4).trans rfl, (blk_cell (blk_alloc BK481.out _) 5).trans rfl, (blk_cell (blk_alloc BK481.out _) 6).trans rfl, (blk_cell (blk_alloc BK481.out _) 7).trans rfl, (blk_cell (blk_alloc BK481.out _) 8).trans rfl, (blk_cell (blk_alloc BK481.out _) 9).trans rfl, (blk_cell (blk_alloc BK481.out _) 10).trans rfl, (blk_cell (blk_alloc BK481.out _) 11).trans rfl, (blk_cell (blk_alloc BK481.out _) 12).trans rfl, (blk_cell (blk_alloc BK481.out _) 13).trans rfl, (blk_cell (blk_alloc BK481.out _) 14).trans rfl, (blk_cell (blk_alloc BK481.out _) 15).trans rfl, (blk_cell (blk_alloc BK481.out _) 16).trans rfl, (blk_idx (blk_alloc BK481.out _) .u8 [.bool true] [z1, z2, z3, z4, z5, z6, z7, z8, z9, za, zb, zc, zd, ze, zf, zg] [] rfl (ji17) (of_decide_eq_true as_) (of_decide_eq_true as_) rfl), (blk_idx (blk_alloc BK481.out _) .u8 [.bool true] [z1, z2, z3, z4, z5, z6, z7, z8, z9, za, zb, zc, zd, ze, zf, zg] [] rfl (ji20) (of_decide_eq_true as_) (of_decide_eq_true as_) rfl)⟩ (fun hHeld => ?_)
           clear hK K
           refine norm_ (a' := ?_) ?_ ?_
           rotate_left
           ·show Act.put _ (some 44) _ = _
            simp only [Act.put, sa_, s0_, s1_, i64_w, i32_w]
            rfl
           refine one_ (i := 17) (N := some 45) (bv_ 18 1) rfl rfl (one_of HT_.out (by kernel_rfl)) (by decide) (fun K hK => ?_)
           refine Kd.R_append_step (Kd.int .i64) (w0 := w) w.heap.size (by rfl) (.tmp 28) (.tmp 44) 61 3 (.int .i64 0) 8 rfl Tryz.underlying61 info3 rfl (by decide) (by omega) u3 x3_1 (wrap64 ((wrap64 ((wrap64 (rd [z1, z2, z3, z4, z5, z6, z7, z8, z9, za, zb, zc, zd, ze, zf, zg] (ji17))) * 256)) + (wrap64 (rd [z1, z2, z3, z4, z5, z6, z7, z8, z9, za, zb, zc, zd, ze, zf, zg] (ji20))))) [.int .i64 (wrap64 ((wrap64 ((wrap64 (rd [z1, z2, z3, z4, z5, z6, z7, z8, z9, za, zb, zc, zd, ze, zf, zg] (ji17))) * 256)) + (wrap64 (rd [z1, z2, z3, z4, z5, z6, z7, z8, z9, za, zb, zc, zd, ze, zf, zg] (ji20)))))] (fun _ => True) (fun _ => False) rfl rfl ?aP (fun _ hk => hk.elim) ?aF ?aO ?aB ?aS ?aL ?_
           (case aP => exact rfl)
           (case aB => exact bg_)
           (case aF => exact (fun _ _ => trivial))
           (case aO => exact (by (with_reducible repeat (first | apply Kd.R_alloc | apply Kd.R_drewN | apply Kd.R_drew)); exact HO_3.out))
           (case aS => exact (below_size bg_))
           (case aL => have := LMc23.out; omega)
           intro v491 w27 ho hb hg hat
           rw [← Ny490.out] at ho
           replace BK481 := Aside0.mk (blk_grown (g := gb481) (o := .cells (ag_ true z1 z2 z3 z4 z5 z6 z7 z8 z9 za zb zc zd ze zf zg) 24 (0, 0)) bk_ hg (Kd.R_ne HO_3.out BK481.out (by decide)))
           have HO492 := Aside0.mk (ho)
           replace HB := Aside0.mk (hb)
           clear HO_3 ho hb hg hat
           refine hK.out _ _ ⟨(blk_cell BK481.out 0).trans rfl, (blk_cell BK481.out 1).trans rfl, (blk_cell BK481.out 2).trans rfl, (blk_cell BK481.out 3).trans rfl, (blk_cell BK481.out 4).trans rfl, (blk_cell BK481.out 5).trans rfl, (blk_cell BK481.out 6).trans rfl, (blk_cell BK481.out 7).trans rfl, (blk_cell BK481.out 8).trans rfl, (blk_cell BK481.out 9).trans rfl, (blk_cell BK481.out 10).trans rfl, (blk_cell BK481.out 11).trans rfl, (blk_cell BK481.out 12).trans rfl, (blk_cell BK481.out 13).trans rfl, (blk_cell BK481.out 14).trans rfl, (blk_cell BK481.out 15).trans rfl, (blk_cell BK481.out 16).trans rfl, (blk_idx BK481.out .u8 [.bool true] [z1, z2, z3, z4, z5, z6, z7, z8, z9, za, zb, zc, zd, ze, zf, zg] [] rfl (ji17) (of_decide_eq_true as_) (of_decide_eq_true as_) rfl), (blk_idx BK481.out .u8 [.bool true] [z1, z2, z3, z4, z5, z6, z7, z8, z9, za, zb, zc, zd, ze, zf, zg] [] rfl (ji20) (of_decide_eq_true as_) (of_decide_eq_true as_) rfl)⟩ (fun hHeld => ?_)
           clear hK K
           refine norm_ (a' := ?_) ?_ ?_
           rotate_left
           ·show Act.put _ (some 45) _ = _
            simp only [Act.put, sa_, s0_, s1_, i64_w, i32_w]
            rfl
           refine pl_ 18 3 ?_ 19 0 HT_ ?_ ?_ ?_ ?_
           rotate_left
           ·intro w'
            go_simp
            with_reducible rfl
           rotate_left
           ·simp only [Act.put, sa_, s0_, s1_, i64_w, i32_w]
            rfl
           refine done_ (done_of HT_.out (by kernel_rfl)) ?_
           try go_wp2
           go_roundg k1
           case measure => have := HK1.out; omega
           case rel => exact ⟨(y490), (wrap64 (x4_1 + 1)), sq_, H', ⟨by have := HK1.out; omega⟩, ⟨by (with_reducible repeat (first | apply Kd.R_alloc | apply Kd.R_drewN | apply Kd.R_drew)); exact HO492.out⟩, ⟨bk_⟩, ⟨bg_⟩⟩
          ·rw [if_neg c23] at H
           exact absurd H (by simp)
         ·rw [if_neg c22] at H
          exact absurd H (by simp)
        ·rw [if_neg c21] at H
         exact absurd H (by simp)
       ·rw [if_neg c19] at H
        exact absurd H (by simp)
      ·rw [if_neg c18] at H
       exact absurd H (by simp)
     ·rw [if_neg c16] at H
      have c16b0 := decide_eq_false c16
      clear c16
      have H' := Aside0.mk H
      clear H
      go_wp2
      go_loopg [5, 6, 7] k1 (fun kq v5 v6 v7 w' => ∃ (x5_2 : Int) (x6_2 : Int) (x7_2 : Int), v5 = .int .i64 x5_2 ∧ v6 = .int .i64 x6_2 ∧ v7 = .int .i64 x7_2 ∧ Aside0 (lanternref05_Print.l1 kq x3_1 x5_2 x6_2 x7_2 = some r) ∧ Aside0 (kq ≤ k1) ∧ Aside0 (Kd.R (Kd.int .i64) 3 w' w.heap.size (fun _ => True) u3 x3_1) ∧ Aside0 (w'.heap[gb481]? = some (.cells (ag_ true z1 z2 z3 z4 z5 z6 z7 z8 z9 za zb zc zd ze zf zg) 24 (0, 0))) ∧ Aside0 (Below w.heap.size w w'))
      case atStart => exact ⟨(0), (0), (0), sq_, sq_, sq_, H', ⟨Nat.le_refl _⟩, ⟨by (with_reducible repeat (first | apply Kd.R_alloc | apply Kd.R_drewN | apply Kd.R_drew)); exact HO_3.out⟩, ⟨bk_⟩, ⟨bg_⟩⟩
      case round =>
       clear H'
       obtain ⟨x5_2, x6_2, x7_2, rfl, rfl, rfl, HA, HK2, HO_3, BK481, HB⟩ := hrel
       cases gk with
       | zero => exact absurd HA.out (by simp [lanternref05_Print.l1])
       | succ k2 =>
        have H := HA.out
        clear HA
        simp only [lanternref05_Print.l1] at H
        by_cases c28 : x7_2 < 8
        ·rw [if_pos c28] at H
         have c28b0 := decide_eq_true c28
         clear c28
         have H' := Aside0.mk H
         clear H
         go_wp2
         go_loopg [5, 6, 8] k2 (fun kq v5 v6 v8 w' => ∃ (x5_3 : Int) (x6_3 : Int) (x8_3 : Int), v5 = .int .i64 x5_3 ∧ v6 = .int .i64 x6_3 ∧ v8 = .int .i64 x8_3 ∧ Aside0 (lanternref05_Print.l2 kq x3_1 x5_3 x6_3 x7_2 x8_3 = some r) ∧ Aside0 (kq ≤ k2) ∧ Aside0 (Kd.R (Kd.int .i64) 3 w' w.heap.size (fun _ => True) u3 x3_1) ∧ Aside0 (w'.heap[gb481]? = some (.cells (ag_ true z1 z2 z3 z4 z5 z6 z7 z8 z9 za zb zc zd ze zf zg) 24 (0, 0))) ∧ Aside0 (Below w.heap.size w w'))
         case atStart => exact ⟨(x5_2), (x6_2), (8), sq_, sq_, sq_, H', ⟨Nat.le_refl _⟩, ⟨by (with_reducible repeat (first | apply Kd.R_alloc | apply Kd.R_drewN | apply Kd.R_drew)); exact HO_3.out⟩, ⟨bk_⟩, ⟨bg_⟩⟩
         case round =>
          clear H'
          obtain ⟨x5_3, x6_3, x8_3, rfl, rfl, rfl, HA, HK3, HO_3, BK481, HB⟩ := hrel
          cases gk with
          | zero => exact absurd HA.out (by simp [lanternref05_Print.l2])
          | succ k3 =>
           have H := HA.out
           clear HA
           simp only [lanternref05_Print.l2] at H
           by_cases c29 : x8_3 > x7_2
           ·rw [if_pos c29] at H
            have c29b0 := decide_eq_true c29
            clear c29
            have H' := Aside0.mk H
            clear H
            go_wp2
            go_loopg [9, 10] k3 (fun kq v9 v10 w' => ∃ (x9_4 : Bool) (x10_4 : Int), v9 = .bool x9_4 ∧ v10 = .int .i64 x10_4 ∧ Aside0 (lanternref05_Print.l3 kq x3_1 x5_3 x6_3 x7_2 x8_3 x9_4 x10_4 = some r) ∧ Aside0 (kq ≤ k3) ∧ Aside0 (Kd.R (Kd.int .i64) 3 w' w.heap.size (fun _ => True) u3 x3_1) ∧ Aside0 (w'.heap[gb481]? = some (.cells (ag_ true z1 z2 z3 z4 z5 z6 z7 z8 z9 za zb zc zd ze zf zg) 24 (0, 0))) ∧ Aside0 (Below w.heap.size w w'))
            case atStart => exact ⟨(true), (x7_2), sq_, sq_, H', ⟨Nat.le_refl _⟩, ⟨by (with_reducible repeat (first | apply Kd.R_alloc | apply Kd.R_drewN | apply Kd.R_drew)); exact HO_3.out⟩, ⟨bk_⟩, ⟨bg_⟩⟩
            case round =>
             clear H'
             obtain ⟨x9_4, x10_4, rfl, rfl, HA, HK4, HO_3, BK481, HB⟩ := hrel
             cases gk with
             | zero => exact absurd HA.out (by simp [lanternref05_Print.l3])
             | succ k4 =>
              have H := HA.out
              clear HA
              simp only [lanternref05_Print.l3] at H
              by_cases c30 : x10_4 < x8_3
              ·rw [if_pos c30] at H
               have c30b0 := decide_eq_true c30
               clear c30
               by_cases c31 : x9_4 = true
               ·subst c31
                replace H := ifT_ H
                by_cases c32 : 0 ≤ x10_4
                ·rw [if_pos c32] at H
                 have c32b0 := decide_eq_true c32
                 clear c32
                 by_cases c33 : x10_4 < (x3_1.length : Int)
                 ·rw [if_pos c33] at H
                  have c33b0 := decide_eq_true c33
                  clear c33
                  have H' := Aside0.mk H
                  clear H
                  obtain ⟨Ao34, co34, eo34⟩ := Kd.R_slice HO_3.out
                  subst eo34
                  have p493 : 0 ≤ (x10_4 : Int) := of_decide_eq_true as_
                  have q493 : x10_4 < (x3_1.length : Int) := of_decide_eq_true as_
                  obtain ⟨ad493, e493, hx493_0⟩ := Kd.at_int (Kd.R_reads' HO_3.out).2.2 x10_4 p493 q493
                  cases e493
                  replace p493 := eq_true p493
                  replace q493 := eq_true q493
                  go_wp2
                  go_roundg k4
                  case measure => have := HK1.out; have := HK2.out; have := HK3.out; have := HK4.out; omega
                  case rel => exact ⟨(((rd x3_1 x10_4) == 0)), (wrap64 (x10_4 + 1)), sq_, sq_, H', ⟨by have := HK1.out; have := HK2.out; have := HK3.out; have := HK4.out; omega⟩, ⟨by (with_reducible repeat (first | apply Kd.R_alloc | apply Kd.R_drewN | apply Kd.R_drew)); exact HO_3.out⟩, ⟨bk_⟩, ⟨bg_⟩⟩
                 ·rw [if_neg c33] at H
                  exact absurd H (by simp)
                ·rw [if_neg c32] at H
                 exact absurd H (by simp)
               ·replace c31 := Bool.eq_false_iff.mpr c31
                subst c31
                replace H := ifF_ H
                have H' := Aside0.mk H
                clear H
                go_wp2
                go_roundg k4
                case measure => have := HK1.out; have := HK2.out; have := HK3.out; have := HK4.out; omega
                case rel => exact ⟨(false), (wrap64 (x10_4 + 1)), sq_, sq_, H', ⟨by have := HK1.out; have := HK2.out; have := HK3.out; have := HK4.out; omega⟩, ⟨by (with_reducible repeat (first | apply Kd.R_alloc | apply Kd.R_drewN | apply Kd.R_drew)); exact HO_3.out⟩, ⟨bk_⟩, ⟨bg_⟩⟩
              ·rw [if_neg c30] at H
               have c30b0 := decide_eq_false c30
               clear c30
               by_cases c35 : x9_4 = true
               ·subst c35
                replace H := ifT_ H
                by_cases c36 : (wrap64 (x8_3 - x7_2)) > x6_3
                ·rw [if_pos c36] at H
                 have c36b0 := decide_eq_true c36
                 clear c36
                 have H' := Aside0.mk H
                 clear H
                 go_wp2
                 go_roundg k4
                 case measure => have := HK1.out; have := HK2.out; have := HK3.out; have := HK4.out; omega
                 case rel => exact ⟨(x7_2), (wrap64 (x8_3 - x7_2)), (wrap64 (x8_3 - 1)), sq_, sq_, sq_, H', ⟨by have := HK1.out; have := HK2.out; have := HK3.out; have := HK4.out; omega⟩, ⟨by (with_reducible repeat (first | apply Kd.R_alloc | apply Kd.R_drewN | apply Kd.R_drew)); exact HO_3.out⟩, ⟨bk_⟩, ⟨bg_⟩⟩
                ·rw [if_neg c36] at H
                 have c36b0 := decide_eq_false c36
                 clear c36
                 have H' := Aside0.mk H
                 clear H
                 go_wp2
                 go_roundg k4
                 case measure => have := HK1.out; have := HK2.out; have := HK3.out; have := HK4.out; omega
                 case rel => exact ⟨(x5_3), (x6_3), (wrap64 (x8_3 - 1)), sq_, sq_, sq_, H', ⟨by have := HK1.out; have := HK2.out; have := HK3.out; have := HK4.out; omega⟩, ⟨by (with_reducible repeat (first | apply Kd.R_alloc | apply Kd.R_drewN | apply Kd.R_drew)); exact HO_3.out⟩, ⟨bk_⟩, ⟨bg_⟩⟩
               ·replace c35 := Bool.eq_false_iff.mpr c35
                subst c35
                replace H := ifF_ H
                have H' := Aside0.mk H
                clear H
                go_wp2
                go_roundg k4
                case measure => have := HK1.out; have := HK2.out; have := HK3.out; have := HK4.out; omega
                case rel => exact ⟨(x5_3), (x6_3), (wrap64 (x8_3 - 1)), sq_, sq_, sq_, H', ⟨by have := HK1.out; have := HK2.out; have := HK3.out; have := HK4.out; omega⟩, ⟨by (with_reducible repeat (first | apply Kd.R_alloc | apply Kd.R_drewN | apply Kd.R_drew)); exact HO_3.out⟩, ⟨bk_⟩, ⟨bg_⟩⟩
           ·rw [if_neg c29] at H
            have c29b0 := decide_eq_false c29
            clear c29
            have H' := Aside0.mk H
            clear H
            go_wp2
            go_roundg k3
            case measure => have := HK1.out; have := HK2.out; have := HK3.out; omega
            case rel => exact ⟨(x5_3), (x6_3), (wrap64 (x7_2 + 1)), sq_, sq_, sq_, H', ⟨by have := HK1.out; have := HK2.out; have := HK3.out; omega⟩, ⟨by (with_reducible repeat (first | apply Kd.R_alloc | apply Kd.R_drewN | apply Kd.R_drew)); exact HO_3.out⟩, ⟨bk_⟩, ⟨bg_⟩⟩
        ·rw [if_neg c28] at H
         have c28b0 := decide_eq_false c28
         clear c28
         have H' := Aside0.mk H
         clear H
         go_wp2
         go_loopg [11, 12] k2 (fun kq v11 v12 w' => ∃ (x11_3 : ByteArray) (x12_3 : Int), v11 = .string x11_3 ∧ v12 = .int .i64 x12_3 ∧ Aside0 (lanternref05_Print.l4 kq x3_1 x5_2 x6_2 x11_3 x12_3 = some r) ∧ Aside0 (kq ≤ k2) ∧ Aside0 (Kd.R (Kd.int .i64) 3 w' w.heap.size (fun _ => True) u3 x3_1) ∧ Aside0 (w'.heap[gb481]? = some (.cells (ag_ true z1 z2 z3 z4 z5 z6 z7 z8 z9 za zb zc zd ze zf zg) 24 (0, 0))) ∧ Aside0 (Below w.heap.size w w'))
         case atStart => exact ⟨((⟨#[]⟩ : ByteArray)), (0), sq_, sq_, H', ⟨Nat.le_refl _⟩, ⟨by (with_reducible repeat (first | apply Kd.R_alloc | apply Kd.R_drewN | apply Kd.R_drew)); exact HO_3.out⟩, ⟨bk_⟩, ⟨bg_⟩⟩
         case round =>
          clear H'
          obtain ⟨x11_3, x12_3, rfl, rfl, HA, HK3, HO_3, BK481, HB⟩ := hrel
          cases gk with
          | zero => exact absurd HA.out (by simp [lanternref05_Print.l4])
          | succ k3 =>
           have H := HA.out
           clear HA
           simp only [lanternref05_Print.l4] at H
           by_cases c37 : x12_3 < 8
           ·rw [if_pos c37] at H
            have c37b0 := decide_eq_true c37
            clear c37
            have HC38 := Aside0.mk H
            clear H
            go_upto_region 28 with (fail)
            go_cut [91] (fun v91 wc => ∃ (kq : Nat) (x91_37 : Bool), v91 = .bool x91_37 ∧ Aside0 (lanternref05_Print.j5 kq x3_1 x5_2 x6_2 x11_3 x12_3 x91_37 = some r) ∧ Aside0 (kq ≤ k3) ∧ Aside0 (Kd.R (Kd.int .i64) 3 wc w.heap.size (fun _ => True) u3 x3_1) ∧ Aside0 (wc.heap[gb481]? = some (.cells (ag_ true z1 z2 z3 z4 z5 z6 z7 z8 z9 za zb zc zd ze zf zg) 24 (0, 0))) ∧ Aside0 (Below w.heap.size w wc))
            case first =>
             have H := HC38.out
             clear HC38
             by_cases c39 : x6_2 ≥ 2
             ·rw [if_pos c39] at H
              have c39b0 := decide_eq_true c39
              clear c39
              (first | rw [c39b0] | (simp only [i64_w, i32_w]; rw [c39b0]) | skip)
              have H' := Aside0.mk H
              clear H
              go_wp2
              go_meet
              case rel => exact ⟨_, ((x12_3 == x5_2)), sq_, H', ⟨by have := HK1.out; have := HK2.out; have := HK3.out; first | omega | exact Nat.le_refl _⟩, ⟨by (with_reducible repeat (first | apply Kd.R_alloc | apply Kd.R_drewN | apply Kd.R_drew)); exact HO_3.out⟩, ⟨bk_⟩, ⟨bg_⟩⟩
             ·rw [if_neg c39] at H
              have c39b0 := decide_eq_false c39
              clear c39
              (first | rw [c39b0] | (simp only [i64_w, i32_w]; rw [c39b0]) | skip)
              have H' := Aside0.mk H
              clear H
              go_wp2
              go_meet
              case rel => exact ⟨_, (false), sq_, H', ⟨by have := HK1.out; have := HK2.out; have := HK3.out; first | omega | exact Nat.le_refl _⟩, ⟨by (with_reducible repeat (first | apply Kd.R_alloc | apply Kd.R_drewN | apply Kd.R_drew)); exact HO_3.out⟩, ⟨bk_⟩, ⟨bg_⟩⟩
            case rest =>
             clear HC38
             obtain ⟨kq, x91_37, rfl, HA, HJ37, HO_3, BK481, HB⟩ := hcut
             cases kq with
             | zero => exact absurd HA.out (by simp [lanternref05_Print.j5])
             | succ kj37 =>
              have H := HA.out
              clear HA
              simp only [lanternref05_Print.j5] at H
              have HC40 := Aside0.mk H
              clear H
              go_upto_if 91 with (fail)
              go_cut [11] (fun v11 wc => ∃ (kq : Nat) (x11_39 : ByteArray), v11 = .string x11_39 ∧ Aside0 (lanternref05_Print.j6 kq x3_1 x5_2 x6_2 x11_39 x12_3 = some r) ∧ Aside0 (kq ≤ kj37) ∧ Aside0 (Kd.R (Kd.int .i64) 3 wc w.heap.size (fun _ => True) u3 x3_1) ∧ Aside0 (wc.heap[gb481]? = some (.cells (ag_ true z1 z2 z3 z4 z5 z6 z7 z8 z9 za zb zc zd ze zf zg) 24 (0, 0))) ∧ Aside0 (Below w.heap.size w wc))
              case first =>
               have H := HC40.out
               clear HC40
               by_cases c41 : x91_37 = true
               ·subst c41
                replace H := ifT_ H
                by_cases c42 : x11_3.size + 2 ≤ 9223372036854775807
                ·rw [if_pos c42] at H
                 have c42b0 := eq_true c42
                 have c42b1 := decide_eq_true c42
                 try have c42b2 : (9223372036854775807 < x11_3.size + 2) = False := eq_false (Nat.not_lt.2 c42)
                 have H' := Aside0.mk H
                 clear H
                 go_wp2
                 go_meet
                 case rel => exact ⟨_, (x11_3 ++ (⟨#[58, 58]⟩ : ByteArray)), sq_, H', ⟨by have := HK1.out; have := HK2.out; have := HK3.out; have := HJ37.out; first | omega | exact Nat.le_refl _⟩, ⟨by (with_reducible repeat (first | apply Kd.R_alloc | apply Kd.R_drewN | apply Kd.R_drew)); exact HO_3.out⟩, ⟨bk_⟩, ⟨bg_⟩⟩
                ·rw [if_neg c42] at H
                 exact absurd H (by simp)
               ·replace c41 := Bool.eq_false_iff.mpr c41
                subst c41
                replace H := ifF_ H
                have H' := Aside0.mk H
                clear H
                go_wp2
                go_meet
                case rel => exact ⟨_, (x11_3), sq_, H', ⟨by have := HK1.out; have := HK2.out; have := HK3.out; have := HJ37.out; first | omega | exact Nat.le_refl _⟩, ⟨by (with_reducible repeat (first | apply Kd.R_alloc | apply Kd.R_drewN | apply Kd.R_drew)); exact HO_3.out⟩, ⟨bk_⟩, ⟨bg_⟩⟩
              case rest =>
               clear HC40
               obtain ⟨kq, x11_39, rfl, HA, HJ39, HO_3, BK481, HB⟩ := hcut
               cases kq with
               | zero => exact absurd HA.out (by simp [lanternref05_Print.j6])
               | succ kj39 =>
                have H := HA.out
                clear HA
                simp only [lanternref05_Print.j6] at H
                have HC43 := Aside0.mk H
                clear H
                go_upto_region 30 with (fail)
                go_cut [107] (fun v107 wc => ∃ (kq : Nat) (x107_42 : Bool), v107 = .bool x107_42 ∧ Aside0 (lanternref05_Print.j7 kq x3_1 x5_2 x6_2 x11_39 x12_3 x107_42 = some r) ∧ Aside0 (kq ≤ kj39) ∧ Aside0 (Kd.R (Kd.int .i64) 3 wc w.heap.size (fun _ => True) u3 x3_1) ∧ Aside0 (wc.heap[gb481]? = some (.cells (ag_ true z1 z2 z3 z4 z5 z6 z7 z8 z9 za zb zc zd ze zf zg) 24 (0, 0))) ∧ Aside0 (Below w.heap.size w wc))
                case first =>
                 have H := HC43.out
                 clear HC43
                 by_cases c44 : x6_2 ≥ 2
                 ·rw [if_pos c44] at H
                  have c44b0 := decide_eq_true c44
                  clear c44
                  (first | rw [c44b0] | (simp only [i64_w, i32_w]; rw [c44b0]) | skip)
                  by_cases c45 : x12_3 ≥ x5_2
                  ·rw [if_pos c45] at H
                   have c45b0 := decide_eq_true c45
                   clear c45
                   have H' := Aside0.mk H
                   clear H
                   go_wp2
                   go_meet
                   case rel => exact ⟨_, (decide (x12_3 < (wrap64 (x5_2 + x6_2)))), sq_, H', ⟨by have := HK1.out; have := HK2.out; have := HK3.out; have := HJ37.out; have := HJ39.out; first | omega | exact Nat.le_refl _⟩, ⟨by (with_reducible repeat (first | apply Kd.R_alloc | apply Kd.R_drewN | apply Kd.R_drew)); exact HO_3.out⟩, ⟨bk_⟩, ⟨bg_⟩⟩
                  ·rw [if_neg c45] at H
                   have c45b0 := decide_eq_false c45
                   clear c45
                   have H' := Aside0.mk H
                   clear H
                   go_wp2
                   go_meet
                   case rel => exact ⟨_, (false), sq_, H', ⟨by have := HK1.out; have := HK2.out; have := HK3.out; have := HJ37.out; have := HJ39.out; first | omega | exact Nat.le_refl _⟩, ⟨by (with_reducible repeat (first | apply Kd.R_alloc | apply Kd.R_drewN | apply Kd.R_drew)); exact HO_3.out⟩, ⟨bk_⟩, ⟨bg_⟩⟩
                 ·rw [if_neg c44] at H
                  have c44b0 := decide_eq_false c44
                  clear c44
                  (first | rw [c44b0] | (simp only [i64_w, i32_w]; rw [c44b0]) | skip)
                  have H' := Aside0.mk H
                  clear H
                  go_wp2
                  go_meet
                  case rel => exact ⟨_, (false), sq_, H', ⟨by have := HK1.out; have := HK2.out; have := HK3.out; have := HJ37.out; have := HJ39.out; first | omega | exact Nat.le_refl _⟩, ⟨by (with_reducible repeat (first | apply Kd.R_alloc | apply Kd.R_drewN | apply Kd.R_drew)); exact HO_3.out⟩, ⟨bk_⟩, ⟨bg_⟩⟩
                case rest =>
                 clear HC43
                 obtain ⟨kq, x107_42, rfl, HA, HJ42, HO_3, BK481, HB⟩ := hcut
                 cases kq with
                 | zero => exact absurd HA.out (by simp [lanternref05_Print.j7])
                 | succ kj42 =>
                  have H := HA.out
                  clear HA
                  simp only [lanternref05_Print.j7] at H
                  by_cases c46 : x107_42 = true
                  ·subst c46
                   replace H := ifT_ H
                   have H' := Aside0.mk H
                   clear H
                   go_wp2
                   go_roundg kj42
                   case measure => have := HK1.out; have := HK2.out; have := HK3.out; have := HJ37.out; have := HJ39.out; have := HJ42.out; omega
                   case rel => exact ⟨(x11_39), (wrap64 (x12_3 + 1)), sq_, sq_, H', ⟨by have := HK1.out; have := HK2.out; have := HK3.out; have := HJ37.out; have := HJ39.out; have := HJ42.out; omega⟩, ⟨by (with_reducible repeat (first | apply Kd.R_alloc | apply Kd.R_drewN | apply Kd.R_drew)); exact HO_3.out⟩, ⟨bk_⟩, ⟨bg_⟩⟩
                  ·replace c46 := Bool.eq_false_iff.mpr c46
                   subst c46
                   replace H := ifF_ H
                   by_cases c47 : x12_3 > 0
                   ·rw [if_pos c47] at H
                    have c47b0 := decide_eq_true c47
                    clear c47
                    by_cases c48 : x6_2 ≥ 2
                    ·rw [if_pos c48] at H
                     have c48b0 := decide_eq_true c48
                     clear c48
                     by_cases c49 : (x12_3 = (wrap64 (x5_2 + x6_2)))
                     ·rw [if_pos c49] at H
                      have c49b0 := beq_iff_eq.mpr c49
                      have c49b1 := bne_eq_false_iff_eq.mpr c49
                      clear c49
                      by_cases c50 : 0 ≤ x12_3
                      ·rw [if_pos c50] at H
                       have c50b0 := decide_eq_true c50
                       clear c50
                       by_cases c51 : x12_3 < (x3_1.length : Int)
                       ·rw [if_pos c51] at H
                        have c51b0 := decide_eq_true c51
                        clear c51
                        replace H := Option.bind_eq_some_iff.mp H
                        obtain ⟨t495, A520, H⟩ := H
                        (try dsimp only at H)
                        have A52 := Aside0.mk A520
                        clear A520
                        by_cases c53 : x11_39.size + t495.size ≤ 9223372036854775807
                        ·rw [if_pos c53] at H
                         have c53b0 := eq_true c53
                         have c53b1 := decide_eq_true c53
                         try have c53b2 : (9223372036854775807 < x11_39.size + t495.size) = False := eq_false (Nat.not_lt.2 c53)
                         have H' := Aside0.mk H
                         clear H
                         obtain ⟨Ao54, co54, eo54⟩ := Kd.R_slice HO_3.out
                         subst eo54
                         have p494 : 0 ≤ (x12_3 : Int) := of_decide_eq_true as_
                         have q494 : x12_3 < (x3_1.length : Int) := of_decide_eq_true as_
                         obtain ⟨ad494, e494, hx494_0⟩ := Kd.at_int (Kd.R_reads' HO_3.out).2.2 x12_3 p494 q494
                         cases e494
                         replace p494 := eq_true p494
                         replace q494 := eq_true q494
                         go_wp2_with (first | ((with_reducible refine gate_callee (f := 51) rfl ?_); refine goesL_ (some 129) rfl rfl Tryz.func51 (by kernel_rfl) rfl #[.int .i64 (rd x3_1 x12_3), .int .i64 16] rfl lq_ ?_; (with_reducible refine (lanternref05_digits.calls kj42 (rd x3_1 x12_3) 16 t495 _ ?side1 A52.out).mono ?_); (case side1 => exact lg_); rintro e w' ⟨rfl, ⟨nd, rfl⟩⟩; refine ⟨_, rfl, ?_⟩))
                         go_roundg kj42
                         case measure => have := HK1.out; have := HK2.out; have := HK3.out; have := HJ37.out; have := HJ39.out; have := HJ42.out; omega
                         case rel => exact ⟨(x11_39 ++ t495), (wrap64 (x12_3 + 1)), sq_, sq_, H', ⟨by have := HK1.out; have := HK2.out; have := HK3.out; have := HJ37.out; have := HJ39.out; have := HJ42.out; omega⟩, ⟨by (with_reducible repeat (first | apply Kd.R_alloc | apply Kd.R_drewN | apply Kd.R_drew)); exact HO_3.out⟩, ⟨bk_⟩, ⟨bg_⟩⟩
                        ·rw [if_neg c53] at H
                         exact absurd H (by simp)
                       ·rw [if_neg c51] at H
                        exact absurd H (by simp)
                      ·rw [if_neg c50] at H
                       exact absurd H (by simp)
                     ·rw [if_neg c49] at H
                      have c49b0 := beq_eq_false_iff_ne.mpr c49
                      have c49b1 := bne_iff_ne.mpr c49
                      by_cases c55 : x11_39.size + 1 ≤ 9223372036854775807
                      ·rw [if_pos c55] at H
                       have c55b0 := eq_true c55
                       have c55b1 := decide_eq_true c55
                       try have c55b2 : (9223372036854775807 < x11_39.size + 1) = False := eq_false (Nat.not_lt.2 c55)
                       by_cases c56 : 0 ≤ x12_3
                       ·rw [if_pos c56] at H
                        have c56b0 := decide_eq_true c56
                        clear c56
                        by_cases c57 : x12_3 < (x3_1.length : Int)
                        ·rw [if_pos c57] at H
                         have c57b0 := decide_eq_true c57
                         clear c57
                         replace H := Option.bind_eq_some_iff.mp H
                         obtain ⟨t497, A580, H⟩ := H
                         (try dsimp only at H)
                         have A58 := Aside0.mk A580
                         clear A580
                         by_cases c59 : (x11_39 ++ (⟨#[58]⟩ : ByteArray)).size + t497.size ≤ 9223372036854775807
                         ·rw [if_pos c59] at H
                          have c59b0 := eq_true c59
                          have c59b1 := decide_eq_true c59
                          try have c59b2 : (9223372036854775807 < (x11_39 ++ (⟨#[58]⟩ : ByteArray)).size + t497.size) = False := eq_false (Nat.not_lt.2 c59)
                          try have c59b8 : (9223372036854775807 < x11_39.size + 1 + t497.size) = False := eq_false (by have hq := of_eq_true c59b0; simp only [ByteArray.size_append, ByteArray.size_extract] at hq; have hz0 : (⟨#[58]⟩ : ByteArray).size = 1 := rfl; omega)
                          have H' := Aside0.mk H
                          clear H
                          obtain ⟨Ao60, co60, eo60⟩ := Kd.R_slice HO_3.out
                          subst eo60
                          have p496 : 0 ≤ (x12_3 : Int) := of_decide_eq_true as_
                          have q496 : x12_3 < (x3_1.length : Int) := of_decide_eq_true as_
                          obtain ⟨ad496, e496, hx496_0⟩ := Kd.at_int (Kd.R_reads' HO_3.out).2.2 x12_3 p496 q496
                          cases e496
                          replace p496 := eq_true p496
                          replace q496 := eq_true q496
                          go_wp2_with (first | ((with_reducible refine gate_callee (f := 51) rfl ?_); refine goesL_ (some 129) rfl rfl Tryz.func51 (by kernel_rfl) rfl #[.int .i64 (rd x3_1 x12_3), .int .i64 16] rfl lq_ ?_; (with_reducible refine (lanternref05_digits.calls kj42 (rd x3_1 x12_3) 16 t497 _ ?side1 A58.out).mono ?_); (case side1 => exact lg_); rintro e w' ⟨rfl, ⟨nd, rfl⟩⟩; refine ⟨_, rfl, ?_⟩))
                          go_roundg kj42
                          case measure => have := HK1.out; have := HK2.out; have := HK3.out; have := HJ37.out; have := HJ39.out; have := HJ42.out; omega
                          case rel => exact ⟨((x11_39 ++ (⟨#[58]⟩ : ByteArray)) ++ t497), (wrap64 (x12_3 + 1)), sq_, sq_, H', ⟨by have := HK1.out; have := HK2.out; have := HK3.out; have := HJ37.out; have := HJ39.out; have := HJ42.out; omega⟩, ⟨by (with_reducible repeat (first | apply Kd.R_alloc | apply Kd.R_drewN | apply Kd.R_drew)); exact HO_3.out⟩, ⟨bk_⟩, ⟨bg_⟩⟩
                         ·rw [if_neg c59] at H
                          exact absurd H (by simp)
                        ·rw [if_neg c57] at H
                         exact absurd H (by simp)
                       ·rw [if_neg c56] at H
                        exact absurd H (by simp)
                      ·rw [if_neg c55] at H
                       exact absurd H (by simp)
                    ·rw [if_neg c48] at H
                     have c48b0 := decide_eq_false c48
                     clear c48
                     by_cases c61 : x11_39.size + 1 ≤ 9223372036854775807
                     ·rw [if_pos c61] at H
                      have c61b0 := eq_true c61
                      have c61b1 := decide_eq_true c61
                      try have c61b2 : (9223372036854775807 < x11_39.size + 1) = False := eq_false (Nat.not_lt.2 c61)
                      by_cases c62 : 0 ≤ x12_3
                      ·rw [if_pos c62] at H
                       have c62b0 := decide_eq_true c62
                       clear c62
                       by_cases c63 : x12_3 < (x3_1.length : Int)
                       ·rw [if_pos c63] at H
                        have c63b0 := decide_eq_true c63
                        clear c63
                        replace H := Option.bind_eq_some_iff.mp H
                        obtain ⟨t499, A640, H⟩ := H
                        (try dsimp only at H)
                        have A64 := Aside0.mk A640
                        clear A640
                        by_cases c65 : (x11_39 ++ (⟨#[58]⟩ : ByteArray)).size + t499.size ≤ 9223372036854775807
                        ·rw [if_pos c65] at H
                         have c65b0 := eq_true c65
                         have c65b1 := decide_eq_true c65
                         try have c65b2 : (9223372036854775807 < (x11_39 ++ (⟨#[58]⟩ : ByteArray)).size + t499.size) = False := eq_false (Nat.not_lt.2 c65)
                         try have c65b8 : (9223372036854775807 < x11_39.size + 1 + t499.size) = False := eq_false (by have hq := of_eq_true c65b0; simp only [ByteArray.size_append, ByteArray.size_extract] at hq; have hz0 : (⟨#[58]⟩ : ByteArray).size = 1 := rfl; omega)
                         have H' := Aside0.mk H
                         clear H
                         obtain ⟨Ao66, co66, eo66⟩ := Kd.R_slice HO_3.out
                         subst eo66
                         have p498 : 0 ≤ (x12_3 : Int) := of_decide_eq_true as_
                         have q498 : x12_3 < (x3_1.length : Int) := of_decide_eq_true as_
                         obtain ⟨ad498, e498, hx498_0⟩ := Kd.at_int (Kd.R_reads' HO_3.out).2.2 x12_3 p498 q498
                         cases e498
                         replace p498 := eq_true p498
                         replace q498 := eq_true q498
                         go_wp2_with (first | ((with_reducible refine gate_callee (f := 51) rfl ?_); refine goesL_ (some 129) rfl rfl Tryz.func51 (by kernel_rfl) rfl #[.int .i64 (rd x3_1 x12_3), .int .i64 16] rfl lq_ ?_; (with_reducible refine (lanternref05_digits.calls kj42 (rd x3_1 x12_3) 16 t499 _ ?side1 A64.out).mono ?_); (case side1 => exact lg_); rintro e w' ⟨rfl, ⟨nd, rfl⟩⟩; refine ⟨_, rfl, ?_⟩))
                         go_roundg kj42
                         case measure => have := HK1.out; have := HK2.out; have := HK3.out; have := HJ37.out; have := HJ39.out; have := HJ42.out; omega
                         case rel => exact ⟨((x11_39 ++ (⟨#[58]⟩ : ByteArray)) ++ t499), (wrap64 (x12_3 + 1)), sq_, sq_, H', ⟨by have := HK1.out; have := HK2.out; have := HK3.out; have := HJ37.out; have := HJ39.out; have := HJ42.out; omega⟩, ⟨by (with_reducible repeat (first | apply Kd.R_alloc | apply Kd.R_drewN | apply Kd.R_drew)); exact HO_3.out⟩, ⟨bk_⟩, ⟨bg_⟩⟩
                        ·rw [if_neg c65] at H
                         exact absurd H (by simp)
                       ·rw [if_neg c63] at H
                        exact absurd H (by simp)
                      ·rw [if_neg c62] at H
                       exact absurd H (by simp)
                     ·rw [if_neg c61] at H
                      exact absurd H (by simp)
                   ·rw [if_neg c47] at H
                    have c47b0 := decide_eq_false c47
                    clear c47
                    by_cases c67 : 0 ≤ x12_3
                    ·rw [if_pos c67] at H
                     have c67b0 := decide_eq_true c67
                     clear c67
                     by_cases c68 : x12_3 < (x3_1.length : Int)
                     ·rw [if_pos c68] at H
                      have c68b0 := decide_eq_true c68
                      clear c68
                      replace H := Option.bind_eq_some_iff.mp H
                      obtain ⟨t501, A690, H⟩ := H
                      (try dsimp only at H)
                      have A69 := Aside0.mk A690
                      clear A690
                      by_cases c70 : x11_39.size + t501.size ≤ 9223372036854775807
                      ·rw [if_pos c70] at H
                       have c70b0 := eq_true c70
                       have c70b1 := decide_eq_true c70
                       try have c70b2 : (9223372036854775807 < x11_39.size + t501.size) = False := eq_false (Nat.not_lt.2 c70)
                       have H' := Aside0.mk H
                       clear H
                       obtain ⟨Ao71, co71, eo71⟩ := Kd.R_slice HO_3.out
                       subst eo71
                       have p500 : 0 ≤ (x12_3 : Int) := of_decide_eq_true as_
                       have q500 : x12_3 < (x3_1.length : Int) := of_decide_eq_true as_
                       obtain ⟨ad500, e500, hx500_0⟩ := Kd.at_int (Kd.R_reads' HO_3.out).2.2 x12_3 p500 q500
                       cases e500
                       replace p500 := eq_true p500
                       replace q500 := eq_true q500
                       go_wp2_with (first | ((with_reducible refine gate_callee (f := 51) rfl ?_); refine goesL_ (some 129) rfl rfl Tryz.func51 (by kernel_rfl) rfl #[.int .i64 (rd x3_1 x12_3), .int .i64 16] rfl lq_ ?_; (with_reducible refine (lanternref05_digits.calls kj42 (rd x3_1 x12_3) 16 t501 _ ?side1 A69.out).mono ?_); (case side1 => exact lg_); rintro e w' ⟨rfl, ⟨nd, rfl⟩⟩; refine ⟨_, rfl, ?_⟩))
                       go_roundg kj42
                       case measure => have := HK1.out; have := HK2.out; have := HK3.out; have := HJ37.out; have := HJ39.out; have := HJ42.out; omega
                       case rel => exact ⟨(x11_39 ++ t501), (wrap64 (x12_3 + 1)), sq_, sq_, H', ⟨by have := HK1.out; have := HK2.out; have := HK3.out; have := HJ37.out; have := HJ39.out; have := HJ42.out; omega⟩, ⟨by (with_reducible repeat (first | apply Kd.R_alloc | apply Kd.R_drewN | apply Kd.R_drew)); exact HO_3.out⟩, ⟨bk_⟩, ⟨bg_⟩⟩
                      ·rw [if_neg c70] at H
                       exact absurd H (by simp)
                     ·rw [if_neg c68] at H
                      exact absurd H (by simp)
                    ·rw [if_neg c67] at H
                     exact absurd H (by simp)
           ·rw [if_neg c37] at H
            have c37b0 := decide_eq_false c37
            clear c37
            obtain rfl := Option.some.inj H
            go_wp2
            go_ret
            exact ⟨rq_, bg_⟩
 ·replace c2 := Bool.eq_false_iff.mpr c2
  subst c2
  replace H := ifF_ H
  replace H := Option.bind_eq_some_iff.mp H
  obtain ⟨t482, A720, H⟩ := H
  (try dsimp only at H)
  have A72 := Aside0.mk A720
  clear A720
  obtain rfl := Option.some.inj H
  go_enter Tryz.func24, Tryz.ntmps24
  go_wp2_with (first | ((with_reducible refine gate_dst (N := 1) rfl ?_); refine bx_ 1 (ag_ false z1 z2 z3 z4 z5 z6 z7 z8 z9 za zb zc zd ze zf zg) 24 ?_; intro gb481 hg w73 hbox hb; have BK481 := Aside0.mk (hbox); have GW481 := Aside0.mk (ge_ (w := w) hg); have GE481 := Aside0.mk (ge_ (w := w) hg); replace HB := Aside0.mk (below_step bq_ hb); clear hb hbox hg; obtain ⟨hcz74_0, hcz74_1, hcz74_2, hcz74_3, hcz74_4, hcz74_5, hcz74_6, hcz74_7, hcz74_8, hcz74_9, hcz74_10, hcz74_11, hcz74_12, hcz74_13, hcz74_14, hcz74_15, hcz74_16⟩ := c17_ BK481; obtain ⟨hfz74_0, hfz74_1, hfz74_2, hfz74_3, hfz74_4, hfz74_5, hfz74_6, hfz74_7, hfz74_8, hfz74_9, hfz74_10, hfz74_11, hfz74_12, hfz74_13, hfz74_14, hfz74_15, hfz74_16⟩ := f17_ BK481) | ((with_reducible refine gate_dst (N := 16) rfl ?_); (try (refine gate_guard (by rfl) ?_; dsimp only)); refine load_box ?hg 24 (.tmp 1) rfl BK481.out [] (al_ false z1 z2 z3 z4 z5 z6 z7 z8 z9 za zb zc zd ze zf zg) [] rfl 0 rfl rfl Tryz.underlying24 rfl (by kernel_rfl) ?_; (case hg => rfl)) | ((with_reducible refine gate_callee (f := 49) rfl ?_); refine goesL_ (some 17) rfl rfl Tryz.func49 (by kernel_rfl) rfl #[.agg (ag_ false z1 z2 z3 z4 z5 z6 z7 z8 z9 za zb zc zd ze zf zg)] rfl lq_ ?_; (with_reducible refine (lanternref05_dots.calls k false z1 z2 z3 z4 z5 z6 z7 z8 z9 za zb zc zd ze zf zg t482 _ ?side1 A72.out).mono ?_); (case side1 => exact lg_); rintro e w75 ⟨rfl, hb⟩; refine ⟨_, rfl, ?_⟩; replace BK481 := Aside0.mk (bb_ BK481 hb); replace HB := Aside0.mk (below_step bg_ hb); (try clear hb); (try clear hb2); (try clear hk); (try clear hi)))
  go_ret
  exact ⟨rq_, bg_⟩

end Go.Proofs.YtdopafhppaalfaaGreatDoor.P
