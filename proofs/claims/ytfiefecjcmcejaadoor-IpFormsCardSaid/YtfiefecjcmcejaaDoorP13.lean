-- Written by a program of this session (wip/gen/lprint.py over the kit's print.py) out of the translation. Lean checks it.
import Derived.Test.YtfiefecjcmcejaaDoorP0
import Derived.Test.YtfiefecjcmcejaaDoorP12
namespace Go.Proofs.YtfiefecjcmcejaaDoor.P
open Go.Proofs.YtfiefecjcmcejaaDoor.E Go.Proofs.YtfiefecjcmcejaaDoorV
open Go.RowKit Go.Proofs.YtfiefecjcmcejaaDoorW.PrintWords Go.Proofs.YtfiefecjcmcejaaDoorW.PrintLast Go.Proofs.YtfiefecjcmcejaaDoorW.PrintMore
attribute [local go_sem] max2_int min2_int max_two min_two max_three min_three max_four min_four   -- for this text's walks alone
set_option linter.unusedVariables false
set_option linter.unusedSimpArgs false

mutual
def lanternref05_Print.l0 : Nat → List Int → Int → Bool → Int → Int → Int → Int → Int → Int → Int → Int → Int → Int → Int → Int → Int → Int → Int → Int → Option (ByteArray)
 | 0, _, _, _, _, _, _, _, _, _, _, _, _, _, _, _, _, _, _, _ => none
 | k + 1, x3, x4, x438000, x438001, x438002, x438003, x438004, x438005, x438006, x438007, x438008, x438009, x438010, x438011, x438012, x438013, x438014, x438015, x438016 => if x4 < 8 then (if 0 ≤ (wrap64 (2 * x4)) then (if (wrap64 (2 * x4)) < 16 then (if 0 ≤ (wrap64 ((wrap64 (2 * x4)) + 1)) then (if (wrap64 ((wrap64 (2 * x4)) + 1)) < 16 then (if x3.length < 17592186044416 then (lanternref05_Print.l0 k (x3 ++ [wrap64 ((wrap64 ((wrap64 (rd [x438001, x438002, x438003, x438004, x438005, x438006, x438007, x438008, x438009, x438010, x438011, x438012, x438013, x438014, x438015, x438016] (wrap64 (2 * x4)))) * 256)) + (wrap64 (rd [x438001, x438002, x438003, x438004, x438005, x438006, x438007, x438008, x438009, x438010, x438011, x438012, x438013, x438014, x438015, x438016] (wrap64 ((wrap64 (2 * x4)) + 1)))))]) (wrap64 (x4 + 1)) x438000 x438001 x438002 x438003 x438004 x438005 x438006 x438007 x438008 x438009 x438010 x438011 x438012 x438013 x438014 x438015 x438016) else (none)) else (none)) else (none)) else (none)) else (none)) else (lanternref05_Print.l1 k x3 0 0 0)
def lanternref05_Print.l1 : Nat → List Int → Int → Int → Int → Option (ByteArray)
 | 0, _, _, _, _ => none
 | k + 1, x3, x5, x6, x7 => if x7 < 8 then (lanternref05_Print.l2 k x3 x5 x6 x7 8) else (lanternref05_Print.l4 k x3 x5 x6 (⟨#[]⟩ : ByteArray) 0)
def lanternref05_Print.l2 : Nat → List Int → Int → Int → Int → Int → Option (ByteArray)
 | 0, _, _, _, _, _ => none
 | k + 1, x3, x5, x6, x7, x8 => if x8 > x7 then (lanternref05_Print.l3 k x3 x5 x6 x7 x8 true x7) else (lanternref05_Print.l1 k x3 x5 x6 (wrap64 (x7 + 1)))
def lanternref05_Print.l3 : Nat → List Int → Int → Int → Int → Int → Bool → Int → Option (ByteArray)
 | 0, _, _, _, _, _, _, _ => none
 | k + 1, x3, x5, x6, x7, x8, x9, x10 => if x10 < x8 then (if x9 = true then (if 0 ≤ x10 then (if x10 < (x3.length : Int) then (lanternref05_Print.l3 k x3 x5 x6 x7 x8 ((rd x3 x10) == 0) (wrap64 (x10 + 1))) else (none)) else (none)) else (lanternref05_Print.l3 k x3 x5 x6 x7 x8 false (wrap64 (x10 + 1)))) else (if x9 = true then (if (wrap64 (x8 - x7)) > x6 then (lanternref05_Print.l2 k x3 x7 (wrap64 (x8 - x7)) x7 (wrap64 (x8 - 1))) else (lanternref05_Print.l2 k x3 x5 x6 x7 (wrap64 (x8 - 1)))) else (lanternref05_Print.l2 k x3 x5 x6 x7 (wrap64 (x8 - 1))))
def lanternref05_Print.l4 : Nat → List Int → Int → Int → ByteArray → Int → Option (ByteArray)
 | 0, _, _, _, _, _ => none
 | k + 1, x3, x5, x6, x11, x12 => if x12 < 8 then (if x6 ≥ 2 then (lanternref05_Print.j5 k x3 x5 x6 x11 x12 (x12 == x5)) else (lanternref05_Print.j5 k x3 x5 x6 x11 x12 false)) else (some x11)
def lanternref05_Print.j5 : Nat → List Int → Int → Int → ByteArray → Int → Bool → Option (ByteArray)
 | 0, _, _, _, _, _, _ => none
 | k + 1, x3, x5, x6, x11, x12, x91 => if x91 = true then (if x11.size + 2 ≤ 9223372036854775807 then (lanternref05_Print.j6 k x3 x5 x6 (x11 ++ (⟨#[58, 58]⟩ : ByteArray)) x12) else (none)) else (lanternref05_Print.j6 k x3 x5 x6 x11 x12)
def lanternref05_Print.j6 : Nat → List Int → Int → Int → ByteArray → Int → Option (ByteArray)
 | 0, _, _, _, _, _ => none
 | k + 1, x3, x5, x6, x11, x12 => if x6 ≥ 2 then (if x12 ≥ x5 then (lanternref05_Print.j7 k x3 x5 x6 x11 x12 (decide (x12 < (wrap64 (x5 + x6))))) else (lanternref05_Print.j7 k x3 x5 x6 x11 x12 false)) else (lanternref05_Print.j7 k x3 x5 x6 x11 x12 false)
def lanternref05_Print.j7 : Nat → List Int → Int → Int → ByteArray → Int → Bool → Option (ByteArray)
 | 0, _, _, _, _, _, _ => none
 | k + 1, x3, x5, x6, x11, x12, x107 => if x107 = true then (lanternref05_Print.l4 k x3 x5 x6 x11 (wrap64 (x12 + 1))) else (if x12 > 0 then (if x6 ≥ 2 then (if (x12 = (wrap64 (x5 + x6))) then (if 0 ≤ x12 then (if x12 < (x3.length : Int) then ((lanternref05_digits.f k (rd x3 x12) 16).bind fun t451 => (if x11.size + t451.size ≤ 9223372036854775807 then (lanternref05_Print.l4 k x3 x5 x6 (x11 ++ t451) (wrap64 (x12 + 1))) else (none))) else (none)) else (none)) else (if x11.size + 1 ≤ 9223372036854775807 then (if 0 ≤ x12 then (if x12 < (x3.length : Int) then ((lanternref05_digits.f k (rd x3 x12) 16).bind fun t453 => (if (x11 ++ (⟨#[58]⟩ : ByteArray)).size + t453.size ≤ 9223372036854775807 then (lanternref05_Print.l4 k x3 x5 x6 ((x11 ++ (⟨#[58]⟩ : ByteArray)) ++ t453) (wrap64 (x12 + 1))) else (none))) else (none)) else (none)) else (none))) else (if x11.size + 1 ≤ 9223372036854775807 then (if 0 ≤ x12 then (if x12 < (x3.length : Int) then ((lanternref05_digits.f k (rd x3 x12) 16).bind fun t455 => (if (x11 ++ (⟨#[58]⟩ : ByteArray)).size + t455.size ≤ 9223372036854775807 then (lanternref05_Print.l4 k x3 x5 x6 ((x11 ++ (⟨#[58]⟩ : ByteArray)) ++ t455) (wrap64 (x12 + 1))) else (none))) else (none)) else (none)) else (none))) else (if 0 ≤ x12 then (if x12 < (x3.length : Int) then ((lanternref05_digits.f k (rd x3 x12) 16).bind fun t457 => (if x11.size + t457.size ≤ 9223372036854775807 then (lanternref05_Print.l4 k x3 x5 x6 (x11 ++ t457) (wrap64 (x12 + 1))) else (none))) else (none)) else (none)))
end
def lanternref05_Print.f (k : Nat) (a0_0 : Bool) (a0_1 : Int) (a0_2 : Int) (a0_3 : Int) (a0_4 : Int) (a0_5 : Int) (a0_6 : Int) (a0_7 : Int) (a0_8 : Int) (a0_9 : Int) (a0_10 : Int) (a0_11 : Int) (a0_12 : Int) (a0_13 : Int) (a0_14 : Int) (a0_15 : Int) (a0_16 : Int) : Option (ByteArray) := if a0_0 = true then ((lanternref05_Mapped.f k a0_0 a0_1 a0_2 a0_3 a0_4 a0_5 a0_6 a0_7 a0_8 a0_9 a0_10 a0_11 a0_12 a0_13 a0_14 a0_15 a0_16).bind fun t439 => (if t439 = true then ((lanternref05_dots.f k a0_0 a0_1 a0_2 a0_3 a0_4 a0_5 a0_6 a0_7 a0_8 a0_9 a0_10 a0_11 a0_12 a0_13 a0_14 a0_15 a0_16).bind fun t440 => (if 7 + t440.size ≤ 9223372036854775807 then (some ((⟨#[58, 58, 102, 102, 102, 102, 58]⟩ : ByteArray) ++ t440)) else (none))) else (lanternref05_Print.l0 k (([] : List Int)) 0 a0_0 a0_1 a0_2 a0_3 a0_4 a0_5 a0_6 a0_7 a0_8 a0_9 a0_10 a0_11 a0_12 a0_13 a0_14 a0_15 a0_16))) else ((lanternref05_dots.f k a0_0 a0_1 a0_2 a0_3 a0_4 a0_5 a0_6 a0_7 a0_8 a0_9 a0_10 a0_11 a0_12 a0_13 a0_14 a0_15 a0_16).bind fun t438 => (some t438))
theorem lanternref05_Print.mono_l : ∀ k, (∀ y0 y1 y2 y3 y4 y5 y6 y7 y8 y9 y10 y11 y12 y13 y14 y15 y16 y17 y18, LeO (lanternref05_Print.l0 k y0 y1 y2 y3 y4 y5 y6 y7 y8 y9 y10 y11 y12 y13 y14 y15 y16 y17 y18) (lanternref05_Print.l0 (k + 1) y0 y1 y2 y3 y4 y5 y6 y7 y8 y9 y10 y11 y12 y13 y14 y15 y16 y17 y18)) ∧ (∀ y0 y1 y2 y3, LeO (lanternref05_Print.l1 k y0 y1 y2 y3) (lanternref05_Print.l1 (k + 1) y0 y1 y2 y3)) ∧ (∀ y0 y1 y2 y3 y4, LeO (lanternref05_Print.l2 k y0 y1 y2 y3 y4) (lanternref05_Print.l2 (k + 1) y0 y1 y2 y3 y4)) ∧ (∀ y0 y1 y2 y3 y4 y5 y6, LeO (lanternref05_Print.l3 k y0 y1 y2 y3 y4 y5 y6) (lanternref05_Print.l3 (k + 1) y0 y1 y2 y3 y4 y5 y6)) ∧ (∀ y0 y1 y2 y3 y4, LeO (lanternref05_Print.l4 k y0 y1 y2 y3 y4) (lanternref05_Print.l4 (k + 1) y0 y1 y2 y3 y4)) ∧ (∀ y0 y1 y2 y3 y4 y5, LeO (lanternref05_Print.j5 k y0 y1 y2 y3 y4 y5) (lanternref05_Print.j5 (k + 1) y0 y1 y2 y3 y4 y5)) ∧ (∀ y0 y1 y2 y3 y4, LeO (lanternref05_Print.j6 k y0 y1 y2 y3 y4) (lanternref05_Print.j6 (k + 1) y0 y1 y2 y3 y4)) ∧ (∀ y0 y1 y2 y3 y4 y5, LeO (lanternref05_Print.j7 k y0 y1 y2 y3 y4 y5) (lanternref05_Print.j7 (k + 1) y0 y1 y2 y3 y4 y5))
 | 0 => ⟨fun _ _ _ _ _ _ _ _ _ _ _ _ _ _ _ _ _ _ _ r h => by simp [lanternref05_Print.l0] at h, fun _ _ _ _ r h => by simp [lanternref05_Print.l1] at h, fun _ _ _ _ _ r h => by simp [lanternref05_Print.l2] at h, fun _ _ _ _ _ _ _ r h => by simp [lanternref05_Print.l3] at h, fun _ _ _ _ _ r h => by simp [lanternref05_Print.l4] at h, fun _ _ _ _ _ _ r h => by simp [lanternref05_Print.j5] at h, fun _ _ _ _ _ r h => by simp [lanternref05_Print.j6] at h, fun _ _ _ _ _ _ r h => by simp [lanternref05_Print.j7] at h⟩
 | k + 1 => by
  obtain ⟨ih0, ih1, ih2, ih3, ih4, ih5, ih6, ih7⟩ := lanternref05_Print.mono_l k
  refine ⟨?_, ?_, ?_, ?_, ?_, ?_, ?_, ?_⟩
  ·intro y0 y1 y2 y3 y4 y5 y6 y7 y8 y9 y10 y11 y12 y13 y14 y15 y16 y17 y18
   unfold lanternref05_Print.l0
   repeat' first
   | (with_reducible exact ih0 _ _ _ _ _ _ _ _ _ _ _ _ _ _ _ _ _ _ _)
   | (with_reducible exact ih1 _ _ _ _)
   | (with_reducible exact ih2 _ _ _ _ _)
   | (with_reducible exact ih3 _ _ _ _ _ _ _)
   | (with_reducible exact ih4 _ _ _ _ _)
   | (with_reducible exact ih5 _ _ _ _ _ _)
   | (with_reducible exact ih6 _ _ _ _ _)
   | (with_reducible exact ih7 _ _ _ _ _ _)
   | (with_reducible exact lanternref05_Mapped.mono _ _ _ _ _ _ _ _ _ _ _ _ _ _ _ _ _ _)
   | (with_reducible exact lanternref05_digits.mono _ _ _)
   | (with_reducible exact lanternref05_dots.mono _ _ _ _ _ _ _ _ _ _ _ _ _ _ _ _ _ _)
   | (with_reducible exact LeO.refl _)
   | (with_reducible exact LeO.none _)
   | (with_reducible refine LeO.ite ?_ ?_)
   | (with_reducible refine LeO.bind ?_ (fun _ => ?_))
   | exact ih0 _ _ _ _ _ _ _ _ _ _ _ _ _ _ _ _ _ _ _
   | exact ih1 _ _ _ _
   | exact ih2 _ _ _ _ _
   | exact ih3 _ _ _ _ _ _ _
   | exact ih4 _ _ _ _ _
   | exact ih5 _ _ _ _ _ _
   | exact ih6 _ _ _ _ _
   | exact ih7 _ _ _ _ _ _
   | exact lanternref05_Mapped.mono _ _ _ _ _ _ _ _ _ _ _ _ _ _ _ _ _ _
   | exact lanternref05_digits.mono _ _ _
   | exact lanternref05_dots.mono _ _ _ _ _ _ _ _ _ _ _ _ _ _ _ _ _ _
   | exact LeO.none _
   | refine LeO.ite ?_ ?_
   | refine LeO.bind ?_ (fun _ => ?_)
  ·intro y0 y1 y2 y3
   unfold lanternref05_Print.l1
   repeat' first
   | (with_reducible exact ih0 _ _ _ _ _ _ _ _ _ _ _ _ _ _ _ _ _ _ _)
   | (with_reducible exact ih1 _ _ _ _)
   | (with_reducible exact ih2 _ _ _ _ _)
   | (with_reducible exact ih3 _ _ _ _ _ _ _)
   | (with_reducible exact ih4 _ _ _ _ _)
   | (with_reducible exact ih5 _ _ _ _ _ _)
   | (with_reducible exact ih6 _ _ _ _ _)
   | (with_reducible exact ih7 _ _ _ _ _ _)
   | (with_reducible exact lanternref05_Mapped.mono _ _ _ _ _ _ _ _ _ _ _ _ _ _ _ _ _ _)
   | (with_reducible exact lanternref05_digits.mono _ _ _)
   | (with_reducible exact lanternref05_dots.mono _ _ _ _ _ _ _ _ _ _ _ _ _ _ _ _ _ _)
   | (with_reducible exact LeO.refl _)
   | (with_reducible exact LeO.none _)
   | (with_reducible refine LeO.ite ?_ ?_)
   | (with_reducible refine LeO.bind ?_ (fun _ => ?_))
   | exact ih0 _ _ _ _ _ _ _ _ _ _ _ _ _ _ _ _ _ _ _
   | exact ih1 _ _ _ _
   | exact ih2 _ _ _ _ _
   | exact ih3 _ _ _ _ _ _ _
   | exact ih4 _ _ _ _ _
   | exact ih5 _ _ _ _ _ _
   | exact ih6 _ _ _ _ _
   | exact ih7 _ _ _ _ _ _
   | exact lanternref05_Mapped.mono _ _ _ _ _ _ _ _ _ _ _ _ _ _ _ _ _ _
   | exact lanternref05_digits.mono _ _ _
   | exact lanternref05_dots.mono _ _ _ _ _ _ _ _ _ _ _ _ _ _ _ _ _ _
   | exact LeO.none _
   | refine LeO.ite ?_ ?_
   | refine LeO.bind ?_ (fun _ => ?_)
  ·intro y0 y1 y2 y3 y4
   unfold lanternref05_Print.l2
   repeat' first
   | (with_reducible exact ih0 _ _ _ _ _ _ _ _ _ _ _ _ _ _ _ _ _ _ _)
   | (with_reducible exact ih1 _ _ _ _)
   | (with_reducible exact ih2 _ _ _ _ _)
   | (with_reducible exact ih3 _ _ _ _ _ _ _)
   | (with_reducible exact ih4 _ _ _ _ _)
   | (with_reducible exact ih5 _ _ _ _ _ _)
   | (with_reducible exact ih6 _ _ _ _ _)
   | (with_reducible exact ih7 _ _ _ _ _ _)
   | (with_reducible exact lanternref05_Mapped.mono _ _ _ _ _ _ _ _ _ _ _ _ _ _ _ _ _ _)
   | (with_reducible exact lanternref05_digits.mono _ _ _)
   | (with_reducible exact lanternref05_dots.mono _ _ _ _ _ _ _ _ _ _ _ _ _ _ _ _ _ _)
   | (with_reducible exact LeO.refl _)
   | (with_reducible exact LeO.none _)
   | (with_reducible refine LeO.ite ?_ ?_)
   | (with_reducible refine LeO.bind ?_ (fun _ => ?_))
   | exact ih0 _ _ _ _ _ _ _ _ _ _ _ _ _ _ _ _ _ _ _
   | exact ih1 _ _ _ _
   | exact ih2 _ _ _ _ _
   | exact ih3 _ _ _ _ _ _ _
   | exact ih4 _ _ _ _ _
   | exact ih5 _ _ _ _ _ _
   | exact ih6 _ _ _ _ _
   | exact ih7 _ _ _ _ _ _
   | exact lanternref05_Mapped.mono _ _ _ _ _ _ _ _ _ _ _ _ _ _ _ _ _ _
   | exact lanternref05_digits.mono _ _ _
   | exact lanternref05_dots.mono _ _ _ _ _ _ _ _ _ _ _ _ _ _ _ _ _ _
   | exact LeO.none _
   | refine LeO.ite ?_ ?_
   | refine LeO.bind ?_ (fun _ => ?_)
  ·intro y0 y1 y2 y3 y4 y5 y6
   unfold lanternref05_Print.l3
   repeat' first
   | (with_reducible exact ih0 _ _ _ _ _ _ _ _ _ _ _ _ _ _ _ _ _ _ _)
   | (with_reducible exact ih1 _ _ _ _)
   | (with_reducible exact ih2 _ _ _ _ _)
   | (with_reducible exact ih3 _ _ _ _ _ _ _)
   | (with_reducible exact ih4 _ _ _ _ _)
   | (with_reducible exact ih5 _ _ _ _ _ _)
   | (with_reducible exact ih6 _ _ _ _ _)
   | (with_reducible exact ih7 _ _ _ _ _ _)
   | (with_reducible exact lanternref05_Mapped.mono _ _ _ _ _ _ _ _ _ _ _ _ _ _ _ _ _ _)
   | (with_reducible exact lanternref05_digits.mono _ _ _)
   | (with_reducible exact lanternref05_dots.mono _ _ _ _ _ _ _ _ _ _ _ _ _ _ _ _ _ _)
   | (with_reducible exact LeO.refl _)
   | (with_reducible exact LeO.none _)
   | (with_reducible refine LeO.ite ?_ ?_)
   | (with_reducible refine LeO.bind ?_ (fun _ => ?_))
   | exact ih0 _ _ _ _ _ _ _ _ _ _ _ _ _ _ _ _ _ _ _
   | exact ih1 _ _ _ _
   | exact ih2 _ _ _ _ _
   | exact ih3 _ _ _ _ _ _ _
   | exact ih4 _ _ _ _ _
   | exact ih5 _ _ _ _ _ _
   | exact ih6 _ _ _ _ _
   | exact ih7 _ _ _ _ _ _
   | exact lanternref05_Mapped.mono _ _ _ _ _ _ _ _ _ _ _ _ _ _ _ _ _ _
   | exact lanternref05_digits.mono _ _ _
   | exact lanternref05_dots.mono _ _ _ _ _ _ _ _ _ _ _ _ _ _ _ _ _ _
   | exact LeO.none _
   | refine LeO.ite ?_ ?_
   | refine LeO.bind ?_ (fun _ => ?_)
  ·intro y0 y1 y2 y3 y4
   unfold lanternref05_Print.l4
   repeat' first
   | (with_reducible exact ih0 _ _ _ _ _ _ _ _ _ _ _ _ _ _ _ _ _ _ _)
   | (with_reducible exact ih1 _ _ _ _)
   | (with_reducible exact ih2 _ _ _ _ _)
   | (with_reducible exact ih3 _ _ _ _ _ _ _)
   | (with_reducible exact ih4 _ _ _ _ _)
   | (with_reducible exact ih5 _ _ _ _ _ _)
   | (with_reducible exact ih6 _ _ _ _ _)
   | (with_reducible exact ih7 _ _ _ _ _ _)
   | (with_reducible exact lanternref05_Mapped.mono _ _ _ _ _ _ _ _ _ _ _ _ _ _ _ _ _ _)
   | (with_reducible exact lanternref05_digits.mono _ _ _)
   | (with_reducible exact lanternref05_dots.mono _ _ _ _ _ _ _ _ _ _ _ _ _ _ _ _ _ _)
   | (with_reducible exact LeO.refl _)
   | (with_reducible exact LeO.none _)
   | (with_reducible refine LeO.ite ?_ ?_)
   | (with_reducible refine LeO.bind ?_ (fun _ => ?_))
   | exact ih0 _ _ _ _ _ _ _ _ _ _ _ _ _ _ _ _ _ _ _
   | exact ih1 _ _ _ _
   | exact ih2 _ _ _ _ _
   | exact ih3 _ _ _ _ _ _ _
   | exact ih4 _ _ _ _ _
   | exact ih5 _ _ _ _ _ _
   | exact ih6 _ _ _ _ _
   | exact ih7 _ _ _ _ _ _
   | exact lanternref05_Mapped.mono _ _ _ _ _ _ _ _ _ _ _ _ _ _ _ _ _ _
   | exact lanternref05_digits.mono _ _ _
   | exact lanternref05_dots.mono _ _ _ _ _ _ _ _ _ _ _ _ _ _ _ _ _ _
   | exact LeO.none _
   | refine LeO.ite ?_ ?_
   | refine LeO.bind ?_ (fun _ => ?_)
  ·intro y0 y1 y2 y3 y4 y5
   unfold lanternref05_Print.j5
   repeat' first
   | (with_reducible exact ih0 _ _ _ _ _ _ _ _ _ _ _ _ _ _ _ _ _ _ _)
   | (with_reducible exact ih1 _ _ _ _)
   | (with_reducible exact ih2 _ _ _ _ _)
   | (with_reducible exact ih3 _ _ _ _ _ _ _)
   | (with_reducible exact ih4 _ _ _ _ _)
   | (with_reducible exact ih5 _ _ _ _ _ _)
   | (with_reducible exact ih6 _ _ _ _ _)
   | (with_reducible exact ih7 _ _ _ _ _ _)
   | (with_reducible exact lanternref05_Mapped.mono _ _ _ _ _ _ _ _ _ _ _ _ _ _ _ _ _ _)
   | (with_reducible exact lanternref05_digits.mono _ _ _)
   | (with_reducible exact lanternref05_dots.mono _ _ _ _ _ _ _ _ _ _ _ _ _ _ _ _ _ _)
   | (with_reducible exact LeO.refl _)
   | (with_reducible exact LeO.none _)
   | (with_reducible refine LeO.ite ?_ ?_)
   | (with_reducible refine LeO.bind ?_ (fun _ => ?_))
   | exact ih0 _ _ _ _ _ _ _ _ _ _ _ _ _ _ _ _ _ _ _
   | exact ih1 _ _ _ _
   | exact ih2 _ _ _ _ _
   | exact ih3 _ _ _ _ _ _ _
   | exact ih4 _ _ _ _ _
   | exact ih5 _ _ _ _ _ _
   | exact ih6 _ _ _ _ _
   | exact ih7 _ _ _ _ _ _
   | exact lanternref05_Mapped.mono _ _ _ _ _ _ _ _ _ _ _ _ _ _ _ _ _ _
   | exact lanternref05_digits.mono _ _ _
   | exact lanternref05_dots.mono _ _ _ _ _ _ _ _ _ _ _ _ _ _ _ _ _ _
   | exact LeO.none _
   | refine LeO.ite ?_ ?_
   | refine LeO.bind ?_ (fun _ => ?_)
  ·intro y0 y1 y2 y3 y4
   unfold lanternref05_Print.j6
   repeat' first
   | (with_reducible exact ih0 _ _ _ _ _ _ _ _ _ _ _ _ _ _ _ _ _ _ _)
   | (with_reducible exact ih1 _ _ _ _)
   | (with_reducible exact ih2 _ _ _ _ _)
   | (with_reducible exact ih3 _ _ _ _ _ _ _)
   | (with_reducible exact ih4 _ _ _ _ _)
   | (with_reducible exact ih5 _ _ _ _ _ _)
   | (with_reducible exact ih6 _ _ _ _ _)
   | (with_reducible exact ih7 _ _ _ _ _ _)
   | (with_reducible exact lanternref05_Mapped.mono _ _ _ _ _ _ _ _ _ _ _ _ _ _ _ _ _ _)
   | (with_reducible exact lanternref05_digits.mono _ _ _)
   | (with_reducible exact lanternref05_dots.mono _ _ _ _ _ _ _ _ _ _ _ _ _ _ _ _ _ _)
   | (with_reducible exact LeO.refl _)
   | (with_reducible exact LeO.none _)
   | (with_reducible refine LeO.ite ?_ ?_)
   | (with_reducible refine LeO.bind ?_ (fun _ => ?_))
   | exact ih0 _ _ _ _ _ _ _ _ _ _ _ _ _ _ _ _ _ _ _
   | exact ih1 _ _ _ _
   | exact ih2 _ _ _ _ _
   | exact ih3 _ _ _ _ _ _ _
   | exact ih4 _ _ _ _ _
   | exact ih5 _ _ _ _ _ _
   | exact ih6 _ _ _ _ _
   | exact ih7 _ _ _ _ _ _
   | exact lanternref05_Mapped.mono _ _ _ _ _ _ _ _ _ _ _ _ _ _ _ _ _ _
   | exact lanternref05_digits.mono _ _ _
   | exact lanternref05_dots.mono _ _ _ _ _ _ _ _ _ _ _ _ _ _ _ _ _ _
   | exact LeO.none _
   | refine LeO.ite ?_ ?_
   | refine LeO.bind ?_ (fun _ => ?_)
  ·intro y0 y1 y2 y3 y4 y5
   unfold lanternref05_Print.j7
   repeat' first
   | (with_reducible exact ih0 _ _ _ _ _ _ _ _ _ _ _ _ _ _ _ _ _ _ _)
   | (with_reducible exact ih1 _ _ _ _)
   | (with_reducible exact ih2 _ _ _ _ _)
   | (with_reducible exact ih3 _ _ _ _ _ _ _)
   | (with_reducible exact ih4 _ _ _ _ _)
   | (with_reducible exact ih5 _ _ _ _ _ _)
   | (with_reducible exact ih6 _ _ _ _ _)
   | (with_reducible exact ih7 _ _ _ _ _ _)
   | (with_reducible exact lanternref05_Mapped.mono _ _ _ _ _ _ _ _ _ _ _ _ _ _ _ _ _ _)
   | (with_reducible exact lanternref05_digits.mono _ _ _)
   | (with_reducible exact lanternref05_dots.mono _ _ _ _ _ _ _ _ _ _ _ _ _ _ _ _ _ _)
   | (with_reducible exact LeO.refl _)
   | (with_reducible exact LeO.none _)
   | (with_reducible refine LeO.ite ?_ ?_)
   | (with_reducible refine LeO.bind ?_ (fun _ => ?_))
   | exact ih0 _ _ _ _ _ _ _ _ _ _ _ _ _ _ _ _ _ _ _
   | exact ih1 _ _ _ _
   | exact ih2 _ _ _ _ _
   | exact ih3 _ _ _ _ _ _ _
   | exact ih4 _ _ _ _ _
   | exact ih5 _ _ _ _ _ _
   | exact ih6 _ _ _ _ _
   | exact ih7 _ _ _ _ _ _
   | exact lanternref05_Mapped.mono _ _ _ _ _ _ _ _ _ _ _ _ _ _ _ _ _ _
   | exact lanternref05_digits.mono _ _ _
   | exact lanternref05_dots.mono _ _ _ _ _ _ _ _ _ _ _ _ _ _ _ _ _ _
   | exact LeO.none _
   | refine LeO.ite ?_ ?_
   | refine LeO.bind ?_ (fun _ => ?_)
theorem lanternref05_Print.mono : ∀ a0 a1 a2 a3 a4 a5 a6 a7 a8 a9 a10 a11 a12 a13 a14 a15 a16 k, LeO (lanternref05_Print.f k a0 a1 a2 a3 a4 a5 a6 a7 a8 a9 a10 a11 a12 a13 a14 a15 a16) (lanternref05_Print.f (k + 1) a0 a1 a2 a3 a4 a5 a6 a7 a8 a9 a10 a11 a12 a13 a14 a15 a16) := by
 intro a0 a1 a2 a3 a4 a5 a6 a7 a8 a9 a10 a11 a12 a13 a14 a15 a16 k
 obtain ⟨ih0, ih1, ih2, ih3, ih4, ih5, ih6, ih7⟩ := lanternref05_Print.mono_l k
 unfold lanternref05_Print.f
 repeat' first
   | (with_reducible exact ih0 _ _ _ _ _ _ _ _ _ _ _ _ _ _ _ _ _ _ _)
   | (with_reducible exact ih1 _ _ _ _)
   | (with_reducible exact ih2 _ _ _ _ _)
   | (with_reducible exact ih3 _ _ _ _ _ _ _)
   | (with_reducible exact ih4 _ _ _ _ _)
   | (with_reducible exact ih5 _ _ _ _ _ _)
   | (with_reducible exact ih6 _ _ _ _ _)
   | (with_reducible exact ih7 _ _ _ _ _ _)
   | (with_reducible exact lanternref05_Mapped.mono _ _ _ _ _ _ _ _ _ _ _ _ _ _ _ _ _ _)
   | (with_reducible exact lanternref05_digits.mono _ _ _)
   | (with_reducible exact lanternref05_dots.mono _ _ _ _ _ _ _ _ _ _ _ _ _ _ _ _ _ _)
   | (with_reducible exact LeO.refl _)
   | (with_reducible exact LeO.none _)
   | (with_reducible refine LeO.ite ?_ ?_)
   | (with_reducible refine LeO.bind ?_ (fun _ => ?_))
   | exact ih0 _ _ _ _ _ _ _ _ _ _ _ _ _ _ _ _ _ _ _
   | exact ih1 _ _ _ _
   | exact ih2 _ _ _ _ _
   | exact ih3 _ _ _ _ _ _ _
   | exact ih4 _ _ _ _ _
   | exact ih5 _ _ _ _ _ _
   | exact ih6 _ _ _ _ _
   | exact ih7 _ _ _ _ _ _
   | exact lanternref05_Mapped.mono _ _ _ _ _ _ _ _ _ _ _ _ _ _ _ _ _ _
   | exact lanternref05_digits.mono _ _ _
   | exact lanternref05_dots.mono _ _ _ _ _ _ _ _ _ _ _ _ _ _ _ _ _ _
   | exact LeO.none _
   | refine LeO.ite ?_ ?_
   | refine LeO.bind ?_ (fun _ => ?_)
end Go.Proofs.YtfiefecjcmcejaaDoor.P
