-- Written by a program of this session (wip/gen/lprint.py over the kit's print.py) out of the translation. Lean checks it.
import Derived.Test.YtfiefecjcmcejaaDoorP0
import Derived.Test.YtfiefecjcmcejaaDoorP8
namespace Go.Proofs.YtfiefecjcmcejaaDoor.P
open Go.Proofs.YtfiefecjcmcejaaDoor.E Go.Proofs.YtfiefecjcmcejaaDoorV
open Go.RowKit Go.Proofs.YtfiefecjcmcejaaDoorW.PrintWords Go.Proofs.YtfiefecjcmcejaaDoorW.PrintLast Go.Proofs.YtfiefecjcmcejaaDoorW.PrintMore
attribute [local go_sem] max2_int min2_int max_two min_two max_three min_three max_four min_four   -- for this text's walks alone
set_option linter.unusedVariables false
set_option linter.unusedSimpArgs false

def lanternref05_number.l0 : Nat → ByteArray → Int → Int → Int → Option (Int)
 | 0, _, _, _, _ => none
 | k + 1, x0, x1, x5, x6 => if x6 < (x0.size : Int) then (if 0 ≤ x6 then ((lanternref05_digit.f k (bt x0 x6) x1).bind fun t335 => (if t335 < 0 then (some (-1)) else (if (wrap64 ((wrap64 (x5 * x1)) + t335)) > 4294967296 then (lanternref05_number.l0 k x0 x1 4294967296 (wrap64 (x6 + 1))) else (lanternref05_number.l0 k x0 x1 (wrap64 ((wrap64 (x5 * x1)) + t335)) (wrap64 (x6 + 1)))))) else (none)) else (some x5)
def lanternref05_number.f (k : Nat) (a0 : ByteArray) (a1 : Int) : Option (Int) := if a0.toList = ([] : List UInt8) then (some (-1)) else (lanternref05_number.l0 k a0 a1 0 0)
theorem lanternref05_number.mono_l : ∀ k, (∀ y0 y1 y2 y3, LeO (lanternref05_number.l0 k y0 y1 y2 y3) (lanternref05_number.l0 (k + 1) y0 y1 y2 y3))
 | 0 => fun _ _ _ _ r h => by simp [lanternref05_number.l0] at h
 | k + 1 => by
  have ih0 := lanternref05_number.mono_l k
  ·intro y0 y1 y2 y3
   unfold lanternref05_number.l0
   repeat' first
   | (with_reducible exact ih0 _ _ _ _)
   | (with_reducible exact lanternref05_digit.mono _ _ _)
   | (with_reducible exact LeO.refl _)
   | (with_reducible exact LeO.none _)
   | (with_reducible refine LeO.ite ?_ ?_)
   | (with_reducible refine LeO.bind ?_ (fun _ => ?_))
   | exact ih0 _ _ _ _
   | exact lanternref05_digit.mono _ _ _
   | exact LeO.none _
   | refine LeO.ite ?_ ?_
   | refine LeO.bind ?_ (fun _ => ?_)
theorem lanternref05_number.mono : ∀ a0 a1 k, LeO (lanternref05_number.f k a0 a1) (lanternref05_number.f (k + 1) a0 a1) := by
 intro a0 a1 k
 have ih0 := lanternref05_number.mono_l k
 unfold lanternref05_number.f
 repeat' first
   | (with_reducible exact ih0 _ _ _ _)
   | (with_reducible exact lanternref05_digit.mono _ _ _)
   | (with_reducible exact LeO.refl _)
   | (with_reducible exact LeO.none _)
   | (with_reducible refine LeO.ite ?_ ?_)
   | (with_reducible refine LeO.bind ?_ (fun _ => ?_))
   | exact ih0 _ _ _ _
   | exact lanternref05_digit.mono _ _ _
   | exact LeO.none _
   | refine LeO.ite ?_ ?_
   | refine LeO.bind ?_ (fun _ => ?_)
mutual
def lanternref05_part.j0 : Nat → ByteArray → Bool → Option (Int)
 | 0, _, _ => none
 | k + 1, x0, x20 => if x20 = true then (if (x0.size : Int) = 2 then (some 0) else (if 2 ≤ (x0.size : Int) then ((lanternref05_number.f k (x0.extract 2 x0.size) 16).bind fun t336 => (some t336)) else (none))) else (if (x0.size : Int) ≥ 2 then (if 0 < (x0.size : Int) then (lanternref05_part.j1 k x0 ((bt x0 0) == 48)) else (none)) else (lanternref05_part.j1 k x0 false))
def lanternref05_part.j1 : Nat → ByteArray → Bool → Option (Int)
 | 0, _, _ => none
 | k + 1, x0, x34 => if x34 = true then ((lanternref05_number.f k x0 8).bind fun t337 => (some t337)) else ((lanternref05_number.f k x0 10).bind fun t338 => (some t338))
end
def lanternref05_part.f (k : Nat) (a0 : ByteArray) : Option (Int) := if (a0.size : Int) ≥ 2 then (if 0 < (a0.size : Int) then (if (bt a0 0) = 48 then (if 1 < (a0.size : Int) then (if (bt a0 1) = 120 then (lanternref05_part.j0 k a0 true) else (lanternref05_part.j0 k a0 ((bt a0 1) == 88))) else (none)) else (lanternref05_part.j0 k a0 false)) else (none)) else (lanternref05_part.j0 k a0 false)
theorem lanternref05_part.mono_l : ∀ k, (∀ y0 y1, LeO (lanternref05_part.j0 k y0 y1) (lanternref05_part.j0 (k + 1) y0 y1)) ∧ (∀ y0 y1, LeO (lanternref05_part.j1 k y0 y1) (lanternref05_part.j1 (k + 1) y0 y1))
 | 0 => ⟨fun _ _ r h => by simp [lanternref05_part.j0] at h, fun _ _ r h => by simp [lanternref05_part.j1] at h⟩
 | k + 1 => by
  obtain ⟨ih0, ih1⟩ := lanternref05_part.mono_l k
  refine ⟨?_, ?_⟩
  ·intro y0 y1
   unfold lanternref05_part.j0
   repeat' first
   | (with_reducible exact ih0 _ _)
   | (with_reducible exact ih1 _ _)
   | (with_reducible exact lanternref05_number.mono _ _ _)
   | (with_reducible exact LeO.refl _)
   | (with_reducible exact LeO.none _)
   | (with_reducible refine LeO.ite ?_ ?_)
   | (with_reducible refine LeO.bind ?_ (fun _ => ?_))
   | exact ih0 _ _
   | exact ih1 _ _
   | exact lanternref05_number.mono _ _ _
   | exact LeO.none _
   | refine LeO.ite ?_ ?_
   | refine LeO.bind ?_ (fun _ => ?_)
  ·intro y0 y1
   unfold lanternref05_part.j1
   repeat' first
   | (with_reducible exact ih0 _ _)
   | (with_reducible exact ih1 _ _)
   | (with_reducible exact lanternref05_number.mono _ _ _)
   | (with_reducible exact LeO.refl _)
   | (with_reducible exact LeO.none _)
   | (with_reducible refine LeO.ite ?_ ?_)
   | (with_reducible refine LeO.bind ?_ (fun _ => ?_))
   | exact ih0 _ _
   | exact ih1 _ _
   | exact lanternref05_number.mono _ _ _
   | exact LeO.none _
   | refine LeO.ite ?_ ?_
   | refine LeO.bind ?_ (fun _ => ?_)
theorem lanternref05_part.mono : ∀ a0 k, LeO (lanternref05_part.f k a0) (lanternref05_part.f (k + 1) a0) := by
 intro a0 k
 obtain ⟨ih0, ih1⟩ := lanternref05_part.mono_l k
 unfold lanternref05_part.f
 repeat' first
   | (with_reducible exact ih0 _ _)
   | (with_reducible exact ih1 _ _)
   | (with_reducible exact lanternref05_number.mono _ _ _)
   | (with_reducible exact LeO.refl _)
   | (with_reducible exact LeO.none _)
   | (with_reducible refine LeO.ite ?_ ?_)
   | (with_reducible refine LeO.bind ?_ (fun _ => ?_))
   | exact ih0 _ _
   | exact ih1 _ _
   | exact lanternref05_number.mono _ _ _
   | exact LeO.none _
   | refine LeO.ite ?_ ?_
   | refine LeO.bind ?_ (fun _ => ?_)
end Go.Proofs.YtfiefecjcmcejaaDoor.P
