-- Written by a program of this session (wip/gen/lprint.py over the kit's print.py) out of the translation. Lean checks it.
import Derived.Test.YtfiefecjcmcejaaDoorP0
import Derived.Test.YtfiefecjcmcejaaDoorP8
import Derived.Test.YtfiefecjcmcejaaDoorP9
namespace Go.Proofs.YtfiefecjcmcejaaDoor.P
open Go.Proofs.YtfiefecjcmcejaaDoor.E Go.Proofs.YtfiefecjcmcejaaDoorV
open Go.RowKit Go.Proofs.YtfiefecjcmcejaaDoorW.PrintWords Go.Proofs.YtfiefecjcmcejaaDoorW.PrintLast Go.Proofs.YtfiefecjcmcejaaDoorW.PrintMore
attribute [local go_sem] max2_int min2_int max_two min_two max_three min_three max_four min_four   -- for this text's walks alone
set_option linter.unusedVariables false
set_option linter.unusedSimpArgs false

mutual
def lanternref05_Loose.j0 : Nat → ByteArray → Bool → Option (Bool × Int × Int × Int × Int × Int × Int × Int × Int × Int × Int × Int × Int × Int × Int × Int × Int × Bool)
 | 0, _, _ => none
 | k + 1, x0, x21 => if x21 = true then (if 0 ≤ (wrap64 ((x0.size : Int) - 1)) then (if (wrap64 ((x0.size : Int) - 1)) ≤ (x0.size : Int) then (lanternref05_Loose.j1 k (x0.extract 0 ((wrap64 ((x0.size : Int) - 1)) : Int).toNat)) else (none)) else (none)) else (lanternref05_Loose.j1 k x0)
def lanternref05_Loose.j1 : Nat → ByteArray → Option (Bool × Int × Int × Int × Int × Int × Int × Int × Int × Int × Int × Int × Int × Int × Int × Int × Int × Bool)
 | 0, _ => none
 | k + 1, x0 => (lanternref05_cut.f k x0 46).bind fun t340 => (if (t340.length : Int) > 4 then (some (false, 0, 0, 0, 0, 0, 0, 0, 0, 0, 0, 0, 0, 0, 0, 0, 0, false)) else (lanternref05_Loose.l0 k t340 0 0))
def lanternref05_Loose.l0 : Nat → List ByteArray → Int → Int → Option (Bool × Int × Int × Int × Int × Int × Int × Int × Int × Int × Int × Int × Int × Int × Int × Int × Int × Bool)
 | 0, _, _, _ => none
 | k + 1, x4, x5, x6 => if x6 < (wrap64 ((x4.length : Int) - 1)) then (if 0 ≤ x6 then (if x6 < (x4.length : Int) then ((lanternref05_part.f k (rdOf ByteArray.empty x4 x6)).bind fun t344 => (if t344 < 0 then (some (false, 0, 0, 0, 0, 0, 0, 0, 0, 0, 0, 0, 0, 0, 0, 0, 0, false)) else (if t344 > 255 then (some (false, 0, 0, 0, 0, 0, 0, 0, 0, 0, 0, 0, 0, 0, 0, 0, 0, false)) else (lanternref05_Loose.l0 k x4 (wrap64 ((wrap64 (x5 * 256)) + t344)) (wrap64 (x6 + 1)))))) else (none)) else (none)) else (lanternref05_Loose.l1 k x4 x5 1 (wrap64 ((x4.length : Int) - 1)))
def lanternref05_Loose.l1 : Nat → List ByteArray → Int → Int → Int → Option (Bool × Int × Int × Int × Int × Int × Int × Int × Int × Int × Int × Int × Int × Int × Int × Int × Int × Bool)
 | 0, _, _, _, _ => none
 | k + 1, x4, x5, x8, x9 => if x9 < 4 then (lanternref05_Loose.l1 k x4 (wrap64 (x5 * 256)) (wrap64 (x8 * 256)) (wrap64 (x9 + 1))) else (if 0 ≤ (wrap64 ((x4.length : Int) - 1)) then (if (wrap64 ((x4.length : Int) - 1)) < (x4.length : Int) then ((lanternref05_part.f k (rdOf ByteArray.empty x4 (wrap64 ((x4.length : Int) - 1)))).bind fun t346 => (if t346 < 0 then (some (false, 0, 0, 0, 0, 0, 0, 0, 0, 0, 0, 0, 0, 0, 0, 0, 0, false)) else (if t346 ≥ x8 then (some (false, 0, 0, 0, 0, 0, 0, 0, 0, 0, 0, 0, 0, 0, 0, 0, 0, false)) else ((lanternref05_V4.f k (IntKind.u64.wrap (wrap64 (x5 + t346)))).bind fun bt347 => (some (bt347.1, bt347.2.1, bt347.2.2.1, bt347.2.2.2.1, bt347.2.2.2.2.1, bt347.2.2.2.2.2.1, bt347.2.2.2.2.2.2.1, bt347.2.2.2.2.2.2.2.1, bt347.2.2.2.2.2.2.2.2.1, bt347.2.2.2.2.2.2.2.2.2.1, bt347.2.2.2.2.2.2.2.2.2.2.1, bt347.2.2.2.2.2.2.2.2.2.2.2.1, bt347.2.2.2.2.2.2.2.2.2.2.2.2.1, bt347.2.2.2.2.2.2.2.2.2.2.2.2.2.1, bt347.2.2.2.2.2.2.2.2.2.2.2.2.2.2.1, bt347.2.2.2.2.2.2.2.2.2.2.2.2.2.2.2.1, bt347.2.2.2.2.2.2.2.2.2.2.2.2.2.2.2.2, true)))))) else (none)) else (none))
end
def lanternref05_Loose.f (k : Nat) (a0 : ByteArray) : Option (Bool × Int × Int × Int × Int × Int × Int × Int × Int × Int × Int × Int × Int × Int × Int × Int × Int × Bool) := if (a0.size : Int) > 0 then (if 0 ≤ (wrap64 ((a0.size : Int) - 1)) then (if (wrap64 ((a0.size : Int) - 1)) < (a0.size : Int) then (lanternref05_Loose.j0 k a0 ((bt a0 (wrap64 ((a0.size : Int) - 1))) == 46)) else (none)) else (none)) else (lanternref05_Loose.j0 k a0 false)
theorem lanternref05_Loose.mono_l : ∀ k, (∀ y0 y1, LeO (lanternref05_Loose.j0 k y0 y1) (lanternref05_Loose.j0 (k + 1) y0 y1)) ∧ (∀ y0, LeO (lanternref05_Loose.j1 k y0) (lanternref05_Loose.j1 (k + 1) y0)) ∧ (∀ y0 y1 y2, LeO (lanternref05_Loose.l0 k y0 y1 y2) (lanternref05_Loose.l0 (k + 1) y0 y1 y2)) ∧ (∀ y0 y1 y2 y3, LeO (lanternref05_Loose.l1 k y0 y1 y2 y3) (lanternref05_Loose.l1 (k + 1) y0 y1 y2 y3))
 | 0 => ⟨fun _ _ r h => by simp [lanternref05_Loose.j0] at h, fun _ r h => by simp [lanternref05_Loose.j1] at h, fun _ _ _ r h => by simp [lanternref05_Loose.l0] at h, fun _ _ _ _ r h => by simp [lanternref05_Loose.l1] at h⟩
 | k + 1 => by
  obtain ⟨ih0, ih1, ih2, ih3⟩ := lanternref05_Loose.mono_l k
  refine ⟨?_, ?_, ?_, ?_⟩
  ·intro y0 y1
   unfold lanternref05_Loose.j0
   repeat' first
   | (with_reducible exact ih0 _ _)
   | (with_reducible exact ih1 _)
   | (with_reducible exact ih2 _ _ _)
   | (with_reducible exact ih3 _ _ _ _)
   | (with_reducible exact lanternref05_V4.mono _ _)
   | (with_reducible exact lanternref05_cut.mono _ _ _)
   | (with_reducible exact lanternref05_part.mono _ _)
   | (with_reducible exact LeO.refl _)
   | (with_reducible exact LeO.none _)
   | (with_reducible refine LeO.ite ?_ ?_)
   | (with_reducible refine LeO.bind ?_ (fun _ => ?_))
   | exact ih0 _ _
   | exact ih1 _
   | exact ih2 _ _ _
   | exact ih3 _ _ _ _
   | exact lanternref05_V4.mono _ _
   | exact lanternref05_cut.mono _ _ _
   | exact lanternref05_part.mono _ _
   | exact LeO.none _
   | refine LeO.ite ?_ ?_
   | refine LeO.bind ?_ (fun _ => ?_)
  ·intro y0
   unfold lanternref05_Loose.j1
   repeat' first
   | (with_reducible exact ih0 _ _)
   | (with_reducible exact ih1 _)
   | (with_reducible exact ih2 _ _ _)
   | (with_reducible exact ih3 _ _ _ _)
   | (with_reducible exact lanternref05_V4.mono _ _)
   | (with_reducible exact lanternref05_cut.mono _ _ _)
   | (with_reducible exact lanternref05_part.mono _ _)
   | (with_reducible exact LeO.refl _)
   | (with_reducible exact LeO.none _)
   | (with_reducible refine LeO.ite ?_ ?_)
   | (with_reducible refine LeO.bind ?_ (fun _ => ?_))
   | exact ih0 _ _
   | exact ih1 _
   | exact ih2 _ _ _
   | exact ih3 _ _ _ _
   | exact lanternref05_V4.mono _ _
   | exact lanternref05_cut.mono _ _ _
   | exact lanternref05_part.mono _ _
   | exact LeO.none _
   | refine LeO.ite ?_ ?_
   | refine LeO.bind ?_ (fun _ => ?_)
  ·intro y0 y1 y2
   unfold lanternref05_Loose.l0
   repeat' first
   | (with_reducible exact ih0 _ _)
   | (with_reducible exact ih1 _)
   | (with_reducible exact ih2 _ _ _)
   | (with_reducible exact ih3 _ _ _ _)
   | (with_reducible exact lanternref05_V4.mono _ _)
   | (with_reducible exact lanternref05_cut.mono _ _ _)
   | (with_reducible exact lanternref05_part.mono _ _)
   | (with_reducible exact LeO.refl _)
   | (with_reducible exact LeO.none _)
   | (with_reducible refine LeO.ite ?_ ?_)
   | (with_reducible refine LeO.bind ?_ (fun _ => ?_))
   | exact ih0 _ _
   | exact ih1 _
   | exact ih2 _ _ _
   | exact ih3 _ _ _ _
   | exact lanternref05_V4.mono _ _
   | exact lanternref05_cut.mono _ _ _
   | exact lanternref05_part.mono _ _
   | exact LeO.none _
   | refine LeO.ite ?_ ?_
   | refine LeO.bind ?_ (fun _ => ?_)
  ·intro y0 y1 y2 y3
   unfold lanternref05_Loose.l1
   repeat' first
   | (with_reducible exact ih0 _ _)
   | (with_reducible exact ih1 _)
   | (with_reducible exact ih2 _ _ _)
   | (with_reducible exact ih3 _ _ _ _)
   | (with_reducible exact lanternref05_V4.mono _ _)
   | (with_reducible exact lanternref05_cut.mono _ _ _)
   | (with_reducible exact lanternref05_part.mono _ _)
   | (with_reducible exact LeO.refl _)
   | (with_reducible exact LeO.none _)
   | (with_reducible refine LeO.ite ?_ ?_)
   | (with_reducible refine LeO.bind ?_ (fun _ => ?_))
   | exact ih0 _ _
   | exact ih1 _
   | exact ih2 _ _ _
   | exact ih3 _ _ _ _
   | exact lanternref05_V4.mono _ _
   | exact lanternref05_cut.mono _ _ _
   | exact lanternref05_part.mono _ _
   | exact LeO.none _
   | refine LeO.ite ?_ ?_
   | refine LeO.bind ?_ (fun _ => ?_)
theorem lanternref05_Loose.mono : ∀ a0 k, LeO (lanternref05_Loose.f k a0) (lanternref05_Loose.f (k + 1) a0) := by
 intro a0 k
 obtain ⟨ih0, ih1, ih2, ih3⟩ := lanternref05_Loose.mono_l k
 unfold lanternref05_Loose.f
 repeat' first
   | (with_reducible exact ih0 _ _)
   | (with_reducible exact ih1 _)
   | (with_reducible exact ih2 _ _ _)
   | (with_reducible exact ih3 _ _ _ _)
   | (with_reducible exact lanternref05_V4.mono _ _)
   | (with_reducible exact lanternref05_cut.mono _ _ _)
   | (with_reducible exact lanternref05_part.mono _ _)
   | (with_reducible exact LeO.refl _)
   | (with_reducible exact LeO.none _)
   | (with_reducible refine LeO.ite ?_ ?_)
   | (with_reducible refine LeO.bind ?_ (fun _ => ?_))
   | exact ih0 _ _
   | exact ih1 _
   | exact ih2 _ _ _
   | exact ih3 _ _ _ _
   | exact lanternref05_V4.mono _ _
   | exact lanternref05_cut.mono _ _ _
   | exact lanternref05_part.mono _ _
   | exact LeO.none _
   | refine LeO.ite ?_ ?_
   | refine LeO.bind ?_ (fun _ => ?_)
end Go.Proofs.YtfiefecjcmcejaaDoor.P
