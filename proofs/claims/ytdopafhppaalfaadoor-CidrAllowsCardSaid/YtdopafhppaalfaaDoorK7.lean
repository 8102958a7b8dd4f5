-- Written by a program of this session (wip/gen/lprint.py over the kit's print.py) out of the translation. Lean checks it.
import Derived.Test.YtdopafhppaalfaaDoorK0
import Derived.Test.YtdopafhppaalfaaDoorP10
import Derived.Test.YtdopafhppaalfaaDoorK2
import Derived.Test.YtdopafhppaalfaaDoorK3
import Derived.Test.YtdopafhppaalfaaDoorK4
import Derived.Test.YtdopafhppaalfaaDoorK6
import Derived.Test.YtdopafhppaalfaaDoorZ
namespace Go.Proofs.YtdopafhppaalfaaDoor.K
open Go.Proofs.YtdopafhppaalfaaDoorZ
open Go.Proofs.YtdopafhppaalfaaDoor.E Go.Proofs.YtdopafhppaalfaaDoorV
open Go.Proofs.YtdopafhppaalfaaDoor.P
open Go.Proofs.YtdopafhppaalfaaDoor.G
open Go.Proofs.YtdopafhppaalfaaDoor.L
open Go.RowKit Go.Proofs.YtdopafhppaalfaaDoorW.PrintWords Go.Proofs.YtdopafhppaalfaaDoorW.PrintLast Go.Proofs.YtdopafhppaalfaaDoorW.PrintMore
attribute [local go_sem] max2_int min2_int max_two min_two max_three min_three max_four min_four   -- for this text's walks alone
set_option linter.unusedVariables false
set_option linter.unusedSimpArgs false

mutual
def lanternref06_Allow.l0 : Nat → List (S34) → Int → Bool → Int → Int → Int → Int → Int → Int → Int → Int → Int → Int → Int → Int → Int → Int → Int → Int → Option (Int)
 | 0, _, _, _, _, _, _, _, _, _, _, _, _, _, _, _, _, _, _, _ => none
 | k + 1, x1, x5, V0, V1, V2, V3, V4, V5, V6, V7, V8, V9, V10, V11, V12, V13, V14, V15, V16 => if x5 < (x1.length : Int) then (if 0 ≤ x5 then ((lanternref06_May.f k ((rd_T34 x1 x5).f0.f0) ((rd_T34 x1 x5).f0.f1.f0) ((rd_T34 x1 x5).f0.f1.f1) ((rd_T34 x1 x5).f0.f1.f2) ((rd_T34 x1 x5).f0.f1.f3) ((rd_T34 x1 x5).f0.f1.f4) ((rd_T34 x1 x5).f0.f1.f5) ((rd_T34 x1 x5).f0.f1.f6) ((rd_T34 x1 x5).f0.f1.f7) ((rd_T34 x1 x5).f0.f1.f8) ((rd_T34 x1 x5).f0.f1.f9) ((rd_T34 x1 x5).f0.f1.f10) ((rd_T34 x1 x5).f0.f1.f11) ((rd_T34 x1 x5).f0.f1.f12) ((rd_T34 x1 x5).f0.f1.f13) ((rd_T34 x1 x5).f0.f1.f14) ((rd_T34 x1 x5).f0.f1.f15) ((rd_T34 x1 x5).f1)).bind fun t165 => (if t165 = true then (lanternref06_Allow.l0 k x1 (wrap64 (x5 + 1)) V0 V1 V2 V3 V4 V5 V6 V7 V8 V9 V10 V11 V12 V13 V14 V15 V16) else (some 1))) else (none)) else ((lanternref05_Mapped.f k V0 V1 V2 V3 V4 V5 V6 V7 V8 V9 V10 V11 V12 V13 V14 V15 V16).bind fun t166 => (if t166 = true then ((lanternref05_Tail.f k V0 V1 V2 V3 V4 V5 V6 V7 V8 V9 V10 V11 V12 V13 V14 V15 V16 12).bind fun bt167 => (lanternref06_Allow.j1 k x1 bt167.1 bt167.2.1 bt167.2.2.1 bt167.2.2.2.1 bt167.2.2.2.2.1 bt167.2.2.2.2.2.1 bt167.2.2.2.2.2.2.1 bt167.2.2.2.2.2.2.2.1 bt167.2.2.2.2.2.2.2.2.1 bt167.2.2.2.2.2.2.2.2.2.1 bt167.2.2.2.2.2.2.2.2.2.2.1 bt167.2.2.2.2.2.2.2.2.2.2.2.1 bt167.2.2.2.2.2.2.2.2.2.2.2.2.1 bt167.2.2.2.2.2.2.2.2.2.2.2.2.2.1 bt167.2.2.2.2.2.2.2.2.2.2.2.2.2.2.1 bt167.2.2.2.2.2.2.2.2.2.2.2.2.2.2.2.1 bt167.2.2.2.2.2.2.2.2.2.2.2.2.2.2.2.2)) else (lanternref06_Allow.j1 k x1 V0 V1 V2 V3 V4 V5 V6 V7 V8 V9 V10 V11 V12 V13 V14 V15 V16)))
def lanternref06_Allow.j1 : Nat → List (S34) → Bool → Int → Int → Int → Int → Int → Int → Int → Int → Int → Int → Int → Int → Int → Int → Int → Int → Option (Int)
 | 0, _, _, _, _, _, _, _, _, _, _, _, _, _, _, _, _, _, _ => none
 | k + 1, x1, V0, V1, V2, V3, V4, V5, V6, V7, V8, V9, V10, V11, V12, V13, V14, V15, V16 => (lanternref06_Forbidden.f k).bind fun t184 => ((lanternref06_in.f k t184 V0 V1 V2 V3 V4 V5 V6 V7 V8 V9 V10 V11 V12 V13 V14 V15 V16).bind fun t187 => (if t187 = true then (lanternref06_Allow.j2 k x1 true V0 V1 V2 V3 V4 V5 V6 V7 V8 V9 V10 V11 V12 V13 V14 V15 V16) else ((lanternref06_in.f k x1 V0 V1 V2 V3 V4 V5 V6 V7 V8 V9 V10 V11 V12 V13 V14 V15 V16).bind fun t188 => (lanternref06_Allow.j2 k x1 t188 V0 V1 V2 V3 V4 V5 V6 V7 V8 V9 V10 V11 V12 V13 V14 V15 V16))))
def lanternref06_Allow.j2 : Nat → List (S34) → Bool → Bool → Int → Int → Int → Int → Int → Int → Int → Int → Int → Int → Int → Int → Int → Int → Int → Int → Option (Int)
 | 0, _, _, _, _, _, _, _, _, _, _, _, _, _, _, _, _, _, _, _ => none
 | k + 1, x1, x34, V0, V1, V2, V3, V4, V5, V6, V7, V8, V9, V10, V11, V12, V13, V14, V15, V16 => if x34 = true then (some 8) else ((lanternref05_Embeds.f k V0 V1 V2 V3 V4 V5 V6 V7 V8 V9 V10 V11 V12 V13 V14 V15 V16).bind fun bt189 => (if bt189.2.2.2.2.2.2.2.2.2.2.2.2.2.2.2.2.2 = true then ((lanternref06_Allow.f k bt189.1 bt189.2.1 bt189.2.2.1 bt189.2.2.2.1 bt189.2.2.2.2.1 bt189.2.2.2.2.2.1 bt189.2.2.2.2.2.2.1 bt189.2.2.2.2.2.2.2.1 bt189.2.2.2.2.2.2.2.2.1 bt189.2.2.2.2.2.2.2.2.2.1 bt189.2.2.2.2.2.2.2.2.2.2.1 bt189.2.2.2.2.2.2.2.2.2.2.2.1 bt189.2.2.2.2.2.2.2.2.2.2.2.2.1 bt189.2.2.2.2.2.2.2.2.2.2.2.2.2.1 bt189.2.2.2.2.2.2.2.2.2.2.2.2.2.2.1 bt189.2.2.2.2.2.2.2.2.2.2.2.2.2.2.2.1 bt189.2.2.2.2.2.2.2.2.2.2.2.2.2.2.2.2.1 x1).bind fun t208 => (some t208)) else (some 0)))
def lanternref06_Allow.f : Nat → Bool → Int → Int → Int → Int → Int → Int → Int → Int → Int → Int → Int → Int → Int → Int → Int → Int → List (S34) → Option (Int)
 | 0, _, _, _, _, _, _, _, _, _, _, _, _, _, _, _, _, _, _ => none
 | k + 1, z0, z1, z2, z3, z4, z5, z6, z7, z8, z9, za, zb, zc, zd, ze, zf, zg, l1 => (lanternref05_May.f k z0 z1 z2 z3 z4 z5 z6 z7 z8 z9 za zb zc zd ze zf zg).bind fun t163 => (if t163 = true then (lanternref06_Allow.l0 k l1 0 z0 z1 z2 z3 z4 z5 z6 z7 z8 z9 za zb zc zd ze zf zg) else (some 1))
end
theorem lanternref06_Allow.mono_l : ∀ k, (∀ y0 y1 y2 y3 y4 y5 y6 y7 y8 y9 y10 y11 y12 y13 y14 y15 y16 y17, LeO (lanternref06_Allow.f k y0 y1 y2 y3 y4 y5 y6 y7 y8 y9 y10 y11 y12 y13 y14 y15 y16 y17) (lanternref06_Allow.f (k + 1) y0 y1 y2 y3 y4 y5 y6 y7 y8 y9 y10 y11 y12 y13 y14 y15 y16 y17)) ∧ (∀ y0 y1 y2 y3 y4 y5 y6 y7 y8 y9 y10 y11 y12 y13 y14 y15 y16 y17 y18, LeO (lanternref06_Allow.l0 k y0 y1 y2 y3 y4 y5 y6 y7 y8 y9 y10 y11 y12 y13 y14 y15 y16 y17 y18) (lanternref06_Allow.l0 (k + 1) y0 y1 y2 y3 y4 y5 y6 y7 y8 y9 y10 y11 y12 y13 y14 y15 y16 y17 y18)) ∧ (∀ y0 y1 y2 y3 y4 y5 y6 y7 y8 y9 y10 y11 y12 y13 y14 y15 y16 y17, LeO (lanternref06_Allow.j1 k y0 y1 y2 y3 y4 y5 y6 y7 y8 y9 y10 y11 y12 y13 y14 y15 y16 y17) (lanternref06_Allow.j1 (k + 1) y0 y1 y2 y3 y4 y5 y6 y7 y8 y9 y10 y11 y12 y13 y14 y15 y16 y17)) ∧ (∀ y0 y1 y2 y3 y4 y5 y6 y7 y8 y9 y10 y11 y12 y13 y14 y15 y16 y17 y18, LeO (lanternref06_Allow.j2 k y0 y1 y2 y3 y4 y5 y6 y7 y8 y9 y10 y11 y12 y13 y14 y15 y16 y17 y18) (lanternref06_Allow.j2 (k + 1) y0 y1 y2 y3 y4 y5 y6 y7 y8 y9 y10 y11 y12 y13 y14 y15 y16 y17 y18))
 | 0 => ⟨fun _ _ _ _ _ _ _ _ _ _ _ _ _ _ _ _ _ _ r h => by simp [lanternref06_Allow.f] at h, fun _ _ _ _ _ _ _ _ _ _ _ _ _ _ _ _ _ _ _ r h => by simp [lanternref06_Allow.l0] at h, fun _ _ _ _ _ _ _ _ _ _ _ _ _ _ _ _ _ _ r h => by simp [lanternref06_Allow.j1] at h, fun _ _ _ _ _ _ _ _ _ _ _ _ _ _ _ _ _ _ _ r h => by simp [lanternref06_Allow.j2] at h⟩
 | k + 1 => by
  obtain ⟨ih0, ih1, ih2, ih3⟩ := lanternref06_Allow.mono_l k
  refine ⟨?_, ?_, ?_, ?_⟩
  ·intro y0 y1 y2 y3 y4 y5 y6 y7 y8 y9 y10 y11 y12 y13 y14 y15 y16 y17
   unfold lanternref06_Allow.f
   repeat' first
   | (with_reducible exact ih0 _ _ _ _ _ _ _ _ _ _ _ _ _ _ _ _ _ _)
   | (with_reducible exact ih1 _ _ _ _ _ _ _ _ _ _ _ _ _ _ _ _ _ _ _)
   | (with_reducible exact ih2 _ _ _ _ _ _ _ _ _ _ _ _ _ _ _ _ _ _)
   | (with_reducible exact ih3 _ _ _ _ _ _ _ _ _ _ _ _ _ _ _ _ _ _ _)
   | (with_reducible exact lanternref05_Embeds.mono _ _ _ _ _ _ _ _ _ _ _ _ _ _ _ _ _ _)
   | (with_reducible exact lanternref05_Mapped.mono _ _ _ _ _ _ _ _ _ _ _ _ _ _ _ _ _ _)
   | (with_reducible exact lanternref05_May.mono _ _ _ _ _ _ _ _ _ _ _ _ _ _ _ _ _ _)
   | (with_reducible exact lanternref05_Tail.mono _ _ _ _ _ _ _ _ _ _ _ _ _ _ _ _ _ _ _)
   | (with_reducible exact lanternref06_Forbidden.mono _)
   | (with_reducible exact lanternref06_May.mono _ _ _ _ _ _ _ _ _ _ _ _ _ _ _ _ _ _ _)
   | (with_reducible exact lanternref06_in.mono _ _ _ _ _ _ _ _ _ _ _ _ _ _ _ _ _ _ _)
   | (with_reducible exact LeO.refl _)
   | (with_reducible exact LeO.none _)
   | (with_reducible refine LeO.ite ?_ ?_)
   | (with_reducible refine LeO.bind ?_ (fun _ => ?_))
   | exact ih0 _ _ _ _ _ _ _ _ _ _ _ _ _ _ _ _ _ _
   | exact ih1 _ _ _ _ _ _ _ _ _ _ _ _ _ _ _ _ _ _ _
   | exact ih2 _ _ _ _ _ _ _ _ _ _ _ _ _ _ _ _ _ _
   | exact ih3 _ _ _ _ _ _ _ _ _ _ _ _ _ _ _ _ _ _ _
   | exact lanternref05_Embeds.mono _ _ _ _ _ _ _ _ _ _ _ _ _ _ _ _ _ _
   | exact lanternref05_Mapped.mono _ _ _ _ _ _ _ _ _ _ _ _ _ _ _ _ _ _
   | exact lanternref05_May.mono _ _ _ _ _ _ _ _ _ _ _ _ _ _ _ _ _ _
   | exact lanternref05_Tail.mono _ _ _ _ _ _ _ _ _ _ _ _ _ _ _ _ _ _ _
   | exact lanternref06_Forbidden.mono _
   | exact lanternref06_May.mono _ _ _ _ _ _ _ _ _ _ _ _ _ _ _ _ _ _ _
   | exact lanternref06_in.mono _ _ _ _ _ _ _ _ _ _ _ _ _ _ _ _ _ _ _
   | exact LeO.none _
   | refine LeO.ite ?_ ?_
   | refine LeO.bind ?_ (fun _ => ?_)
  ·intro y0 y1 y2 y3 y4 y5 y6 y7 y8 y9 y10 y11 y12 y13 y14 y15 y16 y17 y18
   unfold lanternref06_Allow.l0
   repeat' first
   | (with_reducible exact ih0 _ _ _ _ _ _ _ _ _ _ _ _ _ _ _ _ _ _)
   | (with_reducible exact ih1 _ _ _ _ _ _ _ _ _ _ _ _ _ _ _ _ _ _ _)
   | (with_reducible exact ih2 _ _ _ _ _ _ _ _ _ _ _ _ _ _ _ _ _ _)
   | (with_reducible exact ih3 _ _ _ _ _ _ _ _ _ _ _ _ _ _ _ _ _ _ _)
   | (with_reducible exact lanternref05_Embeds.mono _ _ _ _ _ _ _ _ _ _ _ _ _ _ _ _ _ _)
   | (with_reducible exact lanternref05_Mapped.mono _ _ _ _ _ _ _ _ _ _ _ _ _ _ _ _ _ _)
   | (with_reducible exact lanternref05_May.mono _ _ _ _ _ _ _ _ _ _ _ _ _ _ _ _ _ _)
   | (with_reducible exact lanternref05_Tail.mono _ _ _ _ _ _ _ _ _ _ _ _ _ _ _ _ _ _ _)
   | (with_reducible exact lanternref06_Forbidden.mono _)
   | (with_reducible exact lanternref06_May.mono _ _ _ _ _ _ _ _ _ _ _ _ _ _ _ _ _ _ _)
   | (with_reducible exact lanternref06_in.mono _ _ _ _ _ _ _ _ _ _ _ _ _ _ _ _ _ _ _)
   | (with_reducible exact LeO.refl _)
   | (with_reducible exact LeO.none _)
   | (with_reducible refine LeO.ite ?_ ?_)
   | (with_reducible refine LeO.bind ?_ (fun _ => ?_))
   | exact ih0 _ _ _ _ _ _ _ _ _ _ _ _ _ _ _ _ _ _
   | exact ih1 _ _ _ _ _ _ _ _ _ _ _ _ _ _ _ _ _ _ _
   | exact ih2 _ _ _ _ _ _ _ _ _ _ _ _ _ _ _ _ _ _
   | exact ih3 _ _ _ _ _ _ _ _ _ _ _ _ _ _ _ _ _ _ _
   | exact lanternref05_Embeds.mono _ _ _ _ _ _ _ _ _ _ _ _ _ _ _ _ _ _
   | exact lanternref05_Mapped.mono _ _ _ _ _ _ _ _ _ _ _ _ _ _ _ _ _ _
   | exact lanternref05_May.mono _ _ _ _ _ _ _ _ _ _ _ _ _ _ _ _ _ _
   | exact lanternref05_Tail.mono _ _ _ _ _ _ _ _ _ _ _ _ _ _ _ _ _ _ _
   | exact lanternref06_Forbidden.mono _
   | exact lanternref06_May.mono _ _ _ _ _ _ _ _ _ _ _ _ _ _ _ _ _ _ _
   | exact lanternref06_in.mono _ _ _ _ _ _ _ _ _ _ _ _ _ _ _ _ _ _ _
   | exact LeO.none _
   | refine LeO.ite ?_ ?_
   | refine LeO.bind ?_ (fun _ => ?_)
  ·intro y0 y1 y2 y3 y4 y5 y6 y7 y8 y9 y10 y11 y12 y13 y14 y15 y16 y17
   unfold lanternref06_Allow.j1
   repeat' first
   | (with_reducible exact ih0 _ _ _ _ _ _ _ _ _ _ _ _ _ _ _ _ _ _)
   | (with_reducible exact ih1 _ _ _ _ _ _ _ _ _ _ _ _ _ _ _ _ _ _ _)
   | (with_reducible exact ih2 _ _ _ _ _ _ _ _ _ _ _ _ _ _ _ _ _ _)
   | (with_reducible exact ih3 _ _ _ _ _ _ _ _ _ _ _ _ _ _ _ _ _ _ _)
   | (with_reducible exact lanternref05_Embeds.mono _ _ _ _ _ _ _ _ _ _ _ _ _ _ _ _ _ _)
   | (with_reducible exact lanternref05_Mapped.mono _ _ _ _ _ _ _ _ _ _ _ _ _ _ _ _ _ _)
   | (with_reducible exact lanternref05_May.mono _ _ _ _ _ _ _ _ _ _ _ _ _ _ _ _ _ _)
   | (with_reducible exact lanternref05_Tail.mono _ _ _ _ _ _ _ _ _ _ _ _ _ _ _ _ _ _ _)
   | (with_reducible exact lanternref06_Forbidden.mono _)
   | (with_reducible exact lanternref06_May.mono _ _ _ _ _ _ _ _ _ _ _ _ _ _ _ _ _ _ _)
   | (with_reducible exact lanternref06_in.mono _ _ _ _ _ _ _ _ _ _ _ _ _ _ _ _ _ _ _)
   | (with_reducible exact LeO.refl _)
   | (with_reducible exact LeO.none _)
   | (with_reducible refine LeO.ite ?_ ?_)
   | (with_reducible refine LeO.bind ?_ (fun _ => ?_))
   | exact ih0 _ _ _ _ _ _ _ _ _ _ _ _ _ _ _ _ _ _
   | exact ih1 _ _ _ _ _ _ _ _ _ _ _ _ _ _ _ _ _ _ _
   | exact ih2 _ _ _ _ _ _ _ _ _ _ _ _ _ _ _ _ _ _
   | exact ih3 _ _ _ _ _ _ _ _ _ _ _ _ _ _ _ _ _ _ _
   | exact lanternref05_Embeds.mono _ _ _ _ _ _ _ _ _ _ _ _ _ _ _ _ _ _
   | exact lanternref05_Mapped.mono _ _ _ _ _ _ _ _ _ _ _ _ _ _ _ _ _ _
   | exact lanternref05_May.mono _ _ _ _ _ _ _ _ _ _ _ _ _ _ _ _ _ _
   | exact lanternref05_Tail.mono _ _ _ _ _ _ _ _ _ _ _ _ _ _ _ _ _ _ _
   | exact lanternref06_Forbidden.mono _
   | exact lanternref06_May.mono _ _ _ _ _ _ _ _ _ _ _ _ _ _ _ _ _ _ _
   | exact lanternref06_in.mono _ _ _ _ _ _ _ _ _ _ _ _ _ _ _ _ _ _ _
   | exact LeO.none _
   | refine LeO.ite ?_ ?_
   | refine LeO.bind ?_ (fun _ => ?_)
  ·intro y0 y1 y2 y3 y4 y5 y6 y7 y8 y9 y10 y11 y12 y13 y14 y15 y16 y17 y18
   unfold lanternref06_Allow.j2
   repeat' first
   | (with_reducible exact ih0 _ _ _ _ _ _ _ _ _ _ _ _ _ _ _ _ _ _)
   | (with_reducible exact ih1 _ _ _ _ _ _ _ _ _ _ _ _ _ _ _ _ _ _ _)
   | (with_reducible exact ih2 _ _ _ _ _ _ _ _ _ _ _ _ _ _ _ _ _ _)
   | (with_reducible exact ih3 _ _ _ _ _ _ _ _ _ _ _ _ _ _ _ _ _ _ _)
   | (with_reducible exact lanternref05_Embeds.mono _ _ _ _ _ _ _ _ _ _ _ _ _ _ _ _ _ _)
   | (with_reducible exact lanternref05_Mapped.mono _ _ _ _ _ _ _ _ _ _ _ _ _ _ _ _ _ _)
   | (with_reducible exact lanternref05_May.mono _ _ _ _ _ _ _ _ _ _ _ _ _ _ _ _ _ _)
   | (with_reducible exact lanternref05_Tail.mono _ _ _ _ _ _ _ _ _ _ _ _ _ _ _ _ _ _ _)
   | (with_reducible exact lanternref06_Forbidden.mono _)
   | (with_reducible exact lanternref06_May.mono _ _ _ _ _ _ _ _ _ _ _ _ _ _ _ _ _ _ _)
   | (with_reducible exact lanternref06_in.mono _ _ _ _ _ _ _ _ _ _ _ _ _ _ _ _ _ _ _)
   | (with_reducible exact LeO.refl _)
   | (with_reducible exact LeO.none _)
   | (with_reducible refine LeO.ite ?_ ?_)
   | (with_reducible refine LeO.bind ?_ (fun _ => ?_))
   | exact ih0 _ _ _ _ _ _ _ _ _ _ _ _ _ _ _ _ _ _
   | exact ih1 _ _ _ _ _ _ _ _ _ _ _ _ _ _ _ _ _ _ _
   | exact ih2 _ _ _ _ _ _ _ _ _ _ _ _ _ _ _ _ _ _
   | exact ih3 _ _ _ _ _ _ _ _ _ _ _ _ _ _ _ _ _ _ _
   | exact lanternref05_Embeds.mono _ _ _ _ _ _ _ _ _ _ _ _ _ _ _ _ _ _
   | exact lanternref05_Mapped.mono _ _ _ _ _ _ _ _ _ _ _ _ _ _ _ _ _ _
   | exact lanternref05_May.mono _ _ _ _ _ _ _ _ _ _ _ _ _ _ _ _ _ _
   | exact lanternref05_Tail.mono _ _ _ _ _ _ _ _ _ _ _ _ _ _ _ _ _ _ _
   | exact lanternref06_Forbidden.mono _
   | exact lanternref06_May.mono _ _ _ _ _ _ _ _ _ _ _ _ _ _ _ _ _ _ _
   | exact lanternref06_in.mono _ _ _ _ _ _ _ _ _ _ _ _ _ _ _ _ _ _ _
   | exact LeO.none _
   | refine LeO.ite ?_ ?_
   | refine LeO.bind ?_ (fun _ => ?_)
theorem lanternref06_Allow.mono : ∀ a0 a1 a2 a3 a4 a5 a6 a7 a8 a9 a10 a11 a12 a13 a14 a15 a16 a17 k, LeO (lanternref06_Allow.f k a0 a1 a2 a3 a4 a5 a6 a7 a8 a9 a10 a11 a12 a13 a14 a15 a16 a17) (lanternref06_Allow.f (k + 1) a0 a1 a2 a3 a4 a5 a6 a7 a8 a9 a10 a11 a12 a13 a14 a15 a16 a17) := by
 intro a0 a1 a2 a3 a4 a5 a6 a7 a8 a9 a10 a11 a12 a13 a14 a15 a16 a17 k
 obtain ⟨ih0, ih1, ih2, ih3⟩ := lanternref06_Allow.mono_l k
 exact ih0 a0 a1 a2 a3 a4 a5 a6 a7 a8 a9 a10 a11 a12 a13 a14 a15 a16 a17
def lanternref06_Allow.T10 : Bool × List (List Nat × List Nat) := (true, [([], []), ([], []), ([0, 1, 0], [0, 1]), ([2, 2], [2]), ([3], [3]), ([3], [3]), ([4, 5, 3, 3], [3, 4, 5]), ([3, 6], [3, 6])])
def lanternref06_Allow.B10 : List Nat := [0, 0, 3, 7, 15, 15, 63, 127]
theorem lanternref06_Allow.tab10 : rtab .any (opsOf Tryd.f8 10) = lanternref06_Allow.T10 := by kernel_rfl
theorem lanternref06_Allow.bits10 : waitsOk lanternref06_Allow.T10.2 lanternref06_Allow.B10 = true := by kernel_rfl
set_option maxHeartbeats 8000000 in
set_option maxRecDepth 100000 in
theorem lanternref06_Allow.calls (k : Nat) : ∀ (z0 : Bool) (z1 : Int) (z2 : Int) (z3 : Int) (z4 : Int) (z5 : Int) (z6 : Int) (z7 : Int) (z8 : Int) (z9 : Int) (za : Int) (zb : Int) (zc : Int) (zd : Int) (ze : Int) (zf : Int) (zg : Int) (A1 : Option Addr) (c1 : Nat) (l1 : List (S34)) (r : Int) (w : World) (hLW : LW w) (hr1 : Kd.C k34 w A1 l1.length l1) (hc1 : l1.length ≤ c1) (h : lanternref06_Allow.f k z0 z1 z2 z3 z4 z5 z6 z7 z8 z9 za zb zc zd ze zf zg l1 = some r),
  Calls Tryd.prog 8 #[.agg (ag_ z0 z1 z2 z3 z4 z5 z6 z7 z8 z9 za zb zc zd ze zf zg), .slice A1 l1.length c1] w fun e w' => e = .returned (.int .i64 r) ∧ Below w.heap.size w w' := by
 induction k using Nat.strongRecOn with
 | _ k ih =>
 intro z0 z1 z2 z3 z4 z5 z6 z7 z8 z9 za zb zc zd ze zf zg A1 c1 l1 r w hLW hr1 hc1 h
 cases k with
 | zero => exact absurd h (by simp [lanternref06_Allow.f])
 | succ k =>
 simp only [lanternref06_Allow.f] at h
 have hu24 := Tryd.underlying24
 have hu34 := Tryd.underlying34
 have HLW := Aside0.mk hLW
 clear hLW
 have HR1 := Aside0.mk hr1
 have HC1 := Aside0.mk hc1
 clear hr1 hc1
 have HB := Aside0.mk (Below.refl w.heap.size w)
 have H := h
 unfold lanternref06_Allow.f at H
 clear h
 replace H := Option.bind_eq_some_iff.mp H
 obtain ⟨t163, A30, H⟩ := H
 (try dsimp only at H)
 have A3 := Aside0.mk A30
 clear A30
 by_cases c4 : t163 = true
 ·subst c4
  replace H := ifT_ H
  have H' := Aside0.mk H
  clear H
  go_enter Tryd.func8, Tryd.ntmps8
  go_wp2_with (first | ((with_reducible refine gate_dst (N := 2) rfl ?_); refine bx_ 2 (ag_ z0 z1 z2 z3 z4 z5 z6 z7 z8 z9 za zb zc zd ze zf zg) 24 ?_; intro gb162 hg w5 hbox hb; have BK162 := Aside0.mk (hbox); have GW162 := Aside0.mk (ge_ (w := w) hg); have GE162 := Aside0.mk (ge_ (w := w) hg); replace HB := Aside0.mk (below_step bq_ hb); clear hb hbox hg) | ((with_reducible refine gate_dst (N := 8) rfl ?_); (try (refine gate_guard (by rfl) ?_; dsimp only)); refine load_box ?hg 24 (.tmp 2) rfl BK162.out [] (al_ z0 z1 z2 z3 z4 z5 z6 z7 z8 z9 za zb zc zd ze zf zg) [] rfl 0 rfl rfl Tryd.underlying24 rfl (by kernel_rfl) ?_; (case hg => rfl)) | ((with_reducible refine gate_callee (f := 15) rfl ?_); refine goesL_ (some 9) rfl rfl Tryd.func15 (by kernel_rfl) rfl #[.agg (ag_ z0 z1 z2 z3 z4 z5 z6 z7 z8 z9 za zb zc zd ze zf zg)] rfl lq_ ?_; (with_reducible refine (lanternref05_May.calls k z0 z1 z2 z3 z4 z5 z6 z7 z8 z9 za zb zc zd ze zf zg true _ ?side1 A3.out).mono ?_); (case side1 => exact lg_); rintro e w6 ⟨rfl, hb⟩; refine ⟨_, rfl, ?_⟩; replace BK162 := Aside0.mk (bb_ BK162 hb); replace HB := Aside0.mk (below_step bg_ hb); (try clear hb); (try clear hb2); (try clear hk); (try clear hi)))
  go_loopg [5] k (fun kq v5 w' => ∃ (x5_1 : Int), v5 = .int .i64 x5_1 ∧ Aside0 (lanternref06_Allow.l0 kq l1 x5_1 z0 z1 z2 z3 z4 z5 z6 z7 z8 z9 za zb zc zd ze zf zg = some r) ∧ Aside0 (kq ≤ k) ∧ Aside0 (w'.heap[gb162]? = some (.cells (ag_ z0 z1 z2 z3 z4 z5 z6 z7 z8 z9 za zb zc zd ze zf zg) 24 (0, 0))) ∧ Aside0 (Below w.heap.size w w'))
  case atStart => exact ⟨(0), sq_, H', ⟨Nat.le_refl _⟩, ⟨bk_⟩, ⟨bg_⟩⟩
  case round =>
   clear H'
   try clear c1
   try clear p2
   try clear c4
   obtain ⟨x5_1, rfl, HA, HK1, BK162, HB⟩ := hrel
   cases gk with
   | zero => exact absurd HA.out (by simp [lanternref06_Allow.l0])
   | succ k1 =>
    have H := HA.out
    clear HA
    simp only [lanternref06_Allow.l0] at H
    by_cases c7 : x5_1 < (l1.length : Int)
    ·rw [if_pos c7] at H
     have c7b0 := decide_eq_true c7
     clear c7
     by_cases c8 : 0 ≤ x5_1
     ·rw [if_pos c8] at H
      have c8b0 := decide_eq_true c8
      clear c8
      replace H := Option.bind_eq_some_iff.mp H
      obtain ⟨t165, A90, H⟩ := H
      (try dsimp only at H)
      have A9 := Aside0.mk A90
      clear A90
      by_cases c10 : t165 = true
      ·subst c10
       replace H := ifT_ H
       have H' := Aside0.mk H
       clear H
       have p164 : 0 ≤ (x5_1 : Int) := of_decide_eq_true as_
       have q164 : x5_1 < (l1.length : Int) := of_decide_eq_true as_
       obtain ⟨ad164, e164, hx164_0, hx164_1, hx164_2, hx164_3, hx164_4, hx164_5, hx164_6, hx164_7, hx164_8, hx164_9, hx164_10, hx164_11, hx164_12, hx164_13, hx164_14, hx164_15, hx164_16, hx164_17⟩ := at_T34 HR1.out x5_1 p164 q164
       clear hx164_0 hx164_1 hx164_2 hx164_3 hx164_4 hx164_5 hx164_6 hx164_7 hx164_8 hx164_9 hx164_10 hx164_11 hx164_12 hx164_13 hx164_14 hx164_15 hx164_16 hx164_17
       cases e164
       replace p164 := eq_true p164
       replace q164 := eq_true q164
       go_wp2_with (first | ((with_reducible refine gate_dst (N := 20) rfl ?_); refine run_ev ?hg (N := 20) ?hd _ (load_exec rfl rfl (row_T34 (Kd.C_below HR1.out HB.out) x5_1 p164 q164)) ?_; (case hd => rfl); (case hg => rfl); intro w_ hw_; subst hw_) | ((with_reducible refine gate_callee (f := 14) rfl ?_); refine goesL_ (some 21) rfl rfl Tryd.func14 (by kernel_rfl) rfl #[.agg (nr_ ((rd_T34 l1 x5_1).f0.f0) ((rd_T34 l1 x5_1).f0.f1.f0) ((rd_T34 l1 x5_1).f0.f1.f1) ((rd_T34 l1 x5_1).f0.f1.f2) ((rd_T34 l1 x5_1).f0.f1.f3) ((rd_T34 l1 x5_1).f0.f1.f4) ((rd_T34 l1 x5_1).f0.f1.f5) ((rd_T34 l1 x5_1).f0.f1.f6) ((rd_T34 l1 x5_1).f0.f1.f7) ((rd_T34 l1 x5_1).f0.f1.f8) ((rd_T34 l1 x5_1).f0.f1.f9) ((rd_T34 l1 x5_1).f0.f1.f10) ((rd_T34 l1 x5_1).f0.f1.f11) ((rd_T34 l1 x5_1).f0.f1.f12) ((rd_T34 l1 x5_1).f0.f1.f13) ((rd_T34 l1 x5_1).f0.f1.f14) ((rd_T34 l1 x5_1).f0.f1.f15) ((rd_T34 l1 x5_1).f1))] rfl lq_ ?_; (with_reducible refine (lanternref06_May.calls k1 ((rd_T34 l1 x5_1).f0.f0) ((rd_T34 l1 x5_1).f0.f1.f0) ((rd_T34 l1 x5_1).f0.f1.f1) ((rd_T34 l1 x5_1).f0.f1.f2) ((rd_T34 l1 x5_1).f0.f1.f3) ((rd_T34 l1 x5_1).f0.f1.f4) ((rd_T34 l1 x5_1).f0.f1.f5) ((rd_T34 l1 x5_1).f0.f1.f6) ((rd_T34 l1 x5_1).f0.f1.f7) ((rd_T34 l1 x5_1).f0.f1.f8) ((rd_T34 l1 x5_1).f0.f1.f9) ((rd_T34 l1 x5_1).f0.f1.f10) ((rd_T34 l1 x5_1).f0.f1.f11) ((rd_T34 l1 x5_1).f0.f1.f12) ((rd_T34 l1 x5_1).f0.f1.f13) ((rd_T34 l1 x5_1).f0.f1.f14) ((rd_T34 l1 x5_1).f0.f1.f15) ((rd_T34 l1 x5_1).f1) true _ ?side1 A9.out).mono ?_); (case side1 => exact lg_); rintro e w11 ⟨rfl, hb⟩; refine ⟨_, rfl, ?_⟩; replace BK162 := Aside0.mk (bb_ BK162 hb); replace HB := Aside0.mk (below_step bg_ hb); (try clear hb); (try clear hb2); (try clear hk); (try clear hi)))
       go_roundg k1
       case measure => have := HK1.out; omega
       case rel => exact ⟨(wrap64 (x5_1 + 1)), sq_, H', ⟨by have := HK1.out; omega⟩, ⟨bk_⟩, ⟨bg_⟩⟩
      ·replace c10 := Bool.eq_false_iff.mpr c10
       subst c10
       replace H := ifF_ H
       obtain rfl := Option.some.inj H
       have p164 : 0 ≤ (x5_1 : Int) := of_decide_eq_true as_
       have q164 : x5_1 < (l1.length : Int) := of_decide_eq_true as_
       obtain ⟨ad164, e164, hx164_0, hx164_1, hx164_2, hx164_3, hx164_4, hx164_5, hx164_6, hx164_7, hx164_8, hx164_9, hx164_10, hx164_11, hx164_12, hx164_13, hx164_14, hx164_15, hx164_16, hx164_17⟩ := at_T34 HR1.out x5_1 p164 q164
       clear hx164_0 hx164_1 hx164_2 hx164_3 hx164_4 hx164_5 hx164_6 hx164_7 hx164_8 hx164_9 hx164_10 hx164_11 hx164_12 hx164_13 hx164_14 hx164_15 hx164_16 hx164_17
       cases e164
       replace p164 := eq_true p164
       replace q164 := eq_true q164
       go_wp2_with (first | ((with_reducible refine gate_dst (N := 20) rfl ?_); refine run_ev ?hg (N := 20) ?hd _ (load_exec rfl rfl (row_T34 (Kd.C_below HR1.out HB.out) x5_1 p164 q164)) ?_; (case hd => rfl); (case hg => rfl); intro w_ hw_; subst hw_) | ((with_reducible refine gate_callee (f := 14) rfl ?_); refine goesL_ (some 21) rfl rfl Tryd.func14 (by kernel_rfl) rfl #[.agg (nr_ ((rd_T34 l1 x5_1).f0.f0) ((rd_T34 l1 x5_1).f0.f1.f0) ((rd_T34 l1 x5_1).f0.f1.f1) ((rd_T34 l1 x5_1).f0.f1.f2) ((rd_T34 l1 x5_1).f0.f1.f3) ((rd_T34 l1 x5_1).f0.f1.f4) ((rd_T34 l1 x5_1).f0.f1.f5) ((rd_T34 l1 x5_1).f0.f1.f6) ((rd_T34 l1 x5_1).f0.f1.f7) ((rd_T34 l1 x5_1).f0.f1.f8) ((rd_T34 l1 x5_1).f0.f1.f9) ((rd_T34 l1 x5_1).f0.f1.f10) ((rd_T34 l1 x5_1).f0.f1.f11) ((rd_T34 l1 x5_1).f0.f1.f12) ((rd_T34 l1 x5_1).f0.f1.f13) ((rd_T34 l1 x5_1).f0.f1.f14) ((rd_T34 l1 x5_1).f0.f1.f15) ((rd_T34 l1 x5_1).f1))] rfl lq_ ?_; (with_reducible refine (lanternref06_May.calls k1 ((rd_T34 l1 x5_1).f0.f0) ((rd_T34 l1 x5_1).f0.f1.f0) ((rd_T34 l1 x5_1).f0.f1.f1) ((rd_T34 l1 x5_1).f0.f1.f2) ((rd_T34 l1 x5_1).f0.f1.f3) ((rd_T34 l1 x5_1).f0.f1.f4) ((rd_T34 l1 x5_1).f0.f1.f5) ((rd_T34 l1 x5_1).f0.f1.f6) ((rd_T34 l1 x5_1).f0.f1.f7) ((rd_T34 l1 x5_1).f0.f1.f8) ((rd_T34 l1 x5_1).f0.f1.f9) ((rd_T34 l1 x5_1).f0.f1.f10) ((rd_T34 l1 x5_1).f0.f1.f11) ((rd_T34 l1 x5_1).f0.f1.f12) ((rd_T34 l1 x5_1).f0.f1.f13) ((rd_T34 l1 x5_1).f0.f1.f14) ((rd_T34 l1 x5_1).f0.f1.f15) ((rd_T34 l1 x5_1).f1) false _ ?side1 A9.out).mono ?_); (case side1 => exact lg_); rintro e w12 ⟨rfl, hb⟩; refine ⟨_, rfl, ?_⟩; replace BK162 := Aside0.mk (bb_ BK162 hb); replace HB := Aside0.mk (below_step bg_ hb); (try clear hb); (try clear hb2); (try clear hk); (try clear hi)))
       go_ret
       exact ⟨rq_, bg_⟩
     ·rw [if_neg c8] at H
      exact absurd H (by simp)
    ·rw [if_neg c7] at H
     have c7b0 := decide_eq_false c7
     clear c7
     replace H := Option.bind_eq_some_iff.mp H
     obtain ⟨t166, A130, H⟩ := H
     (try dsimp only at H)
     have A13 := Aside0.mk A130
     clear A130
     have HC14 := Aside0.mk H
     clear H
     go_upto_if 24 with (first | ((with_reducible refine gate_dst (N := 23) rfl ?_); (try (refine gate_guard (by rfl) ?_; dsimp only)); refine load_box ?hg 24 (.tmp 2) rfl BK162.out [] (al_ z0 z1 z2 z3 z4 z5 z6 z7 z8 z9 za zb zc zd ze zf zg) [] rfl 0 rfl rfl Tryd.underlying24 rfl (by kernel_rfl) ?_; (case hg => rfl)) | ((with_reducible refine gate_callee (f := 26) rfl ?_); refine goesL_ (some 24) rfl rfl Tryd.func26 (by kernel_rfl) rfl #[.agg (ag_ z0 z1 z2 z3 z4 z5 z6 z7 z8 z9 za zb zc zd ze zf zg)] rfl lq_ ?_; (with_reducible refine (lanternref05_Mapped.calls k1 z0 z1 z2 z3 z4 z5 z6 z7 z8 z9 za zb zc zd ze zf zg t166 _ ?side1 A13.out).mono ?_); (case side1 => exact lg_); rintro e w15 ⟨rfl, hb⟩; refine ⟨_, rfl, ?_⟩; replace BK162 := Aside0.mk (bb_ BK162 hb); replace HB := Aside0.mk (below_step bg_ hb); (try clear hb); (try clear hb2); (try clear hk); (try clear hi)))
     (try simp only [Act.put, List.setIfInBounds_toArray, List.set_cons_zero, List.set_cons_succ])
     go_cut [] (fun wc => ∃ (kq : Nat) (V0_13 : Bool) (V1_13 : Int) (V2_13 : Int) (V3_13 : Int) (V4_13 : Int) (V5_13 : Int) (V6_13 : Int) (V7_13 : Int) (V8_13 : Int) (V9_13 : Int) (V10_13 : Int) (V11_13 : Int) (V12_13 : Int) (V13_13 : Int) (V14_13 : Int) (V15_13 : Int) (V16_13 : Int), Aside0 (lanternref06_Allow.j1 kq l1 V0_13 V1_13 V2_13 V3_13 V4_13 V5_13 V6_13 V7_13 V8_13 V9_13 V10_13 V11_13 V12_13 V13_13 V14_13 V15_13 V16_13 = some r) ∧ Aside0 (kq ≤ k1) ∧ Aside0 (wc.heap[gb162]? = some (.cells (ag_ V0_13 V1_13 V2_13 V3_13 V4_13 V5_13 V6_13 V7_13 V8_13 V9_13 V10_13 V11_13 V12_13 V13_13 V14_13 V15_13 V16_13) 24 (0, 0))) ∧ Aside0 (Below w.heap.size w wc))
     case first =>
      have H := HC14.out
      clear HC14
      by_cases c16 : t166 = true
      ·subst c16
       replace H := ifT_ H
       replace H := Option.bind_eq_some_iff.mp H
       obtain ⟨⟨t167, t168, t169, t170, t171, t172, t173, t174, t175, t176, t177, t178, t179, t180, t181, t182, t183⟩, A170, H⟩ := H
       (try dsimp only at H)
       have A17 := Aside0.mk A170
       clear A170
       have H' := Aside0.mk H
       clear H
       go_wp2_with (first | ((with_reducible refine gate_dst (N := 25) rfl ?_); (try (refine gate_guard (by rfl) ?_; dsimp only)); refine load_box ?hg 24 (.tmp 2) rfl BK162.out [] (al_ z0 z1 z2 z3 z4 z5 z6 z7 z8 z9 za zb zc zd ze zf zg) [] rfl 0 rfl rfl Tryd.underlying24 rfl (by kernel_rfl) ?_; (case hg => rfl)) | ((with_reducible refine gate_callee (f := 27) rfl ?_); refine goesL_ (some 26) rfl rfl Tryd.func27 (by kernel_rfl) rfl #[.agg (ag_ z0 z1 z2 z3 z4 z5 z6 z7 z8 z9 za zb zc zd ze zf zg), .int .i64 12] rfl lq_ ?_; (with_reducible refine (lanternref05_Tail.calls k1 z0 z1 z2 z3 z4 z5 z6 z7 z8 z9 za zb zc zd ze zf zg 12 t167 t168 t169 t170 t171 t172 t173 t174 t175 t176 t177 t178 t179 t180 t181 t182 t183 _ ?side1 A17.out).mono ?_); (case side1 => exact lg_); rintro e w18 ⟨rfl, hb⟩; refine ⟨_, rfl, ?_⟩; replace BK162 := Aside0.mk (bb_ BK162 hb); replace HB := Aside0.mk (below_step bg_ hb); (try clear hb); (try clear hb2); (try clear hk); (try clear hi); obtain ⟨hcz19_0, hcz19_1, hcz19_2, hcz19_3, hcz19_4, hcz19_5, hcz19_6, hcz19_7, hcz19_8, hcz19_9, hcz19_10, hcz19_11, hcz19_12, hcz19_13, hcz19_14, hcz19_15, hcz19_16⟩ := c17_ BK162; obtain ⟨hfz19_0, hfz19_1, hfz19_2, hfz19_3, hfz19_4, hfz19_5, hfz19_6, hfz19_7, hfz19_8, hfz19_9, hfz19_10, hfz19_11, hfz19_12, hfz19_13, hfz19_14, hfz19_15, hfz19_16⟩ := f17_ BK162) | ((with_reducible refine gate_store (t := 24) (p := 2) rfl ?_); refine store_all ?hg 24 2 _ rfl rfl gb162 (al_ z0 z1 z2 z3 z4 z5 z6 z7 z8 z9 za zb zc zd ze zf zg) (al_ t167 t168 t169 t170 t171 t172 t173 t174 t175 t176 t177 t178 t179 t180 t181 t182 t183) BK162.out rfl rfl rfl (by kernel_rfl) rfl ?_; (case hg => rfl); intro w20 hw; replace BK162 := Aside0.mk (show w20.heap[gb162]? = some (.cells (ag_ t167 t168 t169 t170 t171 t172 t173 t174 t175 t176 t177 t178 t179 t180 t181 t182 t183) 24 (0, 0)) from ss_ BK162 hw); replace HB := Aside0.mk (sb_ hw); clear hw))
       go_meet
       case rel => exact ⟨_, (t167), (t168), (t169), (t170), (t171), (t172), (t173), (t174), (t175), (t176), (t177), (t178), (t179), (t180), (t181), (t182), (t183), H', ⟨by have := HK1.out; first | omega | exact Nat.le_refl _⟩, ⟨bk_⟩, ⟨bg_⟩⟩
      ·replace c16 := Bool.eq_false_iff.mpr c16
       subst c16
       replace H := ifF_ H
       have H' := Aside0.mk H
       clear H
       go_wp2
       go_meet
       case rel => exact ⟨_, (z0), (z1), (z2), (z3), (z4), (z5), (z6), (z7), (z8), (z9), (za), (zb), (zc), (zd), (ze), (zf), (zg), H', ⟨by have := HK1.out; first | omega | exact Nat.le_refl _⟩, ⟨bk_⟩, ⟨bg_⟩⟩
     case rest =>
      clear HC14
      try clear c1
      try clear p1
      try clear q1
      try clear hx1
      try clear c2
      try clear p2
      try clear c4
      try clear p6
      try clear c7
      try clear c7b0
      try clear c8
      try clear c8b0
      try clear c10
      try clear c14
      try clear c15
      try clear c16
      try clear p16
      try clear q16
      try clear hx16
      try clear hcz19_0
      try clear hcz19_1
      try clear hcz19_10
      try clear hcz19_11
      try clear hcz19_12
      try clear hcz19_13
      try clear hcz19_14
      try clear hcz19_15
      try clear hcz19_16
      try clear hcz19_2
      try clear hcz19_3
      try clear hcz19_4
      try clear hcz19_5
      try clear hcz19_6
      try clear hcz19_7
      try clear hcz19_8
      try clear hcz19_9
      try clear hfz19_0
      try clear hfz19_1
      try clear hfz19_10
      try clear hfz19_11
      try clear hfz19_12
      try clear hfz19_13
      try clear hfz19_14
      try clear hfz19_15
      try clear hfz19_16
      try clear hfz19_2
      try clear hfz19_3
      try clear hfz19_4
      try clear hfz19_5
      try clear hfz19_6
      try clear hfz19_7
      try clear hfz19_8
      try clear hfz19_9
      try clear hx164_0
      try clear hx164_1
      try clear hx164_10
      try clear hx164_11
      try clear hx164_12
      try clear hx164_13
      try clear hx164_14
      try clear hx164_15
      try clear hx164_16
      try clear hx164_17
      try clear hx164_2
      try clear hx164_3
      try clear hx164_4
      try clear hx164_5
      try clear hx164_6
      try clear hx164_7
      try clear hx164_8
      try clear hx164_9
      try clear p164
      try clear p2
      try clear q164
      obtain ⟨kq, V0_13, V1_13, V2_13, V3_13, V4_13, V5_13, V6_13, V7_13, V8_13, V9_13, V10_13, V11_13, V12_13, V13_13, V14_13, V15_13, V16_13, HA, HJ13, BK162, HB⟩ := hcut
      cases kq with
      | zero => exact absurd HA.out (by simp [lanternref06_Allow.j1])
      | succ kj13 =>
       have H := HA.out
       clear HA
       simp only [lanternref06_Allow.j1] at H
       have HC21 := Aside0.mk H
       clear H
       go_upto_region 10 with (fail)
       go_cut [34] (fun v34 wc => ∃ (kq : Nat) (x34_20 : Bool), v34 = .bool x34_20 ∧ Aside0 (lanternref06_Allow.j2 kq l1 x34_20 V0_13 V1_13 V2_13 V3_13 V4_13 V5_13 V6_13 V7_13 V8_13 V9_13 V10_13 V11_13 V12_13 V13_13 V14_13 V15_13 V16_13 = some r) ∧ Aside0 (kq ≤ kj13) ∧ Aside0 (wc.heap[gb162]? = some (.cells (ag_ V0_13 V1_13 V2_13 V3_13 V4_13 V5_13 V6_13 V7_13 V8_13 V9_13 V10_13 V11_13 V12_13 V13_13 V14_13 V15_13 V16_13) 24 (0, 0))) ∧ Aside0 (Below w.heap.size w wc))
       case first =>
        have H := HC21.out
        clear HC21
        replace H := Option.bind_eq_some_iff.mp H
        obtain ⟨t184, A220, H⟩ := H
        (try dsimp only at H)
        have A22 := Aside0.mk A220
        clear A220
        replace H := Option.bind_eq_some_iff.mp H
        obtain ⟨t187, A230, H⟩ := H
        (try dsimp only at H)
        have A23 := Aside0.mk A230
        clear A230
        by_cases c24 : t187 = true
        ·subst c24
         replace H := ifT_ H
         have H' := Aside0.mk H
         clear H
         try go_wp2
         replace BK162 := Aside0.mk (blk_drew BK162.out)
         replace HB := Aside0.mk (below_drew1 HB.out)
         refine start_ (n := 8) (S := fun w' => (Instr.loadAt 24 (.pointer (some ⟨gb162, 0, none⟩))).run Tryd.prog w' = .ok (.agg (ag_ V0_13 V1_13 V2_13 V3_13 V4_13 V5_13 V6_13 V7_13 V8_13 V9_13 V10_13 V11_13 V12_13 V13_13 V14_13 V15_13 V16_13)) w') (ds := []) (bv_ 0 8) (by kernel_rfl) rfl rfl ((run_load_box BK162.out 24 [] (al_ V0_13 V1_13 V2_13 V3_13 V4_13 V5_13 V6_13 V7_13 V8_13 V9_13 V10_13 V11_13 V12_13 V13_13 V14_13 V15_13 V16_13) [] rfl 0 rfl Tryd.underlying24 rfl (by kernel_rfl))) (fun hHeld => ?_); refine with_tabW lanternref06_Allow.tab10 lanternref06_Allow.bits10 (fun HT_ HW_ => ?_)
         generalize wc.drew = w25 at BK162 HB hHeld ⊢
         refine take_ (i := 1) (N := some 28) (v := ?_) (a' := ?_) #[false, true, false, false, false, false, false, false] rfl rfl (take_ofW HT_.out HW_.out (by kernel_rfl)) (fun _ _ _ h => h) (Or.inl ⟨by rfl, ?_⟩) hHeld ?_ ?_
         rotate_left
         ·intro w' s0
          refine (load_exec rfl rfl s0).trans ?_; with_reducible rfl
         rotate_left
         ·simp only [Act.put, sa_, s0_, s1_, i64_w, i32_w]
          rfl
         refine one_ (i := 0) (N := some 27) (bv_ 2 6) rfl rfl (one_of HT_.out (by kernel_rfl)) (by decide) (fun K hK => ?_)
         refine goes_ Tryd.func11 (by kernel_rfl) rfl #[] (by rfl) rfl rfl lq_ ?_
         with_reducible refine (lanternref06_Forbidden.calls kj13  t184 _ ?side1 A22.out).mono ?_
         (case side1 => exact lg_)
         rintro e w26 ⟨v185, rfl, ho0, hb⟩
         refine ⟨_, rfl, ?_⟩
         have HO186 := Aside0.mk (Kd.R_lower ho0 (below_size bg_))
         replace BK162 := Aside0.mk (bb_ BK162 hb)
         replace HB := Aside0.mk (below_step bg_ hb)
         (try clear hb)
         (try clear hb2)
         (try clear hk)
         (try clear hi)
         (try clear ho0)
         obtain ⟨Ao27, co27, eo27⟩ := Kd.R_slice HO186.out
         (first | subst eo27 | (injection eo27 with f1_ f2_ f3_; have f4_ := f1_.symm; have f5_ := f3_.symm; clear f1_ f2_ f3_; subst f4_; subst f5_))
         refine hK.out _ _ ((run_load_box BK162.out 24 [] (al_ V0_13 V1_13 V2_13 V3_13 V4_13 V5_13 V6_13 V7_13 V8_13 V9_13 V10_13 V11_13 V12_13 V13_13 V14_13 V15_13 V16_13) [] rfl 0 rfl Tryd.underlying24 rfl (by kernel_rfl))) (fun hHeld => ?_)
         clear hK K
         refine norm_ (a' := ?_) ?_ ?_
         rotate_left
         ·show Act.put _ (some 27) _ = _
          simp only [Act.put, sa_, s0_, s1_, i64_w, i32_w]
          rfl
         refine one_ (i := 2) (N := some 29) (bv_ 3 5) rfl rfl (one_of HT_.out (by kernel_rfl)) (by decide) (fun K hK => ?_)
         refine goes_ Tryd.func28 (by kernel_rfl) rfl #[.slice Ao27 t184.length co27, .agg (ag_ V0_13 V1_13 V2_13 V3_13 V4_13 V5_13 V6_13 V7_13 V8_13 V9_13 V10_13 V11_13 V12_13 V13_13 V14_13 V15_13 V16_13)] (by rfl) rfl rfl lq_ ?_
         with_reducible refine (lanternref06_in.calls kj13 _ _ t184 V0_13 V1_13 V2_13 V3_13 V4_13 V5_13 V6_13 V7_13 V8_13 V9_13 V10_13 V11_13 V12_13 V13_13 V14_13 V15_13 V16_13 true _ ?side3 ?side1 ?side2 A23.out).mono ?_
         (case side1 => repeat (first | exact (Kd.R_reads' HO186.out).2.2 | (with_reducible refine Kd.C_alloc ?_ _) | (with_reducible refine Kd.C_drewN ?_ _) | (with_reducible refine Kd.C_drew ?_)))
         (case side2 => exact (Kd.R_reads' HO186.out).2.1)
         (case side3 => exact lg_)
         rintro e w28 ⟨rfl, hb⟩
         refine ⟨_, rfl, ?_⟩
         replace HO186 := Aside0.mk (Kd.R_below (by (with_reducible repeat (first | apply Kd.R_alloc | apply Kd.R_drewN | apply Kd.R_drew)); exact HO186.out) hb)
         replace BK162 := Aside0.mk (bb_ BK162 hb)
         replace HB := Aside0.mk (below_step bg_ hb)
         (try clear hb)
         (try clear hb2)
         (try clear hk)
         (try clear hi)
         refine hK.out _ _ ((run_load_box BK162.out 24 [] (al_ V0_13 V1_13 V2_13 V3_13 V4_13 V5_13 V6_13 V7_13 V8_13 V9_13 V10_13 V11_13 V12_13 V13_13 V14_13 V15_13 V16_13) [] rfl 0 rfl Tryd.underlying24 rfl (by kernel_rfl))) (fun hHeld => ?_)
         clear hK K
         refine norm_ (a' := ?_) ?_ ?_
         rotate_left
         ·show Act.put _ (some 29) _ = _
          simp only [Act.put, sa_, s0_, s1_, i64_w, i32_w]
          rfl
         refine pl_ 3 30 ?_ 4 4 HT_ ?_ ?_ ?_ ?_
         rotate_left
         ·intro w'
          go_simp
          with_reducible rfl
         rotate_left
         ·simp only [Act.put, sa_, s0_, s1_, i64_w, i32_w]
          rfl
         refine pr_ 4 31 5 3 HT_ ?_ ?_ ?_
         rotate_left
         ·simp only [Act.put, sa_, s0_, s1_, i64_w, i32_w]
          rfl
         refine pr_ 5 32 6 2 HT_ ?_ ?_ ?_
         rotate_left
         ·simp only [Act.put, sa_, s0_, s1_, i64_w, i32_w]
          rfl
         refine pr_ 6 33 7 1 HT_ ?_ ?_ ?_
         rotate_left
         ·simp only [Act.put, sa_, s0_, s1_, i64_w, i32_w]
          rfl
         refine pl_ 7 34 ?_ 8 0 HT_ ?_ ?_ ?_ ?_
         rotate_left
         ·intro w'
          go_simp
          with_reducible rfl
         rotate_left
         ·simp only [Act.put, sa_, s0_, s1_, i64_w, i32_w]
          rfl
         refine done_ (done_of HT_.out (by kernel_rfl)) ?_
         try go_wp2
         go_meet
         case rel => exact ⟨_, (true), sq_, H', ⟨by have := HK1.out; have := HJ13.out; first | omega | exact Nat.le_refl _⟩, ⟨bk_⟩, ⟨bg_⟩⟩
        ·replace c24 := Bool.eq_false_iff.mpr c24
         subst c24
         replace H := ifF_ H
         replace H := Option.bind_eq_some_iff.mp H
         obtain ⟨t188, A290, H⟩ := H
         (try dsimp only at H)
         have A29 := Aside0.mk A290
         clear A290
         have H' := Aside0.mk H
         clear H
         try go_wp2
         replace BK162 := Aside0.mk (blk_drew BK162.out)
         replace HB := Aside0.mk (below_drew1 HB.out)
         refine start_ (n := 8) (S := fun w' => (Instr.loadAt 24 (.pointer (some ⟨gb162, 0, none⟩))).run Tryd.prog w' = .ok (.agg (ag_ V0_13 V1_13 V2_13 V3_13 V4_13 V5_13 V6_13 V7_13 V8_13 V9_13 V10_13 V11_13 V12_13 V13_13 V14_13 V15_13 V16_13)) w' ∧ (Instr.loadAt 24 (.pointer (some ⟨gb162, 0, none⟩))).run Tryd.prog w' = .ok (.agg (ag_ V0_13 V1_13 V2_13 V3_13 V4_13 V5_13 V6_13 V7_13 V8_13 V9_13 V10_13 V11_13 V12_13 V13_13 V14_13 V15_13 V16_13)) w') (ds := []) (bv_ 0 8) (by kernel_rfl) rfl rfl ⟨(run_load_box BK162.out 24 [] (al_ V0_13 V1_13 V2_13 V3_13 V4_13 V5_13 V6_13 V7_13 V8_13 V9_13 V10_13 V11_13 V12_13 V13_13 V14_13 V15_13 V16_13) [] rfl 0 rfl Tryd.underlying24 rfl (by kernel_rfl)), (run_load_box BK162.out 24 [] (al_ V0_13 V1_13 V2_13 V3_13 V4_13 V5_13 V6_13 V7_13 V8_13 V9_13 V10_13 V11_13 V12_13 V13_13 V14_13 V15_13 V16_13) [] rfl 0 rfl Tryd.underlying24 rfl (by kernel_rfl))⟩ (fun hHeld => ?_); refine with_tabW lanternref06_Allow.tab10 lanternref06_Allow.bits10 (fun HT_ HW_ => ?_)
         generalize wc.drew = w30 at BK162 HB hHeld ⊢
         refine take_ (i := 1) (N := some 28) (v := ?_) (a' := ?_) #[false, true, false, false, false, false, false, false] rfl rfl (take_ofW HT_.out HW_.out (by kernel_rfl)) (fun _ _ _ h => h) (Or.inl ⟨by rfl, ?_⟩) hHeld ?_ ?_
         rotate_left
         ·rintro w' ⟨s0, s1⟩
          refine (load_exec rfl rfl s0).trans ?_; with_reducible rfl
         rotate_left
         ·simp only [Act.put, sa_, s0_, s1_, i64_w, i32_w]
          rfl
         refine one_ (i := 0) (N := some 27) (bv_ 2 6) rfl rfl (one_of HT_.out (by kernel_rfl)) (by decide) (fun K hK => ?_)
         refine goes_ Tryd.func11 (by kernel_rfl) rfl #[] (by rfl) rfl rfl lq_ ?_
         with_reducible refine (lanternref06_Forbidden.calls kj13  t184 _ ?side1 A22.out).mono ?_
         (case side1 => exact lg_)
         rintro e w31 ⟨v185, rfl, ho0, hb⟩
         refine ⟨_, rfl, ?_⟩
         have HO186 := Aside0.mk (Kd.R_lower ho0 (below_size bg_))
         replace BK162 := Aside0.mk (bb_ BK162 hb)
         replace HB := Aside0.mk (below_step bg_ hb)
         (try clear hb)
         (try clear hb2)
         (try clear hk)
         (try clear hi)
         (try clear ho0)
         obtain ⟨Ao32, co32, eo32⟩ := Kd.R_slice HO186.out
         (first | subst eo32 | (injection eo32 with f1_ f2_ f3_; have f4_ := f1_.symm; have f5_ := f3_.symm; clear f1_ f2_ f3_; subst f4_; subst f5_))
         refine hK.out _ _ ⟨(run_load_box BK162.out 24 [] (al_ V0_13 V1_13 V2_13 V3_13 V4_13 V5_13 V6_13 V7_13 V8_13 V9_13 V10_13 V11_13 V12_13 V13_13 V14_13 V15_13 V16_13) [] rfl 0 rfl Tryd.underlying24 rfl (by kernel_rfl)), (run_load_box BK162.out 24 [] (al_ V0_13 V1_13 V2_13 V3_13 V4_13 V5_13 V6_13 V7_13 V8_13 V9_13 V10_13 V11_13 V12_13 V13_13 V14_13 V15_13 V16_13) [] rfl 0 rfl Tryd.underlying24 rfl (by kernel_rfl))⟩ (fun hHeld => ?_)
         clear hK K
         refine norm_ (a' := ?_) ?_ ?_
         rotate_left
         ·show Act.put _ (some 27) _ = _
          simp only [Act.put, sa_, s0_, s1_, i64_w, i32_w]
          rfl
         refine one_ (i := 2) (N := some 29) (bv_ 3 5) rfl rfl (one_of HT_.out (by kernel_rfl)) (by decide) (fun K hK => ?_)
         refine goes_ Tryd.func28 (by kernel_rfl) rfl #[.slice Ao32 t184.length co32, .agg (ag_ V0_13 V1_13 V2_13 V3_13 V4_13 V5_13 V6_13 V7_13 V8_13 V9_13 V10_13 V11_13 V12_13 V13_13 V14_13 V15_13 V16_13)] (by rfl) rfl rfl lq_ ?_
         with_reducible refine (lanternref06_in.calls kj13 _ _ t184 V0_13 V1_13 V2_13 V3_13 V4_13 V5_13 V6_13 V7_13 V8_13 V9_13 V10_13 V11_13 V12_13 V13_13 V14_13 V15_13 V16_13 false _ ?side3 ?side1 ?side2 A23.out).mono ?_
         (case side1 => repeat (first | exact (Kd.R_reads' HO186.out).2.2 | (with_reducible refine Kd.C_alloc ?_ _) | (with_reducible refine Kd.C_drewN ?_ _) | (with_reducible refine Kd.C_drew ?_)))
         (case side2 => exact (Kd.R_reads' HO186.out).2.1)
         (case side3 => exact lg_)
         rintro e w33 ⟨rfl, hb⟩
         refine ⟨_, rfl, ?_⟩
         replace HO186 := Aside0.mk (Kd.R_below (by (with_reducible repeat (first | apply Kd.R_alloc | apply Kd.R_drewN | apply Kd.R_drew)); exact HO186.out) hb)
         replace BK162 := Aside0.mk (bb_ BK162 hb)
         replace HB := Aside0.mk (below_step bg_ hb)
         (try clear hb)
         (try clear hb2)
         (try clear hk)
         (try clear hi)
         refine hK.out _ _ ⟨(run_load_box BK162.out 24 [] (al_ V0_13 V1_13 V2_13 V3_13 V4_13 V5_13 V6_13 V7_13 V8_13 V9_13 V10_13 V11_13 V12_13 V13_13 V14_13 V15_13 V16_13) [] rfl 0 rfl Tryd.underlying24 rfl (by kernel_rfl)), (run_load_box BK162.out 24 [] (al_ V0_13 V1_13 V2_13 V3_13 V4_13 V5_13 V6_13 V7_13 V8_13 V9_13 V10_13 V11_13 V12_13 V13_13 V14_13 V15_13 V16_13) [] rfl 0 rfl Tryd.underlying24 rfl (by kernel_rfl))⟩ (fun hHeld => ?_)
         clear hK K
         refine norm_ (a' := ?_) ?_ ?_
         rotate_left
         ·show Act.put _ (some 29) _ = _
          simp only [Act.put, sa_, s0_, s1_, i64_w, i32_w]
          rfl
         refine pl_ 3 30 ?_ 4 4 HT_ ?_ ?_ ?_ ?_
         rotate_left
         ·intro w'
          go_simp
          with_reducible rfl
         rotate_left
         ·simp only [Act.put, sa_, s0_, s1_, i64_w, i32_w]
          rfl
         refine pl_ 4 31 ?_ 5 3 HT_ ?_ ?_ ?_ ?_
         rotate_left
         ·intro w'
          go_simp
          with_reducible rfl
         rotate_left
         ·simp only [Act.put, sa_, s0_, s1_, i64_w, i32_w]
          rfl
         refine tl_ 5 32 ?_ 6 2 HT_ HW_ ?_ hHeld ?_ ?_ ?_
         rotate_left
         ·rintro w' ⟨s0, s1⟩
          refine (load_exec rfl rfl s1).trans ?_; with_reducible rfl
         rotate_left
         ·simp only [Act.put, sa_, s0_, s1_, i64_w, i32_w]
          rfl
         refine one_ (i := 6) (N := some 33) (bv_ 7 1) rfl rfl (one_of HT_.out (by kernel_rfl)) (by decide) (fun K hK => ?_)
         refine goes_ Tryd.func28 (by kernel_rfl) rfl #[.slice A1 l1.length c1, .agg (ag_ V0_13 V1_13 V2_13 V3_13 V4_13 V5_13 V6_13 V7_13 V8_13 V9_13 V10_13 V11_13 V12_13 V13_13 V14_13 V15_13 V16_13)] (by rfl) rfl rfl lq_ ?_
         with_reducible refine (lanternref06_in.calls kj13 _ _ l1 V0_13 V1_13 V2_13 V3_13 V4_13 V5_13 V6_13 V7_13 V8_13 V9_13 V10_13 V11_13 V12_13 V13_13 V14_13 V15_13 V16_13 t188 _ ?side3 ?side1 ?side2 A29.out).mono ?_
         (case side1 => repeat (first | exact (Kd.C_below HR1.out HB.out) | (with_reducible refine Kd.C_alloc ?_ _) | (with_reducible refine Kd.C_drewN ?_ _) | (with_reducible refine Kd.C_drew ?_)))
         (case side2 => exact HC1.out)
         (case side3 => exact lg_)
         rintro e w34 ⟨rfl, hb⟩
         refine ⟨_, rfl, ?_⟩
         replace HO186 := Aside0.mk (Kd.R_below (by (with_reducible repeat (first | apply Kd.R_alloc | apply Kd.R_drewN | apply Kd.R_drew)); exact HO186.out) hb)
         replace BK162 := Aside0.mk (bb_ BK162 hb)
         replace HB := Aside0.mk (below_step bg_ hb)
         (try clear hb)
         (try clear hb2)
         (try clear hk)
         (try clear hi)
         refine hK.out _ _ ⟨(run_load_box BK162.out 24 [] (al_ V0_13 V1_13 V2_13 V3_13 V4_13 V5_13 V6_13 V7_13 V8_13 V9_13 V10_13 V11_13 V12_13 V13_13 V14_13 V15_13 V16_13) [] rfl 0 rfl Tryd.underlying24 rfl (by kernel_rfl)), (run_load_box BK162.out 24 [] (al_ V0_13 V1_13 V2_13 V3_13 V4_13 V5_13 V6_13 V7_13 V8_13 V9_13 V10_13 V11_13 V12_13 V13_13 V14_13 V15_13 V16_13) [] rfl 0 rfl Tryd.underlying24 rfl (by kernel_rfl))⟩ (fun hHeld => ?_)
         clear hK K
         refine norm_ (a' := ?_) ?_ ?_
         rotate_left
         ·show Act.put _ (some 33) _ = _
          simp only [Act.put, sa_, s0_, s1_, i64_w, i32_w]
          rfl
         refine pl_ 7 34 ?_ 8 0 HT_ ?_ ?_ ?_ ?_
         rotate_left
         ·intro w'
          go_simp
          with_reducible rfl
         rotate_left
         ·simp only [Act.put, sa_, s0_, s1_, i64_w, i32_w]
          rfl
         refine done_ (done_of HT_.out (by kernel_rfl)) ?_
         try go_wp2
         go_meet
         case rel => exact ⟨_, (t188), sq_, H', ⟨by have := HK1.out; have := HJ13.out; first | omega | exact Nat.le_refl _⟩, ⟨bk_⟩, ⟨bg_⟩⟩
       case rest =>
        clear HC21
        try clear c1
        try clear p1
        try clear q1
        try clear hx1
        try clear c2
        try clear p2
        try clear c4
        try clear p6
        try clear c7
        try clear c7b0
        try clear c8
        try clear c8b0
        try clear c10
        try clear c11
        try clear c14
        try clear c15
        try clear c16
        try clear p16
        try clear q16
        try clear hx16
        try clear c24
        try clear c26
        try clear c27
        try clear c28
        try clear hcz19_0
        try clear hcz19_1
        try clear hcz19_10
        try clear hcz19_11
        try clear hcz19_12
        try clear hcz19_13
        try clear hcz19_14
        try clear hcz19_15
        try clear hcz19_16
        try clear hcz19_2
        try clear hcz19_3
        try clear hcz19_4
        try clear hcz19_5
        try clear hcz19_6
        try clear hcz19_7
        try clear hcz19_8
        try clear hcz19_9
        try clear hfz19_0
        try clear hfz19_1
        try clear hfz19_10
        try clear hfz19_11
        try clear hfz19_12
        try clear hfz19_13
        try clear hfz19_14
        try clear hfz19_15
        try clear hfz19_16
        try clear hfz19_2
        try clear hfz19_3
        try clear hfz19_4
        try clear hfz19_5
        try clear hfz19_6
        try clear hfz19_7
        try clear hfz19_8
        try clear hfz19_9
        try clear hx164_0
        try clear hx164_1
        try clear hx164_10
        try clear hx164_11
        try clear hx164_12
        try clear hx164_13
        try clear hx164_14
        try clear hx164_15
        try clear hx164_16
        try clear hx164_17
        try clear hx164_2
        try clear hx164_3
        try clear hx164_4
        try clear hx164_5
        try clear hx164_6
        try clear hx164_7
        try clear hx164_8
        try clear hx164_9
        try clear p1
        try clear p16
        try clear p164
        try clear p2
        try clear p6
        try clear q1
        try clear q16
        try clear q164
        obtain ⟨kq, x34_20, rfl, HA, HJ20, BK162, HB⟩ := hcut
        cases kq with
        | zero => exact absurd HA.out (by simp [lanternref06_Allow.j2])
        | succ kj20 =>
         have H := HA.out
         clear HA
         simp only [lanternref06_Allow.j2] at H
         by_cases c35 : x34_20 = true
         ·subst c35
          replace H := ifT_ H
          obtain rfl := Option.some.inj H
          go_wp2
          go_ret
          exact ⟨rq_, bg_⟩
         ·replace c35 := Bool.eq_false_iff.mpr c35
          subst c35
          replace H := ifF_ H
          replace H := Option.bind_eq_some_iff.mp H
          obtain ⟨⟨t189, t190, t191, t192, t193, t194, t195, t196, t197, t198, t199, t200, t201, t202, t203, t204, t205, t206⟩, A360, H⟩ := H
          (try dsimp only at H)
          have A36 := Aside0.mk A360
          clear A360
          by_cases c37 : t206 = true
          ·subst c37
           replace H := ifT_ H
           replace H := Option.bind_eq_some_iff.mp H
           obtain ⟨t208, A380, H⟩ := H
           (try dsimp only at H)
           have A38 := Aside0.mk A380
           clear A380
           obtain rfl := Option.some.inj H
           go_wp2_with (first | ((with_reducible refine gate_dst (N := 36) rfl ?_); (try (refine gate_guard (by rfl) ?_; dsimp only)); refine load_box ?hg 24 (.tmp 2) rfl BK162.out [] (al_ V0_13 V1_13 V2_13 V3_13 V4_13 V5_13 V6_13 V7_13 V8_13 V9_13 V10_13 V11_13 V12_13 V13_13 V14_13 V15_13 V16_13) [] rfl 0 rfl rfl Tryd.underlying24 rfl (by kernel_rfl) ?_; (case hg => rfl)) | ((with_reducible refine gate_callee (f := 13) rfl ?_); refine goesL_ (some 37) rfl rfl Tryd.func13 (by kernel_rfl) rfl #[.agg (ag_ V0_13 V1_13 V2_13 V3_13 V4_13 V5_13 V6_13 V7_13 V8_13 V9_13 V10_13 V11_13 V12_13 V13_13 V14_13 V15_13 V16_13)] rfl lq_ ?_; (with_reducible refine (lanternref05_Embeds.calls kj20 V0_13 V1_13 V2_13 V3_13 V4_13 V5_13 V6_13 V7_13 V8_13 V9_13 V10_13 V11_13 V12_13 V13_13 V14_13 V15_13 V16_13 t189 t190 t191 t192 t193 t194 t195 t196 t197 t198 t199 t200 t201 t202 t203 t204 t205 true _ ?side1 A36.out).mono ?_); (case side1 => exact lg_); rintro e w39 ⟨rfl, hb⟩; refine ⟨_, rfl, ?_⟩; replace BK162 := Aside0.mk (bb_ BK162 hb); replace HB := Aside0.mk (below_step bg_ hb); (try clear hb); (try clear hb2); (try clear hk); (try clear hi)) | ((with_reducible refine gate_dst (N := 6) rfl ?_); refine bx_ 6 az_ 24 ?_; intro gb207 hg w40 hbox hb; have n0_ := Aside0.mk (bb_ BK162 hb); have n1_ := Aside0.mk (below_step bg_ hb); have n2_ := Aside0.mk (hbox); have n3_ := Aside0.mk (gg_ (w := w) hg); have n4_ := Aside0.mk (gg_ (w := w) hg); have n5_ := Aside0.mk (nl_ BK162 hg); have n6_ := Aside0.mk (ng_ BK162 hg); clear BK162; clear HB; have BK162 := n0_; have HB := n1_; have BK207 := n2_; have GW207 := n3_; have GE207 := n4_; have NB162_207 := n5_; have NB207_162 := n6_; clear n0_ n1_ n2_ n3_ n4_ n5_ n6_; clear hb hbox hg; have hnb41 := NB207_162.out; have hnc41 := NB162_207.out; obtain ⟨hcz42_0, hcz42_1, hcz42_2, hcz42_3, hcz42_4, hcz42_5, hcz42_6, hcz42_7, hcz42_8, hcz42_9, hcz42_10, hcz42_11, hcz42_12, hcz42_13, hcz42_14, hcz42_15, hcz42_16⟩ := c17_ BK207; obtain ⟨hfz42_0, hfz42_1, hfz42_2, hfz42_3, hfz42_4, hfz42_5, hfz42_6, hfz42_7, hfz42_8, hfz42_9, hfz42_10, hfz42_11, hfz42_12, hfz42_13, hfz42_14, hfz42_15, hfz42_16⟩ := f17_ BK207) | ((with_reducible refine gate_store (t := 24) (p := 6) rfl ?_); refine store_all ?hg 24 6 _ rfl rfl gb207 ay_ (al_ t189 t190 t191 t192 t193 t194 t195 t196 t197 t198 t199 t200 t201 t202 t203 t204 t205) BK207.out rfl rfl rfl (by kernel_rfl) rfl ?_; (case hg => rfl); intro w43 hw; replace BK162 := Aside0.mk (sf_ BK162 NB162_207 hw); replace BK207 := Aside0.mk (show w43.heap[gb207]? = some (.cells (ag_ t189 t190 t191 t192 t193 t194 t195 t196 t197 t198 t199 t200 t201 t202 t203 t204 t205) 24 (0, 0)) from ss_ BK207 hw); replace HB := Aside0.mk (sb_ hw); clear hw) | ((with_reducible refine gate_dst (N := 41) rfl ?_); (try (refine gate_guard (by rfl) ?_; dsimp only)); refine load_box ?hg 24 (.tmp 6) rfl BK207.out [] (al_ t189 t190 t191 t192 t193 t194 t195 t196 t197 t198 t199 t200 t201 t202 t203 t204 t205) [] rfl 0 rfl rfl Tryd.underlying24 rfl (by kernel_rfl) ?_; (case hg => rfl)) | ((with_reducible refine gate_callee (f := 8) rfl ?_); refine goesL_ (some 43) rfl rfl Tryd.func8 (by kernel_rfl) rfl #[.agg (ag_ t189 t190 t191 t192 t193 t194 t195 t196 t197 t198 t199 t200 t201 t202 t203 t204 t205), .slice A1 l1.length c1] rfl lq_ ?_; (with_reducible refine (ih kj20 (by have := HK1.out; have := HJ13.out; have := HJ20.out; omega) t189 t190 t191 t192 t193 t194 t195 t196 t197 t198 t199 t200 t201 t202 t203 t204 t205 _ _ l1 t208 _ ?side3 ?side1 ?side2 A38.out).mono ?_); (case side1 => repeat (first | exact (Kd.C_below HR1.out HB.out) | (with_reducible refine Kd.C_alloc ?_ _) | (with_reducible refine Kd.C_drewN ?_ _) | (with_reducible refine Kd.C_drew ?_))); (case side2 => exact HC1.out); (case side3 => exact lg_); rintro e w44 ⟨rfl, hb⟩; refine ⟨_, rfl, ?_⟩; replace BK162 := Aside0.mk (bb_ BK162 hb); replace BK207 := Aside0.mk (bb_ BK207 hb); replace HB := Aside0.mk (below_step bg_ hb); (try clear hb); (try clear hb2); (try clear hk); (try clear hi)))
           go_ret
           exact ⟨rq_, bg_⟩
          ·replace c37 := Bool.eq_false_iff.mpr c37
           subst c37
           replace H := ifF_ H
           obtain rfl := Option.some.inj H
           go_wp2_with (first | ((with_reducible refine gate_dst (N := 36) rfl ?_); (try (refine gate_guard (by rfl) ?_; dsimp only)); refine load_box ?hg 24 (.tmp 2) rfl BK162.out [] (al_ V0_13 V1_13 V2_13 V3_13 V4_13 V5_13 V6_13 V7_13 V8_13 V9_13 V10_13 V11_13 V12_13 V13_13 V14_13 V15_13 V16_13) [] rfl 0 rfl rfl Tryd.underlying24 rfl (by kernel_rfl) ?_; (case hg => rfl)) | ((with_reducible refine gate_callee (f := 13) rfl ?_); refine goesL_ (some 37) rfl rfl Tryd.func13 (by kernel_rfl) rfl #[.agg (ag_ V0_13 V1_13 V2_13 V3_13 V4_13 V5_13 V6_13 V7_13 V8_13 V9_13 V10_13 V11_13 V12_13 V13_13 V14_13 V15_13 V16_13)] rfl lq_ ?_; (with_reducible refine (lanternref05_Embeds.calls kj20 V0_13 V1_13 V2_13 V3_13 V4_13 V5_13 V6_13 V7_13 V8_13 V9_13 V10_13 V11_13 V12_13 V13_13 V14_13 V15_13 V16_13 t189 t190 t191 t192 t193 t194 t195 t196 t197 t198 t199 t200 t201 t202 t203 t204 t205 false _ ?side1 A36.out).mono ?_); (case side1 => exact lg_); rintro e w45 ⟨rfl, hb⟩; refine ⟨_, rfl, ?_⟩; replace BK162 := Aside0.mk (bb_ BK162 hb); replace HB := Aside0.mk (below_step bg_ hb); (try clear hb); (try clear hb2); (try clear hk); (try clear hi)) | ((with_reducible refine gate_dst (N := 6) rfl ?_); refine bx_ 6 az_ 24 ?_; intro gb207 hg w46 hbox hb; have n0_ := Aside0.mk (bb_ BK162 hb); have n1_ := Aside0.mk (below_step bg_ hb); have n2_ := Aside0.mk (hbox); have n3_ := Aside0.mk (gg_ (w := w) hg); have n4_ := Aside0.mk (gg_ (w := w) hg); have n5_ := Aside0.mk (nl_ BK162 hg); have n6_ := Aside0.mk (ng_ BK162 hg); clear BK162; clear HB; have BK162 := n0_; have HB := n1_; have BK207 := n2_; have GW207 := n3_; have GE207 := n4_; have NB162_207 := n5_; have NB207_162 := n6_; clear n0_ n1_ n2_ n3_ n4_ n5_ n6_; clear hb hbox hg; have hnb47 := NB207_162.out; have hnc47 := NB162_207.out; obtain ⟨hcz48_0, hcz48_1, hcz48_2, hcz48_3, hcz48_4, hcz48_5, hcz48_6, hcz48_7, hcz48_8, hcz48_9, hcz48_10, hcz48_11, hcz48_12, hcz48_13, hcz48_14, hcz48_15, hcz48_16⟩ := c17_ BK207; obtain ⟨hfz48_0, hfz48_1, hfz48_2, hfz48_3, hfz48_4, hfz48_5, hfz48_6, hfz48_7, hfz48_8, hfz48_9, hfz48_10, hfz48_11, hfz48_12, hfz48_13, hfz48_14, hfz48_15, hfz48_16⟩ := f17_ BK207) | ((with_reducible refine gate_store (t := 24) (p := 6) rfl ?_); refine store_all ?hg 24 6 _ rfl rfl gb207 ay_ (al_ t189 t190 t191 t192 t193 t194 t195 t196 t197 t198 t199 t200 t201 t202 t203 t204 t205) BK207.out rfl rfl rfl (by kernel_rfl) rfl ?_; (case hg => rfl); intro w49 hw; replace BK162 := Aside0.mk (sf_ BK162 NB162_207 hw); replace BK207 := Aside0.mk (show w49.heap[gb207]? = some (.cells (ag_ t189 t190 t191 t192 t193 t194 t195 t196 t197 t198 t199 t200 t201 t202 t203 t204 t205) 24 (0, 0)) from ss_ BK207 hw); replace HB := Aside0.mk (sb_ hw); clear hw))
           go_ret
           exact ⟨rq_, bg_⟩
 ·replace c4 := Bool.eq_false_iff.mpr c4
  subst c4
  replace H := ifF_ H
  obtain rfl := Option.some.inj H
  go_enter Tryd.func8, Tryd.ntmps8
  go_wp2_with (first | ((with_reducible refine gate_dst (N := 2) rfl ?_); refine bx_ 2 (ag_ z0 z1 z2 z3 z4 z5 z6 z7 z8 z9 za zb zc zd ze zf zg) 24 ?_; intro gb162 hg w50 hbox hb; have BK162 := Aside0.mk (hbox); have GW162 := Aside0.mk (ge_ (w := w) hg); have GE162 := Aside0.mk (ge_ (w := w) hg); replace HB := Aside0.mk (below_step bq_ hb); clear hb hbox hg) | ((with_reducible refine gate_dst (N := 8) rfl ?_); (try (refine gate_guard (by rfl) ?_; dsimp only)); refine load_box ?hg 24 (.tmp 2) rfl BK162.out [] (al_ z0 z1 z2 z3 z4 z5 z6 z7 z8 z9 za zb zc zd ze zf zg) [] rfl 0 rfl rfl Tryd.underlying24 rfl (by kernel_rfl) ?_; (case hg => rfl)) | ((with_reducible refine gate_callee (f := 15) rfl ?_); refine goesL_ (some 9) rfl rfl Tryd.func15 (by kernel_rfl) rfl #[.agg (ag_ z0 z1 z2 z3 z4 z5 z6 z7 z8 z9 za zb zc zd ze zf zg)] rfl lq_ ?_; (with_reducible refine (lanternref05_May.calls k z0 z1 z2 z3 z4 z5 z6 z7 z8 z9 za zb zc zd ze zf zg false _ ?side1 A3.out).mono ?_); (case side1 => exact lg_); rintro e w51 ⟨rfl, hb⟩; refine ⟨_, rfl, ?_⟩; replace BK162 := Aside0.mk (bb_ BK162 hb); replace HB := Aside0.mk (below_step bg_ hb); (try clear hb); (try clear hb2); (try clear hk); (try clear hi)))
  go_ret
  exact ⟨rq_, bg_⟩

end Go.Proofs.YtdopafhppaalfaaDoor.K
