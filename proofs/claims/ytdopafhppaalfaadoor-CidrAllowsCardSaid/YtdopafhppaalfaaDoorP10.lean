-- Written by a program of this session (wip/gen/lprint.py over the kit's print.py) out of the translation. Lean checks it.
import Derived.Test.YtdopafhppaalfaaDoorP0
import Derived.Test.YtdopafhppaalfaaDoorP1
import Derived.Test.YtdopafhppaalfaaDoorP6
import Derived.Test.YtdopafhppaalfaaDoorP9
import Derived.Test.YtdopafhppaalfaaDoorZ
namespace Go.Proofs.YtdopafhppaalfaaDoor.P
open Go.Proofs.YtdopafhppaalfaaDoorZ
open Go.Proofs.YtdopafhppaalfaaDoor.E Go.Proofs.YtdopafhppaalfaaDoorV
open Go.RowKit Go.Proofs.YtdopafhppaalfaaDoorW.PrintWords Go.Proofs.YtdopafhppaalfaaDoorW.PrintLast Go.Proofs.YtdopafhppaalfaaDoorW.PrintMore
attribute [local go_sem] max2_int min2_int max_two min_two max_three min_three max_four min_four   -- for this text's walks alone
set_option linter.unusedVariables false
set_option linter.unusedSimpArgs false

attribute [local go_sem high] eqA24
mutual
def lanternref05_Embeds.l0 : Nat → Bool → Int → Bool → Int → Int → Int → Int → Int → Int → Int → Int → Int → Int → Int → Int → Int → Int → Int → Int → Option (Bool × Int × Int × Int × Int × Int × Int × Int × Int × Int × Int × Int × Int × Int × Int × Int × Int × Bool)
 | 0, _, _, _, _, _, _, _, _, _, _, _, _, _, _, _, _, _, _, _ => none
 | k + 1, x4, x5, V0, V1, V2, V3, V4, V5, V6, V7, V8, V9, V10, V11, V12, V13, V14, V15, V16 => if x5 < 12 then (if x4 = true then (if 0 ≤ x5 then (if x5 < 16 then (lanternref05_Embeds.l0 k ((rd [V1, V2, V3, V4, V5, V6, V7, V8, V9, V10, V11, V12, V13, V14, V15, V16] x5) == 0) (wrap64 (x5 + 1)) V0 V1 V2 V3 V4 V5 V6 V7 V8 V9 V10 V11 V12 V13 V14 V15 V16) else (none)) else (none)) else (lanternref05_Embeds.l0 k false (wrap64 (x5 + 1)) V0 V1 V2 V3 V4 V5 V6 V7 V8 V9 V10 V11 V12 V13 V14 V15 V16)) else ((lanternref05_Mapped.f k V0 V1 V2 V3 V4 V5 V6 V7 V8 V9 V10 V11 V12 V13 V14 V15 V16).bind fun t536 => (if t536 = true then ((lanternref05_Tail.f k V0 V1 V2 V3 V4 V5 V6 V7 V8 V9 V10 V11 V12 V13 V14 V15 V16 12).bind fun bt537 => (some (bt537.1, bt537.2.1, bt537.2.2.1, bt537.2.2.2.1, bt537.2.2.2.2.1, bt537.2.2.2.2.2.1, bt537.2.2.2.2.2.2.1, bt537.2.2.2.2.2.2.2.1, bt537.2.2.2.2.2.2.2.2.1, bt537.2.2.2.2.2.2.2.2.2.1, bt537.2.2.2.2.2.2.2.2.2.2.1, bt537.2.2.2.2.2.2.2.2.2.2.2.1, bt537.2.2.2.2.2.2.2.2.2.2.2.2.1, bt537.2.2.2.2.2.2.2.2.2.2.2.2.2.1, bt537.2.2.2.2.2.2.2.2.2.2.2.2.2.2.1, bt537.2.2.2.2.2.2.2.2.2.2.2.2.2.2.2.1, bt537.2.2.2.2.2.2.2.2.2.2.2.2.2.2.2.2, true))) else (if x4 = true then (lanternref05_Embeds.j1 k x4 (wrap64 ((wrap64 ((wrap64 ((wrap64 ((wrap64 (V1)) * 16777216)) + (wrap64 ((wrap64 (V2)) * 65536)))) + (wrap64 ((wrap64 (V3)) * 256)))) + (wrap64 (V4)))) ((wrap64 ((wrap64 ((wrap64 ((wrap64 ((wrap64 (V1)) * 16777216)) + (wrap64 ((wrap64 (V2)) * 65536)))) + (wrap64 ((wrap64 (V3)) * 256)))) + (wrap64 (V4)))) == 6619035) V0 V1 V2 V3 V4 V5 V6 V7 V8 V9 V10 V11 V12 V13 V14 V15 V16) else (lanternref05_Embeds.j1 k x4 (wrap64 ((wrap64 ((wrap64 ((wrap64 ((wrap64 (V1)) * 16777216)) + (wrap64 ((wrap64 (V2)) * 65536)))) + (wrap64 ((wrap64 (V3)) * 256)))) + (wrap64 (V4)))) false V0 V1 V2 V3 V4 V5 V6 V7 V8 V9 V10 V11 V12 V13 V14 V15 V16))))
def lanternref05_Embeds.j1 : Nat → Bool → Int → Bool → Bool → Int → Int → Int → Int → Int → Int → Int → Int → Int → Int → Int → Int → Int → Int → Int → Int → Option (Bool × Int × Int × Int × Int × Int × Int × Int × Int × Int × Int × Int × Int × Int × Int × Int × Int × Bool)
 | 0, _, _, _, _, _, _, _, _, _, _, _, _, _, _, _, _, _, _, _, _ => none
 | k + 1, x4, x6, x51, V0, V1, V2, V3, V4, V5, V6, V7, V8, V9, V10, V11, V12, V13, V14, V15, V16 => if x51 = true then ((lanternref05_Tail.f k V0 V1 V2 V3 V4 V5 V6 V7 V8 V9 V10 V11 V12 V13 V14 V15 V16 12).bind fun bt554 => (some (bt554.1, bt554.2.1, bt554.2.2.1, bt554.2.2.2.1, bt554.2.2.2.2.1, bt554.2.2.2.2.2.1, bt554.2.2.2.2.2.2.1, bt554.2.2.2.2.2.2.2.1, bt554.2.2.2.2.2.2.2.2.1, bt554.2.2.2.2.2.2.2.2.2.1, bt554.2.2.2.2.2.2.2.2.2.2.1, bt554.2.2.2.2.2.2.2.2.2.2.2.1, bt554.2.2.2.2.2.2.2.2.2.2.2.2.1, bt554.2.2.2.2.2.2.2.2.2.2.2.2.2.1, bt554.2.2.2.2.2.2.2.2.2.2.2.2.2.2.1, bt554.2.2.2.2.2.2.2.2.2.2.2.2.2.2.2.1, bt554.2.2.2.2.2.2.2.2.2.2.2.2.2.2.2.2, true))) else (if x4 = true then (lanternref05_Embeds.j2 k x6 (x6 == 0) V0 V1 V2 V3 V4 V5 V6 V7 V8 V9 V10 V11 V12 V13 V14 V15 V16) else (lanternref05_Embeds.j2 k x6 false V0 V1 V2 V3 V4 V5 V6 V7 V8 V9 V10 V11 V12 V13 V14 V15 V16))
def lanternref05_Embeds.j2 : Nat → Int → Bool → Bool → Int → Int → Int → Int → Int → Int → Int → Int → Int → Int → Int → Int → Int → Int → Int → Int → Option (Bool × Int × Int × Int × Int × Int × Int × Int × Int × Int × Int × Int × Int × Int × Int × Int × Int × Bool)
 | 0, _, _, _, _, _, _, _, _, _, _, _, _, _, _, _, _, _, _, _ => none
 | k + 1, x6, x59, V0, V1, V2, V3, V4, V5, V6, V7, V8, V9, V10, V11, V12, V13, V14, V15, V16 => if x59 = true then ((lanternref05_Tail.f k V0 V1 V2 V3 V4 V5 V6 V7 V8 V9 V10 V11 V12 V13 V14 V15 V16 12).bind fun bt571 => ((lanternref05_V4.f k 0).bind fun bt589 => (if (bt571.1 == bt589.1 && ((bt571.2.1 == bt589.2.1 && (bt571.2.2.1 == bt589.2.2.1 && (bt571.2.2.2.1 == bt589.2.2.2.1 && (bt571.2.2.2.2.1 == bt589.2.2.2.2.1 && (bt571.2.2.2.2.2.1 == bt589.2.2.2.2.2.1 && (bt571.2.2.2.2.2.2.1 == bt589.2.2.2.2.2.2.1 && (bt571.2.2.2.2.2.2.2.1 == bt589.2.2.2.2.2.2.2.1 && (bt571.2.2.2.2.2.2.2.2.1 == bt589.2.2.2.2.2.2.2.2.1 && (bt571.2.2.2.2.2.2.2.2.2.1 == bt589.2.2.2.2.2.2.2.2.2.1 && (bt571.2.2.2.2.2.2.2.2.2.2.1 == bt589.2.2.2.2.2.2.2.2.2.2.1 && (bt571.2.2.2.2.2.2.2.2.2.2.2.1 == bt589.2.2.2.2.2.2.2.2.2.2.2.1 && (bt571.2.2.2.2.2.2.2.2.2.2.2.2.1 == bt589.2.2.2.2.2.2.2.2.2.2.2.2.1 && (bt571.2.2.2.2.2.2.2.2.2.2.2.2.2.1 == bt589.2.2.2.2.2.2.2.2.2.2.2.2.2.1 && (bt571.2.2.2.2.2.2.2.2.2.2.2.2.2.2.1 == bt589.2.2.2.2.2.2.2.2.2.2.2.2.2.2.1 && (bt571.2.2.2.2.2.2.2.2.2.2.2.2.2.2.2.1 == bt589.2.2.2.2.2.2.2.2.2.2.2.2.2.2.2.1 && (bt571.2.2.2.2.2.2.2.2.2.2.2.2.2.2.2.2 == bt589.2.2.2.2.2.2.2.2.2.2.2.2.2.2.2.2)))))))))))))))))) = true then (some (false, 0, 0, 0, 0, 0, 0, 0, 0, 0, 0, 0, 0, 0, 0, 0, 0, false)) else ((lanternref05_V4.f k 1).bind fun bt606 => (if (bt571.1 == bt606.1 && ((bt571.2.1 == bt606.2.1 && (bt571.2.2.1 == bt606.2.2.1 && (bt571.2.2.2.1 == bt606.2.2.2.1 && (bt571.2.2.2.2.1 == bt606.2.2.2.2.1 && (bt571.2.2.2.2.2.1 == bt606.2.2.2.2.2.1 && (bt571.2.2.2.2.2.2.1 == bt606.2.2.2.2.2.2.1 && (bt571.2.2.2.2.2.2.2.1 == bt606.2.2.2.2.2.2.2.1 && (bt571.2.2.2.2.2.2.2.2.1 == bt606.2.2.2.2.2.2.2.2.1 && (bt571.2.2.2.2.2.2.2.2.2.1 == bt606.2.2.2.2.2.2.2.2.2.1 && (bt571.2.2.2.2.2.2.2.2.2.2.1 == bt606.2.2.2.2.2.2.2.2.2.2.1 && (bt571.2.2.2.2.2.2.2.2.2.2.2.1 == bt606.2.2.2.2.2.2.2.2.2.2.2.1 && (bt571.2.2.2.2.2.2.2.2.2.2.2.2.1 == bt606.2.2.2.2.2.2.2.2.2.2.2.2.1 && (bt571.2.2.2.2.2.2.2.2.2.2.2.2.2.1 == bt606.2.2.2.2.2.2.2.2.2.2.2.2.2.1 && (bt571.2.2.2.2.2.2.2.2.2.2.2.2.2.2.1 == bt606.2.2.2.2.2.2.2.2.2.2.2.2.2.2.1 && (bt571.2.2.2.2.2.2.2.2.2.2.2.2.2.2.2.1 == bt606.2.2.2.2.2.2.2.2.2.2.2.2.2.2.2.1 && (bt571.2.2.2.2.2.2.2.2.2.2.2.2.2.2.2.2 == bt606.2.2.2.2.2.2.2.2.2.2.2.2.2.2.2.2)))))))))))))))))) = true then (some (false, 0, 0, 0, 0, 0, 0, 0, 0, 0, 0, 0, 0, 0, 0, 0, 0, false)) else (some (bt571.1, bt571.2.1, bt571.2.2.1, bt571.2.2.2.1, bt571.2.2.2.2.1, bt571.2.2.2.2.2.1, bt571.2.2.2.2.2.2.1, bt571.2.2.2.2.2.2.2.1, bt571.2.2.2.2.2.2.2.2.1, bt571.2.2.2.2.2.2.2.2.2.1, bt571.2.2.2.2.2.2.2.2.2.2.1, bt571.2.2.2.2.2.2.2.2.2.2.2.1, bt571.2.2.2.2.2.2.2.2.2.2.2.2.1, bt571.2.2.2.2.2.2.2.2.2.2.2.2.2.1, bt571.2.2.2.2.2.2.2.2.2.2.2.2.2.2.1, bt571.2.2.2.2.2.2.2.2.2.2.2.2.2.2.2.1, bt571.2.2.2.2.2.2.2.2.2.2.2.2.2.2.2.2, true))))))) else (if (wrap64 (Int.tdiv x6 65536)) = 8194 then ((lanternref05_Tail.f k V0 V1 V2 V3 V4 V5 V6 V7 V8 V9 V10 V11 V12 V13 V14 V15 V16 2).bind fun bt623 => (some (bt623.1, bt623.2.1, bt623.2.2.1, bt623.2.2.2.1, bt623.2.2.2.2.1, bt623.2.2.2.2.2.1, bt623.2.2.2.2.2.2.1, bt623.2.2.2.2.2.2.2.1, bt623.2.2.2.2.2.2.2.2.1, bt623.2.2.2.2.2.2.2.2.2.1, bt623.2.2.2.2.2.2.2.2.2.2.1, bt623.2.2.2.2.2.2.2.2.2.2.2.1, bt623.2.2.2.2.2.2.2.2.2.2.2.2.1, bt623.2.2.2.2.2.2.2.2.2.2.2.2.2.1, bt623.2.2.2.2.2.2.2.2.2.2.2.2.2.2.1, bt623.2.2.2.2.2.2.2.2.2.2.2.2.2.2.2.1, bt623.2.2.2.2.2.2.2.2.2.2.2.2.2.2.2.2, true))) else (some (false, 0, 0, 0, 0, 0, 0, 0, 0, 0, 0, 0, 0, 0, 0, 0, 0, false)))
end
def lanternref05_Embeds.f (k : Nat) (z0 : Bool) (z1 : Int) (z2 : Int) (z3 : Int) (z4 : Int) (z5 : Int) (z6 : Int) (z7 : Int) (z8 : Int) (z9 : Int) (za : Int) (zb : Int) (zc : Int) (zd : Int) (ze : Int) (zf : Int) (zg : Int) : Option (Bool × Int × Int × Int × Int × Int × Int × Int × Int × Int × Int × Int × Int × Int × Int × Int × Int × Bool) := if z0 = true then (lanternref05_Embeds.l0 k true 4 z0 z1 z2 z3 z4 z5 z6 z7 z8 z9 za zb zc zd ze zf zg) else (some (false, 0, 0, 0, 0, 0, 0, 0, 0, 0, 0, 0, 0, 0, 0, 0, 0, false))
theorem lanternref05_Embeds.mono_l : ∀ k, (∀ y0 y1 y2 y3 y4 y5 y6 y7 y8 y9 y10 y11 y12 y13 y14 y15 y16 y17 y18, LeO (lanternref05_Embeds.l0 k y0 y1 y2 y3 y4 y5 y6 y7 y8 y9 y10 y11 y12 y13 y14 y15 y16 y17 y18) (lanternref05_Embeds.l0 (k + 1) y0 y1 y2 y3 y4 y5 y6 y7 y8 y9 y10 y11 y12 y13 y14 y15 y16 y17 y18)) ∧ (∀ y0 y1 y2 y3 y4 y5 y6 y7 y8 y9 y10 y11 y12 y13 y14 y15 y16 y17 y18 y19, LeO (lanternref05_Embeds.j1 k y0 y1 y2 y3 y4 y5 y6 y7 y8 y9 y10 y11 y12 y13 y14 y15 y16 y17 y18 y19) (lanternref05_Embeds.j1 (k + 1) y0 y1 y2 y3 y4 y5 y6 y7 y8 y9 y10 y11 y12 y13 y14 y15 y16 y17 y18 y19)) ∧ (∀ y0 y1 y2 y3 y4 y5 y6 y7 y8 y9 y10 y11 y12 y13 y14 y15 y16 y17 y18, LeO (lanternref05_Embeds.j2 k y0 y1 y2 y3 y4 y5 y6 y7 y8 y9 y10 y11 y12 y13 y14 y15 y16 y17 y18) (lanternref05_Embeds.j2 (k + 1) y0 y1 y2 y3 y4 y5 y6 y7 y8 y9 y10 y11 y12 y13 y14 y15 y16 y17 y18))
 | 0 => ⟨fun _ _ _ _ _ _ _ _ _ _ _ _ _ _ _ _ _ _ _ r h => by simp [lanternref05_Embeds.l0] at h, fun _ _ _ _ _ _ _ _ _ _ _ _ _ _ _ _ _ _ _ _ r h => by simp [lanternref05_Embeds.j1] at h, fun _ _ _ _ _ _ _ _ _ _ _ _ _ _ _ _ _ _ _ r h => by simp [lanternref05_Embeds.j2] at h⟩
 | k + 1 => by
  obtain ⟨ih0, ih1, ih2⟩ := lanternref05_Embeds.mono_l k
  refine ⟨?_, ?_, ?_⟩
  ·intro y0 y1 y2 y3 y4 y5 y6 y7 y8 y9 y10 y11 y12 y13 y14 y15 y16 y17 y18
   unfold lanternref05_Embeds.l0
   repeat' first
   | (with_reducible exact ih0 _ _ _ _ _ _ _ _ _ _ _ _ _ _ _ _ _ _ _)
   | (with_reducible exact ih1 _ _ _ _ _ _ _ _ _ _ _ _ _ _ _ _ _ _ _ _)
   | (with_reducible exact ih2 _ _ _ _ _ _ _ _ _ _ _ _ _ _ _ _ _ _ _)
   | (with_reducible exact lanternref05_Mapped.mono _ _ _ _ _ _ _ _ _ _ _ _ _ _ _ _ _ _)
   | (with_reducible exact lanternref05_Tail.mono _ _ _ _ _ _ _ _ _ _ _ _ _ _ _ _ _ _ _)
   | (with_reducible exact lanternref05_V4.mono _ _)
   | (with_reducible exact LeO.refl _)
   | (with_reducible exact LeO.none _)
   | (with_reducible refine LeO.ite ?_ ?_)
   | (with_reducible refine LeO.bind ?_ (fun _ => ?_))
   | exact ih0 _ _ _ _ _ _ _ _ _ _ _ _ _ _ _ _ _ _ _
   | exact ih1 _ _ _ _ _ _ _ _ _ _ _ _ _ _ _ _ _ _ _ _
   | exact ih2 _ _ _ _ _ _ _ _ _ _ _ _ _ _ _ _ _ _ _
   | exact lanternref05_Mapped.mono _ _ _ _ _ _ _ _ _ _ _ _ _ _ _ _ _ _
   | exact lanternref05_Tail.mono _ _ _ _ _ _ _ _ _ _ _ _ _ _ _ _ _ _ _
   | exact lanternref05_V4.mono _ _
   | exact LeO.none _
   | refine LeO.ite ?_ ?_
   | refine LeO.bind ?_ (fun _ => ?_)
  ·intro y0 y1 y2 y3 y4 y5 y6 y7 y8 y9 y10 y11 y12 y13 y14 y15 y16 y17 y18 y19
   unfold lanternref05_Embeds.j1
   repeat' first
   | (with_reducible exact ih0 _ _ _ _ _ _ _ _ _ _ _ _ _ _ _ _ _ _ _)
   | (with_reducible exact ih1 _ _ _ _ _ _ _ _ _ _ _ _ _ _ _ _ _ _ _ _)
   | (with_reducible exact ih2 _ _ _ _ _ _ _ _ _ _ _ _ _ _ _ _ _ _ _)
   | (with_reducible exact lanternref05_Mapped.mono _ _ _ _ _ _ _ _ _ _ _ _ _ _ _ _ _ _)
   | (with_reducible exact lanternref05_Tail.mono _ _ _ _ _ _ _ _ _ _ _ _ _ _ _ _ _ _ _)
   | (with_reducible exact lanternref05_V4.mono _ _)
   | (with_reducible exact LeO.refl _)
   | (with_reducible exact LeO.none _)
   | (with_reducible refine LeO.ite ?_ ?_)
   | (with_reducible refine LeO.bind ?_ (fun _ => ?_))
   | exact ih0 _ _ _ _ _ _ _ _ _ _ _ _ _ _ _ _ _ _ _
   | exact ih1 _ _ _ _ _ _ _ _ _ _ _ _ _ _ _ _ _ _ _ _
   | exact ih2 _ _ _ _ _ _ _ _ _ _ _ _ _ _ _ _ _ _ _
   | exact lanternref05_Mapped.mono _ _ _ _ _ _ _ _ _ _ _ _ _ _ _ _ _ _
   | exact lanternref05_Tail.mono _ _ _ _ _ _ _ _ _ _ _ _ _ _ _ _ _ _ _
   | exact lanternref05_V4.mono _ _
   | exact LeO.none _
   | refine LeO.ite ?_ ?_
   | refine LeO.bind ?_ (fun _ => ?_)
  ·intro y0 y1 y2 y3 y4 y5 y6 y7 y8 y9 y10 y11 y12 y13 y14 y15 y16 y17 y18
   unfold lanternref05_Embeds.j2
   repeat' first
   | (with_reducible exact ih0 _ _ _ _ _ _ _ _ _ _ _ _ _ _ _ _ _ _ _)
   | (with_reducible exact ih1 _ _ _ _ _ _ _ _ _ _ _ _ _ _ _ _ _ _ _ _)
   | (with_reducible exact ih2 _ _ _ _ _ _ _ _ _ _ _ _ _ _ _ _ _ _ _)
   | (with_reducible exact lanternref05_Mapped.mono _ _ _ _ _ _ _ _ _ _ _ _ _ _ _ _ _ _)
   | (with_reducible exact lanternref05_Tail.mono _ _ _ _ _ _ _ _ _ _ _ _ _ _ _ _ _ _ _)
   | (with_reducible exact lanternref05_V4.mono _ _)
   | (with_reducible exact LeO.refl _)
   | (with_reducible exact LeO.none _)
   | (with_reducible refine LeO.ite ?_ ?_)
   | (with_reducible refine LeO.bind ?_ (fun _ => ?_))
   | exact ih0 _ _ _ _ _ _ _ _ _ _ _ _ _ _ _ _ _ _ _
   | exact ih1 _ _ _ _ _ _ _ _ _ _ _ _ _ _ _ _ _ _ _ _
   | exact ih2 _ _ _ _ _ _ _ _ _ _ _ _ _ _ _ _ _ _ _
   | exact lanternref05_Mapped.mono _ _ _ _ _ _ _ _ _ _ _ _ _ _ _ _ _ _
   | exact lanternref05_Tail.mono _ _ _ _ _ _ _ _ _ _ _ _ _ _ _ _ _ _ _
   | exact lanternref05_V4.mono _ _
   | exact LeO.none _
   | refine LeO.ite ?_ ?_
   | refine LeO.bind ?_ (fun _ => ?_)
theorem lanternref05_Embeds.mono : ∀ a0 a1 a2 a3 a4 a5 a6 a7 a8 a9 a10 a11 a12 a13 a14 a15 a16 k, LeO (lanternref05_Embeds.f k a0 a1 a2 a3 a4 a5 a6 a7 a8 a9 a10 a11 a12 a13 a14 a15 a16) (lanternref05_Embeds.f (k + 1) a0 a1 a2 a3 a4 a5 a6 a7 a8 a9 a10 a11 a12 a13 a14 a15 a16) := by
 intro a0 a1 a2 a3 a4 a5 a6 a7 a8 a9 a10 a11 a12 a13 a14 a15 a16 k
 obtain ⟨ih0, ih1, ih2⟩ := lanternref05_Embeds.mono_l k
 unfold lanternref05_Embeds.f
 repeat' first
   | (with_reducible exact ih0 _ _ _ _ _ _ _ _ _ _ _ _ _ _ _ _ _ _ _)
   | (with_reducible exact ih1 _ _ _ _ _ _ _ _ _ _ _ _ _ _ _ _ _ _ _ _)
   | (with_reducible exact ih2 _ _ _ _ _ _ _ _ _ _ _ _ _ _ _ _ _ _ _)
   | (with_reducible exact lanternref05_Mapped.mono _ _ _ _ _ _ _ _ _ _ _ _ _ _ _ _ _ _)
   | (with_reducible exact lanternref05_Tail.mono _ _ _ _ _ _ _ _ _ _ _ _ _ _ _ _ _ _ _)
   | (with_reducible exact lanternref05_V4.mono _ _)
   | (with_reducible exact LeO.refl _)
   | (with_reducible exact LeO.none _)
   | (with_reducible refine LeO.ite ?_ ?_)
   | (with_reducible refine LeO.bind ?_ (fun _ => ?_))
   | exact ih0 _ _ _ _ _ _ _ _ _ _ _ _ _ _ _ _ _ _ _
   | exact ih1 _ _ _ _ _ _ _ _ _ _ _ _ _ _ _ _ _ _ _ _
   | exact ih2 _ _ _ _ _ _ _ _ _ _ _ _ _ _ _ _ _ _ _
   | exact lanternref05_Mapped.mono _ _ _ _ _ _ _ _ _ _ _ _ _ _ _ _ _ _
   | exact lanternref05_Tail.mono _ _ _ _ _ _ _ _ _ _ _ _ _ _ _ _ _ _ _
   | exact lanternref05_V4.mono _ _
   | exact LeO.none _
   | refine LeO.ite ?_ ?_
   | refine LeO.bind ?_ (fun _ => ?_)
def lanternref05_Embeds.T15 : Bool × List (List Nat × List Nat) := (true, [([], []), ([], []), ([0, 1], [0, 1]), ([2, 1], [2]), ([3], [3]), ([3, 3], [3]), ([4, 5, 3], [3, 4, 5]), ([3, 6], [3, 6])])
def lanternref05_Embeds.B15 : List Nat := [0, 0, 3, 7, 15, 15, 63, 127]
theorem lanternref05_Embeds.tab15 : rtab .any (opsOf Tryd.f13 15) = lanternref05_Embeds.T15 := by kernel_rfl
theorem lanternref05_Embeds.bits15 : waitsOk lanternref05_Embeds.T15.2 lanternref05_Embeds.B15 = true := by kernel_rfl
set_option maxHeartbeats 8000000 in
set_option maxRecDepth 100000 in
theorem lanternref05_Embeds.calls (k : Nat) (z0 : Bool) (z1 : Int) (z2 : Int) (z3 : Int) (z4 : Int) (z5 : Int) (z6 : Int) (z7 : Int) (z8 : Int) (z9 : Int) (za : Int) (zb : Int) (zc : Int) (zd : Int) (ze : Int) (zf : Int) (zg : Int) (r1 : Bool) (r2 : Int) (r3 : Int) (r4 : Int) (r5 : Int) (r6 : Int) (r7 : Int) (r8 : Int) (r9 : Int) (r10 : Int) (r11 : Int) (r12 : Int) (r13 : Int) (r14 : Int) (r15 : Int) (r16 : Int) (r17 : Int) (r18 : Bool) (w : World) (hLW : LW w) (h : lanternref05_Embeds.f k z0 z1 z2 z3 z4 z5 z6 z7 z8 z9 za zb zc zd ze zf zg = some (r1, r2, r3, r4, r5, r6, r7, r8, r9, r10, r11, r12, r13, r14, r15, r16, r17, r18)) :
  Calls Tryd.prog 13 #[.agg (ag_ z0 z1 z2 z3 z4 z5 z6 z7 z8 z9 za zb zc zd ze zf zg)] w fun e w' => e = .returned (.tuple #[.agg (ag_ r1 r2 r3 r4 r5 r6 r7 r8 r9 r10 r11 r12 r13 r14 r15 r16 r17), .bool r18]) ∧ Below w.heap.size w w' := by
 have hu24 := Tryd.underlying24
 have HLW := Aside0.mk hLW
 clear hLW
 have HB := Aside0.mk (Below.refl w.heap.size w)
 have H := h
 unfold lanternref05_Embeds.f at H
 clear h
 by_cases c2 : z0 = true
 ·subst c2
  replace H := ifT_ H
  have H' := Aside0.mk H
  clear H
  go_enter Tryd.func13, Tryd.ntmps13
  go_wp2_with (first | ((with_reducible refine gate_dst (N := 1) rfl ?_); refine bx_ 1 (ag_ true z1 z2 z3 z4 z5 z6 z7 z8 z9 za zb zc zd ze zf zg) 24 ?_; intro gb533 hg w3 hbox hb; have BK533 := Aside0.mk (hbox); have GW533 := Aside0.mk (ge_ (w := w) hg); have GE533 := Aside0.mk (ge_ (w := w) hg); replace HB := Aside0.mk (below_step bq_ hb); clear hb hbox hg) | ((with_reducible refine gate_dst (N := 2) rfl ?_); refine bx_ 2 az_ 24 ?_; intro gb534 hg w4 hbox hb; have n0_ := Aside0.mk (bb_ BK533 hb); have n1_ := Aside0.mk (below_step bg_ hb); have n2_ := Aside0.mk (hbox); have n3_ := Aside0.mk (gg_ (w := w) hg); have n4_ := Aside0.mk (gg_ (w := w) hg); have n5_ := Aside0.mk (nl_ BK533 hg); have n6_ := Aside0.mk (ng_ BK533 hg); clear BK533; clear HB; have BK533 := n0_; have HB := n1_; have BK534 := n2_; have GW534 := n3_; have GE534 := n4_; have NB533_534 := n5_; have NB534_533 := n6_; clear n0_ n1_ n2_ n3_ n4_ n5_ n6_; clear hb hbox hg; have hnb5 := NB533_534.out; have hnc5 := NB534_533.out; obtain ⟨hcz6_0, hcz6_1, hcz6_2, hcz6_3, hcz6_4, hcz6_5, hcz6_6, hcz6_7, hcz6_8, hcz6_9, hcz6_10, hcz6_11, hcz6_12, hcz6_13, hcz6_14, hcz6_15, hcz6_16⟩ := c17_ BK533))
  go_loopg [4, 5] k (fun kq v4 v5 w' => ∃ (x4_1 : Bool) (x5_1 : Int), v4 = .bool x4_1 ∧ v5 = .int .i64 x5_1 ∧ Aside0 (lanternref05_Embeds.l0 kq x4_1 x5_1 true z1 z2 z3 z4 z5 z6 z7 z8 z9 za zb zc zd ze zf zg = some (r1, r2, r3, r4, r5, r6, r7, r8, r9, r10, r11, r12, r13, r14, r15, r16, r17, r18)) ∧ Aside0 (kq ≤ k) ∧ Aside0 (w'.heap[gb533]? = some (.cells (ag_ true z1 z2 z3 z4 z5 z6 z7 z8 z9 za zb zc zd ze zf zg) 24 (0, 0))) ∧ Aside0 (w'.heap[gb534]? = some (.cells az_ 24 (0, 0))) ∧ Aside0 (Below w.heap.size w w'))
  case atStart => exact ⟨(true), (4), sq_, sq_, H', ⟨Nat.le_refl _⟩, ⟨bk_⟩, ⟨bk_⟩, ⟨bg_⟩⟩
  case round =>
   clear H'
   try clear c1
   try clear c2
   try clear p2
   try clear c5
   try clear hcz6_0
   try clear hcz6_1
   try clear hcz6_10
   try clear hcz6_11
   try clear hcz6_12
   try clear hcz6_13
   try clear hcz6_14
   try clear hcz6_15
   try clear hcz6_16
   try clear hcz6_2
   try clear hcz6_3
   try clear hcz6_4
   try clear hcz6_5
   try clear hcz6_6
   try clear hcz6_7
   try clear hcz6_8
   try clear hcz6_9
   obtain ⟨x4_1, x5_1, rfl, rfl, HA, HK1, BK533, BK534, HB⟩ := hrel
   cases gk with
   | zero => exact absurd HA.out (by simp [lanternref05_Embeds.l0])
   | succ k1 =>
    have H := HA.out
    clear HA
    simp only [lanternref05_Embeds.l0] at H
    by_cases c7 : x5_1 < 12
    ·rw [if_pos c7] at H
     have c7b0 := decide_eq_true c7
     clear c7
     by_cases c8 : x4_1 = true
     ·subst c8
      replace H := ifT_ H
      by_cases c9 : 0 ≤ x5_1
      ·rw [if_pos c9] at H
       have c9b0 := decide_eq_true c9
       clear c9
       by_cases c10 : x5_1 < 16
       ·rw [if_pos c10] at H
        have c10b0 := decide_eq_true c10
        clear c10
        have H' := Aside0.mk H
        clear H
        have par11 : (0 ≤ x5_1) = True := eq_true (of_decide_eq_true as_)
        have qar11 : (x5_1 < 16) = True := eq_true (of_decide_eq_true as_)
        have hnb12 := NB533_534.out
        have hnc12 := NB534_533.out
        obtain ⟨hcz13_0, hcz13_1, hcz13_2, hcz13_3, hcz13_4, hcz13_5, hcz13_6, hcz13_7, hcz13_8, hcz13_9, hcz13_10, hcz13_11, hcz13_12, hcz13_13, hcz13_14, hcz13_15, hcz13_16⟩ := c17_ BK533
        have hxar11 : wr.cell? ⟨gb533, 1 + (x5_1).toNat, none⟩ = some (.int .u8 (rd [z1, z2, z3, z4, z5, z6, z7, z8, z9, za, zb, zc, zd, ze, zf, zg] x5_1)) := (blk_idx BK533.out .u8 [.bool true] [z1, z2, z3, z4, z5, z6, z7, z8, z9, za, zb, zc, zd, ze, zf, zg] [] rfl x5_1 (of_decide_eq_true as_) (of_decide_eq_true as_) rfl)
        have hfar11 := bf_ BK533 (1 + (x5_1).toNat)
        go_wp2
        go_roundg k1
        case measure => have := HK1.out; omega
        case rel => exact ⟨(((rd [z1, z2, z3, z4, z5, z6, z7, z8, z9, za, zb, zc, zd, ze, zf, zg] x5_1) == 0)), (wrap64 (x5_1 + 1)), sq_, sq_, H', ⟨by have := HK1.out; omega⟩, ⟨bk_⟩, ⟨bk_⟩, ⟨bg_⟩⟩
       ·rw [if_neg c10] at H
        exact absurd H (by simp)
      ·rw [if_neg c9] at H
       exact absurd H (by simp)
     ·replace c8 := Bool.eq_false_iff.mpr c8
      subst c8
      replace H := ifF_ H
      have H' := Aside0.mk H
      clear H
      go_wp2
      go_roundg k1
      case measure => have := HK1.out; omega
      case rel => exact ⟨(false), (wrap64 (x5_1 + 1)), sq_, sq_, H', ⟨by have := HK1.out; omega⟩, ⟨bk_⟩, ⟨bk_⟩, ⟨bg_⟩⟩
    ·rw [if_neg c7] at H
     have c7b0 := decide_eq_false c7
     clear c7
     replace H := Option.bind_eq_some_iff.mp H
     obtain ⟨t536, A140, H⟩ := H
     (try dsimp only at H)
     have A14 := Aside0.mk A140
     clear A140
     by_cases c15 : t536 = true
     ·subst c15
      replace H := ifT_ H
      replace H := Option.bind_eq_some_iff.mp H
      obtain ⟨⟨t537, t538, t539, t540, t541, t542, t543, t544, t545, t546, t547, t548, t549, t550, t551, t552, t553⟩, A160, H⟩ := H
      (try dsimp only at H)
      have A16 := Aside0.mk A160
      clear A160
      simp only [Option.some.injEq, Prod.mk.injEq] at H
      obtain ⟨rfl, rfl, rfl, rfl, rfl, rfl, rfl, rfl, rfl, rfl, rfl, rfl, rfl, rfl, rfl, rfl, rfl, rfl⟩ := H
      have hnb17 := NB533_534.out
      have hnc17 := NB534_533.out
      obtain ⟨hcz18_0, hcz18_1, hcz18_2, hcz18_3, hcz18_4, hcz18_5, hcz18_6, hcz18_7, hcz18_8, hcz18_9, hcz18_10, hcz18_11, hcz18_12, hcz18_13, hcz18_14, hcz18_15, hcz18_16⟩ := c17_ BK533
      go_wp2_with (first | ((with_reducible refine gate_dst (N := 47) rfl ?_); (try (refine gate_guard (by rfl) ?_; dsimp only)); refine load_box ?hg 24 (.tmp 1) rfl BK533.out [] (al_ true z1 z2 z3 z4 z5 z6 z7 z8 z9 za zb zc zd ze zf zg) [] rfl 0 rfl rfl Tryd.underlying24 rfl (by kernel_rfl) ?_; (case hg => rfl)) | ((with_reducible refine gate_callee (f := 26) rfl ?_); refine goesL_ (some 48) rfl rfl Tryd.func26 (by kernel_rfl) rfl #[.agg (ag_ true z1 z2 z3 z4 z5 z6 z7 z8 z9 za zb zc zd ze zf zg)] rfl lq_ ?_; (with_reducible refine (lanternref05_Mapped.calls k1 true z1 z2 z3 z4 z5 z6 z7 z8 z9 za zb zc zd ze zf zg true _ ?side1 A14.out).mono ?_); (case side1 => exact lg_); rintro e w19 ⟨rfl, hb⟩; refine ⟨_, rfl, ?_⟩; replace BK533 := Aside0.mk (bb_ BK533 hb); replace BK534 := Aside0.mk (bb_ BK534 hb); replace HB := Aside0.mk (below_step bg_ hb); (try clear hb); (try clear hb2); (try clear hk); (try clear hi)) | ((with_reducible refine gate_dst (N := 49) rfl ?_); (try (refine gate_guard (by rfl) ?_; dsimp only)); refine load_box ?hg 24 (.tmp 1) rfl BK533.out [] (al_ true z1 z2 z3 z4 z5 z6 z7 z8 z9 za zb zc zd ze zf zg) [] rfl 0 rfl rfl Tryd.underlying24 rfl (by kernel_rfl) ?_; (case hg => rfl)) | ((with_reducible refine gate_callee (f := 27) rfl ?_); refine goesL_ (some 50) rfl rfl Tryd.func27 (by kernel_rfl) rfl #[.agg (ag_ true z1 z2 z3 z4 z5 z6 z7 z8 z9 za zb zc zd ze zf zg), .int .i64 12] rfl lq_ ?_; (with_reducible refine (lanternref05_Tail.calls k1 true z1 z2 z3 z4 z5 z6 z7 z8 z9 za zb zc zd ze zf zg 12 t537 t538 t539 t540 t541 t542 t543 t544 t545 t546 t547 t548 t549 t550 t551 t552 t553 _ ?side1 A16.out).mono ?_); (case side1 => exact lg_); rintro e w20 ⟨rfl, hb⟩; refine ⟨_, rfl, ?_⟩; replace BK533 := Aside0.mk (bb_ BK533 hb); replace BK534 := Aside0.mk (bb_ BK534 hb); replace HB := Aside0.mk (below_step bg_ hb); (try clear hb); (try clear hb2); (try clear hk); (try clear hi); obtain ⟨hcz21_0, hcz21_1, hcz21_2, hcz21_3, hcz21_4, hcz21_5, hcz21_6, hcz21_7, hcz21_8, hcz21_9, hcz21_10, hcz21_11, hcz21_12, hcz21_13, hcz21_14, hcz21_15, hcz21_16⟩ := c17_ BK534) | ((with_reducible refine gate_store (t := 24) (p := 2) rfl ?_); refine store_all ?hg 24 2 _ rfl rfl gb534 ay_ (al_ t537 t538 t539 t540 t541 t542 t543 t544 t545 t546 t547 t548 t549 t550 t551 t552 t553) BK534.out rfl rfl rfl (by kernel_rfl) rfl ?_; (case hg => rfl); intro w22 hw; replace BK533 := Aside0.mk (sf_ BK533 NB533_534 hw); replace BK534 := Aside0.mk (show w22.heap[gb534]? = some (.cells (ag_ t537 t538 t539 t540 t541 t542 t543 t544 t545 t546 t547 t548 t549 t550 t551 t552 t553) 24 (0, 0)) from ss_ BK534 hw); replace HB := Aside0.mk (sb_ hw); clear hw))
      refine bodyPost_ret (results_ct rfl _ _ gb534 24 (ag_ t537 t538 t539 t540 t541 t542 t543 t544 t545 t546 t547 t548 t549 t550 t551 t552 t553) (0, 0) _ rfl bk_ Tryd.underlying24 rfl (by kernel_rfl)) rfl ?_
      exact ⟨rq_, bg_⟩
     ·replace c15 := Bool.eq_false_iff.mpr c15
      subst c15
      replace H := ifF_ H
      have HC23 := Aside0.mk H
      clear H
      have hnb24 := NB533_534.out
      have hnc24 := NB534_533.out
      obtain ⟨hcz25_0, hcz25_1, hcz25_2, hcz25_3, hcz25_4, hcz25_5, hcz25_6, hcz25_7, hcz25_8, hcz25_9, hcz25_10, hcz25_11, hcz25_12, hcz25_13, hcz25_14, hcz25_15, hcz25_16⟩ := c17_ BK533
      go_upto_region 11 with (first | ((with_reducible refine gate_dst (N := 47) rfl ?_); (try (refine gate_guard (by rfl) ?_; dsimp only)); refine load_box ?hg 24 (.tmp 1) rfl BK533.out [] (al_ true z1 z2 z3 z4 z5 z6 z7 z8 z9 za zb zc zd ze zf zg) [] rfl 0 rfl rfl Tryd.underlying24 rfl (by kernel_rfl) ?_; (case hg => rfl)) | ((with_reducible refine gate_callee (f := 26) rfl ?_); refine goesL_ (some 48) rfl rfl Tryd.func26 (by kernel_rfl) rfl #[.agg (ag_ true z1 z2 z3 z4 z5 z6 z7 z8 z9 za zb zc zd ze zf zg)] rfl lq_ ?_; (with_reducible refine (lanternref05_Mapped.calls k1 true z1 z2 z3 z4 z5 z6 z7 z8 z9 za zb zc zd ze zf zg false _ ?side1 A14.out).mono ?_); (case side1 => exact lg_); rintro e w26 ⟨rfl, hb⟩; refine ⟨_, rfl, ?_⟩; replace BK533 := Aside0.mk (bb_ BK533 hb); replace BK534 := Aside0.mk (bb_ BK534 hb); replace HB := Aside0.mk (below_step bg_ hb); (try clear hb); (try clear hb2); (try clear hk); (try clear hi)))
      (try simp only [Act.put, List.setIfInBounds_toArray, List.set_cons_zero, List.set_cons_succ])
      go_cut [51] (fun v51 wc => ∃ (kq : Nat) (x51_22 : Bool), v51 = .bool x51_22 ∧ Aside0 (lanternref05_Embeds.j1 kq x4_1 (wrap64 ((wrap64 ((wrap64 ((wrap64 ((wrap64 (z1)) * 16777216)) + (wrap64 ((wrap64 (z2)) * 65536)))) + (wrap64 ((wrap64 (z3)) * 256)))) + (wrap64 (z4)))) x51_22 true z1 z2 z3 z4 z5 z6 z7 z8 z9 za zb zc zd ze zf zg = some (r1, r2, r3, r4, r5, r6, r7, r8, r9, r10, r11, r12, r13, r14, r15, r16, r17, r18)) ∧ Aside0 (kq ≤ k1) ∧ Aside0 (wc.heap[gb533]? = some (.cells (ag_ true z1 z2 z3 z4 z5 z6 z7 z8 z9 za zb zc zd ze zf zg) 24 (0, 0))) ∧ Aside0 (wc.heap[gb534]? = some (.cells az_ 24 (0, 0))) ∧ Aside0 (Below w.heap.size w wc))
      case first =>
       have H := HC23.out
       clear HC23
       by_cases c27 : x4_1 = true
       ·subst c27
        replace H := ifT_ H
        have H' := Aside0.mk H
        clear H
        go_wp2
        go_meet
        case rel => exact ⟨_, (((wrap64 ((wrap64 ((wrap64 ((wrap64 ((wrap64 (z1)) * 16777216)) + (wrap64 ((wrap64 (z2)) * 65536)))) + (wrap64 ((wrap64 (z3)) * 256)))) + (wrap64 (z4)))) == 6619035)), sq_, H', ⟨by have := HK1.out; first | omega | exact Nat.le_refl _⟩, ⟨bk_⟩, ⟨bk_⟩, ⟨bg_⟩⟩
       ·replace c27 := Bool.eq_false_iff.mpr c27
        subst c27
        replace H := ifF_ H
        have H' := Aside0.mk H
        clear H
        go_wp2
        go_meet
        case rel => exact ⟨_, (false), sq_, H', ⟨by have := HK1.out; first | omega | exact Nat.le_refl _⟩, ⟨bk_⟩, ⟨bk_⟩, ⟨bg_⟩⟩
      case rest =>
       clear HC23
       try clear c1
       try clear c2
       try clear p2
       try clear c5
       try clear p6
       try clear c7
       try clear c7b0
       try clear c8
       try clear c9
       try clear c9b0
       try clear c10
       try clear c10b0
       try clear c12
       try clear c13
       try clear c15
       try clear c17
       try clear c24
       try clear c26
       try clear c27
       try clear hcz13_0
       try clear hcz13_1
       try clear hcz13_10
       try clear hcz13_11
       try clear hcz13_12
       try clear hcz13_13
       try clear hcz13_14
       try clear hcz13_15
       try clear hcz13_16
       try clear hcz13_2
       try clear hcz13_3
       try clear hcz13_4
       try clear hcz13_5
       try clear hcz13_6
       try clear hcz13_7
       try clear hcz13_8
       try clear hcz13_9
       try clear hcz18_0
       try clear hcz18_1
       try clear hcz18_10
       try clear hcz18_11
       try clear hcz18_12
       try clear hcz18_13
       try clear hcz18_14
       try clear hcz18_15
       try clear hcz18_16
       try clear hcz18_2
       try clear hcz18_3
       try clear hcz18_4
       try clear hcz18_5
       try clear hcz18_6
       try clear hcz18_7
       try clear hcz18_8
       try clear hcz18_9
       try clear hcz21_0
       try clear hcz21_1
       try clear hcz21_10
       try clear hcz21_11
       try clear hcz21_12
       try clear hcz21_13
       try clear hcz21_14
       try clear hcz21_15
       try clear hcz21_16
       try clear hcz21_2
       try clear hcz21_3
       try clear hcz21_4
       try clear hcz21_5
       try clear hcz21_6
       try clear hcz21_7
       try clear hcz21_8
       try clear hcz21_9
       try clear hcz25_0
       try clear hcz25_1
       try clear hcz25_10
       try clear hcz25_11
       try clear hcz25_12
       try clear hcz25_13
       try clear hcz25_14
       try clear hcz25_15
       try clear hcz25_16
       try clear hcz25_2
       try clear hcz25_3
       try clear hcz25_4
       try clear hcz25_5
       try clear hcz25_6
       try clear hcz25_7
       try clear hcz25_8
       try clear hcz25_9
       try clear hcz6_0
       try clear hcz6_1
       try clear hcz6_10
       try clear hcz6_11
       try clear hcz6_12
       try clear hcz6_13
       try clear hcz6_14
       try clear hcz6_15
       try clear hcz6_16
       try clear hcz6_2
       try clear hcz6_3
       try clear hcz6_4
       try clear hcz6_5
       try clear hcz6_6
       try clear hcz6_7
       try clear hcz6_8
       try clear hcz6_9
       try clear p2
       obtain ⟨kq, x51_22, rfl, HA, HJ22, BK533, BK534, HB⟩ := hcut
       cases kq with
       | zero => exact absurd HA.out (by simp [lanternref05_Embeds.j1])
       | succ kj22 =>
        have H := HA.out
        clear HA
        simp only [lanternref05_Embeds.j1] at H
        by_cases c28 : x51_22 = true
        ·subst c28
         replace H := ifT_ H
         replace H := Option.bind_eq_some_iff.mp H
         obtain ⟨⟨t554, t555, t556, t557, t558, t559, t560, t561, t562, t563, t564, t565, t566, t567, t568, t569, t570⟩, A290, H⟩ := H
         (try dsimp only at H)
         have A29 := Aside0.mk A290
         clear A290
         simp only [Option.some.injEq, Prod.mk.injEq] at H
         obtain ⟨rfl, rfl, rfl, rfl, rfl, rfl, rfl, rfl, rfl, rfl, rfl, rfl, rfl, rfl, rfl, rfl, rfl, rfl⟩ := H
         go_wp2_with (first | ((with_reducible refine gate_dst (N := 57) rfl ?_); (try (refine gate_guard (by rfl) ?_; dsimp only)); refine load_box ?hg 24 (.tmp 1) rfl BK533.out [] (al_ true z1 z2 z3 z4 z5 z6 z7 z8 z9 za zb zc zd ze zf zg) [] rfl 0 rfl rfl Tryd.underlying24 rfl (by kernel_rfl) ?_; (case hg => rfl)) | ((with_reducible refine gate_callee (f := 27) rfl ?_); refine goesL_ (some 58) rfl rfl Tryd.func27 (by kernel_rfl) rfl #[.agg (ag_ true z1 z2 z3 z4 z5 z6 z7 z8 z9 za zb zc zd ze zf zg), .int .i64 12] rfl lq_ ?_; (with_reducible refine (lanternref05_Tail.calls kj22 true z1 z2 z3 z4 z5 z6 z7 z8 z9 za zb zc zd ze zf zg 12 t554 t555 t556 t557 t558 t559 t560 t561 t562 t563 t564 t565 t566 t567 t568 t569 t570 _ ?side1 A29.out).mono ?_); (case side1 => exact lg_); rintro e w30 ⟨rfl, hb⟩; refine ⟨_, rfl, ?_⟩; replace BK533 := Aside0.mk (bb_ BK533 hb); replace BK534 := Aside0.mk (bb_ BK534 hb); replace HB := Aside0.mk (below_step bg_ hb); (try clear hb); (try clear hb2); (try clear hk); (try clear hi); have hnb31 := NB534_533.out; have hnc31 := NB533_534.out; obtain ⟨hcz32_0, hcz32_1, hcz32_2, hcz32_3, hcz32_4, hcz32_5, hcz32_6, hcz32_7, hcz32_8, hcz32_9, hcz32_10, hcz32_11, hcz32_12, hcz32_13, hcz32_14, hcz32_15, hcz32_16⟩ := c17_ BK534) | ((with_reducible refine gate_store (t := 24) (p := 2) rfl ?_); refine store_all ?hg 24 2 _ rfl rfl gb534 ay_ (al_ t554 t555 t556 t557 t558 t559 t560 t561 t562 t563 t564 t565 t566 t567 t568 t569 t570) BK534.out rfl rfl rfl (by kernel_rfl) rfl ?_; (case hg => rfl); intro w33 hw; replace BK533 := Aside0.mk (sf_ BK533 NB533_534 hw); replace BK534 := Aside0.mk (show w33.heap[gb534]? = some (.cells (ag_ t554 t555 t556 t557 t558 t559 t560 t561 t562 t563 t564 t565 t566 t567 t568 t569 t570) 24 (0, 0)) from ss_ BK534 hw); replace HB := Aside0.mk (sb_ hw); clear hw))
         refine bodyPost_ret (results_ct rfl _ _ gb534 24 (ag_ t554 t555 t556 t557 t558 t559 t560 t561 t562 t563 t564 t565 t566 t567 t568 t569 t570) (0, 0) _ rfl bk_ Tryd.underlying24 rfl (by kernel_rfl)) rfl ?_
         exact ⟨rq_, bg_⟩
        ·replace c28 := Bool.eq_false_iff.mpr c28
         subst c28
         replace H := ifF_ H
         have HC34 := Aside0.mk H
         clear H
         go_upto_region 13 with (fail)
         go_cut [59] (fun v59 wc => ∃ (kq : Nat) (x59_33 : Bool), v59 = .bool x59_33 ∧ Aside0 (lanternref05_Embeds.j2 kq (wrap64 ((wrap64 ((wrap64 ((wrap64 ((wrap64 (z1)) * 16777216)) + (wrap64 ((wrap64 (z2)) * 65536)))) + (wrap64 ((wrap64 (z3)) * 256)))) + (wrap64 (z4)))) x59_33 true z1 z2 z3 z4 z5 z6 z7 z8 z9 za zb zc zd ze zf zg = some (r1, r2, r3, r4, r5, r6, r7, r8, r9, r10, r11, r12, r13, r14, r15, r16, r17, r18)) ∧ Aside0 (kq ≤ kj22) ∧ Aside0 (wc.heap[gb533]? = some (.cells (ag_ true z1 z2 z3 z4 z5 z6 z7 z8 z9 za zb zc zd ze zf zg) 24 (0, 0))) ∧ Aside0 (wc.heap[gb534]? = some (.cells az_ 24 (0, 0))) ∧ Aside0 (Below w.heap.size w wc))
         case first =>
          have H := HC34.out
          clear HC34
          by_cases c35 : x4_1 = true
          ·subst c35
           replace H := ifT_ H
           have H' := Aside0.mk H
           clear H
           go_wp2
           go_meet
           case rel => exact ⟨_, (((wrap64 ((wrap64 ((wrap64 ((wrap64 ((wrap64 (z1)) * 16777216)) + (wrap64 ((wrap64 (z2)) * 65536)))) + (wrap64 ((wrap64 (z3)) * 256)))) + (wrap64 (z4)))) == 0)), sq_, H', ⟨by have := HK1.out; have := HJ22.out; first | omega | exact Nat.le_refl _⟩, ⟨bk_⟩, ⟨bk_⟩, ⟨bg_⟩⟩
          ·replace c35 := Bool.eq_false_iff.mpr c35
           subst c35
           replace H := ifF_ H
           have H' := Aside0.mk H
           clear H
           go_wp2
           go_meet
           case rel => exact ⟨_, (false), sq_, H', ⟨by have := HK1.out; have := HJ22.out; first | omega | exact Nat.le_refl _⟩, ⟨bk_⟩, ⟨bk_⟩, ⟨bg_⟩⟩
         case rest =>
          clear HC34
          try clear c1
          try clear c2
          try clear p2
          try clear c3
          try clear c5
          try clear p6
          try clear c7
          try clear c7b0
          try clear c8
          try clear c9
          try clear c9b0
          try clear c10
          try clear c10b0
          try clear c12
          try clear c13
          try clear c15
          try clear c17
          try clear c24
          try clear c26
          try clear c27
          try clear c28
          try clear c31
          try clear c35
          try clear hcz13_0
          try clear hcz13_1
          try clear hcz13_10
          try clear hcz13_11
          try clear hcz13_12
          try clear hcz13_13
          try clear hcz13_14
          try clear hcz13_15
          try clear hcz13_16
          try clear hcz13_2
          try clear hcz13_3
          try clear hcz13_4
          try clear hcz13_5
          try clear hcz13_6
          try clear hcz13_7
          try clear hcz13_8
          try clear hcz13_9
          try clear hcz18_0
          try clear hcz18_1
          try clear hcz18_10
          try clear hcz18_11
          try clear hcz18_12
          try clear hcz18_13
          try clear hcz18_14
          try clear hcz18_15
          try clear hcz18_16
          try clear hcz18_2
          try clear hcz18_3
          try clear hcz18_4
          try clear hcz18_5
          try clear hcz18_6
          try clear hcz18_7
          try clear hcz18_8
          try clear hcz18_9
          try clear hcz21_0
          try clear hcz21_1
          try clear hcz21_10
          try clear hcz21_11
          try clear hcz21_12
          try clear hcz21_13
          try clear hcz21_14
          try clear hcz21_15
          try clear hcz21_16
          try clear hcz21_2
          try clear hcz21_3
          try clear hcz21_4
          try clear hcz21_5
          try clear hcz21_6
          try clear hcz21_7
          try clear hcz21_8
          try clear hcz21_9
          try clear hcz25_0
          try clear hcz25_1
          try clear hcz25_10
          try clear hcz25_11
          try clear hcz25_12
          try clear hcz25_13
          try clear hcz25_14
          try clear hcz25_15
          try clear hcz25_16
          try clear hcz25_2
          try clear hcz25_3
          try clear hcz25_4
          try clear hcz25_5
          try clear hcz25_6
          try clear hcz25_7
          try clear hcz25_8
          try clear hcz25_9
          try clear hcz32_0
          try clear hcz32_1
          try clear hcz32_10
          try clear hcz32_11
          try clear hcz32_12
          try clear hcz32_13
          try clear hcz32_14
          try clear hcz32_15
          try clear hcz32_16
          try clear hcz32_2
          try clear hcz32_3
          try clear hcz32_4
          try clear hcz32_5
          try clear hcz32_6
          try clear hcz32_7
          try clear hcz32_8
          try clear hcz32_9
          try clear hcz6_0
          try clear hcz6_1
          try clear hcz6_10
          try clear hcz6_11
          try clear hcz6_12
          try clear hcz6_13
          try clear hcz6_14
          try clear hcz6_15
          try clear hcz6_16
          try clear hcz6_2
          try clear hcz6_3
          try clear hcz6_4
          try clear hcz6_5
          try clear hcz6_6
          try clear hcz6_7
          try clear hcz6_8
          try clear hcz6_9
          try clear p2
          try clear p6
          obtain ⟨kq, x59_33, rfl, HA, HJ33, BK533, BK534, HB⟩ := hcut
          cases kq with
          | zero => exact absurd HA.out (by simp [lanternref05_Embeds.j2])
          | succ kj33 =>
           have H := HA.out
           clear HA
           simp only [lanternref05_Embeds.j2] at H
           by_cases c36 : x59_33 = true
           ·subst c36
            replace H := ifT_ H
            replace H := Option.bind_eq_some_iff.mp H
            obtain ⟨⟨t571, t572, t573, t574, t575, t576, t577, t578, t579, t580, t581, t582, t583, t584, t585, t586, t587⟩, A370, H⟩ := H
            (try dsimp only at H)
            have A37 := Aside0.mk A370
            clear A370
            replace H := Option.bind_eq_some_iff.mp H
            obtain ⟨⟨t589, t590, t591, t592, t593, t594, t595, t596, t597, t598, t599, t600, t601, t602, t603, t604, t605⟩, A380, H⟩ := H
            (try dsimp only at H)
            have A38 := Aside0.mk A380
            clear A380
            by_cases c39 : (t571 == t589 && ((t572 == t590 && (t573 == t591 && (t574 == t592 && (t575 == t593 && (t576 == t594 && (t577 == t595 && (t578 == t596 && (t579 == t597 && (t580 == t598 && (t581 == t599 && (t582 == t600 && (t583 == t601 && (t584 == t602 && (t585 == t603 && (t586 == t604 && (t587 == t605)))))))))))))))))) = true
            ·rw [if_pos c39] at H
             have c39b0 : (t571 == t589 && ((t572 == t590 && (t573 == t591 && (t574 == t592 && (t575 == t593 && (t576 == t594 && (t577 == t595 && (t578 == t596 && (t579 == t597 && (t580 == t598 && (t581 == t599 && (t582 == t600 && (t583 == t601 && (t584 == t602 && (t585 == t603 && (t586 == t604 && (t587 == t605)))))))))))))))))) = true := c39
             clear c39
             simp only [Option.some.injEq, Prod.mk.injEq] at H
             obtain ⟨rfl, rfl, rfl, rfl, rfl, rfl, rfl, rfl, rfl, rfl, rfl, rfl, rfl, rfl, rfl, rfl, rfl, rfl⟩ := H
             try go_wp2_with (first | ((with_reducible refine gate_dst (N := 65) rfl ?_); (try (refine gate_guard (by rfl) ?_; dsimp only)); refine load_box ?hg 24 (.tmp 1) rfl BK533.out [] (al_ true z1 z2 z3 z4 z5 z6 z7 z8 z9 za zb zc zd ze zf zg) [] rfl 0 rfl rfl Tryd.underlying24 rfl (by kernel_rfl) ?_; (case hg => rfl)) | ((with_reducible refine gate_callee (f := 27) rfl ?_); refine goesL_ (some 66) rfl rfl Tryd.func27 (by kernel_rfl) rfl #[.agg (ag_ true z1 z2 z3 z4 z5 z6 z7 z8 z9 za zb zc zd ze zf zg), .int .i64 12] rfl lq_ ?_; (with_reducible refine (lanternref05_Tail.calls kj33 true z1 z2 z3 z4 z5 z6 z7 z8 z9 za zb zc zd ze zf zg 12 t571 t572 t573 t574 t575 t576 t577 t578 t579 t580 t581 t582 t583 t584 t585 t586 t587 _ ?side1 A37.out).mono ?_); (case side1 => exact lg_); rintro e w40 ⟨rfl, hb⟩; refine ⟨_, rfl, ?_⟩; replace BK533 := Aside0.mk (bb_ BK533 hb); replace BK534 := Aside0.mk (bb_ BK534 hb); replace HB := Aside0.mk (below_step bg_ hb); (try clear hb); (try clear hb2); (try clear hk); (try clear hi)) | ((with_reducible refine gate_dst (N := 7) rfl ?_); refine bx_ 7 az_ 24 ?_; intro gb588 hg w41 hbox hb; have n0_ := Aside0.mk (bb_ BK533 hb); have n1_ := Aside0.mk (bb_ BK534 hb); have n2_ := Aside0.mk (below_step bg_ hb); have n3_ := Aside0.mk (hbox); have n4_ := Aside0.mk (gg_ (w := w) hg); have n5_ := Aside0.mk (gg_ (w := w) hg); have n6_ := Aside0.mk (nl_ BK533 hg); have n7_ := Aside0.mk (ng_ BK533 hg); have n8_ := Aside0.mk (nl_ BK534 hg); have n9_ := Aside0.mk (ng_ BK534 hg); clear BK533; clear BK534; clear HB; have BK533 := n0_; have BK534 := n1_; have HB := n2_; have BK588 := n3_; have GW588 := n4_; have GE588 := n5_; have NB533_588 := n6_; have NB588_533 := n7_; have NB534_588 := n8_; have NB588_534 := n9_; clear n0_ n1_ n2_ n3_ n4_ n5_ n6_ n7_ n8_ n9_; clear hb hbox hg; have hnb42 := NB588_533.out; have hnc42 := NB533_588.out; have hnb43 := NB588_534.out; have hnc43 := NB534_588.out; obtain ⟨hcz44_0, hcz44_1, hcz44_2, hcz44_3, hcz44_4, hcz44_5, hcz44_6, hcz44_7, hcz44_8, hcz44_9, hcz44_10, hcz44_11, hcz44_12, hcz44_13, hcz44_14, hcz44_15, hcz44_16⟩ := c17_ BK588) | ((with_reducible refine gate_store (t := 24) (p := 7) rfl ?_); refine store_all ?hg 24 7 _ rfl rfl gb588 ay_ (al_ t571 t572 t573 t574 t575 t576 t577 t578 t579 t580 t581 t582 t583 t584 t585 t586 t587) BK588.out rfl rfl rfl (by kernel_rfl) rfl ?_; (case hg => rfl); intro w45 hw; replace BK533 := Aside0.mk (sf_ BK533 NB533_588 hw); replace BK534 := Aside0.mk (sf_ BK534 NB534_588 hw); replace BK588 := Aside0.mk (show w45.heap[gb588]? = some (.cells (ag_ t571 t572 t573 t574 t575 t576 t577 t578 t579 t580 t581 t582 t583 t584 t585 t586 t587) 24 (0, 0)) from ss_ BK588 hw); replace HB := Aside0.mk (sb_ hw); clear hw))
             replace BK533 := Aside0.mk (blk_drew BK533.out)
             replace BK534 := Aside0.mk (blk_drew BK534.out)
             replace BK588 := Aside0.mk (blk_drew BK588.out)
             replace HB := Aside0.mk (below_drew1 HB.out)
             refine start_ (n := 8) (S := fun w' => (Instr.loadAt 24 (.pointer (some ⟨gb588, 0, none⟩))).run Tryd.prog w' = .ok (.agg (ag_ t571 t572 t573 t574 t575 t576 t577 t578 t579 t580 t581 t582 t583 t584 t585 t586 t587)) w') (ds := []) (bv_ 0 8) (by kernel_rfl) rfl rfl ((run_load_box BK588.out 24 [] (al_ t571 t572 t573 t574 t575 t576 t577 t578 t579 t580 t581 t582 t583 t584 t585 t586 t587) [] rfl 0 rfl Tryd.underlying24 rfl (by kernel_rfl))) (fun hHeld => ?_); refine with_tabW lanternref05_Embeds.tab15 lanternref05_Embeds.bits15 (fun HT_ HW_ => ?_)
             generalize w45.drew = w46 at BK533 BK534 BK588 HB hHeld ⊢
             refine tl_ 0 67 ?_ 1 7 HT_ HW_ ?_ hHeld ?_ ?_ ?_
             rotate_left
             ·intro w' s0
              refine (load_exec rfl rfl s0).trans ?_; with_reducible rfl
             rotate_left
             ·simp only [Act.put, sa_, s0_, s1_, i64_w, i32_w]
              rfl
             refine one_ (i := 1) (N := some 68) (bv_ 2 6) rfl rfl (one_of HT_.out (by kernel_rfl)) (by decide) (fun K hK => ?_)
             refine goes_ Tryd.func31 (by kernel_rfl) rfl #[.int .u64 0] (by rfl) rfl rfl lq_ ?_
             with_reducible refine (lanternref05_V4.calls kj33 0 t589 t590 t591 t592 t593 t594 t595 t596 t597 t598 t599 t600 t601 t602 t603 t604 t605 _ ?side1 A38.out).mono ?_
             (case side1 => exact lg_)
             rintro e w47 ⟨rfl, hb⟩
             refine ⟨_, rfl, ?_⟩
             replace BK533 := Aside0.mk (bb_ BK533 hb)
             replace BK534 := Aside0.mk (bb_ BK534 hb)
             replace BK588 := Aside0.mk (bb_ BK588 hb)
             replace HB := Aside0.mk (below_step bg_ hb)
             (try clear hb)
             (try clear hb2)
             (try clear hk)
             (try clear hi)
             refine hK.out _ _ ((run_load_box BK588.out 24 [] (al_ t571 t572 t573 t574 t575 t576 t577 t578 t579 t580 t581 t582 t583 t584 t585 t586 t587) [] rfl 0 rfl Tryd.underlying24 rfl (by kernel_rfl))) (fun hHeld => ?_)
             clear hK K
             refine norm_ (a' := ?_) ?_ ?_
             rotate_left
             ·show Act.put _ (some 68) _ = _
              simp only [Act.put, sa_, s0_, s1_, i64_w, i32_w]
              rfl
             refine pl_ 2 69 ?_ 3 5 HT_ ?_ ?_ ?_ ?_
             rotate_left
             ·intro w'
              go_simp
              with_reducible rfl
             rotate_left
             ·simp only [Act.put, sa_, s0_, s1_, i64_w, i32_w]
              rfl
             refine pl_ 3 70 ?_ 4 4 HT_ ?_ ?_ ?_ ?_
             rotate_left
             ·intro w'
              go_simp
              with_reducible rfl
             rotate_left
             ·simp only [Act.put, sa_, s0_, s1_, i64_w, i32_w]
              rfl
             refine pr_ 4 71 5 3 HT_ ?_ ?_ ?_
             rotate_left
             ·simp only [Act.put, sa_, s0_, s1_, i64_w, i32_w]
              rfl
             refine pr_ 5 72 6 2 HT_ ?_ ?_ ?_
             rotate_left
             ·simp only [Act.put, sa_, s0_, s1_, i64_w, i32_w]
              rfl
             refine pr_ 6 73 7 1 HT_ ?_ ?_ ?_
             rotate_left
             ·simp only [Act.put, sa_, s0_, s1_, i64_w, i32_w]
              rfl
             refine pl_ 7 74 ?_ 8 0 HT_ ?_ ?_ ?_ ?_
             rotate_left
             ·intro w'
              go_simp
              with_reducible rfl
             rotate_left
             ·simp only [Act.put, sa_, s0_, s1_, i64_w, i32_w]
              rfl
             refine done_ (done_of HT_.out (by kernel_rfl)) ?_
             have hnb48 := NB534_533.out
             have hnc48 := NB533_534.out
             obtain ⟨hcz49_0, hcz49_1, hcz49_2, hcz49_3, hcz49_4, hcz49_5, hcz49_6, hcz49_7, hcz49_8, hcz49_9, hcz49_10, hcz49_11, hcz49_12, hcz49_13, hcz49_14, hcz49_15, hcz49_16⟩ := c17_ BK534
             try go_wp2_with (first | ((with_reducible refine gate_store (t := 24) (p := 2) rfl ?_); refine store_all ?hg 24 2 _ rfl rfl gb534 ay_ ay_ BK534.out rfl rfl rfl (by kernel_rfl) rfl ?_; (case hg => rfl); intro w50 hw; replace BK533 := Aside0.mk (sf_ BK533 NB533_534 hw); replace BK534 := Aside0.mk (show w50.heap[gb534]? = some (.cells az_ 24 (0, 0)) from ss_ BK534 hw); replace BK588 := Aside0.mk (sf_ BK588 NB588_534 hw); replace HB := Aside0.mk (sb_ hw); clear hw))
             refine bodyPost_ret (results_ct rfl _ _ gb534 24 az_ (0, 0) _ rfl bk_ Tryd.underlying24 rfl (by kernel_rfl)) rfl ?_
             exact ⟨rq_, bg_⟩
            ·rw [if_neg c39] at H
             have c39b0 : (t571 == t589 && ((t572 == t590 && (t573 == t591 && (t574 == t592 && (t575 == t593 && (t576 == t594 && (t577 == t595 && (t578 == t596 && (t579 == t597 && (t580 == t598 && (t581 == t599 && (t582 == t600 && (t583 == t601 && (t584 == t602 && (t585 == t603 && (t586 == t604 && (t587 == t605)))))))))))))))))) = false := by simpa using c39
             (try (have c39b3 : ¬ (t571 = t589 && ((t572 == t590 && (t573 == t591 && (t574 == t592 && (t575 == t593 && (t576 == t594 && (t577 == t595 && (t578 == t596 && (t579 == t597 && (t580 == t598 && (t581 == t599 && (t582 == t600 && (t583 == t601 && (t584 == t602 && (t585 == t603 && (t586 == t604 && (t587 == t605)))))))))))))))))) := by simpa using c39))
             clear c39
             replace H := Option.bind_eq_some_iff.mp H
             obtain ⟨⟨t606, t607, t608, t609, t610, t611, t612, t613, t614, t615, t616, t617, t618, t619, t620, t621, t622⟩, A510, H⟩ := H
             (try dsimp only at H)
             have A51 := Aside0.mk A510
             clear A510
             by_cases c52 : (t571 == t606 && ((t572 == t607 && (t573 == t608 && (t574 == t609 && (t575 == t610 && (t576 == t611 && (t577 == t612 && (t578 == t613 && (t579 == t614 && (t580 == t615 && (t581 == t616 && (t582 == t617 && (t583 == t618 && (t584 == t619 && (t585 == t620 && (t586 == t621 && (t587 == t622)))))))))))))))))) = true
             ·rw [if_pos c52] at H
              have c52b0 : (t571 == t606 && ((t572 == t607 && (t573 == t608 && (t574 == t609 && (t575 == t610 && (t576 == t611 && (t577 == t612 && (t578 == t613 && (t579 == t614 && (t580 == t615 && (t581 == t616 && (t582 == t617 && (t583 == t618 && (t584 == t619 && (t585 == t620 && (t586 == t621 && (t587 == t622)))))))))))))))))) = true := c52
              clear c52
              simp only [Option.some.injEq, Prod.mk.injEq] at H
              obtain ⟨rfl, rfl, rfl, rfl, rfl, rfl, rfl, rfl, rfl, rfl, rfl, rfl, rfl, rfl, rfl, rfl, rfl, rfl⟩ := H
              try go_wp2_with (first | ((with_reducible refine gate_dst (N := 65) rfl ?_); (try (refine gate_guard (by rfl) ?_; dsimp only)); refine load_box ?hg 24 (.tmp 1) rfl BK533.out [] (al_ true z1 z2 z3 z4 z5 z6 z7 z8 z9 za zb zc zd ze zf zg) [] rfl 0 rfl rfl Tryd.underlying24 rfl (by kernel_rfl) ?_; (case hg => rfl)) | ((with_reducible refine gate_callee (f := 27) rfl ?_); refine goesL_ (some 66) rfl rfl Tryd.func27 (by kernel_rfl) rfl #[.agg (ag_ true z1 z2 z3 z4 z5 z6 z7 z8 z9 za zb zc zd ze zf zg), .int .i64 12] rfl lq_ ?_; (with_reducible refine (lanternref05_Tail.calls kj33 true z1 z2 z3 z4 z5 z6 z7 z8 z9 za zb zc zd ze zf zg 12 t571 t572 t573 t574 t575 t576 t577 t578 t579 t580 t581 t582 t583 t584 t585 t586 t587 _ ?side1 A37.out).mono ?_); (case side1 => exact lg_); rintro e w53 ⟨rfl, hb⟩; refine ⟨_, rfl, ?_⟩; replace BK533 := Aside0.mk (bb_ BK533 hb); replace BK534 := Aside0.mk (bb_ BK534 hb); replace HB := Aside0.mk (below_step bg_ hb); (try clear hb); (try clear hb2); (try clear hk); (try clear hi)) | ((with_reducible refine gate_dst (N := 7) rfl ?_); refine bx_ 7 az_ 24 ?_; intro gb588 hg w54 hbox hb; have n0_ := Aside0.mk (bb_ BK533 hb); have n1_ := Aside0.mk (bb_ BK534 hb); have n2_ := Aside0.mk (below_step bg_ hb); have n3_ := Aside0.mk (hbox); have n4_ := Aside0.mk (gg_ (w := w) hg); have n5_ := Aside0.mk (gg_ (w := w) hg); have n6_ := Aside0.mk (nl_ BK533 hg); have n7_ := Aside0.mk (ng_ BK533 hg); have n8_ := Aside0.mk (nl_ BK534 hg); have n9_ := Aside0.mk (ng_ BK534 hg); clear BK533; clear BK534; clear HB; have BK533 := n0_; have BK534 := n1_; have HB := n2_; have BK588 := n3_; have GW588 := n4_; have GE588 := n5_; have NB533_588 := n6_; have NB588_533 := n7_; have NB534_588 := n8_; have NB588_534 := n9_; clear n0_ n1_ n2_ n3_ n4_ n5_ n6_ n7_ n8_ n9_; clear hb hbox hg; have hnb55 := NB588_533.out; have hnc55 := NB533_588.out; have hnb56 := NB588_534.out; have hnc56 := NB534_588.out; obtain ⟨hcz57_0, hcz57_1, hcz57_2, hcz57_3, hcz57_4, hcz57_5, hcz57_6, hcz57_7, hcz57_8, hcz57_9, hcz57_10, hcz57_11, hcz57_12, hcz57_13, hcz57_14, hcz57_15, hcz57_16⟩ := c17_ BK588) | ((with_reducible refine gate_store (t := 24) (p := 7) rfl ?_); refine store_all ?hg 24 7 _ rfl rfl gb588 ay_ (al_ t571 t572 t573 t574 t575 t576 t577 t578 t579 t580 t581 t582 t583 t584 t585 t586 t587) BK588.out rfl rfl rfl (by kernel_rfl) rfl ?_; (case hg => rfl); intro w58 hw; replace BK533 := Aside0.mk (sf_ BK533 NB533_588 hw); replace BK534 := Aside0.mk (sf_ BK534 NB534_588 hw); replace BK588 := Aside0.mk (show w58.heap[gb588]? = some (.cells (ag_ t571 t572 t573 t574 t575 t576 t577 t578 t579 t580 t581 t582 t583 t584 t585 t586 t587) 24 (0, 0)) from ss_ BK588 hw); replace HB := Aside0.mk (sb_ hw); clear hw))
              replace BK533 := Aside0.mk (blk_drew BK533.out)
              replace BK534 := Aside0.mk (blk_drew BK534.out)
              replace BK588 := Aside0.mk (blk_drew BK588.out)
              replace HB := Aside0.mk (below_drew1 HB.out)
              refine start_ (n := 8) (S := fun w' => (Instr.loadAt 24 (.pointer (some ⟨gb588, 0, none⟩))).run Tryd.prog w' = .ok (.agg (ag_ t571 t572 t573 t574 t575 t576 t577 t578 t579 t580 t581 t582 t583 t584 t585 t586 t587)) w' ∧ (Instr.loadAt 24 (.pointer (some ⟨gb588, 0, none⟩))).run Tryd.prog w' = .ok (.agg (ag_ t571 t572 t573 t574 t575 t576 t577 t578 t579 t580 t581 t582 t583 t584 t585 t586 t587)) w') (ds := []) (bv_ 0 8) (by kernel_rfl) rfl rfl ⟨(run_load_box BK588.out 24 [] (al_ t571 t572 t573 t574 t575 t576 t577 t578 t579 t580 t581 t582 t583 t584 t585 t586 t587) [] rfl 0 rfl Tryd.underlying24 rfl (by kernel_rfl)), (run_load_box BK588.out 24 [] (al_ t571 t572 t573 t574 t575 t576 t577 t578 t579 t580 t581 t582 t583 t584 t585 t586 t587) [] rfl 0 rfl Tryd.underlying24 rfl (by kernel_rfl))⟩ (fun hHeld => ?_); refine with_tabW lanternref05_Embeds.tab15 lanternref05_Embeds.bits15 (fun HT_ HW_ => ?_)
              generalize w58.drew = w59 at BK533 BK534 BK588 HB hHeld ⊢
              refine tl_ 0 67 ?_ 1 7 HT_ HW_ ?_ hHeld ?_ ?_ ?_
              rotate_left
              ·rintro w' ⟨s0, s1⟩
               first | (refine (load_exec rfl rfl s0).trans ?_; with_reducible rfl) | (refine (load_exec rfl rfl s1).trans ?_; with_reducible rfl) | (go_simp; with_reducible rfl)
              rotate_left
              ·simp only [Act.put, sa_, s0_, s1_, i64_w, i32_w]
               rfl
              refine one_ (i := 1) (N := some 68) (bv_ 2 6) rfl rfl (one_of HT_.out (by kernel_rfl)) (by decide) (fun K hK => ?_)
              refine goes_ Tryd.func31 (by kernel_rfl) rfl #[.int .u64 0] (by rfl) rfl rfl lq_ ?_
              with_reducible refine (lanternref05_V4.calls kj33 0 t589 t590 t591 t592 t593 t594 t595 t596 t597 t598 t599 t600 t601 t602 t603 t604 t605 _ ?side1 A38.out).mono ?_
              (case side1 => exact lg_)
              rintro e w60 ⟨rfl, hb⟩
              refine ⟨_, rfl, ?_⟩
              replace BK533 := Aside0.mk (bb_ BK533 hb)
              replace BK534 := Aside0.mk (bb_ BK534 hb)
              replace BK588 := Aside0.mk (bb_ BK588 hb)
              replace HB := Aside0.mk (below_step bg_ hb)
              (try clear hb)
              (try clear hb2)
              (try clear hk)
              (try clear hi)
              refine hK.out _ _ ⟨(run_load_box BK588.out 24 [] (al_ t571 t572 t573 t574 t575 t576 t577 t578 t579 t580 t581 t582 t583 t584 t585 t586 t587) [] rfl 0 rfl Tryd.underlying24 rfl (by kernel_rfl)), (run_load_box BK588.out 24 [] (al_ t571 t572 t573 t574 t575 t576 t577 t578 t579 t580 t581 t582 t583 t584 t585 t586 t587) [] rfl 0 rfl Tryd.underlying24 rfl (by kernel_rfl))⟩ (fun hHeld => ?_)
              clear hK K
              refine norm_ (a' := ?_) ?_ ?_
              rotate_left
              ·show Act.put _ (some 68) _ = _
               simp only [Act.put, sa_, s0_, s1_, i64_w, i32_w]
               rfl
              refine pl_ 2 69 ?_ 3 5 HT_ ?_ ?_ ?_ ?_
              rotate_left
              ·intro w'
               go_simp
               with_reducible rfl
              rotate_left
              ·simp only [Act.put, sa_, s0_, s1_, i64_w, i32_w]
               rfl
              refine pl_ 3 70 ?_ 4 4 HT_ ?_ ?_ ?_ ?_
              rotate_left
              ·intro w'
               go_simp
               with_reducible rfl
              rotate_left
              ·simp only [Act.put, sa_, s0_, s1_, i64_w, i32_w]
               rfl
              refine tl_ 4 71 ?_ 5 3 HT_ HW_ ?_ hHeld ?_ ?_ ?_
              rotate_left
              ·rintro w' ⟨s0, s1⟩
               first | (refine (load_exec rfl rfl s0).trans ?_; with_reducible rfl) | (refine (load_exec rfl rfl s1).trans ?_; with_reducible rfl) | (go_simp; with_reducible rfl)
              rotate_left
              ·simp only [Act.put, sa_, s0_, s1_, i64_w, i32_w]
               rfl
              refine one_ (i := 5) (N := some 72) (bv_ 6 2) rfl rfl (one_of HT_.out (by kernel_rfl)) (by decide) (fun K hK => ?_)
              refine goes_ Tryd.func31 (by kernel_rfl) rfl #[.int .u64 1] (by rfl) rfl rfl lq_ ?_
              with_reducible refine (lanternref05_V4.calls kj33 1 t606 t607 t608 t609 t610 t611 t612 t613 t614 t615 t616 t617 t618 t619 t620 t621 t622 _ ?side1 A51.out).mono ?_
              (case side1 => exact lg_)
              rintro e w61 ⟨rfl, hb⟩
              refine ⟨_, rfl, ?_⟩
              replace BK533 := Aside0.mk (bb_ BK533 hb)
              replace BK534 := Aside0.mk (bb_ BK534 hb)
              replace BK588 := Aside0.mk (bb_ BK588 hb)
              replace HB := Aside0.mk (below_step bg_ hb)
              (try clear hb)
              (try clear hb2)
              (try clear hk)
              (try clear hi)
              refine hK.out _ _ ⟨(run_load_box BK588.out 24 [] (al_ t571 t572 t573 t574 t575 t576 t577 t578 t579 t580 t581 t582 t583 t584 t585 t586 t587) [] rfl 0 rfl Tryd.underlying24 rfl (by kernel_rfl)), (run_load_box BK588.out 24 [] (al_ t571 t572 t573 t574 t575 t576 t577 t578 t579 t580 t581 t582 t583 t584 t585 t586 t587) [] rfl 0 rfl Tryd.underlying24 rfl (by kernel_rfl))⟩ (fun hHeld => ?_)
              clear hK K
              refine norm_ (a' := ?_) ?_ ?_
              rotate_left
              ·show Act.put _ (some 72) _ = _
               simp only [Act.put, sa_, s0_, s1_, i64_w, i32_w]
               rfl
              refine pl_ 6 73 ?_ 7 1 HT_ ?_ ?_ ?_ ?_
              rotate_left
              ·intro w'
               go_simp
               with_reducible rfl
              rotate_left
              ·simp only [Act.put, sa_, s0_, s1_, i64_w, i32_w]
               rfl
              refine pl_ 7 74 ?_ 8 0 HT_ ?_ ?_ ?_ ?_
              rotate_left
              ·intro w'
               go_simp
               with_reducible rfl
              rotate_left
              ·simp only [Act.put, sa_, s0_, s1_, i64_w, i32_w]
               rfl
              refine done_ (done_of HT_.out (by kernel_rfl)) ?_
              have hnb62 := NB534_533.out
              have hnc62 := NB533_534.out
              obtain ⟨hcz63_0, hcz63_1, hcz63_2, hcz63_3, hcz63_4, hcz63_5, hcz63_6, hcz63_7, hcz63_8, hcz63_9, hcz63_10, hcz63_11, hcz63_12, hcz63_13, hcz63_14, hcz63_15, hcz63_16⟩ := c17_ BK534
              try go_wp2_with (first | ((with_reducible refine gate_store (t := 24) (p := 2) rfl ?_); refine store_all ?hg 24 2 _ rfl rfl gb534 ay_ ay_ BK534.out rfl rfl rfl (by kernel_rfl) rfl ?_; (case hg => rfl); intro w64 hw; replace BK533 := Aside0.mk (sf_ BK533 NB533_534 hw); replace BK534 := Aside0.mk (show w64.heap[gb534]? = some (.cells az_ 24 (0, 0)) from ss_ BK534 hw); replace BK588 := Aside0.mk (sf_ BK588 NB588_534 hw); replace HB := Aside0.mk (sb_ hw); clear hw))
              refine bodyPost_ret (results_ct rfl _ _ gb534 24 az_ (0, 0) _ rfl bk_ Tryd.underlying24 rfl (by kernel_rfl)) rfl ?_
              exact ⟨rq_, bg_⟩
             ·rw [if_neg c52] at H
              have c52b0 : (t571 == t606 && ((t572 == t607 && (t573 == t608 && (t574 == t609 && (t575 == t610 && (t576 == t611 && (t577 == t612 && (t578 == t613 && (t579 == t614 && (t580 == t615 && (t581 == t616 && (t582 == t617 && (t583 == t618 && (t584 == t619 && (t585 == t620 && (t586 == t621 && (t587 == t622)))))))))))))))))) = false := by simpa using c52
              (try (have c52b3 : ¬ (t571 = t606 && ((t572 == t607 && (t573 == t608 && (t574 == t609 && (t575 == t610 && (t576 == t611 && (t577 == t612 && (t578 == t613 && (t579 == t614 && (t580 == t615 && (t581 == t616 && (t582 == t617 && (t583 == t618 && (t584 == t619 && (t585 == t620 && (t586 == t621 && (t587 == t622)))))))))))))))))) := by simpa using c52))
              clear c52
              simp only [Option.some.injEq, Prod.mk.injEq] at H
              obtain ⟨rfl, rfl, rfl, rfl, rfl, rfl, rfl, rfl, rfl, rfl, rfl, rfl, rfl, rfl, rfl, rfl, rfl, rfl⟩ := H
              try go_wp2_with (first | ((with_reducible refine gate_dst (N := 65) rfl ?_); (try (refine gate_guard (by rfl) ?_; dsimp only)); refine load_box ?hg 24 (.tmp 1) rfl BK533.out [] (al_ true z1 z2 z3 z4 z5 z6 z7 z8 z9 za zb zc zd ze zf zg) [] rfl 0 rfl rfl Tryd.underlying24 rfl (by kernel_rfl) ?_; (case hg => rfl)) | ((with_reducible refine gate_callee (f := 27) rfl ?_); refine goesL_ (some 66) rfl rfl Tryd.func27 (by kernel_rfl) rfl #[.agg (ag_ true z1 z2 z3 z4 z5 z6 z7 z8 z9 za zb zc zd ze zf zg), .int .i64 12] rfl lq_ ?_; (with_reducible refine (lanternref05_Tail.calls kj33 true z1 z2 z3 z4 z5 z6 z7 z8 z9 za zb zc zd ze zf zg 12 t571 t572 t573 t574 t575 t576 t577 t578 t579 t580 t581 t582 t583 t584 t585 t586 t587 _ ?side1 A37.out).mono ?_); (case side1 => exact lg_); rintro e w65 ⟨rfl, hb⟩; refine ⟨_, rfl, ?_⟩; replace BK533 := Aside0.mk (bb_ BK533 hb); replace BK534 := Aside0.mk (bb_ BK534 hb); replace HB := Aside0.mk (below_step bg_ hb); (try clear hb); (try clear hb2); (try clear hk); (try clear hi)) | ((with_reducible refine gate_dst (N := 7) rfl ?_); refine bx_ 7 az_ 24 ?_; intro gb588 hg w66 hbox hb; have n0_ := Aside0.mk (bb_ BK533 hb); have n1_ := Aside0.mk (bb_ BK534 hb); have n2_ := Aside0.mk (below_step bg_ hb); have n3_ := Aside0.mk (hbox); have n4_ := Aside0.mk (gg_ (w := w) hg); have n5_ := Aside0.mk (gg_ (w := w) hg); have n6_ := Aside0.mk (nl_ BK533 hg); have n7_ := Aside0.mk (ng_ BK533 hg); have n8_ := Aside0.mk (nl_ BK534 hg); have n9_ := Aside0.mk (ng_ BK534 hg); clear BK533; clear BK534; clear HB; have BK533 := n0_; have BK534 := n1_; have HB := n2_; have BK588 := n3_; have GW588 := n4_; have GE588 := n5_; have NB533_588 := n6_; have NB588_533 := n7_; have NB534_588 := n8_; have NB588_534 := n9_; clear n0_ n1_ n2_ n3_ n4_ n5_ n6_ n7_ n8_ n9_; clear hb hbox hg; have hnb67 := NB588_533.out; have hnc67 := NB533_588.out; have hnb68 := NB588_534.out; have hnc68 := NB534_588.out; obtain ⟨hcz69_0, hcz69_1, hcz69_2, hcz69_3, hcz69_4, hcz69_5, hcz69_6, hcz69_7, hcz69_8, hcz69_9, hcz69_10, hcz69_11, hcz69_12, hcz69_13, hcz69_14, hcz69_15, hcz69_16⟩ := c17_ BK588) | ((with_reducible refine gate_store (t := 24) (p := 7) rfl ?_); refine store_all ?hg 24 7 _ rfl rfl gb588 ay_ (al_ t571 t572 t573 t574 t575 t576 t577 t578 t579 t580 t581 t582 t583 t584 t585 t586 t587) BK588.out rfl rfl rfl (by kernel_rfl) rfl ?_; (case hg => rfl); intro w70 hw; replace BK533 := Aside0.mk (sf_ BK533 NB533_588 hw); replace BK534 := Aside0.mk (sf_ BK534 NB534_588 hw); replace BK588 := Aside0.mk (show w70.heap[gb588]? = some (.cells (ag_ t571 t572 t573 t574 t575 t576 t577 t578 t579 t580 t581 t582 t583 t584 t585 t586 t587) 24 (0, 0)) from ss_ BK588 hw); replace HB := Aside0.mk (sb_ hw); clear hw))
              replace BK533 := Aside0.mk (blk_drew BK533.out)
              replace BK534 := Aside0.mk (blk_drew BK534.out)
              replace BK588 := Aside0.mk (blk_drew BK588.out)
              replace HB := Aside0.mk (below_drew1 HB.out)
              refine start_ (n := 8) (S := fun w' => (Instr.loadAt 24 (.pointer (some ⟨gb588, 0, none⟩))).run Tryd.prog w' = .ok (.agg (ag_ t571 t572 t573 t574 t575 t576 t577 t578 t579 t580 t581 t582 t583 t584 t585 t586 t587)) w' ∧ (Instr.loadAt 24 (.pointer (some ⟨gb588, 0, none⟩))).run Tryd.prog w' = .ok (.agg (ag_ t571 t572 t573 t574 t575 t576 t577 t578 t579 t580 t581 t582 t583 t584 t585 t586 t587)) w') (ds := []) (bv_ 0 8) (by kernel_rfl) rfl rfl ⟨(run_load_box BK588.out 24 [] (al_ t571 t572 t573 t574 t575 t576 t577 t578 t579 t580 t581 t582 t583 t584 t585 t586 t587) [] rfl 0 rfl Tryd.underlying24 rfl (by kernel_rfl)), (run_load_box BK588.out 24 [] (al_ t571 t572 t573 t574 t575 t576 t577 t578 t579 t580 t581 t582 t583 t584 t585 t586 t587) [] rfl 0 rfl Tryd.underlying24 rfl (by kernel_rfl))⟩ (fun hHeld => ?_); refine with_tabW lanternref05_Embeds.tab15 lanternref05_Embeds.bits15 (fun HT_ HW_ => ?_)
              generalize w70.drew = w71 at BK533 BK534 BK588 HB hHeld ⊢
              refine tl_ 0 67 ?_ 1 7 HT_ HW_ ?_ hHeld ?_ ?_ ?_
              rotate_left
              ·rintro w' ⟨s0, s1⟩
               first | (refine (load_exec rfl rfl s0).trans ?_; with_reducible rfl) | (refine (load_exec rfl rfl s1).trans ?_; with_reducible rfl) | (go_simp; with_reducible rfl)
              rotate_left
              ·simp only [Act.put, sa_, s0_, s1_, i64_w, i32_w]
               rfl
              refine one_ (i := 1) (N := some 68) (bv_ 2 6) rfl rfl (one_of HT_.out (by kernel_rfl)) (by decide) (fun K hK => ?_)
              refine goes_ Tryd.func31 (by kernel_rfl) rfl #[.int .u64 0] (by rfl) rfl rfl lq_ ?_
              with_reducible refine (lanternref05_V4.calls kj33 0 t589 t590 t591 t592 t593 t594 t595 t596 t597 t598 t599 t600 t601 t602 t603 t604 t605 _ ?side1 A38.out).mono ?_
              (case side1 => exact lg_)
              rintro e w72 ⟨rfl, hb⟩
              refine ⟨_, rfl, ?_⟩
              replace BK533 := Aside0.mk (bb_ BK533 hb)
              replace BK534 := Aside0.mk (bb_ BK534 hb)
              replace BK588 := Aside0.mk (bb_ BK588 hb)
              replace HB := Aside0.mk (below_step bg_ hb)
              (try clear hb)
              (try clear hb2)
              (try clear hk)
              (try clear hi)
              refine hK.out _ _ ⟨(run_load_box BK588.out 24 [] (al_ t571 t572 t573 t574 t575 t576 t577 t578 t579 t580 t581 t582 t583 t584 t585 t586 t587) [] rfl 0 rfl Tryd.underlying24 rfl (by kernel_rfl)), (run_load_box BK588.out 24 [] (al_ t571 t572 t573 t574 t575 t576 t577 t578 t579 t580 t581 t582 t583 t584 t585 t586 t587) [] rfl 0 rfl Tryd.underlying24 rfl (by kernel_rfl))⟩ (fun hHeld => ?_)
              clear hK K
              refine norm_ (a' := ?_) ?_ ?_
              rotate_left
              ·show Act.put _ (some 68) _ = _
               simp only [Act.put, sa_, s0_, s1_, i64_w, i32_w]
               rfl
              refine pl_ 2 69 ?_ 3 5 HT_ ?_ ?_ ?_ ?_
              rotate_left
              ·intro w'
               go_simp
               with_reducible rfl
              rotate_left
              ·simp only [Act.put, sa_, s0_, s1_, i64_w, i32_w]
               rfl
              refine pl_ 3 70 ?_ 4 4 HT_ ?_ ?_ ?_ ?_
              rotate_left
              ·intro w'
               go_simp
               with_reducible rfl
              rotate_left
              ·simp only [Act.put, sa_, s0_, s1_, i64_w, i32_w]
               rfl
              refine tl_ 4 71 ?_ 5 3 HT_ HW_ ?_ hHeld ?_ ?_ ?_
              rotate_left
              ·rintro w' ⟨s0, s1⟩
               first | (refine (load_exec rfl rfl s0).trans ?_; with_reducible rfl) | (refine (load_exec rfl rfl s1).trans ?_; with_reducible rfl) | (go_simp; with_reducible rfl)
              rotate_left
              ·simp only [Act.put, sa_, s0_, s1_, i64_w, i32_w]
               rfl
              refine one_ (i := 5) (N := some 72) (bv_ 6 2) rfl rfl (one_of HT_.out (by kernel_rfl)) (by decide) (fun K hK => ?_)
              refine goes_ Tryd.func31 (by kernel_rfl) rfl #[.int .u64 1] (by rfl) rfl rfl lq_ ?_
              with_reducible refine (lanternref05_V4.calls kj33 1 t606 t607 t608 t609 t610 t611 t612 t613 t614 t615 t616 t617 t618 t619 t620 t621 t622 _ ?side1 A51.out).mono ?_
              (case side1 => exact lg_)
              rintro e w73 ⟨rfl, hb⟩
              refine ⟨_, rfl, ?_⟩
              replace BK533 := Aside0.mk (bb_ BK533 hb)
              replace BK534 := Aside0.mk (bb_ BK534 hb)
              replace BK588 := Aside0.mk (bb_ BK588 hb)
              replace HB := Aside0.mk (below_step bg_ hb)
              (try clear hb)
              (try clear hb2)
              (try clear hk)
              (try clear hi)
              refine hK.out _ _ ⟨(run_load_box BK588.out 24 [] (al_ t571 t572 t573 t574 t575 t576 t577 t578 t579 t580 t581 t582 t583 t584 t585 t586 t587) [] rfl 0 rfl Tryd.underlying24 rfl (by kernel_rfl)), (run_load_box BK588.out 24 [] (al_ t571 t572 t573 t574 t575 t576 t577 t578 t579 t580 t581 t582 t583 t584 t585 t586 t587) [] rfl 0 rfl Tryd.underlying24 rfl (by kernel_rfl))⟩ (fun hHeld => ?_)
              clear hK K
              refine norm_ (a' := ?_) ?_ ?_
              rotate_left
              ·show Act.put _ (some 72) _ = _
               simp only [Act.put, sa_, s0_, s1_, i64_w, i32_w]
               rfl
              refine pl_ 6 73 ?_ 7 1 HT_ ?_ ?_ ?_ ?_
              rotate_left
              ·intro w'
               go_simp
               with_reducible rfl
              rotate_left
              ·simp only [Act.put, sa_, s0_, s1_, i64_w, i32_w]
               rfl
              refine pl_ 7 74 ?_ 8 0 HT_ ?_ ?_ ?_ ?_
              rotate_left
              ·intro w'
               go_simp
               with_reducible rfl
              rotate_left
              ·simp only [Act.put, sa_, s0_, s1_, i64_w, i32_w]
               rfl
              refine done_ (done_of HT_.out (by kernel_rfl)) ?_
              have hnb74 := NB534_533.out
              have hnc74 := NB533_534.out
              obtain ⟨hcz75_0, hcz75_1, hcz75_2, hcz75_3, hcz75_4, hcz75_5, hcz75_6, hcz75_7, hcz75_8, hcz75_9, hcz75_10, hcz75_11, hcz75_12, hcz75_13, hcz75_14, hcz75_15, hcz75_16⟩ := c17_ BK534
              try go_wp2_with (first | ((with_reducible refine gate_dst (N := 76) rfl ?_); (try (refine gate_guard (by rfl) ?_; dsimp only)); refine load_box ?hg 24 (.tmp 7) rfl BK588.out [] (al_ t571 t572 t573 t574 t575 t576 t577 t578 t579 t580 t581 t582 t583 t584 t585 t586 t587) [] rfl 0 rfl rfl Tryd.underlying24 rfl (by kernel_rfl) ?_; (case hg => rfl)) | ((with_reducible refine gate_store (t := 24) (p := 2) rfl ?_); refine store_all ?hg 24 2 _ rfl rfl gb534 ay_ (al_ t571 t572 t573 t574 t575 t576 t577 t578 t579 t580 t581 t582 t583 t584 t585 t586 t587) BK534.out rfl rfl rfl (by kernel_rfl) rfl ?_; (case hg => rfl); intro w76 hw; replace BK533 := Aside0.mk (sf_ BK533 NB533_534 hw); replace BK534 := Aside0.mk (show w76.heap[gb534]? = some (.cells (ag_ t571 t572 t573 t574 t575 t576 t577 t578 t579 t580 t581 t582 t583 t584 t585 t586 t587) 24 (0, 0)) from ss_ BK534 hw); replace BK588 := Aside0.mk (sf_ BK588 NB588_534 hw); replace HB := Aside0.mk (sb_ hw); clear hw))
              refine bodyPost_ret (results_ct rfl _ _ gb534 24 (ag_ t571 t572 t573 t574 t575 t576 t577 t578 t579 t580 t581 t582 t583 t584 t585 t586 t587) (0, 0) _ rfl bk_ Tryd.underlying24 rfl (by kernel_rfl)) rfl ?_
              exact ⟨rq_, bg_⟩
           ·replace c36 := Bool.eq_false_iff.mpr c36
            subst c36
            replace H := ifF_ H
            by_cases c77 : (wrap64 (Int.tdiv (wrap64 ((wrap64 ((wrap64 ((wrap64 ((wrap64 (z1)) * 16777216)) + (wrap64 ((wrap64 (z2)) * 65536)))) + (wrap64 ((wrap64 (z3)) * 256)))) + (wrap64 (z4)))) 65536)) = 8194
            ·rw [if_pos c77] at H
             have c77b0 := beq_iff_eq.mpr c77
             have c77b1 := bne_eq_false_iff_eq.mpr c77
             clear c77
             replace H := Option.bind_eq_some_iff.mp H
             obtain ⟨⟨t623, t624, t625, t626, t627, t628, t629, t630, t631, t632, t633, t634, t635, t636, t637, t638, t639⟩, A780, H⟩ := H
             (try dsimp only at H)
             have A78 := Aside0.mk A780
             clear A780
             simp only [Option.some.injEq, Prod.mk.injEq] at H
             obtain ⟨rfl, rfl, rfl, rfl, rfl, rfl, rfl, rfl, rfl, rfl, rfl, rfl, rfl, rfl, rfl, rfl, rfl, rfl⟩ := H
             go_wp2_with (first | ((with_reducible refine gate_dst (N := 81) rfl ?_); (try (refine gate_guard (by rfl) ?_; dsimp only)); refine load_box ?hg 24 (.tmp 1) rfl BK533.out [] (al_ true z1 z2 z3 z4 z5 z6 z7 z8 z9 za zb zc zd ze zf zg) [] rfl 0 rfl rfl Tryd.underlying24 rfl (by kernel_rfl) ?_; (case hg => rfl)) | ((with_reducible refine gate_callee (f := 27) rfl ?_); refine goesL_ (some 82) rfl rfl Tryd.func27 (by kernel_rfl) rfl #[.agg (ag_ true z1 z2 z3 z4 z5 z6 z7 z8 z9 za zb zc zd ze zf zg), .int .i64 2] rfl lq_ ?_; (with_reducible refine (lanternref05_Tail.calls kj33 true z1 z2 z3 z4 z5 z6 z7 z8 z9 za zb zc zd ze zf zg 2 t623 t624 t625 t626 t627 t628 t629 t630 t631 t632 t633 t634 t635 t636 t637 t638 t639 _ ?side1 A78.out).mono ?_); (case side1 => exact lg_); rintro e w79 ⟨rfl, hb⟩; refine ⟨_, rfl, ?_⟩; replace BK533 := Aside0.mk (bb_ BK533 hb); replace BK534 := Aside0.mk (bb_ BK534 hb); replace HB := Aside0.mk (below_step bg_ hb); (try clear hb); (try clear hb2); (try clear hk); (try clear hi); have hnb80 := NB534_533.out; have hnc80 := NB533_534.out; obtain ⟨hcz81_0, hcz81_1, hcz81_2, hcz81_3, hcz81_4, hcz81_5, hcz81_6, hcz81_7, hcz81_8, hcz81_9, hcz81_10, hcz81_11, hcz81_12, hcz81_13, hcz81_14, hcz81_15, hcz81_16⟩ := c17_ BK534) | ((with_reducible refine gate_store (t := 24) (p := 2) rfl ?_); refine store_all ?hg 24 2 _ rfl rfl gb534 ay_ (al_ t623 t624 t625 t626 t627 t628 t629 t630 t631 t632 t633 t634 t635 t636 t637 t638 t639) BK534.out rfl rfl rfl (by kernel_rfl) rfl ?_; (case hg => rfl); intro w82 hw; replace BK533 := Aside0.mk (sf_ BK533 NB533_534 hw); replace BK534 := Aside0.mk (show w82.heap[gb534]? = some (.cells (ag_ t623 t624 t625 t626 t627 t628 t629 t630 t631 t632 t633 t634 t635 t636 t637 t638 t639) 24 (0, 0)) from ss_ BK534 hw); replace HB := Aside0.mk (sb_ hw); clear hw))
             refine bodyPost_ret (results_ct rfl _ _ gb534 24 (ag_ t623 t624 t625 t626 t627 t628 t629 t630 t631 t632 t633 t634 t635 t636 t637 t638 t639) (0, 0) _ rfl bk_ Tryd.underlying24 rfl (by kernel_rfl)) rfl ?_
             exact ⟨rq_, bg_⟩
            ·rw [if_neg c77] at H
             have c77b0 := beq_eq_false_iff_ne.mpr c77
             have c77b1 := bne_iff_ne.mpr c77
             simp only [Option.some.injEq, Prod.mk.injEq] at H
             obtain ⟨rfl, rfl, rfl, rfl, rfl, rfl, rfl, rfl, rfl, rfl, rfl, rfl, rfl, rfl, rfl, rfl, rfl, rfl⟩ := H
             have hnb83 := NB534_533.out
             have hnc83 := NB533_534.out
             obtain ⟨hcz84_0, hcz84_1, hcz84_2, hcz84_3, hcz84_4, hcz84_5, hcz84_6, hcz84_7, hcz84_8, hcz84_9, hcz84_10, hcz84_11, hcz84_12, hcz84_13, hcz84_14, hcz84_15, hcz84_16⟩ := c17_ BK534
             go_wp2_with (first | ((with_reducible refine gate_store (t := 24) (p := 2) rfl ?_); refine store_all ?hg 24 2 _ rfl rfl gb534 ay_ ay_ BK534.out rfl rfl rfl (by kernel_rfl) rfl ?_; (case hg => rfl); intro w85 hw; replace BK533 := Aside0.mk (sf_ BK533 NB533_534 hw); replace BK534 := Aside0.mk (show w85.heap[gb534]? = some (.cells az_ 24 (0, 0)) from ss_ BK534 hw); replace HB := Aside0.mk (sb_ hw); clear hw))
             refine bodyPost_ret (results_ct rfl _ _ gb534 24 az_ (0, 0) _ rfl bk_ Tryd.underlying24 rfl (by kernel_rfl)) rfl ?_
             exact ⟨rq_, bg_⟩
 ·replace c2 := Bool.eq_false_iff.mpr c2
  subst c2
  replace H := ifF_ H
  simp only [Option.some.injEq, Prod.mk.injEq] at H
  obtain ⟨rfl, rfl, rfl, rfl, rfl, rfl, rfl, rfl, rfl, rfl, rfl, rfl, rfl, rfl, rfl, rfl, rfl, rfl⟩ := H
  go_enter Tryd.func13, Tryd.ntmps13
  go_wp2_with (first | ((with_reducible refine gate_dst (N := 1) rfl ?_); refine bx_ 1 (ag_ false z1 z2 z3 z4 z5 z6 z7 z8 z9 za zb zc zd ze zf zg) 24 ?_; intro gb533 hg w86 hbox hb; have BK533 := Aside0.mk (hbox); have GW533 := Aside0.mk (ge_ (w := w) hg); have GE533 := Aside0.mk (ge_ (w := w) hg); replace HB := Aside0.mk (below_step bq_ hb); clear hb hbox hg) | ((with_reducible refine gate_dst (N := 2) rfl ?_); refine bx_ 2 az_ 24 ?_; intro gb534 hg w87 hbox hb; have n0_ := Aside0.mk (bb_ BK533 hb); have n1_ := Aside0.mk (below_step bg_ hb); have n2_ := Aside0.mk (hbox); have n3_ := Aside0.mk (gg_ (w := w) hg); have n4_ := Aside0.mk (gg_ (w := w) hg); have n5_ := Aside0.mk (nl_ BK533 hg); have n6_ := Aside0.mk (ng_ BK533 hg); clear BK533; clear HB; have BK533 := n0_; have HB := n1_; have BK534 := n2_; have GW534 := n3_; have GE534 := n4_; have NB533_534 := n5_; have NB534_533 := n6_; clear n0_ n1_ n2_ n3_ n4_ n5_ n6_; clear hb hbox hg; have hnb88 := NB533_534.out; have hnc88 := NB534_533.out; obtain ⟨hcz89_0, hcz89_1, hcz89_2, hcz89_3, hcz89_4, hcz89_5, hcz89_6, hcz89_7, hcz89_8, hcz89_9, hcz89_10, hcz89_11, hcz89_12, hcz89_13, hcz89_14, hcz89_15, hcz89_16⟩ := c17_ BK533; obtain ⟨hcz90_0, hcz90_1, hcz90_2, hcz90_3, hcz90_4, hcz90_5, hcz90_6, hcz90_7, hcz90_8, hcz90_9, hcz90_10, hcz90_11, hcz90_12, hcz90_13, hcz90_14, hcz90_15, hcz90_16⟩ := c17_ BK534) | ((with_reducible refine gate_store (t := 24) (p := 2) rfl ?_); refine store_all ?hg 24 2 _ rfl rfl gb534 ay_ ay_ BK534.out rfl rfl rfl (by kernel_rfl) rfl ?_; (case hg => rfl); intro w91 hw; replace BK533 := Aside0.mk (sf_ BK533 NB533_534 hw); replace BK534 := Aside0.mk (show w91.heap[gb534]? = some (.cells az_ 24 (0, 0)) from ss_ BK534 hw); replace HB := Aside0.mk (sb_ hw); clear hw))
  refine bodyPost_ret (results_ct rfl _ _ gb534 24 az_ (0, 0) _ rfl bk_ Tryd.underlying24 rfl (by kernel_rfl)) rfl ?_
  exact ⟨rq_, bg_⟩

end Go.Proofs.YtdopafhppaalfaaDoor.P
