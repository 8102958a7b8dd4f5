-- Written by a program of this session (wip/gen/lprint.py over the kit's print.py) out of the translation. Lean checks it.
import Derived.Test.YtfiefecjcmcejaaDoorP0
import Derived.Test.YtfiefecjcmcejaaDoorP1
import Derived.Test.YtfiefecjcmcejaaDoorP3
import Derived.Test.YtfiefecjcmcejaaDoorP5
import Derived.Test.YtfiefecjcmcejaaDoorP7
import Derived.Test.YtfiefecjcmcejaaDoorP10
namespace Go.Proofs.YtfiefecjcmcejaaDoor.P
open Go.Proofs.YtfiefecjcmcejaaDoor.E Go.Proofs.YtfiefecjcmcejaaDoorV
open Go.RowKit Go.Proofs.YtfiefecjcmcejaaDoorW.PrintWords Go.Proofs.YtfiefecjcmcejaaDoorW.PrintLast Go.Proofs.YtfiefecjcmcejaaDoorW.PrintMore
attribute [local go_sem] max2_int min2_int max_two min_two max_three min_three max_four min_four   -- for this text's walks alone
set_option linter.unusedVariables false
set_option linter.unusedSimpArgs false

attribute [local go_sem high] eqA25
def lanternlaw05_IpLooses.f (k : Nat) (a0 : ByteArray) : Option (Bool) := if (a0.size : Int) > 300 then ((lanternlaw05_awake.f k).bind fun t364 => (some t364)) else ((ip_Loose.f k a0).bind fun bt365 => ((lanternref05_Loose.f k a0).bind fun bt384 => (if bt384.2.2.2.2.2.2.2.2.2.2.2.2.2.2.2.2.2 = true then ((ip_Parse.f k a0).bind fun bt403 => (if bt365.2.2.2.2.2.2.2.2.2.2.2.2.2.2.2.2.2 = 0 then (if (bt365.1 == bt384.1 && ((bt365.2.1 == bt384.2.1 && (bt365.2.2.1 == bt384.2.2.1 && (bt365.2.2.2.1 == bt384.2.2.2.1 && (bt365.2.2.2.2.1 == bt384.2.2.2.2.1 && (bt365.2.2.2.2.2.1 == bt384.2.2.2.2.2.1 && (bt365.2.2.2.2.2.2.1 == bt384.2.2.2.2.2.2.1 && (bt365.2.2.2.2.2.2.2.1 == bt384.2.2.2.2.2.2.2.1 && (bt365.2.2.2.2.2.2.2.2.1 == bt384.2.2.2.2.2.2.2.2.1 && (bt365.2.2.2.2.2.2.2.2.2.1 == bt384.2.2.2.2.2.2.2.2.2.1 && (bt365.2.2.2.2.2.2.2.2.2.2.1 == bt384.2.2.2.2.2.2.2.2.2.2.1 && (bt365.2.2.2.2.2.2.2.2.2.2.2.1 == bt384.2.2.2.2.2.2.2.2.2.2.2.1 && (bt365.2.2.2.2.2.2.2.2.2.2.2.2.1 == bt384.2.2.2.2.2.2.2.2.2.2.2.2.1 && (bt365.2.2.2.2.2.2.2.2.2.2.2.2.2.1 == bt384.2.2.2.2.2.2.2.2.2.2.2.2.2.1 && (bt365.2.2.2.2.2.2.2.2.2.2.2.2.2.2.1 == bt384.2.2.2.2.2.2.2.2.2.2.2.2.2.2.1 && (bt365.2.2.2.2.2.2.2.2.2.2.2.2.2.2.2.1 == bt384.2.2.2.2.2.2.2.2.2.2.2.2.2.2.2.1 && (bt365.2.2.2.2.2.2.2.2.2.2.2.2.2.2.2.2.1 == bt384.2.2.2.2.2.2.2.2.2.2.2.2.2.2.2.2.1)))))))))))))))))) = true then (if bt403.2.2.2.2.2.2.2.2.2.2.2.2.2.2.2.2.2 = 0 then (if (bt403.1 == bt365.1 && ((bt403.2.1 == bt365.2.1 && (bt403.2.2.1 == bt365.2.2.1 && (bt403.2.2.2.1 == bt365.2.2.2.1 && (bt403.2.2.2.2.1 == bt365.2.2.2.2.1 && (bt403.2.2.2.2.2.1 == bt365.2.2.2.2.2.1 && (bt403.2.2.2.2.2.2.1 == bt365.2.2.2.2.2.2.1 && (bt403.2.2.2.2.2.2.2.1 == bt365.2.2.2.2.2.2.2.1 && (bt403.2.2.2.2.2.2.2.2.1 == bt365.2.2.2.2.2.2.2.2.1 && (bt403.2.2.2.2.2.2.2.2.2.1 == bt365.2.2.2.2.2.2.2.2.2.1 && (bt403.2.2.2.2.2.2.2.2.2.2.1 == bt365.2.2.2.2.2.2.2.2.2.2.1 && (bt403.2.2.2.2.2.2.2.2.2.2.2.1 == bt365.2.2.2.2.2.2.2.2.2.2.2.1 && (bt403.2.2.2.2.2.2.2.2.2.2.2.2.1 == bt365.2.2.2.2.2.2.2.2.2.2.2.2.1 && (bt403.2.2.2.2.2.2.2.2.2.2.2.2.2.1 == bt365.2.2.2.2.2.2.2.2.2.2.2.2.2.1 && (bt403.2.2.2.2.2.2.2.2.2.2.2.2.2.2.1 == bt365.2.2.2.2.2.2.2.2.2.2.2.2.2.2.1 && (bt403.2.2.2.2.2.2.2.2.2.2.2.2.2.2.2.1 == bt365.2.2.2.2.2.2.2.2.2.2.2.2.2.2.2.1 && (bt403.2.2.2.2.2.2.2.2.2.2.2.2.2.2.2.2.1 == bt365.2.2.2.2.2.2.2.2.2.2.2.2.2.2.2.2.1)))))))))))))))))) = true then ((lanternlaw05_awake.f k).bind fun t422 => (some t422)) else (some false)) else ((lanternlaw05_awake.f k).bind fun t423 => (some t423))) else (some false)) else (some false))) else (if bt365.2.2.2.2.2.2.2.2.2.2.2.2.2.2.2.2.2 = 5 then (if (!bt365.1 && ((bt365.2.1 == 0 && (bt365.2.2.1 == 0 && (bt365.2.2.2.1 == 0 && (bt365.2.2.2.2.1 == 0 && (bt365.2.2.2.2.2.1 == 0 && (bt365.2.2.2.2.2.2.1 == 0 && (bt365.2.2.2.2.2.2.2.1 == 0 && (bt365.2.2.2.2.2.2.2.2.1 == 0 && (bt365.2.2.2.2.2.2.2.2.2.1 == 0 && (bt365.2.2.2.2.2.2.2.2.2.2.1 == 0 && (bt365.2.2.2.2.2.2.2.2.2.2.2.1 == 0 && (bt365.2.2.2.2.2.2.2.2.2.2.2.2.1 == 0 && (bt365.2.2.2.2.2.2.2.2.2.2.2.2.2.1 == 0 && (bt365.2.2.2.2.2.2.2.2.2.2.2.2.2.2.1 == 0 && (bt365.2.2.2.2.2.2.2.2.2.2.2.2.2.2.2.1 == 0 && (bt365.2.2.2.2.2.2.2.2.2.2.2.2.2.2.2.2.1 == 0)))))))))))))))))) = true then ((lanternlaw05_awake.f k).bind fun t424 => (some t424)) else (some false)) else (some false)))))
theorem lanternlaw05_IpLooses.mono : ∀ a0 k, LeO (lanternlaw05_IpLooses.f k a0) (lanternlaw05_IpLooses.f (k + 1) a0) := by
 intro a0 k
 unfold lanternlaw05_IpLooses.f
 repeat' first
   | (with_reducible exact ip_Loose.mono _ _)
   | (with_reducible exact ip_Parse.mono _ _)
   | (with_reducible exact lanternlaw05_awake.mono _)
   | (with_reducible exact lanternref05_Loose.mono _ _)
   | (with_reducible exact LeO.refl _)
   | (with_reducible exact LeO.none _)
   | (with_reducible refine LeO.ite ?_ ?_)
   | (with_reducible refine LeO.bind ?_ (fun _ => ?_))
   | exact ip_Loose.mono _ _
   | exact ip_Parse.mono _ _
   | exact lanternlaw05_awake.mono _
   | exact lanternref05_Loose.mono _ _
   | exact LeO.none _
   | refine LeO.ite ?_ ?_
   | refine LeO.bind ?_ (fun _ => ?_)
mutual
def lanternref05_May.l0 : Nat → Int → Bool → Int → Int → Int → Int → Int → Int → Int → Int → Int → Int → Int → Int → Int → Int → Int → Int → Option (Bool)
 | 0, _, _, _, _, _, _, _, _, _, _, _, _, _, _, _, _, _, _ => none
 | k + 1, x3, x426000, x426001, x426002, x426003, x426004, x426005, x426006, x426007, x426008, x426009, x426010, x426011, x426012, x426013, x426014, x426015, x426016 => if x3 < 12 then (lanternref05_May.j1 k x3 (!x426000) x426000 x426001 x426002 x426003 x426004 x426005 x426006 x426007 x426008 x426009 x426010 x426011 x426012 x426013 x426014 x426015 x426016) else (lanternref05_May.j1 k x3 false x426000 x426001 x426002 x426003 x426004 x426005 x426006 x426007 x426008 x426009 x426010 x426011 x426012 x426013 x426014 x426015 x426016)
def lanternref05_May.j1 : Nat → Int → Bool → Bool → Int → Int → Int → Int → Int → Int → Int → Int → Int → Int → Int → Int → Int → Int → Int → Int → Option (Bool)
 | 0, _, _, _, _, _, _, _, _, _, _, _, _, _, _, _, _, _, _, _ => none
 | k + 1, x3, x10, x426000, x426001, x426002, x426003, x426004, x426005, x426006, x426007, x426008, x426009, x426010, x426011, x426012, x426013, x426014, x426015, x426016 => if x10 = true then (if 0 ≤ x3 then (if x3 < 16 then (if (rd [x426001, x426002, x426003, x426004, x426005, x426006, x426007, x426008, x426009, x426010, x426011, x426012, x426013, x426014, x426015, x426016] x3) = 0 then (lanternref05_May.l0 k (wrap64 (x3 + 1)) x426000 x426001 x426002 x426003 x426004 x426005 x426006 x426007 x426008 x426009 x426010 x426011 x426012 x426013 x426014 x426015 x426016) else (some false)) else (none)) else (none)) else (some true)
end
def lanternref05_May.f (k : Nat) (a0_0 : Bool) (a0_1 : Int) (a0_2 : Int) (a0_3 : Int) (a0_4 : Int) (a0_5 : Int) (a0_6 : Int) (a0_7 : Int) (a0_8 : Int) (a0_9 : Int) (a0_10 : Int) (a0_11 : Int) (a0_12 : Int) (a0_13 : Int) (a0_14 : Int) (a0_15 : Int) (a0_16 : Int) : Option (Bool) := lanternref05_May.l0 k 0 a0_0 a0_1 a0_2 a0_3 a0_4 a0_5 a0_6 a0_7 a0_8 a0_9 a0_10 a0_11 a0_12 a0_13 a0_14 a0_15 a0_16
theorem lanternref05_May.mono_l : ∀ k, (∀ y0 y1 y2 y3 y4 y5 y6 y7 y8 y9 y10 y11 y12 y13 y14 y15 y16 y17, LeO (lanternref05_May.l0 k y0 y1 y2 y3 y4 y5 y6 y7 y8 y9 y10 y11 y12 y13 y14 y15 y16 y17) (lanternref05_May.l0 (k + 1) y0 y1 y2 y3 y4 y5 y6 y7 y8 y9 y10 y11 y12 y13 y14 y15 y16 y17)) ∧ (∀ y0 y1 y2 y3 y4 y5 y6 y7 y8 y9 y10 y11 y12 y13 y14 y15 y16 y17 y18, LeO (lanternref05_May.j1 k y0 y1 y2 y3 y4 y5 y6 y7 y8 y9 y10 y11 y12 y13 y14 y15 y16 y17 y18) (lanternref05_May.j1 (k + 1) y0 y1 y2 y3 y4 y5 y6 y7 y8 y9 y10 y11 y12 y13 y14 y15 y16 y17 y18))
 | 0 => ⟨fun _ _ _ _ _ _ _ _ _ _ _ _ _ _ _ _ _ _ r h => by simp [lanternref05_May.l0] at h, fun _ _ _ _ _ _ _ _ _ _ _ _ _ _ _ _ _ _ _ r h => by simp [lanternref05_May.j1] at h⟩
 | k + 1 => by
  obtain ⟨ih0, ih1⟩ := lanternref05_May.mono_l k
  refine ⟨?_, ?_⟩
  ·intro y0 y1 y2 y3 y4 y5 y6 y7 y8 y9 y10 y11 y12 y13 y14 y15 y16 y17
   unfold lanternref05_May.l0
   repeat' first
   | (with_reducible exact ih0 _ _ _ _ _ _ _ _ _ _ _ _ _ _ _ _ _ _)
   | (with_reducible exact ih1 _ _ _ _ _ _ _ _ _ _ _ _ _ _ _ _ _ _ _)
   | (with_reducible exact LeO.refl _)
   | (with_reducible exact LeO.none _)
   | (with_reducible refine LeO.ite ?_ ?_)
   | (with_reducible refine LeO.bind ?_ (fun _ => ?_))
   | exact ih0 _ _ _ _ _ _ _ _ _ _ _ _ _ _ _ _ _ _
   | exact ih1 _ _ _ _ _ _ _ _ _ _ _ _ _ _ _ _ _ _ _
   | exact LeO.none _
   | refine LeO.ite ?_ ?_
   | refine LeO.bind ?_ (fun _ => ?_)
  ·intro y0 y1 y2 y3 y4 y5 y6 y7 y8 y9 y10 y11 y12 y13 y14 y15 y16 y17 y18
   unfold lanternref05_May.j1
   repeat' first
   | (with_reducible exact ih0 _ _ _ _ _ _ _ _ _ _ _ _ _ _ _ _ _ _)
   | (with_reducible exact ih1 _ _ _ _ _ _ _ _ _ _ _ _ _ _ _ _ _ _ _)
   | (with_reducible exact LeO.refl _)
   | (with_reducible exact LeO.none _)
   | (with_reducible refine LeO.ite ?_ ?_)
   | (with_reducible refine LeO.bind ?_ (fun _ => ?_))
   | exact ih0 _ _ _ _ _ _ _ _ _ _ _ _ _ _ _ _ _ _
   | exact ih1 _ _ _ _ _ _ _ _ _ _ _ _ _ _ _ _ _ _ _
   | exact LeO.none _
   | refine LeO.ite ?_ ?_
   | refine LeO.bind ?_ (fun _ => ?_)
theorem lanternref05_May.mono : ∀ a0 a1 a2 a3 a4 a5 a6 a7 a8 a9 a10 a11 a12 a13 a14 a15 a16 k, LeO (lanternref05_May.f k a0 a1 a2 a3 a4 a5 a6 a7 a8 a9 a10 a11 a12 a13 a14 a15 a16) (lanternref05_May.f (k + 1) a0 a1 a2 a3 a4 a5 a6 a7 a8 a9 a10 a11 a12 a13 a14 a15 a16) := by
 intro a0 a1 a2 a3 a4 a5 a6 a7 a8 a9 a10 a11 a12 a13 a14 a15 a16 k
 obtain ⟨ih0, ih1⟩ := lanternref05_May.mono_l k
 unfold lanternref05_May.f
 repeat' first
   | (with_reducible exact ih0 _ _ _ _ _ _ _ _ _ _ _ _ _ _ _ _ _ _)
   | (with_reducible exact ih1 _ _ _ _ _ _ _ _ _ _ _ _ _ _ _ _ _ _ _)
   | (with_reducible exact LeO.refl _)
   | (with_reducible exact LeO.none _)
   | (with_reducible refine LeO.ite ?_ ?_)
   | (with_reducible refine LeO.bind ?_ (fun _ => ?_))
   | exact ih0 _ _ _ _ _ _ _ _ _ _ _ _ _ _ _ _ _ _
   | exact ih1 _ _ _ _ _ _ _ _ _ _ _ _ _ _ _ _ _ _ _
   | exact LeO.none _
   | refine LeO.ite ?_ ?_
   | refine LeO.bind ?_ (fun _ => ?_)
end Go.Proofs.YtfiefecjcmcejaaDoor.P
