-- Written by a program of this session (wip/gen/lprint.py over the kit's print.py) out of the translation. Lean checks it.
import Derived.Test.YtfiefecjcmcejaaDoorP0
import Derived.Test.YtfiefecjcmcejaaDoorP1
import Derived.Test.YtfiefecjcmcejaaDoorP5
import Derived.Test.YtfiefecjcmcejaaDoorP7
namespace Go.Proofs.YtfiefecjcmcejaaDoor.P
open Go.Proofs.YtfiefecjcmcejaaDoor.E Go.Proofs.YtfiefecjcmcejaaDoorV
open Go.RowKit Go.Proofs.YtfiefecjcmcejaaDoorW.PrintWords Go.Proofs.YtfiefecjcmcejaaDoorW.PrintLast Go.Proofs.YtfiefecjcmcejaaDoorW.PrintMore
attribute [local go_sem] max2_int min2_int max_two min_two max_three min_three max_four min_four   -- for this text's walks alone
set_option linter.unusedVariables false
set_option linter.unusedSimpArgs false

attribute [local go_sem high] eqA25
mutual
def lanternref05_Embeds.l0 : Nat → Bool → Int → Bool → Int → Int → Int → Int → Int → Int → Int → Int → Int → Int → Int → Int → Int → Int → Int → Int → Option (Bool × Int × Int × Int × Int × Int × Int × Int × Int × Int × Int × Int × Int × Int × Int × Int × Int × Bool)
 | 0, _, _, _, _, _, _, _, _, _, _, _, _, _, _, _, _, _, _, _ => none
 | k + 1, x4, x5, x433000, x433001, x433002, x433003, x433004, x433005, x433006, x433007, x433008, x433009, x433010, x433011, x433012, x433013, x433014, x433015, x433016 => if x5 < 12 then (if x4 = true then (if 0 ≤ x5 then (if x5 < 16 then (lanternref05_Embeds.l0 k ((rd [x433001, x433002, x433003, x433004, x433005, x433006, x433007, x433008, x433009, x433010, x433011, x433012, x433013, x433014, x433015, x433016] x5) == 0) (wrap64 (x5 + 1)) x433000 x433001 x433002 x433003 x433004 x433005 x433006 x433007 x433008 x433009 x433010 x433011 x433012 x433013 x433014 x433015 x433016) else (none)) else (none)) else (lanternref05_Embeds.l0 k false (wrap64 (x5 + 1)) x433000 x433001 x433002 x433003 x433004 x433005 x433006 x433007 x433008 x433009 x433010 x433011 x433012 x433013 x433014 x433015 x433016)) else ((lanternref05_Mapped.f k x433000 x433001 x433002 x433003 x433004 x433005 x433006 x433007 x433008 x433009 x433010 x433011 x433012 x433013 x433014 x433015 x433016).bind fun t435 => (if t435 = true then ((lanternref05_Tail.f k x433000 x433001 x433002 x433003 x433004 x433005 x433006 x433007 x433008 x433009 x433010 x433011 x433012 x433013 x433014 x433015 x433016 12).bind fun bt436 => (some (bt436.1, bt436.2.1, bt436.2.2.1, bt436.2.2.2.1, bt436.2.2.2.2.1, bt436.2.2.2.2.2.1, bt436.2.2.2.2.2.2.1, bt436.2.2.2.2.2.2.2.1, bt436.2.2.2.2.2.2.2.2.1, bt436.2.2.2.2.2.2.2.2.2.1, bt436.2.2.2.2.2.2.2.2.2.2.1, bt436.2.2.2.2.2.2.2.2.2.2.2.1, bt436.2.2.2.2.2.2.2.2.2.2.2.2.1, bt436.2.2.2.2.2.2.2.2.2.2.2.2.2.1, bt436.2.2.2.2.2.2.2.2.2.2.2.2.2.2.1, bt436.2.2.2.2.2.2.2.2.2.2.2.2.2.2.2.1, bt436.2.2.2.2.2.2.2.2.2.2.2.2.2.2.2.2, true))) else (if x4 = true then (lanternref05_Embeds.j1 k x4 (wrap64 ((wrap64 ((wrap64 ((wrap64 ((wrap64 (x433001)) * 16777216)) + (wrap64 ((wrap64 (x433002)) * 65536)))) + (wrap64 ((wrap64 (x433003)) * 256)))) + (wrap64 (x433004)))) ((wrap64 ((wrap64 ((wrap64 ((wrap64 ((wrap64 (x433001)) * 16777216)) + (wrap64 ((wrap64 (x433002)) * 65536)))) + (wrap64 ((wrap64 (x433003)) * 256)))) + (wrap64 (x433004)))) == 6619035) x433000 x433001 x433002 x433003 x433004 x433005 x433006 x433007 x433008 x433009 x433010 x433011 x433012 x433013 x433014 x433015 x433016) else (lanternref05_Embeds.j1 k x4 (wrap64 ((wrap64 ((wrap64 ((wrap64 ((wrap64 (x433001)) * 16777216)) + (wrap64 ((wrap64 (x433002)) * 65536)))) + (wrap64 ((wrap64 (x433003)) * 256)))) + (wrap64 (x433004)))) false x433000 x433001 x433002 x433003 x433004 x433005 x433006 x433007 x433008 x433009 x433010 x433011 x433012 x433013 x433014 x433015 x433016))))
def lanternref05_Embeds.j1 : Nat → Bool → Int → Bool → Bool → Int → Int → Int → Int → Int → Int → Int → Int → Int → Int → Int → Int → Int → Int → Int → Int → Option (Bool × Int × Int × Int × Int × Int × Int × Int × Int × Int × Int × Int × Int × Int × Int × Int × Int × Bool)
 | 0, _, _, _, _, _, _, _, _, _, _, _, _, _, _, _, _, _, _, _, _ => none
 | k + 1, x4, x6, x51, x433000, x433001, x433002, x433003, x433004, x433005, x433006, x433007, x433008, x433009, x433010, x433011, x433012, x433013, x433014, x433015, x433016 => if x51 = true then ((lanternref05_Tail.f k x433000 x433001 x433002 x433003 x433004 x433005 x433006 x433007 x433008 x433009 x433010 x433011 x433012 x433013 x433014 x433015 x433016 12).bind fun bt453 => (some (bt453.1, bt453.2.1, bt453.2.2.1, bt453.2.2.2.1, bt453.2.2.2.2.1, bt453.2.2.2.2.2.1, bt453.2.2.2.2.2.2.1, bt453.2.2.2.2.2.2.2.1, bt453.2.2.2.2.2.2.2.2.1, bt453.2.2.2.2.2.2.2.2.2.1, bt453.2.2.2.2.2.2.2.2.2.2.1, bt453.2.2.2.2.2.2.2.2.2.2.2.1, bt453.2.2.2.2.2.2.2.2.2.2.2.2.1, bt453.2.2.2.2.2.2.2.2.2.2.2.2.2.1, bt453.2.2.2.2.2.2.2.2.2.2.2.2.2.2.1, bt453.2.2.2.2.2.2.2.2.2.2.2.2.2.2.2.1, bt453.2.2.2.2.2.2.2.2.2.2.2.2.2.2.2.2, true))) else (if x4 = true then (lanternref05_Embeds.j2 k x6 (x6 == 0) x433000 x433001 x433002 x433003 x433004 x433005 x433006 x433007 x433008 x433009 x433010 x433011 x433012 x433013 x433014 x433015 x433016) else (lanternref05_Embeds.j2 k x6 false x433000 x433001 x433002 x433003 x433004 x433005 x433006 x433007 x433008 x433009 x433010 x433011 x433012 x433013 x433014 x433015 x433016))
def lanternref05_Embeds.j2 : Nat → Int → Bool → Bool → Int → Int → Int → Int → Int → Int → Int → Int → Int → Int → Int → Int → Int → Int → Int → Int → Option (Bool × Int × Int × Int × Int × Int × Int × Int × Int × Int × Int × Int × Int × Int × Int × Int × Int × Bool)
 | 0, _, _, _, _, _, _, _, _, _, _, _, _, _, _, _, _, _, _, _ => none
 | k + 1, x6, x59, x433000, x433001, x433002, x433003, x433004, x433005, x433006, x433007, x433008, x433009, x433010, x433011, x433012, x433013, x433014, x433015, x433016 => if x59 = true then ((lanternref05_Tail.f k x433000 x433001 x433002 x433003 x433004 x433005 x433006 x433007 x433008 x433009 x433010 x433011 x433012 x433013 x433014 x433015 x433016 12).bind fun bt470 => ((lanternref05_V4.f k 0).bind fun bt488 => (if (bt470.1 == bt488.1 && ((bt470.2.1 == bt488.2.1 && (bt470.2.2.1 == bt488.2.2.1 && (bt470.2.2.2.1 == bt488.2.2.2.1 && (bt470.2.2.2.2.1 == bt488.2.2.2.2.1 && (bt470.2.2.2.2.2.1 == bt488.2.2.2.2.2.1 && (bt470.2.2.2.2.2.2.1 == bt488.2.2.2.2.2.2.1 && (bt470.2.2.2.2.2.2.2.1 == bt488.2.2.2.2.2.2.2.1 && (bt470.2.2.2.2.2.2.2.2.1 == bt488.2.2.2.2.2.2.2.2.1 && (bt470.2.2.2.2.2.2.2.2.2.1 == bt488.2.2.2.2.2.2.2.2.2.1 && (bt470.2.2.2.2.2.2.2.2.2.2.1 == bt488.2.2.2.2.2.2.2.2.2.2.1 && (bt470.2.2.2.2.2.2.2.2.2.2.2.1 == bt488.2.2.2.2.2.2.2.2.2.2.2.1 && (bt470.2.2.2.2.2.2.2.2.2.2.2.2.1 == bt488.2.2.2.2.2.2.2.2.2.2.2.2.1 && (bt470.2.2.2.2.2.2.2.2.2.2.2.2.2.1 == bt488.2.2.2.2.2.2.2.2.2.2.2.2.2.1 && (bt470.2.2.2.2.2.2.2.2.2.2.2.2.2.2.1 == bt488.2.2.2.2.2.2.2.2.2.2.2.2.2.2.1 && (bt470.2.2.2.2.2.2.2.2.2.2.2.2.2.2.2.1 == bt488.2.2.2.2.2.2.2.2.2.2.2.2.2.2.2.1 && (bt470.2.2.2.2.2.2.2.2.2.2.2.2.2.2.2.2 == bt488.2.2.2.2.2.2.2.2.2.2.2.2.2.2.2.2)))))))))))))))))) = true then (some (false, 0, 0, 0, 0, 0, 0, 0, 0, 0, 0, 0, 0, 0, 0, 0, 0, false)) else ((lanternref05_V4.f k 1).bind fun bt505 => (if (bt470.1 == bt505.1 && ((bt470.2.1 == bt505.2.1 && (bt470.2.2.1 == bt505.2.2.1 && (bt470.2.2.2.1 == bt505.2.2.2.1 && (bt470.2.2.2.2.1 == bt505.2.2.2.2.1 && (bt470.2.2.2.2.2.1 == bt505.2.2.2.2.2.1 && (bt470.2.2.2.2.2.2.1 == bt505.2.2.2.2.2.2.1 && (bt470.2.2.2.2.2.2.2.1 == bt505.2.2.2.2.2.2.2.1 && (bt470.2.2.2.2.2.2.2.2.1 == bt505.2.2.2.2.2.2.2.2.1 && (bt470.2.2.2.2.2.2.2.2.2.1 == bt505.2.2.2.2.2.2.2.2.2.1 && (bt470.2.2.2.2.2.2.2.2.2.2.1 == bt505.2.2.2.2.2.2.2.2.2.2.1 && (bt470.2.2.2.2.2.2.2.2.2.2.2.1 == bt505.2.2.2.2.2.2.2.2.2.2.2.1 && (bt470.2.2.2.2.2.2.2.2.2.2.2.2.1 == bt505.2.2.2.2.2.2.2.2.2.2.2.2.1 && (bt470.2.2.2.2.2.2.2.2.2.2.2.2.2.1 == bt505.2.2.2.2.2.2.2.2.2.2.2.2.2.1 && (bt470.2.2.2.2.2.2.2.2.2.2.2.2.2.2.1 == bt505.2.2.2.2.2.2.2.2.2.2.2.2.2.2.1 && (bt470.2.2.2.2.2.2.2.2.2.2.2.2.2.2.2.1 == bt505.2.2.2.2.2.2.2.2.2.2.2.2.2.2.2.1 && (bt470.2.2.2.2.2.2.2.2.2.2.2.2.2.2.2.2 == bt505.2.2.2.2.2.2.2.2.2.2.2.2.2.2.2.2)))))))))))))))))) = true then (some (false, 0, 0, 0, 0, 0, 0, 0, 0, 0, 0, 0, 0, 0, 0, 0, 0, false)) else (some (bt470.1, bt470.2.1, bt470.2.2.1, bt470.2.2.2.1, bt470.2.2.2.2.1, bt470.2.2.2.2.2.1, bt470.2.2.2.2.2.2.1, bt470.2.2.2.2.2.2.2.1, bt470.2.2.2.2.2.2.2.2.1, bt470.2.2.2.2.2.2.2.2.2.1, bt470.2.2.2.2.2.2.2.2.2.2.1, bt470.2.2.2.2.2.2.2.2.2.2.2.1, bt470.2.2.2.2.2.2.2.2.2.2.2.2.1, bt470.2.2.2.2.2.2.2.2.2.2.2.2.2.1, bt470.2.2.2.2.2.2.2.2.2.2.2.2.2.2.1, bt470.2.2.2.2.2.2.2.2.2.2.2.2.2.2.2.1, bt470.2.2.2.2.2.2.2.2.2.2.2.2.2.2.2.2, true))))))) else (if (wrap64 (Int.tdiv x6 65536)) = 8194 then ((lanternref05_Tail.f k x433000 x433001 x433002 x433003 x433004 x433005 x433006 x433007 x433008 x433009 x433010 x433011 x433012 x433013 x433014 x433015 x433016 2).bind fun bt522 => (some (bt522.1, bt522.2.1, bt522.2.2.1, bt522.2.2.2.1, bt522.2.2.2.2.1, bt522.2.2.2.2.2.1, bt522.2.2.2.2.2.2.1, bt522.2.2.2.2.2.2.2.1, bt522.2.2.2.2.2.2.2.2.1, bt522.2.2.2.2.2.2.2.2.2.1, bt522.2.2.2.2.2.2.2.2.2.2.1, bt522.2.2.2.2.2.2.2.2.2.2.2.1, bt522.2.2.2.2.2.2.2.2.2.2.2.2.1, bt522.2.2.2.2.2.2.2.2.2.2.2.2.2.1, bt522.2.2.2.2.2.2.2.2.2.2.2.2.2.2.1, bt522.2.2.2.2.2.2.2.2.2.2.2.2.2.2.2.1, bt522.2.2.2.2.2.2.2.2.2.2.2.2.2.2.2.2, true))) else (some (false, 0, 0, 0, 0, 0, 0, 0, 0, 0, 0, 0, 0, 0, 0, 0, 0, false)))
end
def lanternref05_Embeds.f (k : Nat) (a0_0 : Bool) (a0_1 : Int) (a0_2 : Int) (a0_3 : Int) (a0_4 : Int) (a0_5 : Int) (a0_6 : Int) (a0_7 : Int) (a0_8 : Int) (a0_9 : Int) (a0_10 : Int) (a0_11 : Int) (a0_12 : Int) (a0_13 : Int) (a0_14 : Int) (a0_15 : Int) (a0_16 : Int) : Option (Bool × Int × Int × Int × Int × Int × Int × Int × Int × Int × Int × Int × Int × Int × Int × Int × Int × Bool) := if a0_0 = true then (lanternref05_Embeds.l0 k true 4 a0_0 a0_1 a0_2 a0_3 a0_4 a0_5 a0_6 a0_7 a0_8 a0_9 a0_10 a0_11 a0_12 a0_13 a0_14 a0_15 a0_16) else (some (false, 0, 0, 0, 0, 0, 0, 0, 0, 0, 0, 0, 0, 0, 0, 0, 0, false))
theorem lanternref05_Embeds.mono_l : ∀ k, (∀ y0 y1 y2 y3 y4 y5 y6 y7 y8 y9 y10 y11 y12 y13 y14 y15 y16 y17 y18, LeO (lanternref05_Embeds.l0 k y0 y1 y2 y3 y4 y5 y6 y7 y8 y9 y10 y11 y12 y13 y14 y15 y16 y17 y18) (lanternref05_Embeds.l0 (k + 1) y0 y1 y2 y3 y4 y5 y6 y7 y8 y9 y10 y11 y12 y13 y14 y15 y16 y17 y18)) ∧ (∀ y0 y1 y2 y3 y4 y5 y6 y7 y8 y9 y10 y11 y12 y13 y14 y15 y16 y17 y18 y19, LeO (lanternref05_Embeds.j1 k y0 y1 y2 y3 y4 y5 y6 y7 y8 y9 y10 y11 y12 y13 y14 y15 y16 y17 y18 y19) (lanternref05_Embeds.j1 (k + 1) y0 y1 y2 y3 y4 y5 y6 y7 y8 y9 y10 y11 y12 y13 y14 y15 y16 y17 y18 y19)) ∧ (∀ y0 y1 y2 y3 y4 y5 y6 y7 y8 y9 y10 y11 y12 y13 y14 y15 y16 y17 y18, LeO (lanternref05_Embeds.j2 k y0 y1 y2 y3 y4 y5 y6 y7 y8 y9 y10 y11 y12 y13 y14 y15 y16 y17 y18) (lanternref05_Embeds.j2 (k + 1) y0 y1 y2 y3 y4 y5 y6 y7 y8 y9 y10 y11 y12 y13 y14 y15 y16 y17 y18))
 | 0 => ⟨fun _ _ _ _ _ _ _ _ _ _ _ _ _ _ _ _ _ _ _ r h => by simp [lanternref05_Embeds.l0] at h, fun _ _ _ _ _ _ _ _ _ _ _ _ _ _ _ _ _ _ _ _ r h => by simp [lanternref05_Embeds.j1] at h, fun _ _ _ _ _ _ _ _ _ _ _ _ _ _ _ _ _ _ _ r h => by simp [lanternref05_Embeds.j2] at h⟩
 | k + 1 => by
  obtain ⟨ih0, ih1, ih2⟩ := lanternref05_Embeds.mono_l k
  refine ⟨?_, ?_, ?_⟩
  ·intro y0 y1 y2 y3 y4 y5 y6 y7 y8 y9 y10 y11 y12 y13 y14 y15 y16 y17 y18
   unfold lanternref05_Embeds.l0
   repeat' first
   | (with_reducible exact ih0 _ _ _ _ _ _ _ _ _ _ _ _ _ _ _ _ _ _ _)
   | (with_reducible exact ih1 _ _ _ _ _ _ _ _ _ _ _ _ _ _ _ _ _ _ _ _)
   | (with_reducible exact ih2 _ _ _ _ _ _ _ _ _ _ _ _ _ _ _ _ _ _ _)
   | (with_reducible exact lanternref05_Mapped.mono _ _ _ _ _ _ _ _ _ _ _ _ _ _ _ _ _ _)
   | (with_reducible exact lanternref05_Tail.mono _ _ _ _ _ _ _ _ _ _ _ _ _ _ _ _ _ _ _)
   | (with_reducible exact lanternref05_V4.mono _ _)
   | (with_reducible exact LeO.refl _)
   | (with_reducible exact LeO.none _)
   | (with_reducible refine LeO.ite ?_ ?_)
   | (with_reducible refine LeO.bind ?_ (fun _ => ?_))
   | exact ih0 _ _ _ _ _ _ _ _ _ _ _ _ _ _ _ _ _ _ _
   | exact ih1 _ _ _ _ _ _ _ _ _ _ _ _ _ _ _ _ _ _ _ _
   | exact ih2 _ _ _ _ _ _ _ _ _ _ _ _ _ _ _ _ _ _ _
   | exact lanternref05_Mapped.mono _ _ _ _ _ _ _ _ _ _ _ _ _ _ _ _ _ _
   | exact lanternref05_Tail.mono _ _ _ _ _ _ _ _ _ _ _ _ _ _ _ _ _ _ _
   | exact lanternref05_V4.mono _ _
   | exact LeO.none _
   | refine LeO.ite ?_ ?_
   | refine LeO.bind ?_ (fun _ => ?_)
  ·intro y0 y1 y2 y3 y4 y5 y6 y7 y8 y9 y10 y11 y12 y13 y14 y15 y16 y17 y18 y19
   unfold lanternref05_Embeds.j1
   repeat' first
   | (with_reducible exact ih0 _ _ _ _ _ _ _ _ _ _ _ _ _ _ _ _ _ _ _)
   | (with_reducible exact ih1 _ _ _ _ _ _ _ _ _ _ _ _ _ _ _ _ _ _ _ _)
   | (with_reducible exact ih2 _ _ _ _ _ _ _ _ _ _ _ _ _ _ _ _ _ _ _)
   | (with_reducible exact lanternref05_Mapped.mono _ _ _ _ _ _ _ _ _ _ _ _ _ _ _ _ _ _)
   | (with_reducible exact lanternref05_Tail.mono _ _ _ _ _ _ _ _ _ _ _ _ _ _ _ _ _ _ _)
   | (with_reducible exact lanternref05_V4.mono _ _)
   | (with_reducible exact LeO.refl _)
   | (with_reducible exact LeO.none _)
   | (with_reducible refine LeO.ite ?_ ?_)
   | (with_reducible refine LeO.bind ?_ (fun _ => ?_))
   | exact ih0 _ _ _ _ _ _ _ _ _ _ _ _ _ _ _ _ _ _ _
   | exact ih1 _ _ _ _ _ _ _ _ _ _ _ _ _ _ _ _ _ _ _ _
   | exact ih2 _ _ _ _ _ _ _ _ _ _ _ _ _ _ _ _ _ _ _
   | exact lanternref05_Mapped.mono _ _ _ _ _ _ _ _ _ _ _ _ _ _ _ _ _ _
   | exact lanternref05_Tail.mono _ _ _ _ _ _ _ _ _ _ _ _ _ _ _ _ _ _ _
   | exact lanternref05_V4.mono _ _
   | exact LeO.none _
   | refine LeO.ite ?_ ?_
   | refine LeO.bind ?_ (fun _ => ?_)
  ·intro y0 y1 y2 y3 y4 y5 y6 y7 y8 y9 y10 y11 y12 y13 y14 y15 y16 y17 y18
   unfold lanternref05_Embeds.j2
   repeat' first
   | (with_reducible exact ih0 _ _ _ _ _ _ _ _ _ _ _ _ _ _ _ _ _ _ _)
   | (with_reducible exact ih1 _ _ _ _ _ _ _ _ _ _ _ _ _ _ _ _ _ _ _ _)
   | (with_reducible exact ih2 _ _ _ _ _ _ _ _ _ _ _ _ _ _ _ _ _ _ _)
   | (with_reducible exact lanternref05_Mapped.mono _ _ _ _ _ _ _ _ _ _ _ _ _ _ _ _ _ _)
   | (with_reducible exact lanternref05_Tail.mono _ _ _ _ _ _ _ _ _ _ _ _ _ _ _ _ _ _ _)
   | (with_reducible exact lanternref05_V4.mono _ _)
   | (with_reducible exact LeO.refl _)
   | (with_reducible exact LeO.none _)
   | (with_reducible refine LeO.ite ?_ ?_)
   | (with_reducible refine LeO.bind ?_ (fun _ => ?_))
   | exact ih0 _ _ _ _ _ _ _ _ _ _ _ _ _ _ _ _ _ _ _
   | exact ih1 _ _ _ _ _ _ _ _ _ _ _ _ _ _ _ _ _ _ _ _
   | exact ih2 _ _ _ _ _ _ _ _ _ _ _ _ _ _ _ _ _ _ _
   | exact lanternref05_Mapped.mono _ _ _ _ _ _ _ _ _ _ _ _ _ _ _ _ _ _
   | exact lanternref05_Tail.mono _ _ _ _ _ _ _ _ _ _ _ _ _ _ _ _ _ _ _
   | exact lanternref05_V4.mono _ _
   | exact LeO.none _
   | refine LeO.ite ?_ ?_
   | refine LeO.bind ?_ (fun _ => ?_)
theorem lanternref05_Embeds.mono : ∀ a0 a1 a2 a3 a4 a5 a6 a7 a8 a9 a10 a11 a12 a13 a14 a15 a16 k, LeO (lanternref05_Embeds.f k a0 a1 a2 a3 a4 a5 a6 a7 a8 a9 a10 a11 a12 a13 a14 a15 a16) (lanternref05_Embeds.f (k + 1) a0 a1 a2 a3 a4 a5 a6 a7 a8 a9 a10 a11 a12 a13 a14 a15 a16) := by
 intro a0 a1 a2 a3 a4 a5 a6 a7 a8 a9 a10 a11 a12 a13 a14 a15 a16 k
 obtain ⟨ih0, ih1, ih2⟩ := lanternref05_Embeds.mono_l k
 unfold lanternref05_Embeds.f
 repeat' first
   | (with_reducible exact ih0 _ _ _ _ _ _ _ _ _ _ _ _ _ _ _ _ _ _ _)
   | (with_reducible exact ih1 _ _ _ _ _ _ _ _ _ _ _ _ _ _ _ _ _ _ _ _)
   | (with_reducible exact ih2 _ _ _ _ _ _ _ _ _ _ _ _ _ _ _ _ _ _ _)
   | (with_reducible exact lanternref05_Mapped.mono _ _ _ _ _ _ _ _ _ _ _ _ _ _ _ _ _ _)
   | (with_reducible exact lanternref05_Tail.mono _ _ _ _ _ _ _ _ _ _ _ _ _ _ _ _ _ _ _)
   | (with_reducible exact lanternref05_V4.mono _ _)
   | (with_reducible exact LeO.refl _)
   | (with_reducible exact LeO.none _)
   | (with_reducible refine LeO.ite ?_ ?_)
   | (with_reducible refine LeO.bind ?_ (fun _ => ?_))
   | exact ih0 _ _ _ _ _ _ _ _ _ _ _ _ _ _ _ _ _ _ _
   | exact ih1 _ _ _ _ _ _ _ _ _ _ _ _ _ _ _ _ _ _ _ _
   | exact ih2 _ _ _ _ _ _ _ _ _ _ _ _ _ _ _ _ _ _ _
   | exact lanternref05_Mapped.mono _ _ _ _ _ _ _ _ _ _ _ _ _ _ _ _ _ _
   | exact lanternref05_Tail.mono _ _ _ _ _ _ _ _ _ _ _ _ _ _ _ _ _ _ _
   | exact lanternref05_V4.mono _ _
   | exact LeO.none _
   | refine LeO.ite ?_ ?_
   | refine LeO.bind ?_ (fun _ => ?_)
def lanternref05_Embeds.T15 : Bool × List (List Nat × List Nat) := (true, [([], []), ([], []), ([0, 1], [0, 1]), ([2, 1], [2]), ([3], [3]), ([3, 3], [3]), ([4, 5, 3], [3, 4, 5]), ([3, 6], [3, 6])])
def lanternref05_Embeds.B15 : List Nat := [0, 0, 3, 7, 15, 15, 63, 127]
theorem lanternref05_Embeds.tab15 : rtab .any (opsOf Tryd.f19 15) = lanternref05_Embeds.T15 := by kernel_rfl
theorem lanternref05_Embeds.bits15 : waitsOk lanternref05_Embeds.T15.2 lanternref05_Embeds.B15 = true := by kernel_rfl
set_option maxHeartbeats 8000000 in
set_option maxRecDepth 100000 in
theorem lanternref05_Embeds.calls (k : Nat) (a0_0 : Bool) (a0_1 : Int) (a0_2 : Int) (a0_3 : Int) (a0_4 : Int) (a0_5 : Int) (a0_6 : Int) (a0_7 : Int) (a0_8 : Int) (a0_9 : Int) (a0_10 : Int) (a0_11 : Int) (a0_12 : Int) (a0_13 : Int) (a0_14 : Int) (a0_15 : Int) (a0_16 : Int) (r1 : Bool) (r2 : Int) (r3 : Int) (r4 : Int) (r5 : Int) (r6 : Int) (r7 : Int) (r8 : Int) (r9 : Int) (r10 : Int) (r11 : Int) (r12 : Int) (r13 : Int) (r14 : Int) (r15 : Int) (r16 : Int) (r17 : Int) (r18 : Bool) (w : World) (hLW : LW w) (h : lanternref05_Embeds.f k a0_0 a0_1 a0_2 a0_3 a0_4 a0_5 a0_6 a0_7 a0_8 a0_9 a0_10 a0_11 a0_12 a0_13 a0_14 a0_15 a0_16 = some (r1, r2, r3, r4, r5, r6, r7, r8, r9, r10, r11, r12, r13, r14, r15, r16, r17, r18)) :
  Calls Tryd.prog 19 #[.agg #[.bool a0_0, .int .u8 a0_1, .int .u8 a0_2, .int .u8 a0_3, .int .u8 a0_4, .int .u8 a0_5, .int .u8 a0_6, .int .u8 a0_7, .int .u8 a0_8, .int .u8 a0_9, .int .u8 a0_10, .int .u8 a0_11, .int .u8 a0_12, .int .u8 a0_13, .int .u8 a0_14, .int .u8 a0_15, .int .u8 a0_16]] w fun e w' => e = .returned (.tuple #[.agg #[.bool r1, .int .u8 r2, .int .u8 r3, .int .u8 r4, .int .u8 r5, .int .u8 r6, .int .u8 r7, .int .u8 r8, .int .u8 r9, .int .u8 r10, .int .u8 r11, .int .u8 r12, .int .u8 r13, .int .u8 r14, .int .u8 r15, .int .u8 r16, .int .u8 r17], .bool r18]) ∧ Below w.heap.size w w' := by
 have hu25 := Tryd.underlying25
 have HLW := Aside0.mk hLW
 clear hLW
 have HB := Aside0.mk (Below.refl w.heap.size w)
 have H : (if a0_0 = true then (lanternref05_Embeds.l0 k true 4 a0_0 a0_1 a0_2 a0_3 a0_4 a0_5 a0_6 a0_7 a0_8 a0_9 a0_10 a0_11 a0_12 a0_13 a0_14 a0_15 a0_16) else (some (false, 0, 0, 0, 0, 0, 0, 0, 0, 0, 0, 0, 0, 0, 0, 0, 0, false))) = some (r1, r2, r3, r4, r5, r6, r7, r8, r9, r10, r11, r12, r13, r14, r15, r16, r17, r18) := h
 clear h
 by_cases c2 : a0_0 = true
 ·subst c2
  have H1 : (lanternref05_Embeds.l0 k true 4 true a0_1 a0_2 a0_3 a0_4 a0_5 a0_6 a0_7 a0_8 a0_9 a0_10 a0_11 a0_12 a0_13 a0_14 a0_15 a0_16) = some (r1, r2, r3, r4, r5, r6, r7, r8, r9, r10, r11, r12, r13, r14, r15, r16, r17, r18) := by rw [if_pos rfl] at H; exact H
  clear H
  have H := H1
  clear H1
  have H' := Aside0.mk H
  clear H
  go_enter Tryd.func19, Tryd.ntmps19
  go_wp2_with (first | ((with_reducible refine gate_dst (N := 1) rfl ?_); refine box_event ?hg (N := 1) ?hd (cs := #[.bool true, .int .u8 a0_1, .int .u8 a0_2, .int .u8 a0_3, .int .u8 a0_4, .int .u8 a0_5, .int .u8 a0_6, .int .u8 a0_7, .int .u8 a0_8, .int .u8 a0_9, .int .u8 a0_10, .int .u8 a0_11, .int .u8 a0_12, .int .u8 a0_13, .int .u8 a0_14, .int .u8 a0_15, .int .u8 a0_16]) (t := 25) ?hr ?_; (case hd => rfl); (case hg => rfl); (case hr => first | (go_simp; done) | (go_simp; rfl)); intro gb432 hg w3 hbox hb; have n0_ := Aside0.mk (below_step (by repeat (first | (with_reducible first | exact HB.out | apply below_alloc | apply pw_below_drewN | apply below_drew1) | exact HB.out)) hb); have n1_ := Aside0.mk (hbox); have n2_ := Aside0.mk ((by rw [hg]; exact (below_size (by repeat (first | (with_reducible first | exact HB.out | apply below_alloc | apply pw_below_drewN | apply below_drew1) | exact HB.out))) : w.heap.size ≤ gb432)); have n3_ := Aside0.mk ((by rw [hg]; exact (below_size (by repeat (first | (with_reducible first | exact HB.out | apply below_alloc | apply pw_below_drewN | apply below_drew1) | exact HB.out))) : w.heap.size ≤ gb432)); clear HB; have HB := n0_; have BK432 := n1_; have GW432 := n2_; have GE432 := n3_; clear n0_ n1_ n2_ n3_; clear hb hbox hg) | ((with_reducible refine gate_dst (N := 2) rfl ?_); refine box_event ?hg (N := 2) ?hd (cs := #[.bool false, .int .u8 0, .int .u8 0, .int .u8 0, .int .u8 0, .int .u8 0, .int .u8 0, .int .u8 0, .int .u8 0, .int .u8 0, .int .u8 0, .int .u8 0, .int .u8 0, .int .u8 0, .int .u8 0, .int .u8 0, .int .u8 0]) (t := 25) ?hr ?_; (case hd => rfl); (case hg => rfl); (case hr => first | (go_simp; done) | (go_simp; rfl)); intro gb433 hg w4 hbox hb; have n0_ := Aside0.mk (blk_below (g := gb432) (o := .cells #[.bool true, .int .u8 a0_1, .int .u8 a0_2, .int .u8 a0_3, .int .u8 a0_4, .int .u8 a0_5, .int .u8 a0_6, .int .u8 a0_7, .int .u8 a0_8, .int .u8 a0_9, .int .u8 a0_10, .int .u8 a0_11, .int .u8 a0_12, .int .u8 a0_13, .int .u8 a0_14, .int .u8 a0_15, .int .u8 a0_16] 25 (0, 0)) (by (with_reducible repeat (first | refine blk_drewN ?_ _ | refine blk_drew ?_ | refine blk_alloc ?_ _)); exact BK432.out) hb); have n1_ := Aside0.mk (below_step (by repeat (first | (with_reducible first | exact HB.out | apply below_alloc | apply pw_below_drewN | apply below_drew1 | refine below_set ?_ GE432.out) | exact HB.out)) hb); have n2_ := Aside0.mk (hbox); have n3_ := Aside0.mk ((by rw [hg]; exact (below_size (by repeat (first | (with_reducible first | exact HB.out | apply below_alloc | apply pw_below_drewN | apply below_drew1 | refine below_set ?_ GE432.out) | exact HB.out))) : w.heap.size ≤ gb433)); have n4_ := Aside0.mk ((by rw [hg]; exact (below_size (by repeat (first | (with_reducible first | exact HB.out | apply below_alloc | apply pw_below_drewN | apply below_drew1 | refine below_set ?_ GE432.out) | exact HB.out))) : w.heap.size ≤ gb433)); have n5_ := Aside0.mk ((by rw [hg]; exact Nat.ne_of_lt (blk_lt (g := gb432) (o := .cells #[.bool true, .int .u8 a0_1, .int .u8 a0_2, .int .u8 a0_3, .int .u8 a0_4, .int .u8 a0_5, .int .u8 a0_6, .int .u8 a0_7, .int .u8 a0_8, .int .u8 a0_9, .int .u8 a0_10, .int .u8 a0_11, .int .u8 a0_12, .int .u8 a0_13, .int .u8 a0_14, .int .u8 a0_15, .int .u8 a0_16] 25 (0, 0)) (by (with_reducible repeat (first | refine blk_drewN ?_ _ | refine blk_drew ?_ | refine blk_alloc ?_ _)); exact BK432.out)) : gb432 ≠ gb433)); have n6_ := Aside0.mk ((by rw [hg]; exact Nat.ne_of_gt (blk_lt (g := gb432) (o := .cells #[.bool true, .int .u8 a0_1, .int .u8 a0_2, .int .u8 a0_3, .int .u8 a0_4, .int .u8 a0_5, .int .u8 a0_6, .int .u8 a0_7, .int .u8 a0_8, .int .u8 a0_9, .int .u8 a0_10, .int .u8 a0_11, .int .u8 a0_12, .int .u8 a0_13, .int .u8 a0_14, .int .u8 a0_15, .int .u8 a0_16] 25 (0, 0)) (by (with_reducible repeat (first | refine blk_drewN ?_ _ | refine blk_drew ?_ | refine blk_alloc ?_ _)); exact BK432.out)) : gb433 ≠ gb432)); clear BK432; clear HB; have BK432 := n0_; have HB := n1_; have BK433 := n2_; have GW433 := n3_; have GE433 := n4_; have NB432_433 := n5_; have NB433_432 := n6_; clear n0_ n1_ n2_ n3_ n4_ n5_ n6_; clear hb hbox hg; have hnb5 := NB432_433.out; have hnc5 := NB433_432.out; have hcz6_0 : w4.cell? ⟨gb432, 0, none⟩ = some (.bool true) := (blk_cell BK432.out 0).trans rfl; have hcz6_1 : w4.cell? ⟨gb432, 1, none⟩ = some (.int .u8 a0_1) := (blk_cell BK432.out 1).trans rfl; have hcz6_2 : w4.cell? ⟨gb432, 2, none⟩ = some (.int .u8 a0_2) := (blk_cell BK432.out 2).trans rfl; have hcz6_3 : w4.cell? ⟨gb432, 3, none⟩ = some (.int .u8 a0_3) := (blk_cell BK432.out 3).trans rfl; have hcz6_4 : w4.cell? ⟨gb432, 4, none⟩ = some (.int .u8 a0_4) := (blk_cell BK432.out 4).trans rfl; have hcz6_5 : w4.cell? ⟨gb432, 5, none⟩ = some (.int .u8 a0_5) := (blk_cell BK432.out 5).trans rfl; have hcz6_6 : w4.cell? ⟨gb432, 6, none⟩ = some (.int .u8 a0_6) := (blk_cell BK432.out 6).trans rfl; have hcz6_7 : w4.cell? ⟨gb432, 7, none⟩ = some (.int .u8 a0_7) := (blk_cell BK432.out 7).trans rfl; have hcz6_8 : w4.cell? ⟨gb432, 8, none⟩ = some (.int .u8 a0_8) := (blk_cell BK432.out 8).trans rfl; have hcz6_9 : w4.cell? ⟨gb432, 9, none⟩ = some (.int .u8 a0_9) := (blk_cell BK432.out 9).trans rfl; have hcz6_10 : w4.cell? ⟨gb432, 10, none⟩ = some (.int .u8 a0_10) := (blk_cell BK432.out 10).trans rfl; have hcz6_11 : w4.cell? ⟨gb432, 11, none⟩ = some (.int .u8 a0_11) := (blk_cell BK432.out 11).trans rfl; have hcz6_12 : w4.cell? ⟨gb432, 12, none⟩ = some (.int .u8 a0_12) := (blk_cell BK432.out 12).trans rfl; have hcz6_13 : w4.cell? ⟨gb432, 13, none⟩ = some (.int .u8 a0_13) := (blk_cell BK432.out 13).trans rfl; have hcz6_14 : w4.cell? ⟨gb432, 14, none⟩ = some (.int .u8 a0_14) := (blk_cell BK432.out 14).trans rfl; have hcz6_15 : w4.cell? ⟨gb432, 15, none⟩ = some (.int .u8 a0_15) := (blk_cell BK432.out 15).trans rfl; have hcz6_16 : w4.cell? ⟨gb432, 16, none⟩ = some (.int .u8 a0_16) := (blk_cell BK432.out 16).trans rfl; have hfz6_0 := blk_frozen BK432.out 0; have hfz6_1 := blk_frozen BK432.out 1; have hfz6_2 := blk_frozen BK432.out 2; have hfz6_3 := blk_frozen BK432.out 3; have hfz6_4 := blk_frozen BK432.out 4; have hfz6_5 := blk_frozen BK432.out 5; have hfz6_6 := blk_frozen BK432.out 6; have hfz6_7 := blk_frozen BK432.out 7; have hfz6_8 := blk_frozen BK432.out 8; have hfz6_9 := blk_frozen BK432.out 9; have hfz6_10 := blk_frozen BK432.out 10; have hfz6_11 := blk_frozen BK432.out 11; have hfz6_12 := blk_frozen BK432.out 12; have hfz6_13 := blk_frozen BK432.out 13; have hfz6_14 := blk_frozen BK432.out 14; have hfz6_15 := blk_frozen BK432.out 15; have hfz6_16 := blk_frozen BK432.out 16))
  go_loopg [4, 5] k (fun kq v4 v5 w' => ∃ (x4_1 : Bool) (x5_1 : Int), v4 = .bool x4_1 ∧ v5 = .int .i64 x5_1 ∧ Aside0 (lanternref05_Embeds.l0 kq x4_1 x5_1 true a0_1 a0_2 a0_3 a0_4 a0_5 a0_6 a0_7 a0_8 a0_9 a0_10 a0_11 a0_12 a0_13 a0_14 a0_15 a0_16 = some (r1, r2, r3, r4, r5, r6, r7, r8, r9, r10, r11, r12, r13, r14, r15, r16, r17, r18)) ∧ Aside0 (kq ≤ k) ∧ Aside0 (w'.heap[gb432]? = some (.cells #[.bool true, .int .u8 a0_1, .int .u8 a0_2, .int .u8 a0_3, .int .u8 a0_4, .int .u8 a0_5, .int .u8 a0_6, .int .u8 a0_7, .int .u8 a0_8, .int .u8 a0_9, .int .u8 a0_10, .int .u8 a0_11, .int .u8 a0_12, .int .u8 a0_13, .int .u8 a0_14, .int .u8 a0_15, .int .u8 a0_16] 25 (0, 0))) ∧ Aside0 (w'.heap[gb433]? = some (.cells #[.bool false, .int .u8 0, .int .u8 0, .int .u8 0, .int .u8 0, .int .u8 0, .int .u8 0, .int .u8 0, .int .u8 0, .int .u8 0, .int .u8 0, .int .u8 0, .int .u8 0, .int .u8 0, .int .u8 0, .int .u8 0, .int .u8 0] 25 (0, 0))) ∧ Aside0 (Below w.heap.size w w'))
  case atStart => exact ⟨(true), (4), (by first | rfl | (simp; done) | (simp [*]; done) | (simp; exact isEmpty_bne _) | (simp; exact isEmpty_beq _)), (by first | rfl | (simp; done) | (simp [*]; done) | (simp; exact isEmpty_bne _) | (simp; exact isEmpty_beq _)), H', ⟨Nat.le_refl _⟩, ⟨by (with_reducible repeat (first | refine blk_drewN ?_ _ | refine blk_drew ?_ | refine blk_alloc ?_ _)); exact BK432.out⟩, ⟨by (with_reducible repeat (first | refine blk_drewN ?_ _ | refine blk_drew ?_ | refine blk_alloc ?_ _)); exact BK433.out⟩, ⟨by repeat (first | (with_reducible first | exact HB.out | apply below_alloc | apply pw_below_drewN | apply below_drew1 | refine below_set ?_ GE432.out | refine below_set ?_ GE433.out) | exact HB.out)⟩⟩
  case round =>
   clear H'
   try clear c1
   try clear c2
   try clear p2
   try clear c5
   try clear hcz6_0
   try clear hcz6_1
   try clear hcz6_10
   try clear hcz6_11
   try clear hcz6_12
   try clear hcz6_13
   try clear hcz6_14
   try clear hcz6_15
   try clear hcz6_16
   try clear hcz6_2
   try clear hcz6_3
   try clear hcz6_4
   try clear hcz6_5
   try clear hcz6_6
   try clear hcz6_7
   try clear hcz6_8
   try clear hcz6_9
   try clear hfz6_0
   try clear hfz6_1
   try clear hfz6_10
   try clear hfz6_11
   try clear hfz6_12
   try clear hfz6_13
   try clear hfz6_14
   try clear hfz6_15
   try clear hfz6_16
   try clear hfz6_2
   try clear hfz6_3
   try clear hfz6_4
   try clear hfz6_5
   try clear hfz6_6
   try clear hfz6_7
   try clear hfz6_8
   try clear hfz6_9
   obtain ⟨x4_1, x5_1, rfl, rfl, HA, HK1, BK432, BK433, HB⟩ := hrel
   cases gk with
   | zero => exact absurd HA.out (by simp [lanternref05_Embeds.l0])
   | succ k1 =>
    have H := HA.out
    clear HA
    simp only [lanternref05_Embeds.l0] at H
    by_cases c7 : x5_1 < 12
    ·rw [if_pos c7] at H
     have c7b0 : decide (x5_1 < 12) = true := decide_eq_true c7
     clear c7
     by_cases c8 : x4_1 = true
     ·subst c8
      have H1 : (if 0 ≤ x5_1 then (if x5_1 < 16 then (lanternref05_Embeds.l0 k1 ((rd [a0_1, a0_2, a0_3, a0_4, a0_5, a0_6, a0_7, a0_8, a0_9, a0_10, a0_11, a0_12, a0_13, a0_14, a0_15, a0_16] x5_1) == 0) (wrap64 (x5_1 + 1)) true a0_1 a0_2 a0_3 a0_4 a0_5 a0_6 a0_7 a0_8 a0_9 a0_10 a0_11 a0_12 a0_13 a0_14 a0_15 a0_16) else (none)) else (none)) = some (r1, r2, r3, r4, r5, r6, r7, r8, r9, r10, r11, r12, r13, r14, r15, r16, r17, r18) := by rw [if_pos rfl] at H; exact H
      clear H
      have H := H1
      clear H1
      by_cases c9 : 0 ≤ x5_1
      ·rw [if_pos c9] at H
       have c9b0 : decide (0 ≤ x5_1) = true := decide_eq_true c9
       clear c9
       by_cases c10 : x5_1 < 16
       ·rw [if_pos c10] at H
        have c10b0 : decide (x5_1 < 16) = true := decide_eq_true c10
        clear c10
        have H' := Aside0.mk H
        clear H
        have par11 : (0 ≤ x5_1) = True := eq_true (of_decide_eq_true (by first | (with_reducible assumption) | assumption))
        have qar11 : (x5_1 < 16) = True := eq_true (of_decide_eq_true (by first | (with_reducible assumption) | assumption))
        have hnb12 := NB432_433.out
        have hnc12 := NB433_432.out
        have hcz13_0 : wr.cell? ⟨gb432, 0, none⟩ = some (.bool true) := (blk_cell BK432.out 0).trans rfl
        have hcz13_1 : wr.cell? ⟨gb432, 1, none⟩ = some (.int .u8 a0_1) := (blk_cell BK432.out 1).trans rfl
        have hcz13_2 : wr.cell? ⟨gb432, 2, none⟩ = some (.int .u8 a0_2) := (blk_cell BK432.out 2).trans rfl
        have hcz13_3 : wr.cell? ⟨gb432, 3, none⟩ = some (.int .u8 a0_3) := (blk_cell BK432.out 3).trans rfl
        have hcz13_4 : wr.cell? ⟨gb432, 4, none⟩ = some (.int .u8 a0_4) := (blk_cell BK432.out 4).trans rfl
        have hcz13_5 : wr.cell? ⟨gb432, 5, none⟩ = some (.int .u8 a0_5) := (blk_cell BK432.out 5).trans rfl
        have hcz13_6 : wr.cell? ⟨gb432, 6, none⟩ = some (.int .u8 a0_6) := (blk_cell BK432.out 6).trans rfl
        have hcz13_7 : wr.cell? ⟨gb432, 7, none⟩ = some (.int .u8 a0_7) := (blk_cell BK432.out 7).trans rfl
        have hcz13_8 : wr.cell? ⟨gb432, 8, none⟩ = some (.int .u8 a0_8) := (blk_cell BK432.out 8).trans rfl
        have hcz13_9 : wr.cell? ⟨gb432, 9, none⟩ = some (.int .u8 a0_9) := (blk_cell BK432.out 9).trans rfl
        have hcz13_10 : wr.cell? ⟨gb432, 10, none⟩ = some (.int .u8 a0_10) := (blk_cell BK432.out 10).trans rfl
        have hcz13_11 : wr.cell? ⟨gb432, 11, none⟩ = some (.int .u8 a0_11) := (blk_cell BK432.out 11).trans rfl
        have hcz13_12 : wr.cell? ⟨gb432, 12, none⟩ = some (.int .u8 a0_12) := (blk_cell BK432.out 12).trans rfl
        have hcz13_13 : wr.cell? ⟨gb432, 13, none⟩ = some (.int .u8 a0_13) := (blk_cell BK432.out 13).trans rfl
        have hcz13_14 : wr.cell? ⟨gb432, 14, none⟩ = some (.int .u8 a0_14) := (blk_cell BK432.out 14).trans rfl
        have hcz13_15 : wr.cell? ⟨gb432, 15, none⟩ = some (.int .u8 a0_15) := (blk_cell BK432.out 15).trans rfl
        have hcz13_16 : wr.cell? ⟨gb432, 16, none⟩ = some (.int .u8 a0_16) := (blk_cell BK432.out 16).trans rfl
        have hfz13_0 := blk_frozen BK432.out 0
        have hfz13_1 := blk_frozen BK432.out 1
        have hfz13_2 := blk_frozen BK432.out 2
        have hfz13_3 := blk_frozen BK432.out 3
        have hfz13_4 := blk_frozen BK432.out 4
        have hfz13_5 := blk_frozen BK432.out 5
        have hfz13_6 := blk_frozen BK432.out 6
        have hfz13_7 := blk_frozen BK432.out 7
        have hfz13_8 := blk_frozen BK432.out 8
        have hfz13_9 := blk_frozen BK432.out 9
        have hfz13_10 := blk_frozen BK432.out 10
        have hfz13_11 := blk_frozen BK432.out 11
        have hfz13_12 := blk_frozen BK432.out 12
        have hfz13_13 := blk_frozen BK432.out 13
        have hfz13_14 := blk_frozen BK432.out 14
        have hfz13_15 := blk_frozen BK432.out 15
        have hfz13_16 := blk_frozen BK432.out 16
        have hxar11 : wr.cell? ⟨gb432, 1 + (x5_1).toNat, none⟩ = some (.int .u8 (rd [a0_1, a0_2, a0_3, a0_4, a0_5, a0_6, a0_7, a0_8, a0_9, a0_10, a0_11, a0_12, a0_13, a0_14, a0_15, a0_16] x5_1)) := (blk_idx BK432.out .u8 [.bool true] [a0_1, a0_2, a0_3, a0_4, a0_5, a0_6, a0_7, a0_8, a0_9, a0_10, a0_11, a0_12, a0_13, a0_14, a0_15, a0_16] [] rfl x5_1 (of_decide_eq_true (by first | (with_reducible assumption) | assumption)) (of_decide_eq_true (by first | (with_reducible assumption) | assumption)) rfl)
        have hfar11 := blk_frozen BK432.out (1 + (x5_1).toNat)
        go_wp2
        go_roundg k1
        case measure => have := HK1.out; omega
        case rel => exact ⟨(((rd [a0_1, a0_2, a0_3, a0_4, a0_5, a0_6, a0_7, a0_8, a0_9, a0_10, a0_11, a0_12, a0_13, a0_14, a0_15, a0_16] x5_1) == 0)), (wrap64 (x5_1 + 1)), (by first | rfl | (simp; done) | (simp [*]; done) | (simp; exact isEmpty_bne _) | (simp; exact isEmpty_beq _)), (by first | rfl | (simp; done) | (simp [*]; done) | (simp; exact isEmpty_bne _) | (simp; exact isEmpty_beq _)), H', ⟨by have := HK1.out; omega⟩, ⟨by (with_reducible repeat (first | refine blk_drewN ?_ _ | refine blk_drew ?_ | refine blk_alloc ?_ _)); exact BK432.out⟩, ⟨by (with_reducible repeat (first | refine blk_drewN ?_ _ | refine blk_drew ?_ | refine blk_alloc ?_ _)); exact BK433.out⟩, ⟨by repeat (first | (with_reducible first | exact HB.out | apply below_alloc | apply pw_below_drewN | apply below_drew1 | refine below_set ?_ GE432.out | refine below_set ?_ GE433.out) | exact HB.out)⟩⟩
       ·rw [if_neg c10] at H
        exact absurd H (by simp)
      ·rw [if_neg c9] at H
       exact absurd H (by simp)
     ·replace c8 := Bool.eq_false_iff.mpr c8
      subst c8
      have H1 : (lanternref05_Embeds.l0 k1 false (wrap64 (x5_1 + 1)) true a0_1 a0_2 a0_3 a0_4 a0_5 a0_6 a0_7 a0_8 a0_9 a0_10 a0_11 a0_12 a0_13 a0_14 a0_15 a0_16) = some (r1, r2, r3, r4, r5, r6, r7, r8, r9, r10, r11, r12, r13, r14, r15, r16, r17, r18) := by rw [if_neg (show ¬ (false = true) by decide)] at H; exact H
      clear H
      have H := H1
      clear H1
      have H' := Aside0.mk H
      clear H
      go_wp2
      go_roundg k1
      case measure => have := HK1.out; omega
      case rel => exact ⟨(false), (wrap64 (x5_1 + 1)), (by first | rfl | (simp; done) | (simp [*]; done) | (simp; exact isEmpty_bne _) | (simp; exact isEmpty_beq _)), (by first | rfl | (simp; done) | (simp [*]; done) | (simp; exact isEmpty_bne _) | (simp; exact isEmpty_beq _)), H', ⟨by have := HK1.out; omega⟩, ⟨by (with_reducible repeat (first | refine blk_drewN ?_ _ | refine blk_drew ?_ | refine blk_alloc ?_ _)); exact BK432.out⟩, ⟨by (with_reducible repeat (first | refine blk_drewN ?_ _ | refine blk_drew ?_ | refine blk_alloc ?_ _)); exact BK433.out⟩, ⟨by repeat (first | (with_reducible first | exact HB.out | apply below_alloc | apply pw_below_drewN | apply below_drew1 | refine below_set ?_ GE432.out | refine below_set ?_ GE433.out) | exact HB.out)⟩⟩
    ·rw [if_neg c7] at H
     have c7b0 : decide (x5_1 < 12) = false := decide_eq_false c7
     clear c7
     replace H := Option.bind_eq_some_iff.mp H
     obtain ⟨t435, A140, H⟩ := H
     replace H : (if t435 = true then ((lanternref05_Tail.f k1 true a0_1 a0_2 a0_3 a0_4 a0_5 a0_6 a0_7 a0_8 a0_9 a0_10 a0_11 a0_12 a0_13 a0_14 a0_15 a0_16 12).bind fun bt436 => (some (bt436.1, bt436.2.1, bt436.2.2.1, bt436.2.2.2.1, bt436.2.2.2.2.1, bt436.2.2.2.2.2.1, bt436.2.2.2.2.2.2.1, bt436.2.2.2.2.2.2.2.1, bt436.2.2.2.2.2.2.2.2.1, bt436.2.2.2.2.2.2.2.2.2.1, bt436.2.2.2.2.2.2.2.2.2.2.1, bt436.2.2.2.2.2.2.2.2.2.2.2.1, bt436.2.2.2.2.2.2.2.2.2.2.2.2.1, bt436.2.2.2.2.2.2.2.2.2.2.2.2.2.1, bt436.2.2.2.2.2.2.2.2.2.2.2.2.2.2.1, bt436.2.2.2.2.2.2.2.2.2.2.2.2.2.2.2.1, bt436.2.2.2.2.2.2.2.2.2.2.2.2.2.2.2.2, true))) else (if x4_1 = true then (lanternref05_Embeds.j1 k1 x4_1 (wrap64 ((wrap64 ((wrap64 ((wrap64 ((wrap64 (a0_1)) * 16777216)) + (wrap64 ((wrap64 (a0_2)) * 65536)))) + (wrap64 ((wrap64 (a0_3)) * 256)))) + (wrap64 (a0_4)))) ((wrap64 ((wrap64 ((wrap64 ((wrap64 ((wrap64 (a0_1)) * 16777216)) + (wrap64 ((wrap64 (a0_2)) * 65536)))) + (wrap64 ((wrap64 (a0_3)) * 256)))) + (wrap64 (a0_4)))) == 6619035) true a0_1 a0_2 a0_3 a0_4 a0_5 a0_6 a0_7 a0_8 a0_9 a0_10 a0_11 a0_12 a0_13 a0_14 a0_15 a0_16) else (lanternref05_Embeds.j1 k1 x4_1 (wrap64 ((wrap64 ((wrap64 ((wrap64 ((wrap64 (a0_1)) * 16777216)) + (wrap64 ((wrap64 (a0_2)) * 65536)))) + (wrap64 ((wrap64 (a0_3)) * 256)))) + (wrap64 (a0_4)))) false true a0_1 a0_2 a0_3 a0_4 a0_5 a0_6 a0_7 a0_8 a0_9 a0_10 a0_11 a0_12 a0_13 a0_14 a0_15 a0_16))) = some (r1, r2, r3, r4, r5, r6, r7, r8, r9, r10, r11, r12, r13, r14, r15, r16, r17, r18) := H
     have A14 := Aside0.mk A140
     clear A140
     by_cases c15 : t435 = true
     ·subst c15
      have H1 : ((lanternref05_Tail.f k1 true a0_1 a0_2 a0_3 a0_4 a0_5 a0_6 a0_7 a0_8 a0_9 a0_10 a0_11 a0_12 a0_13 a0_14 a0_15 a0_16 12).bind fun bt436 => (some (bt436.1, bt436.2.1, bt436.2.2.1, bt436.2.2.2.1, bt436.2.2.2.2.1, bt436.2.2.2.2.2.1, bt436.2.2.2.2.2.2.1, bt436.2.2.2.2.2.2.2.1, bt436.2.2.2.2.2.2.2.2.1, bt436.2.2.2.2.2.2.2.2.2.1, bt436.2.2.2.2.2.2.2.2.2.2.1, bt436.2.2.2.2.2.2.2.2.2.2.2.1, bt436.2.2.2.2.2.2.2.2.2.2.2.2.1, bt436.2.2.2.2.2.2.2.2.2.2.2.2.2.1, bt436.2.2.2.2.2.2.2.2.2.2.2.2.2.2.1, bt436.2.2.2.2.2.2.2.2.2.2.2.2.2.2.2.1, bt436.2.2.2.2.2.2.2.2.2.2.2.2.2.2.2.2, true))) = some (r1, r2, r3, r4, r5, r6, r7, r8, r9, r10, r11, r12, r13, r14, r15, r16, r17, r18) := by rw [if_pos rfl] at H; exact H
      clear H
      have H := H1
      clear H1
      replace H := Option.bind_eq_some_iff.mp H
      obtain ⟨⟨t436, t437, t438, t439, t440, t441, t442, t443, t444, t445, t446, t447, t448, t449, t450, t451, t452⟩, A160, H⟩ := H
      replace H : (some (t436, t437, t438, t439, t440, t441, t442, t443, t444, t445, t446, t447, t448, t449, t450, t451, t452, true)) = some (r1, r2, r3, r4, r5, r6, r7, r8, r9, r10, r11, r12, r13, r14, r15, r16, r17, r18) := H
      have A16 := Aside0.mk A160
      clear A160
      simp only [Option.some.injEq, Prod.mk.injEq] at H
      obtain ⟨rfl, rfl, rfl, rfl, rfl, rfl, rfl, rfl, rfl, rfl, rfl, rfl, rfl, rfl, rfl, rfl, rfl, rfl⟩ := H
      have hnb17 := NB432_433.out
      have hnc17 := NB433_432.out
      have hcz18_0 : wr.cell? ⟨gb432, 0, none⟩ = some (.bool true) := (blk_cell BK432.out 0).trans rfl
      have hcz18_1 : wr.cell? ⟨gb432, 1, none⟩ = some (.int .u8 a0_1) := (blk_cell BK432.out 1).trans rfl
      have hcz18_2 : wr.cell? ⟨gb432, 2, none⟩ = some (.int .u8 a0_2) := (blk_cell BK432.out 2).trans rfl
      have hcz18_3 : wr.cell? ⟨gb432, 3, none⟩ = some (.int .u8 a0_3) := (blk_cell BK432.out 3).trans rfl
      have hcz18_4 : wr.cell? ⟨gb432, 4, none⟩ = some (.int .u8 a0_4) := (blk_cell BK432.out 4).trans rfl
      have hcz18_5 : wr.cell? ⟨gb432, 5, none⟩ = some (.int .u8 a0_5) := (blk_cell BK432.out 5).trans rfl
      have hcz18_6 : wr.cell? ⟨gb432, 6, none⟩ = some (.int .u8 a0_6) := (blk_cell BK432.out 6).trans rfl
      have hcz18_7 : wr.cell? ⟨gb432, 7, none⟩ = some (.int .u8 a0_7) := (blk_cell BK432.out 7).trans rfl
      have hcz18_8 : wr.cell? ⟨gb432, 8, none⟩ = some (.int .u8 a0_8) := (blk_cell BK432.out 8).trans rfl
      have hcz18_9 : wr.cell? ⟨gb432, 9, none⟩ = some (.int .u8 a0_9) := (blk_cell BK432.out 9).trans rfl
      have hcz18_10 : wr.cell? ⟨gb432, 10, none⟩ = some (.int .u8 a0_10) := (blk_cell BK432.out 10).trans rfl
      have hcz18_11 : wr.cell? ⟨gb432, 11, none⟩ = some (.int .u8 a0_11) := (blk_cell BK432.out 11).trans rfl
      have hcz18_12 : wr.cell? ⟨gb432, 12, none⟩ = some (.int .u8 a0_12) := (blk_cell BK432.out 12).trans rfl
      have hcz18_13 : wr.cell? ⟨gb432, 13, none⟩ = some (.int .u8 a0_13) := (blk_cell BK432.out 13).trans rfl
      have hcz18_14 : wr.cell? ⟨gb432, 14, none⟩ = some (.int .u8 a0_14) := (blk_cell BK432.out 14).trans rfl
      have hcz18_15 : wr.cell? ⟨gb432, 15, none⟩ = some (.int .u8 a0_15) := (blk_cell BK432.out 15).trans rfl
      have hcz18_16 : wr.cell? ⟨gb432, 16, none⟩ = some (.int .u8 a0_16) := (blk_cell BK432.out 16).trans rfl
      have hfz18_0 := blk_frozen BK432.out 0
      have hfz18_1 := blk_frozen BK432.out 1
      have hfz18_2 := blk_frozen BK432.out 2
      have hfz18_3 := blk_frozen BK432.out 3
      have hfz18_4 := blk_frozen BK432.out 4
      have hfz18_5 := blk_frozen BK432.out 5
      have hfz18_6 := blk_frozen BK432.out 6
      have hfz18_7 := blk_frozen BK432.out 7
      have hfz18_8 := blk_frozen BK432.out 8
      have hfz18_9 := blk_frozen BK432.out 9
      have hfz18_10 := blk_frozen BK432.out 10
      have hfz18_11 := blk_frozen BK432.out 11
      have hfz18_12 := blk_frozen BK432.out 12
      have hfz18_13 := blk_frozen BK432.out 13
      have hfz18_14 := blk_frozen BK432.out 14
      have hfz18_15 := blk_frozen BK432.out 15
      have hfz18_16 := blk_frozen BK432.out 16
      go_wp2_with (first | ((with_reducible refine gate_dst (N := 47) rfl ?_); (try (refine gate_guard (by rfl) ?_; dsimp only)); refine load_box ?hg 25 (.tmp 1) rfl BK432.out [] [.bool true, .int .u8 a0_1, .int .u8 a0_2, .int .u8 a0_3, .int .u8 a0_4, .int .u8 a0_5, .int .u8 a0_6, .int .u8 a0_7, .int .u8 a0_8, .int .u8 a0_9, .int .u8 a0_10, .int .u8 a0_11, .int .u8 a0_12, .int .u8 a0_13, .int .u8 a0_14, .int .u8 a0_15, .int .u8 a0_16] [] rfl 0 rfl rfl Tryd.underlying25 rfl (by kernel_rfl) ?_; (case hg => rfl)) | ((with_reducible refine gate_callee (f := 21) rfl ?_); refine goesL_ (some 48) rfl rfl Tryd.func21 (by kernel_rfl) rfl #[.agg #[.bool true, .int .u8 a0_1, .int .u8 a0_2, .int .u8 a0_3, .int .u8 a0_4, .int .u8 a0_5, .int .u8 a0_6, .int .u8 a0_7, .int .u8 a0_8, .int .u8 a0_9, .int .u8 a0_10, .int .u8 a0_11, .int .u8 a0_12, .int .u8 a0_13, .int .u8 a0_14, .int .u8 a0_15, .int .u8 a0_16]] rfl (by (try simp only [List.map_toArray, List.map_cons, List.map_nil]); first | done | rfl | (simp only [List.length_drop, List.length_take]; rfl)) ?_; (with_reducible refine (lanternref05_Mapped.calls k1 true a0_1 a0_2 a0_3 a0_4 a0_5 a0_6 a0_7 a0_8 a0_9 a0_10 a0_11 a0_12 a0_13 a0_14 a0_15 a0_16 true _ ?side1 A14.out).mono ?_); (case side1 => exact LW.below HLW.out (by repeat (first | (with_reducible first | exact HB.out | apply below_alloc | apply pw_below_drewN | apply below_drew1 | refine below_set ?_ GE432.out | refine below_set ?_ GE433.out) | exact HB.out))); rintro e w19 ⟨rfl, hb⟩; refine ⟨_, rfl, ?_⟩; have n0_ := Aside0.mk (blk_below (g := gb432) (o := .cells #[.bool true, .int .u8 a0_1, .int .u8 a0_2, .int .u8 a0_3, .int .u8 a0_4, .int .u8 a0_5, .int .u8 a0_6, .int .u8 a0_7, .int .u8 a0_8, .int .u8 a0_9, .int .u8 a0_10, .int .u8 a0_11, .int .u8 a0_12, .int .u8 a0_13, .int .u8 a0_14, .int .u8 a0_15, .int .u8 a0_16] 25 (0, 0)) (by (with_reducible repeat (first | refine blk_drewN ?_ _ | refine blk_drew ?_ | refine blk_alloc ?_ _)); exact BK432.out) hb); have n1_ := Aside0.mk (blk_below (g := gb433) (o := .cells #[.bool false, .int .u8 0, .int .u8 0, .int .u8 0, .int .u8 0, .int .u8 0, .int .u8 0, .int .u8 0, .int .u8 0, .int .u8 0, .int .u8 0, .int .u8 0, .int .u8 0, .int .u8 0, .int .u8 0, .int .u8 0, .int .u8 0] 25 (0, 0)) (by (with_reducible repeat (first | refine blk_drewN ?_ _ | refine blk_drew ?_ | refine blk_alloc ?_ _)); exact BK433.out) hb); have n2_ := Aside0.mk (below_step (by repeat (first | (with_reducible first | exact HB.out | apply below_alloc | apply pw_below_drewN | apply below_drew1 | refine below_set ?_ GE432.out | refine below_set ?_ GE433.out) | exact HB.out)) hb); clear BK432; clear BK433; clear HB; have BK432 := n0_; have BK433 := n1_; have HB := n2_; clear n0_ n1_ n2_; (try clear hb); (try clear hb2); (try clear hk); (try clear hi)) | ((with_reducible refine gate_dst (N := 49) rfl ?_); (try (refine gate_guard (by rfl) ?_; dsimp only)); refine load_box ?hg 25 (.tmp 1) rfl BK432.out [] [.bool true, .int .u8 a0_1, .int .u8 a0_2, .int .u8 a0_3, .int .u8 a0_4, .int .u8 a0_5, .int .u8 a0_6, .int .u8 a0_7, .int .u8 a0_8, .int .u8 a0_9, .int .u8 a0_10, .int .u8 a0_11, .int .u8 a0_12, .int .u8 a0_13, .int .u8 a0_14, .int .u8 a0_15, .int .u8 a0_16] [] rfl 0 rfl rfl Tryd.underlying25 rfl (by kernel_rfl) ?_; (case hg => rfl)) | ((with_reducible refine gate_callee (f := 22) rfl ?_); refine goesL_ (some 50) rfl rfl Tryd.func22 (by kernel_rfl) rfl #[.agg #[.bool true, .int .u8 a0_1, .int .u8 a0_2, .int .u8 a0_3, .int .u8 a0_4, .int .u8 a0_5, .int .u8 a0_6, .int .u8 a0_7, .int .u8 a0_8, .int .u8 a0_9, .int .u8 a0_10, .int .u8 a0_11, .int .u8 a0_12, .int .u8 a0_13, .int .u8 a0_14, .int .u8 a0_15, .int .u8 a0_16], .int .i64 12] rfl (by (try simp only [List.map_toArray, List.map_cons, List.map_nil]); first | done | rfl | (simp only [List.length_drop, List.length_take]; rfl)) ?_; (with_reducible refine (lanternref05_Tail.calls k1 true a0_1 a0_2 a0_3 a0_4 a0_5 a0_6 a0_7 a0_8 a0_9 a0_10 a0_11 a0_12 a0_13 a0_14 a0_15 a0_16 12 t436 t437 t438 t439 t440 t441 t442 t443 t444 t445 t446 t447 t448 t449 t450 t451 t452 _ ?side1 A16.out).mono ?_); (case side1 => exact LW.below HLW.out (by repeat (first | (with_reducible first | exact HB.out | apply below_alloc | apply pw_below_drewN | apply below_drew1 | refine below_set ?_ GE432.out | refine below_set ?_ GE433.out) | exact HB.out))); rintro e w20 ⟨rfl, hb⟩; refine ⟨_, rfl, ?_⟩; have n0_ := Aside0.mk (blk_below (g := gb432) (o := .cells #[.bool true, .int .u8 a0_1, .int .u8 a0_2, .int .u8 a0_3, .int .u8 a0_4, .int .u8 a0_5, .int .u8 a0_6, .int .u8 a0_7, .int .u8 a0_8, .int .u8 a0_9, .int .u8 a0_10, .int .u8 a0_11, .int .u8 a0_12, .int .u8 a0_13, .int .u8 a0_14, .int .u8 a0_15, .int .u8 a0_16] 25 (0, 0)) (by (with_reducible repeat (first | refine blk_drewN ?_ _ | refine blk_drew ?_ | refine blk_alloc ?_ _)); exact BK432.out) hb); have n1_ := Aside0.mk (blk_below (g := gb433) (o := .cells #[.bool false, .int .u8 0, .int .u8 0, .int .u8 0, .int .u8 0, .int .u8 0, .int .u8 0, .int .u8 0, .int .u8 0, .int .u8 0, .int .u8 0, .int .u8 0, .int .u8 0, .int .u8 0, .int .u8 0, .int .u8 0, .int .u8 0] 25 (0, 0)) (by (with_reducible repeat (first | refine blk_drewN ?_ _ | refine blk_drew ?_ | refine blk_alloc ?_ _)); exact BK433.out) hb); have n2_ := Aside0.mk (below_step (by repeat (first | (with_reducible first | exact HB.out | apply below_alloc | apply pw_below_drewN | apply below_drew1 | refine below_set ?_ GE432.out | refine below_set ?_ GE433.out) | exact HB.out)) hb); clear BK432; clear BK433; clear HB; have BK432 := n0_; have BK433 := n1_; have HB := n2_; clear n0_ n1_ n2_; (try clear hb); (try clear hb2); (try clear hk); (try clear hi); have hcz21_0 : w20.cell? ⟨gb433, 0, none⟩ = some (.bool false) := (blk_cell BK433.out 0).trans rfl; have hcz21_1 : w20.cell? ⟨gb433, 1, none⟩ = some (.int .u8 0) := (blk_cell BK433.out 1).trans rfl; have hcz21_2 : w20.cell? ⟨gb433, 2, none⟩ = some (.int .u8 0) := (blk_cell BK433.out 2).trans rfl; have hcz21_3 : w20.cell? ⟨gb433, 3, none⟩ = some (.int .u8 0) := (blk_cell BK433.out 3).trans rfl; have hcz21_4 : w20.cell? ⟨gb433, 4, none⟩ = some (.int .u8 0) := (blk_cell BK433.out 4).trans rfl; have hcz21_5 : w20.cell? ⟨gb433, 5, none⟩ = some (.int .u8 0) := (blk_cell BK433.out 5).trans rfl; have hcz21_6 : w20.cell? ⟨gb433, 6, none⟩ = some (.int .u8 0) := (blk_cell BK433.out 6).trans rfl; have hcz21_7 : w20.cell? ⟨gb433, 7, none⟩ = some (.int .u8 0) := (blk_cell BK433.out 7).trans rfl; have hcz21_8 : w20.cell? ⟨gb433, 8, none⟩ = some (.int .u8 0) := (blk_cell BK433.out 8).trans rfl; have hcz21_9 : w20.cell? ⟨gb433, 9, none⟩ = some (.int .u8 0) := (blk_cell BK433.out 9).trans rfl; have hcz21_10 : w20.cell? ⟨gb433, 10, none⟩ = some (.int .u8 0) := (blk_cell BK433.out 10).trans rfl; have hcz21_11 : w20.cell? ⟨gb433, 11, none⟩ = some (.int .u8 0) := (blk_cell BK433.out 11).trans rfl; have hcz21_12 : w20.cell? ⟨gb433, 12, none⟩ = some (.int .u8 0) := (blk_cell BK433.out 12).trans rfl; have hcz21_13 : w20.cell? ⟨gb433, 13, none⟩ = some (.int .u8 0) := (blk_cell BK433.out 13).trans rfl; have hcz21_14 : w20.cell? ⟨gb433, 14, none⟩ = some (.int .u8 0) := (blk_cell BK433.out 14).trans rfl; have hcz21_15 : w20.cell? ⟨gb433, 15, none⟩ = some (.int .u8 0) := (blk_cell BK433.out 15).trans rfl; have hcz21_16 : w20.cell? ⟨gb433, 16, none⟩ = some (.int .u8 0) := (blk_cell BK433.out 16).trans rfl; have hfz21_0 := blk_frozen BK433.out 0; have hfz21_1 := blk_frozen BK433.out 1; have hfz21_2 := blk_frozen BK433.out 2; have hfz21_3 := blk_frozen BK433.out 3; have hfz21_4 := blk_frozen BK433.out 4; have hfz21_5 := blk_frozen BK433.out 5; have hfz21_6 := blk_frozen BK433.out 6; have hfz21_7 := blk_frozen BK433.out 7; have hfz21_8 := blk_frozen BK433.out 8; have hfz21_9 := blk_frozen BK433.out 9; have hfz21_10 := blk_frozen BK433.out 10; have hfz21_11 := blk_frozen BK433.out 11; have hfz21_12 := blk_frozen BK433.out 12; have hfz21_13 := blk_frozen BK433.out 13; have hfz21_14 := blk_frozen BK433.out 14; have hfz21_15 := blk_frozen BK433.out 15; have hfz21_16 := blk_frozen BK433.out 16) | ((with_reducible refine gate_store (t := 25) (p := 2) rfl ?_); refine store_all ?hg 25 2 _ rfl rfl gb433 [.bool false, .int .u8 0, .int .u8 0, .int .u8 0, .int .u8 0, .int .u8 0, .int .u8 0, .int .u8 0, .int .u8 0, .int .u8 0, .int .u8 0, .int .u8 0, .int .u8 0, .int .u8 0, .int .u8 0, .int .u8 0, .int .u8 0] [.bool t436, .int .u8 t437, .int .u8 t438, .int .u8 t439, .int .u8 t440, .int .u8 t441, .int .u8 t442, .int .u8 t443, .int .u8 t444, .int .u8 t445, .int .u8 t446, .int .u8 t447, .int .u8 t448, .int .u8 t449, .int .u8 t450, .int .u8 t451, .int .u8 t452] BK433.out rfl rfl rfl (by kernel_rfl) rfl ?_; (case hg => rfl); intro w22 hw; have n0_ : Aside0 (w22.heap[gb432]? = some (.cells #[.bool true, .int .u8 a0_1, .int .u8 a0_2, .int .u8 a0_3, .int .u8 a0_4, .int .u8 a0_5, .int .u8 a0_6, .int .u8 a0_7, .int .u8 a0_8, .int .u8 a0_9, .int .u8 a0_10, .int .u8 a0_11, .int .u8 a0_12, .int .u8 a0_13, .int .u8 a0_14, .int .u8 a0_15, .int .u8 a0_16] 25 (0, 0))) := ⟨(by rw [hw]; exact (by (with_reducible repeat (first | refine blk_drewN ?_ _ | refine blk_drew ?_ | refine blk_alloc ?_ _)); refine blk_farC NB432_433.out _ _ ?_; (with_reducible repeat (first | refine blk_drewN ?_ _ | refine blk_drew ?_ | refine blk_alloc ?_ _)); exact BK432.out))⟩; have n1_ : Aside0 (w22.heap[gb433]? = some (.cells #[.bool t436, .int .u8 t437, .int .u8 t438, .int .u8 t439, .int .u8 t440, .int .u8 t441, .int .u8 t442, .int .u8 t443, .int .u8 t444, .int .u8 t445, .int .u8 t446, .int .u8 t447, .int .u8 t448, .int .u8 t449, .int .u8 t450, .int .u8 t451, .int .u8 t452] 25 (0, 0))) := ⟨(by rw [hw]; exact (by (with_reducible repeat (first | refine blk_drewN ?_ _ | refine blk_drew ?_ | refine blk_alloc ?_ _)); refine blk_part [.bool t436, .int .u8 t437, .int .u8 t438, .int .u8 t439, .int .u8 t440, .int .u8 t441, .int .u8 t442, .int .u8 t443, .int .u8 t444, .int .u8 t445, .int .u8 t446, .int .u8 t447, .int .u8 t448, .int .u8 t449, .int .u8 t450, .int .u8 t451, .int .u8 t452] [.bool false, .int .u8 0, .int .u8 0, .int .u8 0, .int .u8 0, .int .u8 0, .int .u8 0, .int .u8 0, .int .u8 0, .int .u8 0, .int .u8 0, .int .u8 0, .int .u8 0, .int .u8 0, .int .u8 0, .int .u8 0, .int .u8 0] [] [] (cs := #[.bool false, .int .u8 0, .int .u8 0, .int .u8 0, .int .u8 0, .int .u8 0, .int .u8 0, .int .u8 0, .int .u8 0, .int .u8 0, .int .u8 0, .int .u8 0, .int .u8 0, .int .u8 0, .int .u8 0, .int .u8 0, .int .u8 0]) ?_ rfl rfl rfl; (with_reducible repeat (first | refine blk_drewN ?_ _ | refine blk_drew ?_ | refine blk_alloc ?_ _)); exact BK433.out))⟩; have n2_ : Aside0 (Below w.heap.size w w22) := ⟨(by rw [hw]; exact (by repeat (first | (with_reducible first | exact HB.out | apply below_alloc | apply pw_below_drewN | apply below_drew1 | refine below_set ?_ GE432.out | refine below_set ?_ GE433.out | refine below_setC GE432.out _ _ ?_ | refine below_setC GE433.out _ _ ?_) | exact HB.out)))⟩; clear hw; clear BK432; clear BK433; clear HB; have BK432 := n0_; have BK433 := n1_; have HB := n2_; clear n0_ n1_ n2_))
      refine bodyPost_ret (results_ct rfl _ _ gb433 25 #[.bool t436, .int .u8 t437, .int .u8 t438, .int .u8 t439, .int .u8 t440, .int .u8 t441, .int .u8 t442, .int .u8 t443, .int .u8 t444, .int .u8 t445, .int .u8 t446, .int .u8 t447, .int .u8 t448, .int .u8 t449, .int .u8 t450, .int .u8 t451, .int .u8 t452] (0, 0) _ rfl (by (with_reducible repeat (first | refine blk_drewN ?_ _ | refine blk_drew ?_ | refine blk_alloc ?_ _)); exact BK433.out) Tryd.underlying25 rfl (by kernel_rfl)) rfl ?_
      exact ⟨by first | rfl | (simp [errW_none, errW_some] <;> rfl) | (simp [*, errW_none, errW_some] <;> rfl) | (simp [errW_none, errW_some]; first | exact isEmpty_bne _ | exact isEmpty_beq _ | exact (isEmpty_bne _).symm), by repeat (first | (with_reducible first | exact HB.out | apply below_alloc | apply pw_below_drewN | apply below_drew1 | refine below_set ?_ GE432.out | refine below_set ?_ GE433.out) | exact HB.out)⟩
     ·replace c15 := Bool.eq_false_iff.mpr c15
      subst c15
      have H1 : (if x4_1 = true then (lanternref05_Embeds.j1 k1 x4_1 (wrap64 ((wrap64 ((wrap64 ((wrap64 ((wrap64 (a0_1)) * 16777216)) + (wrap64 ((wrap64 (a0_2)) * 65536)))) + (wrap64 ((wrap64 (a0_3)) * 256)))) + (wrap64 (a0_4)))) ((wrap64 ((wrap64 ((wrap64 ((wrap64 ((wrap64 (a0_1)) * 16777216)) + (wrap64 ((wrap64 (a0_2)) * 65536)))) + (wrap64 ((wrap64 (a0_3)) * 256)))) + (wrap64 (a0_4)))) == 6619035) true a0_1 a0_2 a0_3 a0_4 a0_5 a0_6 a0_7 a0_8 a0_9 a0_10 a0_11 a0_12 a0_13 a0_14 a0_15 a0_16) else (lanternref05_Embeds.j1 k1 x4_1 (wrap64 ((wrap64 ((wrap64 ((wrap64 ((wrap64 (a0_1)) * 16777216)) + (wrap64 ((wrap64 (a0_2)) * 65536)))) + (wrap64 ((wrap64 (a0_3)) * 256)))) + (wrap64 (a0_4)))) false true a0_1 a0_2 a0_3 a0_4 a0_5 a0_6 a0_7 a0_8 a0_9 a0_10 a0_11 a0_12 a0_13 a0_14 a0_15 a0_16)) = some (r1, r2, r3, r4, r5, r6, r7, r8, r9, r10, r11, r12, r13, r14, r15, r16, r17, r18) := by rw [if_neg (show ¬ (false = true) by decide)] at H; exact H
      clear H
      have H := H1
      clear H1
      have HC23 := Aside0.mk H
      clear H
      have hnb24 := NB432_433.out
      have hnc24 := NB433_432.out
      have hcz25_0 : wr.cell? ⟨gb432, 0, none⟩ = some (.bool true) := (blk_cell BK432.out 0).trans rfl
      have hcz25_1 : wr.cell? ⟨gb432, 1, none⟩ = some (.int .u8 a0_1) := (blk_cell BK432.out 1).trans rfl
      have hcz25_2 : wr.cell? ⟨gb432, 2, none⟩ = some (.int .u8 a0_2) := (blk_cell BK432.out 2).trans rfl
      have hcz25_3 : wr.cell? ⟨gb432, 3, none⟩ = some (.int .u8 a0_3) := (blk_cell BK432.out 3).trans rfl
      have hcz25_4 : wr.cell? ⟨gb432, 4, none⟩ = some (.int .u8 a0_4) := (blk_cell BK432.out 4).trans rfl
      have hcz25_5 : wr.cell? ⟨gb432, 5, none⟩ = some (.int .u8 a0_5) := (blk_cell BK432.out 5).trans rfl
      have hcz25_6 : wr.cell? ⟨gb432, 6, none⟩ = some (.int .u8 a0_6) := (blk_cell BK432.out 6).trans rfl
      have hcz25_7 : wr.cell? ⟨gb432, 7, none⟩ = some (.int .u8 a0_7) := (blk_cell BK432.out 7).trans rfl
      have hcz25_8 : wr.cell? ⟨gb432, 8, none⟩ = some (.int .u8 a0_8) := (blk_cell BK432.out 8).trans rfl
      have hcz25_9 : wr.cell? ⟨gb432, 9, none⟩ = some (.int .u8 a0_9) := (blk_cell BK432.out 9).trans rfl
      have hcz25_10 : wr.cell? ⟨gb432, 10, none⟩ = some (.int .u8 a0_10) := (blk_cell BK432.out 10).trans rfl
      have hcz25_11 : wr.cell? ⟨gb432, 11, none⟩ = some (.int .u8 a0_11) := (blk_cell BK432.out 11).trans rfl
      have hcz25_12 : wr.cell? ⟨gb432, 12, none⟩ = some (.int .u8 a0_12) := (blk_cell BK432.out 12).trans rfl
      have hcz25_13 : wr.cell? ⟨gb432, 13, none⟩ = some (.int .u8 a0_13) := (blk_cell BK432.out 13).trans rfl
      have hcz25_14 : wr.cell? ⟨gb432, 14, none⟩ = some (.int .u8 a0_14) := (blk_cell BK432.out 14).trans rfl
      have hcz25_15 : wr.cell? ⟨gb432, 15, none⟩ = some (.int .u8 a0_15) := (blk_cell BK432.out 15).trans rfl
      have hcz25_16 : wr.cell? ⟨gb432, 16, none⟩ = some (.int .u8 a0_16) := (blk_cell BK432.out 16).trans rfl
      have hfz25_0 := blk_frozen BK432.out 0
      have hfz25_1 := blk_frozen BK432.out 1
      have hfz25_2 := blk_frozen BK432.out 2
      have hfz25_3 := blk_frozen BK432.out 3
      have hfz25_4 := blk_frozen BK432.out 4
      have hfz25_5 := blk_frozen BK432.out 5
      have hfz25_6 := blk_frozen BK432.out 6
      have hfz25_7 := blk_frozen BK432.out 7
      have hfz25_8 := blk_frozen BK432.out 8
      have hfz25_9 := blk_frozen BK432.out 9
      have hfz25_10 := blk_frozen BK432.out 10
      have hfz25_11 := blk_frozen BK432.out 11
      have hfz25_12 := blk_frozen BK432.out 12
      have hfz25_13 := blk_frozen BK432.out 13
      have hfz25_14 := blk_frozen BK432.out 14
      have hfz25_15 := blk_frozen BK432.out 15
      have hfz25_16 := blk_frozen BK432.out 16
      go_upto_region 11 with (first | ((with_reducible refine gate_dst (N := 47) rfl ?_); (try (refine gate_guard (by rfl) ?_; dsimp only)); refine load_box ?hg 25 (.tmp 1) rfl BK432.out [] [.bool true, .int .u8 a0_1, .int .u8 a0_2, .int .u8 a0_3, .int .u8 a0_4, .int .u8 a0_5, .int .u8 a0_6, .int .u8 a0_7, .int .u8 a0_8, .int .u8 a0_9, .int .u8 a0_10, .int .u8 a0_11, .int .u8 a0_12, .int .u8 a0_13, .int .u8 a0_14, .int .u8 a0_15, .int .u8 a0_16] [] rfl 0 rfl rfl Tryd.underlying25 rfl (by kernel_rfl) ?_; (case hg => rfl)) | ((with_reducible refine gate_callee (f := 21) rfl ?_); refine goesL_ (some 48) rfl rfl Tryd.func21 (by kernel_rfl) rfl #[.agg #[.bool true, .int .u8 a0_1, .int .u8 a0_2, .int .u8 a0_3, .int .u8 a0_4, .int .u8 a0_5, .int .u8 a0_6, .int .u8 a0_7, .int .u8 a0_8, .int .u8 a0_9, .int .u8 a0_10, .int .u8 a0_11, .int .u8 a0_12, .int .u8 a0_13, .int .u8 a0_14, .int .u8 a0_15, .int .u8 a0_16]] rfl (by (try simp only [List.map_toArray, List.map_cons, List.map_nil]); first | done | rfl | (simp only [List.length_drop, List.length_take]; rfl)) ?_; (with_reducible refine (lanternref05_Mapped.calls k1 true a0_1 a0_2 a0_3 a0_4 a0_5 a0_6 a0_7 a0_8 a0_9 a0_10 a0_11 a0_12 a0_13 a0_14 a0_15 a0_16 false _ ?side1 A14.out).mono ?_); (case side1 => exact LW.below HLW.out (by repeat (first | (with_reducible first | exact HB.out | apply below_alloc | apply pw_below_drewN | apply below_drew1 | refine below_set ?_ GE432.out | refine below_set ?_ GE433.out) | exact HB.out))); rintro e w26 ⟨rfl, hb⟩; refine ⟨_, rfl, ?_⟩; have n0_ := Aside0.mk (blk_below (g := gb432) (o := .cells #[.bool true, .int .u8 a0_1, .int .u8 a0_2, .int .u8 a0_3, .int .u8 a0_4, .int .u8 a0_5, .int .u8 a0_6, .int .u8 a0_7, .int .u8 a0_8, .int .u8 a0_9, .int .u8 a0_10, .int .u8 a0_11, .int .u8 a0_12, .int .u8 a0_13, .int .u8 a0_14, .int .u8 a0_15, .int .u8 a0_16] 25 (0, 0)) (by (with_reducible repeat (first | refine blk_drewN ?_ _ | refine blk_drew ?_ | refine blk_alloc ?_ _)); exact BK432.out) hb); have n1_ := Aside0.mk (blk_below (g := gb433) (o := .cells #[.bool false, .int .u8 0, .int .u8 0, .int .u8 0, .int .u8 0, .int .u8 0, .int .u8 0, .int .u8 0, .int .u8 0, .int .u8 0, .int .u8 0, .int .u8 0, .int .u8 0, .int .u8 0, .int .u8 0, .int .u8 0, .int .u8 0] 25 (0, 0)) (by (with_reducible repeat (first | refine blk_drewN ?_ _ | refine blk_drew ?_ | refine blk_alloc ?_ _)); exact BK433.out) hb); have n2_ := Aside0.mk (below_step (by repeat (first | (with_reducible first | exact HB.out | apply below_alloc | apply pw_below_drewN | apply below_drew1 | refine below_set ?_ GE432.out | refine below_set ?_ GE433.out) | exact HB.out)) hb); clear BK432; clear BK433; clear HB; have BK432 := n0_; have BK433 := n1_; have HB := n2_; clear n0_ n1_ n2_; (try clear hb); (try clear hb2); (try clear hk); (try clear hi)))
      (try simp only [Act.put, List.setIfInBounds_toArray, List.set_cons_zero, List.set_cons_succ])
      go_cut [51] (fun v51 wc => ∃ (kq : Nat) (x51_22 : Bool), v51 = .bool x51_22 ∧ Aside0 (lanternref05_Embeds.j1 kq x4_1 (wrap64 ((wrap64 ((wrap64 ((wrap64 ((wrap64 (a0_1)) * 16777216)) + (wrap64 ((wrap64 (a0_2)) * 65536)))) + (wrap64 ((wrap64 (a0_3)) * 256)))) + (wrap64 (a0_4)))) x51_22 true a0_1 a0_2 a0_3 a0_4 a0_5 a0_6 a0_7 a0_8 a0_9 a0_10 a0_11 a0_12 a0_13 a0_14 a0_15 a0_16 = some (r1, r2, r3, r4, r5, r6, r7, r8, r9, r10, r11, r12, r13, r14, r15, r16, r17, r18)) ∧ Aside0 (kq ≤ k1) ∧ Aside0 (wc.heap[gb432]? = some (.cells #[.bool true, .int .u8 a0_1, .int .u8 a0_2, .int .u8 a0_3, .int .u8 a0_4, .int .u8 a0_5, .int .u8 a0_6, .int .u8 a0_7, .int .u8 a0_8, .int .u8 a0_9, .int .u8 a0_10, .int .u8 a0_11, .int .u8 a0_12, .int .u8 a0_13, .int .u8 a0_14, .int .u8 a0_15, .int .u8 a0_16] 25 (0, 0))) ∧ Aside0 (wc.heap[gb433]? = some (.cells #[.bool false, .int .u8 0, .int .u8 0, .int .u8 0, .int .u8 0, .int .u8 0, .int .u8 0, .int .u8 0, .int .u8 0, .int .u8 0, .int .u8 0, .int .u8 0, .int .u8 0, .int .u8 0, .int .u8 0, .int .u8 0, .int .u8 0] 25 (0, 0))) ∧ Aside0 (Below w.heap.size w wc))
      case first =>
       have H := HC23.out
       clear HC23
       by_cases c27 : x4_1 = true
       ·subst c27
        have H1 : (lanternref05_Embeds.j1 k1 true (wrap64 ((wrap64 ((wrap64 ((wrap64 ((wrap64 (a0_1)) * 16777216)) + (wrap64 ((wrap64 (a0_2)) * 65536)))) + (wrap64 ((wrap64 (a0_3)) * 256)))) + (wrap64 (a0_4)))) ((wrap64 ((wrap64 ((wrap64 ((wrap64 ((wrap64 (a0_1)) * 16777216)) + (wrap64 ((wrap64 (a0_2)) * 65536)))) + (wrap64 ((wrap64 (a0_3)) * 256)))) + (wrap64 (a0_4)))) == 6619035) true a0_1 a0_2 a0_3 a0_4 a0_5 a0_6 a0_7 a0_8 a0_9 a0_10 a0_11 a0_12 a0_13 a0_14 a0_15 a0_16) = some (r1, r2, r3, r4, r5, r6, r7, r8, r9, r10, r11, r12, r13, r14, r15, r16, r17, r18) := by rw [if_pos rfl] at H; exact H
        clear H
        have H := H1
        clear H1
        have H' := Aside0.mk H
        clear H
        go_wp2
        go_meet
        case rel => exact ⟨_, (((wrap64 ((wrap64 ((wrap64 ((wrap64 ((wrap64 (a0_1)) * 16777216)) + (wrap64 ((wrap64 (a0_2)) * 65536)))) + (wrap64 ((wrap64 (a0_3)) * 256)))) + (wrap64 (a0_4)))) == 6619035)), (by first | rfl | (simp; done) | (simp [*]; done) | (simp; exact isEmpty_bne _) | (simp; exact isEmpty_beq _)), H', ⟨by have := HK1.out; first | omega | exact Nat.le_refl _⟩, ⟨by (with_reducible repeat (first | refine blk_drewN ?_ _ | refine blk_drew ?_ | refine blk_alloc ?_ _)); exact BK432.out⟩, ⟨by (with_reducible repeat (first | refine blk_drewN ?_ _ | refine blk_drew ?_ | refine blk_alloc ?_ _)); exact BK433.out⟩, ⟨by repeat (first | (with_reducible first | exact HB.out | apply below_alloc | apply pw_below_drewN | apply below_drew1 | refine below_set ?_ GE432.out | refine below_set ?_ GE433.out) | exact HB.out)⟩⟩
       ·replace c27 := Bool.eq_false_iff.mpr c27
        subst c27
        have H1 : (lanternref05_Embeds.j1 k1 false (wrap64 ((wrap64 ((wrap64 ((wrap64 ((wrap64 (a0_1)) * 16777216)) + (wrap64 ((wrap64 (a0_2)) * 65536)))) + (wrap64 ((wrap64 (a0_3)) * 256)))) + (wrap64 (a0_4)))) false true a0_1 a0_2 a0_3 a0_4 a0_5 a0_6 a0_7 a0_8 a0_9 a0_10 a0_11 a0_12 a0_13 a0_14 a0_15 a0_16) = some (r1, r2, r3, r4, r5, r6, r7, r8, r9, r10, r11, r12, r13, r14, r15, r16, r17, r18) := by rw [if_neg (show ¬ (false = true) by decide)] at H; exact H
        clear H
        have H := H1
        clear H1
        have H' := Aside0.mk H
        clear H
        go_wp2
        go_meet
        case rel => exact ⟨_, (false), (by first | rfl | (simp; done) | (simp [*]; done) | (simp; exact isEmpty_bne _) | (simp; exact isEmpty_beq _)), H', ⟨by have := HK1.out; first | omega | exact Nat.le_refl _⟩, ⟨by (with_reducible repeat (first | refine blk_drewN ?_ _ | refine blk_drew ?_ | refine blk_alloc ?_ _)); exact BK432.out⟩, ⟨by (with_reducible repeat (first | refine blk_drewN ?_ _ | refine blk_drew ?_ | refine blk_alloc ?_ _)); exact BK433.out⟩, ⟨by repeat (first | (with_reducible first | exact HB.out | apply below_alloc | apply pw_below_drewN | apply below_drew1 | refine below_set ?_ GE432.out | refine below_set ?_ GE433.out) | exact HB.out)⟩⟩
      case rest =>
       clear HC23
       try clear c1
       try clear c2
       try clear p2
       try clear c5
       try clear p6
       try clear c7
       try clear c7b0
       try clear c8
       try clear c9
       try clear c9b0
       try clear c10
       try clear c10b0
       try clear c12
       try clear c15
       try clear c17
       try clear c19
       try clear c21
       try clear c22
       try clear c24
       try clear c27
       try clear hcz13_0
       try clear hcz13_1
       try clear hcz13_10
       try clear hcz13_11
       try clear hcz13_12
       try clear hcz13_13
       try clear hcz13_14
       try clear hcz13_15
       try clear hcz13_16
       try clear hcz13_2
       try clear hcz13_3
       try clear hcz13_4
       try clear hcz13_5
       try clear hcz13_6
       try clear hcz13_7
       try clear hcz13_8
       try clear hcz13_9
       try clear hcz18_0
       try clear hcz18_1
       try clear hcz18_10
       try clear hcz18_11
       try clear hcz18_12
       try clear hcz18_13
       try clear hcz18_14
       try clear hcz18_15
       try clear hcz18_16
       try clear hcz18_2
       try clear hcz18_3
       try clear hcz18_4
       try clear hcz18_5
       try clear hcz18_6
       try clear hcz18_7
       try clear hcz18_8
       try clear hcz18_9
       try clear hcz21_0
       try clear hcz21_1
       try clear hcz21_10
       try clear hcz21_11
       try clear hcz21_12
       try clear hcz21_13
       try clear hcz21_14
       try clear hcz21_15
       try clear hcz21_16
       try clear hcz21_2
       try clear hcz21_3
       try clear hcz21_4
       try clear hcz21_5
       try clear hcz21_6
       try clear hcz21_7
       try clear hcz21_8
       try clear hcz21_9
       try clear hcz25_0
       try clear hcz25_1
       try clear hcz25_10
       try clear hcz25_11
       try clear hcz25_12
       try clear hcz25_13
       try clear hcz25_14
       try clear hcz25_15
       try clear hcz25_16
       try clear hcz25_2
       try clear hcz25_3
       try clear hcz25_4
       try clear hcz25_5
       try clear hcz25_6
       try clear hcz25_7
       try clear hcz25_8
       try clear hcz25_9
       try clear hcz6_0
       try clear hcz6_1
       try clear hcz6_10
       try clear hcz6_11
       try clear hcz6_12
       try clear hcz6_13
       try clear hcz6_14
       try clear hcz6_15
       try clear hcz6_16
       try clear hcz6_2
       try clear hcz6_3
       try clear hcz6_4
       try clear hcz6_5
       try clear hcz6_6
       try clear hcz6_7
       try clear hcz6_8
       try clear hcz6_9
       try clear hfz13_0
       try clear hfz13_1
       try clear hfz13_10
       try clear hfz13_11
       try clear hfz13_12
       try clear hfz13_13
       try clear hfz13_14
       try clear hfz13_15
       try clear hfz13_16
       try clear hfz13_2
       try clear hfz13_3
       try clear hfz13_4
       try clear hfz13_5
       try clear hfz13_6
       try clear hfz13_7
       try clear hfz13_8
       try clear hfz13_9
       try clear hfz18_0
       try clear hfz18_1
       try clear hfz18_10
       try clear hfz18_11
       try clear hfz18_12
       try clear hfz18_13
       try clear hfz18_14
       try clear hfz18_15
       try clear hfz18_16
       try clear hfz18_2
       try clear hfz18_3
       try clear hfz18_4
       try clear hfz18_5
       try clear hfz18_6
       try clear hfz18_7
       try clear hfz18_8
       try clear hfz18_9
       try clear hfz21_0
       try clear hfz21_1
       try clear hfz21_10
       try clear hfz21_11
       try clear hfz21_12
       try clear hfz21_13
       try clear hfz21_14
       try clear hfz21_15
       try clear hfz21_16
       try clear hfz21_2
       try clear hfz21_3
       try clear hfz21_4
       try clear hfz21_5
       try clear hfz21_6
       try clear hfz21_7
       try clear hfz21_8
       try clear hfz21_9
       try clear hfz25_0
       try clear hfz25_1
       try clear hfz25_10
       try clear hfz25_11
       try clear hfz25_12
       try clear hfz25_13
       try clear hfz25_14
       try clear hfz25_15
       try clear hfz25_16
       try clear hfz25_2
       try clear hfz25_3
       try clear hfz25_4
       try clear hfz25_5
       try clear hfz25_6
       try clear hfz25_7
       try clear hfz25_8
       try clear hfz25_9
       try clear hfz6_0
       try clear hfz6_1
       try clear hfz6_10
       try clear hfz6_11
       try clear hfz6_12
       try clear hfz6_13
       try clear hfz6_14
       try clear hfz6_15
       try clear hfz6_16
       try clear hfz6_2
       try clear hfz6_3
       try clear hfz6_4
       try clear hfz6_5
       try clear hfz6_6
       try clear hfz6_7
       try clear hfz6_8
       try clear hfz6_9
       try clear p2
       obtain ⟨kq, x51_22, rfl, HA, HJ22, BK432, BK433, HB⟩ := hcut
       cases kq with
       | zero => exact absurd HA.out (by simp [lanternref05_Embeds.j1])
       | succ kj22 =>
        have H := HA.out
        clear HA
        simp only [lanternref05_Embeds.j1] at H
        by_cases c28 : x51_22 = true
        ·subst c28
         have H1 : ((lanternref05_Tail.f kj22 true a0_1 a0_2 a0_3 a0_4 a0_5 a0_6 a0_7 a0_8 a0_9 a0_10 a0_11 a0_12 a0_13 a0_14 a0_15 a0_16 12).bind fun bt453 => (some (bt453.1, bt453.2.1, bt453.2.2.1, bt453.2.2.2.1, bt453.2.2.2.2.1, bt453.2.2.2.2.2.1, bt453.2.2.2.2.2.2.1, bt453.2.2.2.2.2.2.2.1, bt453.2.2.2.2.2.2.2.2.1, bt453.2.2.2.2.2.2.2.2.2.1, bt453.2.2.2.2.2.2.2.2.2.2.1, bt453.2.2.2.2.2.2.2.2.2.2.2.1, bt453.2.2.2.2.2.2.2.2.2.2.2.2.1, bt453.2.2.2.2.2.2.2.2.2.2.2.2.2.1, bt453.2.2.2.2.2.2.2.2.2.2.2.2.2.2.1, bt453.2.2.2.2.2.2.2.2.2.2.2.2.2.2.2.1, bt453.2.2.2.2.2.2.2.2.2.2.2.2.2.2.2.2, true))) = some (r1, r2, r3, r4, r5, r6, r7, r8, r9, r10, r11, r12, r13, r14, r15, r16, r17, r18) := by rw [if_pos rfl] at H; exact H
         clear H
         have H := H1
         clear H1
         replace H := Option.bind_eq_some_iff.mp H
         obtain ⟨⟨t453, t454, t455, t456, t457, t458, t459, t460, t461, t462, t463, t464, t465, t466, t467, t468, t469⟩, A290, H⟩ := H
         replace H : (some (t453, t454, t455, t456, t457, t458, t459, t460, t461, t462, t463, t464, t465, t466, t467, t468, t469, true)) = some (r1, r2, r3, r4, r5, r6, r7, r8, r9, r10, r11, r12, r13, r14, r15, r16, r17, r18) := H
         have A29 := Aside0.mk A290
         clear A290
         simp only [Option.some.injEq, Prod.mk.injEq] at H
         obtain ⟨rfl, rfl, rfl, rfl, rfl, rfl, rfl, rfl, rfl, rfl, rfl, rfl, rfl, rfl, rfl, rfl, rfl, rfl⟩ := H
         go_wp2_with (first | ((with_reducible refine gate_dst (N := 57) rfl ?_); (try (refine gate_guard (by rfl) ?_; dsimp only)); refine load_box ?hg 25 (.tmp 1) rfl BK432.out [] [.bool true, .int .u8 a0_1, .int .u8 a0_2, .int .u8 a0_3, .int .u8 a0_4, .int .u8 a0_5, .int .u8 a0_6, .int .u8 a0_7, .int .u8 a0_8, .int .u8 a0_9, .int .u8 a0_10, .int .u8 a0_11, .int .u8 a0_12, .int .u8 a0_13, .int .u8 a0_14, .int .u8 a0_15, .int .u8 a0_16] [] rfl 0 rfl rfl Tryd.underlying25 rfl (by kernel_rfl) ?_; (case hg => rfl)) | ((with_reducible refine gate_callee (f := 22) rfl ?_); refine goesL_ (some 58) rfl rfl Tryd.func22 (by kernel_rfl) rfl #[.agg #[.bool true, .int .u8 a0_1, .int .u8 a0_2, .int .u8 a0_3, .int .u8 a0_4, .int .u8 a0_5, .int .u8 a0_6, .int .u8 a0_7, .int .u8 a0_8, .int .u8 a0_9, .int .u8 a0_10, .int .u8 a0_11, .int .u8 a0_12, .int .u8 a0_13, .int .u8 a0_14, .int .u8 a0_15, .int .u8 a0_16], .int .i64 12] rfl (by (try simp only [List.map_toArray, List.map_cons, List.map_nil]); first | done | rfl | (simp only [List.length_drop, List.length_take]; rfl)) ?_; (with_reducible refine (lanternref05_Tail.calls kj22 true a0_1 a0_2 a0_3 a0_4 a0_5 a0_6 a0_7 a0_8 a0_9 a0_10 a0_11 a0_12 a0_13 a0_14 a0_15 a0_16 12 t453 t454 t455 t456 t457 t458 t459 t460 t461 t462 t463 t464 t465 t466 t467 t468 t469 _ ?side1 A29.out).mono ?_); (case side1 => exact LW.below HLW.out (by repeat (first | (with_reducible first | exact HB.out | apply below_alloc | apply pw_below_drewN | apply below_drew1 | refine below_set ?_ GE432.out | refine below_set ?_ GE433.out) | exact HB.out))); rintro e w30 ⟨rfl, hb⟩; refine ⟨_, rfl, ?_⟩; have n0_ := Aside0.mk (blk_below (g := gb432) (o := .cells #[.bool true, .int .u8 a0_1, .int .u8 a0_2, .int .u8 a0_3, .int .u8 a0_4, .int .u8 a0_5, .int .u8 a0_6, .int .u8 a0_7, .int .u8 a0_8, .int .u8 a0_9, .int .u8 a0_10, .int .u8 a0_11, .int .u8 a0_12, .int .u8 a0_13, .int .u8 a0_14, .int .u8 a0_15, .int .u8 a0_16] 25 (0, 0)) (by (with_reducible repeat (first | refine blk_drewN ?_ _ | refine blk_drew ?_ | refine blk_alloc ?_ _)); exact BK432.out) hb); have n1_ := Aside0.mk (blk_below (g := gb433) (o := .cells #[.bool false, .int .u8 0, .int .u8 0, .int .u8 0, .int .u8 0, .int .u8 0, .int .u8 0, .int .u8 0, .int .u8 0, .int .u8 0, .int .u8 0, .int .u8 0, .int .u8 0, .int .u8 0, .int .u8 0, .int .u8 0, .int .u8 0] 25 (0, 0)) (by (with_reducible repeat (first | refine blk_drewN ?_ _ | refine blk_drew ?_ | refine blk_alloc ?_ _)); exact BK433.out) hb); have n2_ := Aside0.mk (below_step (by repeat (first | (with_reducible first | exact HB.out | apply below_alloc | apply pw_below_drewN | apply below_drew1 | refine below_set ?_ GE432.out | refine below_set ?_ GE433.out) | exact HB.out)) hb); clear BK432; clear BK433; clear HB; have BK432 := n0_; have BK433 := n1_; have HB := n2_; clear n0_ n1_ n2_; (try clear hb); (try clear hb2); (try clear hk); (try clear hi); have hnb31 := NB433_432.out; have hnc31 := NB432_433.out; have hcz32_0 : w30.cell? ⟨gb433, 0, none⟩ = some (.bool false) := (blk_cell BK433.out 0).trans rfl; have hcz32_1 : w30.cell? ⟨gb433, 1, none⟩ = some (.int .u8 0) := (blk_cell BK433.out 1).trans rfl; have hcz32_2 : w30.cell? ⟨gb433, 2, none⟩ = some (.int .u8 0) := (blk_cell BK433.out 2).trans rfl; have hcz32_3 : w30.cell? ⟨gb433, 3, none⟩ = some (.int .u8 0) := (blk_cell BK433.out 3).trans rfl; have hcz32_4 : w30.cell? ⟨gb433, 4, none⟩ = some (.int .u8 0) := (blk_cell BK433.out 4).trans rfl; have hcz32_5 : w30.cell? ⟨gb433, 5, none⟩ = some (.int .u8 0) := (blk_cell BK433.out 5).trans rfl; have hcz32_6 : w30.cell? ⟨gb433, 6, none⟩ = some (.int .u8 0) := (blk_cell BK433.out 6).trans rfl; have hcz32_7 : w30.cell? ⟨gb433, 7, none⟩ = some (.int .u8 0) := (blk_cell BK433.out 7).trans rfl; have hcz32_8 : w30.cell? ⟨gb433, 8, none⟩ = some (.int .u8 0) := (blk_cell BK433.out 8).trans rfl; have hcz32_9 : w30.cell? ⟨gb433, 9, none⟩ = some (.int .u8 0) := (blk_cell BK433.out 9).trans rfl; have hcz32_10 : w30.cell? ⟨gb433, 10, none⟩ = some (.int .u8 0) := (blk_cell BK433.out 10).trans rfl; have hcz32_11 : w30.cell? ⟨gb433, 11, none⟩ = some (.int .u8 0) := (blk_cell BK433.out 11).trans rfl; have hcz32_12 : w30.cell? ⟨gb433, 12, none⟩ = some (.int .u8 0) := (blk_cell BK433.out 12).trans rfl; have hcz32_13 : w30.cell? ⟨gb433, 13, none⟩ = some (.int .u8 0) := (blk_cell BK433.out 13).trans rfl; have hcz32_14 : w30.cell? ⟨gb433, 14, none⟩ = some (.int .u8 0) := (blk_cell BK433.out 14).trans rfl; have hcz32_15 : w30.cell? ⟨gb433, 15, none⟩ = some (.int .u8 0) := (blk_cell BK433.out 15).trans rfl; have hcz32_16 : w30.cell? ⟨gb433, 16, none⟩ = some (.int .u8 0) := (blk_cell BK433.out 16).trans rfl; have hfz32_0 := blk_frozen BK433.out 0; have hfz32_1 := blk_frozen BK433.out 1; have hfz32_2 := blk_frozen BK433.out 2; have hfz32_3 := blk_frozen BK433.out 3; have hfz32_4 := blk_frozen BK433.out 4; have hfz32_5 := blk_frozen BK433.out 5; have hfz32_6 := blk_frozen BK433.out 6; have hfz32_7 := blk_frozen BK433.out 7; have hfz32_8 := blk_frozen BK433.out 8; have hfz32_9 := blk_frozen BK433.out 9; have hfz32_10 := blk_frozen BK433.out 10; have hfz32_11 := blk_frozen BK433.out 11; have hfz32_12 := blk_frozen BK433.out 12; have hfz32_13 := blk_frozen BK433.out 13; have hfz32_14 := blk_frozen BK433.out 14; have hfz32_15 := blk_frozen BK433.out 15; have hfz32_16 := blk_frozen BK433.out 16) | ((with_reducible refine gate_store (t := 25) (p := 2) rfl ?_); refine store_all ?hg 25 2 _ rfl rfl gb433 [.bool false, .int .u8 0, .int .u8 0, .int .u8 0, .int .u8 0, .int .u8 0, .int .u8 0, .int .u8 0, .int .u8 0, .int .u8 0, .int .u8 0, .int .u8 0, .int .u8 0, .int .u8 0, .int .u8 0, .int .u8 0, .int .u8 0] [.bool t453, .int .u8 t454, .int .u8 t455, .int .u8 t456, .int .u8 t457, .int .u8 t458, .int .u8 t459, .int .u8 t460, .int .u8 t461, .int .u8 t462, .int .u8 t463, .int .u8 t464, .int .u8 t465, .int .u8 t466, .int .u8 t467, .int .u8 t468, .int .u8 t469] BK433.out rfl rfl rfl (by kernel_rfl) rfl ?_; (case hg => rfl); intro w33 hw; have n0_ : Aside0 (w33.heap[gb432]? = some (.cells #[.bool true, .int .u8 a0_1, .int .u8 a0_2, .int .u8 a0_3, .int .u8 a0_4, .int .u8 a0_5, .int .u8 a0_6, .int .u8 a0_7, .int .u8 a0_8, .int .u8 a0_9, .int .u8 a0_10, .int .u8 a0_11, .int .u8 a0_12, .int .u8 a0_13, .int .u8 a0_14, .int .u8 a0_15, .int .u8 a0_16] 25 (0, 0))) := ⟨(by rw [hw]; exact (by (with_reducible repeat (first | refine blk_drewN ?_ _ | refine blk_drew ?_ | refine blk_alloc ?_ _)); refine blk_farC NB432_433.out _ _ ?_; (with_reducible repeat (first | refine blk_drewN ?_ _ | refine blk_drew ?_ | refine blk_alloc ?_ _)); exact BK432.out))⟩; have n1_ : Aside0 (w33.heap[gb433]? = some (.cells #[.bool t453, .int .u8 t454, .int .u8 t455, .int .u8 t456, .int .u8 t457, .int .u8 t458, .int .u8 t459, .int .u8 t460, .int .u8 t461, .int .u8 t462, .int .u8 t463, .int .u8 t464, .int .u8 t465, .int .u8 t466, .int .u8 t467, .int .u8 t468, .int .u8 t469] 25 (0, 0))) := ⟨(by rw [hw]; exact (by (with_reducible repeat (first | refine blk_drewN ?_ _ | refine blk_drew ?_ | refine blk_alloc ?_ _)); refine blk_part [.bool t453, .int .u8 t454, .int .u8 t455, .int .u8 t456, .int .u8 t457, .int .u8 t458, .int .u8 t459, .int .u8 t460, .int .u8 t461, .int .u8 t462, .int .u8 t463, .int .u8 t464, .int .u8 t465, .int .u8 t466, .int .u8 t467, .int .u8 t468, .int .u8 t469] [.bool false, .int .u8 0, .int .u8 0, .int .u8 0, .int .u8 0, .int .u8 0, .int .u8 0, .int .u8 0, .int .u8 0, .int .u8 0, .int .u8 0, .int .u8 0, .int .u8 0, .int .u8 0, .int .u8 0, .int .u8 0, .int .u8 0] [] [] (cs := #[.bool false, .int .u8 0, .int .u8 0, .int .u8 0, .int .u8 0, .int .u8 0, .int .u8 0, .int .u8 0, .int .u8 0, .int .u8 0, .int .u8 0, .int .u8 0, .int .u8 0, .int .u8 0, .int .u8 0, .int .u8 0, .int .u8 0]) ?_ rfl rfl rfl; (with_reducible repeat (first | refine blk_drewN ?_ _ | refine blk_drew ?_ | refine blk_alloc ?_ _)); exact BK433.out))⟩; have n2_ : Aside0 (Below w.heap.size w w33) := ⟨(by rw [hw]; exact (by repeat (first | (with_reducible first | exact HB.out | apply below_alloc | apply pw_below_drewN | apply below_drew1 | refine below_set ?_ GE432.out | refine below_set ?_ GE433.out | refine below_setC GE432.out _ _ ?_ | refine below_setC GE433.out _ _ ?_) | exact HB.out)))⟩; clear hw; clear BK432; clear BK433; clear HB; have BK432 := n0_; have BK433 := n1_; have HB := n2_; clear n0_ n1_ n2_))
         refine bodyPost_ret (results_ct rfl _ _ gb433 25 #[.bool t453, .int .u8 t454, .int .u8 t455, .int .u8 t456, .int .u8 t457, .int .u8 t458, .int .u8 t459, .int .u8 t460, .int .u8 t461, .int .u8 t462, .int .u8 t463, .int .u8 t464, .int .u8 t465, .int .u8 t466, .int .u8 t467, .int .u8 t468, .int .u8 t469] (0, 0) _ rfl (by (with_reducible repeat (first | refine blk_drewN ?_ _ | refine blk_drew ?_ | refine blk_alloc ?_ _)); exact BK433.out) Tryd.underlying25 rfl (by kernel_rfl)) rfl ?_
         exact ⟨by first | rfl | (simp [errW_none, errW_some] <;> rfl) | (simp [*, errW_none, errW_some] <;> rfl) | (simp [errW_none, errW_some]; first | exact isEmpty_bne _ | exact isEmpty_beq _ | exact (isEmpty_bne _).symm), by repeat (first | (with_reducible first | exact HB.out | apply below_alloc | apply pw_below_drewN | apply below_drew1 | refine below_set ?_ GE432.out | refine below_set ?_ GE433.out) | exact HB.out)⟩
        ·replace c28 := Bool.eq_false_iff.mpr c28
         subst c28
         have H1 : (if x4_1 = true then (lanternref05_Embeds.j2 kj22 (wrap64 ((wrap64 ((wrap64 ((wrap64 ((wrap64 (a0_1)) * 16777216)) + (wrap64 ((wrap64 (a0_2)) * 65536)))) + (wrap64 ((wrap64 (a0_3)) * 256)))) + (wrap64 (a0_4)))) ((wrap64 ((wrap64 ((wrap64 ((wrap64 ((wrap64 (a0_1)) * 16777216)) + (wrap64 ((wrap64 (a0_2)) * 65536)))) + (wrap64 ((wrap64 (a0_3)) * 256)))) + (wrap64 (a0_4)))) == 0) true a0_1 a0_2 a0_3 a0_4 a0_5 a0_6 a0_7 a0_8 a0_9 a0_10 a0_11 a0_12 a0_13 a0_14 a0_15 a0_16) else (lanternref05_Embeds.j2 kj22 (wrap64 ((wrap64 ((wrap64 ((wrap64 ((wrap64 (a0_1)) * 16777216)) + (wrap64 ((wrap64 (a0_2)) * 65536)))) + (wrap64 ((wrap64 (a0_3)) * 256)))) + (wrap64 (a0_4)))) false true a0_1 a0_2 a0_3 a0_4 a0_5 a0_6 a0_7 a0_8 a0_9 a0_10 a0_11 a0_12 a0_13 a0_14 a0_15 a0_16)) = some (r1, r2, r3, r4, r5, r6, r7, r8, r9, r10, r11, r12, r13, r14, r15, r16, r17, r18) := by rw [if_neg (show ¬ (false = true) by decide)] at H; exact H
         clear H
         have H := H1
         clear H1
         have HC34 := Aside0.mk H
         clear H
         go_upto_region 13 with (fail)
         go_cut [59] (fun v59 wc => ∃ (kq : Nat) (x59_33 : Bool), v59 = .bool x59_33 ∧ Aside0 (lanternref05_Embeds.j2 kq (wrap64 ((wrap64 ((wrap64 ((wrap64 ((wrap64 (a0_1)) * 16777216)) + (wrap64 ((wrap64 (a0_2)) * 65536)))) + (wrap64 ((wrap64 (a0_3)) * 256)))) + (wrap64 (a0_4)))) x59_33 true a0_1 a0_2 a0_3 a0_4 a0_5 a0_6 a0_7 a0_8 a0_9 a0_10 a0_11 a0_12 a0_13 a0_14 a0_15 a0_16 = some (r1, r2, r3, r4, r5, r6, r7, r8, r9, r10, r11, r12, r13, r14, r15, r16, r17, r18)) ∧ Aside0 (kq ≤ kj22) ∧ Aside0 (wc.heap[gb432]? = some (.cells #[.bool true, .int .u8 a0_1, .int .u8 a0_2, .int .u8 a0_3, .int .u8 a0_4, .int .u8 a0_5, .int .u8 a0_6, .int .u8 a0_7, .int .u8 a0_8, .int .u8 a0_9, .int .u8 a0_10, .int .u8 a0_11, .int .u8 a0_12, .int .u8 a0_13, .int .u8 a0_14, .int .u8 a0_15, .int .u8 a0_16] 25 (0, 0))) ∧ Aside0 (wc.heap[gb433]? = some (.cells #[.bool false, .int .u8 0, .int .u8 0, .int .u8 0, .int .u8 0, .int .u8 0, .int .u8 0, .int .u8 0, .int .u8 0, .int .u8 0, .int .u8 0, .int .u8 0, .int .u8 0, .int .u8 0, .int .u8 0, .int .u8 0, .int .u8 0] 25 (0, 0))) ∧ Aside0 (Below w.heap.size w wc))
         case first =>
          have H := HC34.out
          clear HC34
          by_cases c35 : x4_1 = true
          ·subst c35
           have H1 : (lanternref05_Embeds.j2 kj22 (wrap64 ((wrap64 ((wrap64 ((wrap64 ((wrap64 (a0_1)) * 16777216)) + (wrap64 ((wrap64 (a0_2)) * 65536)))) + (wrap64 ((wrap64 (a0_3)) * 256)))) + (wrap64 (a0_4)))) ((wrap64 ((wrap64 ((wrap64 ((wrap64 ((wrap64 (a0_1)) * 16777216)) + (wrap64 ((wrap64 (a0_2)) * 65536)))) + (wrap64 ((wrap64 (a0_3)) * 256)))) + (wrap64 (a0_4)))) == 0) true a0_1 a0_2 a0_3 a0_4 a0_5 a0_6 a0_7 a0_8 a0_9 a0_10 a0_11 a0_12 a0_13 a0_14 a0_15 a0_16) = some (r1, r2, r3, r4, r5, r6, r7, r8, r9, r10, r11, r12, r13, r14, r15, r16, r17, r18) := by rw [if_pos rfl] at H; exact H
           clear H
           have H := H1
           clear H1
           have H' := Aside0.mk H
           clear H
           go_wp2
           go_meet
           case rel => exact ⟨_, (((wrap64 ((wrap64 ((wrap64 ((wrap64 ((wrap64 (a0_1)) * 16777216)) + (wrap64 ((wrap64 (a0_2)) * 65536)))) + (wrap64 ((wrap64 (a0_3)) * 256)))) + (wrap64 (a0_4)))) == 0)), (by first | rfl | (simp; done) | (simp [*]; done) | (simp; exact isEmpty_bne _) | (simp; exact isEmpty_beq _)), H', ⟨by have := HK1.out; have := HJ22.out; first | omega | exact Nat.le_refl _⟩, ⟨by (with_reducible repeat (first | refine blk_drewN ?_ _ | refine blk_drew ?_ | refine blk_alloc ?_ _)); exact BK432.out⟩, ⟨by (with_reducible repeat (first | refine blk_drewN ?_ _ | refine blk_drew ?_ | refine blk_alloc ?_ _)); exact BK433.out⟩, ⟨by repeat (first | (with_reducible first | exact HB.out | apply below_alloc | apply pw_below_drewN | apply below_drew1 | refine below_set ?_ GE432.out | refine below_set ?_ GE433.out) | exact HB.out)⟩⟩
          ·replace c35 := Bool.eq_false_iff.mpr c35
           subst c35
           have H1 : (lanternref05_Embeds.j2 kj22 (wrap64 ((wrap64 ((wrap64 ((wrap64 ((wrap64 (a0_1)) * 16777216)) + (wrap64 ((wrap64 (a0_2)) * 65536)))) + (wrap64 ((wrap64 (a0_3)) * 256)))) + (wrap64 (a0_4)))) false true a0_1 a0_2 a0_3 a0_4 a0_5 a0_6 a0_7 a0_8 a0_9 a0_10 a0_11 a0_12 a0_13 a0_14 a0_15 a0_16) = some (r1, r2, r3, r4, r5, r6, r7, r8, r9, r10, r11, r12, r13, r14, r15, r16, r17, r18) := by rw [if_neg (show ¬ (false = true) by decide)] at H; exact H
           clear H
           have H := H1
           clear H1
           have H' := Aside0.mk H
           clear H
           go_wp2
           go_meet
           case rel => exact ⟨_, (false), (by first | rfl | (simp; done) | (simp [*]; done) | (simp; exact isEmpty_bne _) | (simp; exact isEmpty_beq _)), H', ⟨by have := HK1.out; have := HJ22.out; first | omega | exact Nat.le_refl _⟩, ⟨by (with_reducible repeat (first | refine blk_drewN ?_ _ | refine blk_drew ?_ | refine blk_alloc ?_ _)); exact BK432.out⟩, ⟨by (with_reducible repeat (first | refine blk_drewN ?_ _ | refine blk_drew ?_ | refine blk_alloc ?_ _)); exact BK433.out⟩, ⟨by repeat (first | (with_reducible first | exact HB.out | apply below_alloc | apply pw_below_drewN | apply below_drew1 | refine below_set ?_ GE432.out | refine below_set ?_ GE433.out) | exact HB.out)⟩⟩
         case rest =>
          clear HC34
          try clear c1
          try clear c2
          try clear p2
          try clear c3
          try clear c5
          try clear p6
          try clear c7
          try clear c7b0
          try clear c8
          try clear c9
          try clear c9b0
          try clear c10
          try clear c10b0
          try clear c12
          try clear c15
          try clear c17
          try clear c19
          try clear c21
          try clear c22
          try clear c24
          try clear c27
          try clear c28
          try clear c31
          try clear c35
          try clear hcz13_0
          try clear hcz13_1
          try clear hcz13_10
          try clear hcz13_11
          try clear hcz13_12
          try clear hcz13_13
          try clear hcz13_14
          try clear hcz13_15
          try clear hcz13_16
          try clear hcz13_2
          try clear hcz13_3
          try clear hcz13_4
          try clear hcz13_5
          try clear hcz13_6
          try clear hcz13_7
          try clear hcz13_8
          try clear hcz13_9
          try clear hcz18_0
          try clear hcz18_1
          try clear hcz18_10
          try clear hcz18_11
          try clear hcz18_12
          try clear hcz18_13
          try clear hcz18_14
          try clear hcz18_15
          try clear hcz18_16
          try clear hcz18_2
          try clear hcz18_3
          try clear hcz18_4
          try clear hcz18_5
          try clear hcz18_6
          try clear hcz18_7
          try clear hcz18_8
          try clear hcz18_9
          try clear hcz21_0
          try clear hcz21_1
          try clear hcz21_10
          try clear hcz21_11
          try clear hcz21_12
          try clear hcz21_13
          try clear hcz21_14
          try clear hcz21_15
          try clear hcz21_16
          try clear hcz21_2
          try clear hcz21_3
          try clear hcz21_4
          try clear hcz21_5
          try clear hcz21_6
          try clear hcz21_7
          try clear hcz21_8
          try clear hcz21_9
          try clear hcz25_0
          try clear hcz25_1
          try clear hcz25_10
          try clear hcz25_11
          try clear hcz25_12
          try clear hcz25_13
          try clear hcz25_14
          try clear hcz25_15
          try clear hcz25_16
          try clear hcz25_2
          try clear hcz25_3
          try clear hcz25_4
          try clear hcz25_5
          try clear hcz25_6
          try clear hcz25_7
          try clear hcz25_8
          try clear hcz25_9
          try clear hcz32_0
          try clear hcz32_1
          try clear hcz32_10
          try clear hcz32_11
          try clear hcz32_12
          try clear hcz32_13
          try clear hcz32_14
          try clear hcz32_15
          try clear hcz32_16
          try clear hcz32_2
          try clear hcz32_3
          try clear hcz32_4
          try clear hcz32_5
          try clear hcz32_6
          try clear hcz32_7
          try clear hcz32_8
          try clear hcz32_9
          try clear hcz6_0
          try clear hcz6_1
          try clear hcz6_10
          try clear hcz6_11
          try clear hcz6_12
          try clear hcz6_13
          try clear hcz6_14
          try clear hcz6_15
          try clear hcz6_16
          try clear hcz6_2
          try clear hcz6_3
          try clear hcz6_4
          try clear hcz6_5
          try clear hcz6_6
          try clear hcz6_7
          try clear hcz6_8
          try clear hcz6_9
          try clear hfz13_0
          try clear hfz13_1
          try clear hfz13_10
          try clear hfz13_11
          try clear hfz13_12
          try clear hfz13_13
          try clear hfz13_14
          try clear hfz13_15
          try clear hfz13_16
          try clear hfz13_2
          try clear hfz13_3
          try clear hfz13_4
          try clear hfz13_5
          try clear hfz13_6
          try clear hfz13_7
          try clear hfz13_8
          try clear hfz13_9
          try clear hfz18_0
          try clear hfz18_1
          try clear hfz18_10
          try clear hfz18_11
          try clear hfz18_12
          try clear hfz18_13
          try clear hfz18_14
          try clear hfz18_15
          try clear hfz18_16
          try clear hfz18_2
          try clear hfz18_3
          try clear hfz18_4
          try clear hfz18_5
          try clear hfz18_6
          try clear hfz18_7
          try clear hfz18_8
          try clear hfz18_9
          try clear hfz21_0
          try clear hfz21_1
          try clear hfz21_10
          try clear hfz21_11
          try clear hfz21_12
          try clear hfz21_13
          try clear hfz21_14
          try clear hfz21_15
          try clear hfz21_16
          try clear hfz21_2
          try clear hfz21_3
          try clear hfz21_4
          try clear hfz21_5
          try clear hfz21_6
          try clear hfz21_7
          try clear hfz21_8
          try clear hfz21_9
          try clear hfz25_0
          try clear hfz25_1
          try clear hfz25_10
          try clear hfz25_11
          try clear hfz25_12
          try clear hfz25_13
          try clear hfz25_14
          try clear hfz25_15
          try clear hfz25_16
          try clear hfz25_2
          try clear hfz25_3
          try clear hfz25_4
          try clear hfz25_5
          try clear hfz25_6
          try clear hfz25_7
          try clear hfz25_8
          try clear hfz25_9
          try clear hfz32_0
          try clear hfz32_1
          try clear hfz32_10
          try clear hfz32_11
          try clear hfz32_12
          try clear hfz32_13
          try clear hfz32_14
          try clear hfz32_15
          try clear hfz32_16
          try clear hfz32_2
          try clear hfz32_3
          try clear hfz32_4
          try clear hfz32_5
          try clear hfz32_6
          try clear hfz32_7
          try clear hfz32_8
          try clear hfz32_9
          try clear hfz6_0
          try clear hfz6_1
          try clear hfz6_10
          try clear hfz6_11
          try clear hfz6_12
          try clear hfz6_13
          try clear hfz6_14
          try clear hfz6_15
          try clear hfz6_16
          try clear hfz6_2
          try clear hfz6_3
          try clear hfz6_4
          try clear hfz6_5
          try clear hfz6_6
          try clear hfz6_7
          try clear hfz6_8
          try clear hfz6_9
          try clear p2
          try clear p6
          obtain ⟨kq, x59_33, rfl, HA, HJ33, BK432, BK433, HB⟩ := hcut
          cases kq with
          | zero => exact absurd HA.out (by simp [lanternref05_Embeds.j2])
          | succ kj33 =>
           have H := HA.out
           clear HA
           simp only [lanternref05_Embeds.j2] at H
           by_cases c36 : x59_33 = true
           ·subst c36
            have H1 : ((lanternref05_Tail.f kj33 true a0_1 a0_2 a0_3 a0_4 a0_5 a0_6 a0_7 a0_8 a0_9 a0_10 a0_11 a0_12 a0_13 a0_14 a0_15 a0_16 12).bind fun bt470 => ((lanternref05_V4.f kj33 0).bind fun bt488 => (if (bt470.1 == bt488.1 && ((bt470.2.1 == bt488.2.1 && (bt470.2.2.1 == bt488.2.2.1 && (bt470.2.2.2.1 == bt488.2.2.2.1 && (bt470.2.2.2.2.1 == bt488.2.2.2.2.1 && (bt470.2.2.2.2.2.1 == bt488.2.2.2.2.2.1 && (bt470.2.2.2.2.2.2.1 == bt488.2.2.2.2.2.2.1 && (bt470.2.2.2.2.2.2.2.1 == bt488.2.2.2.2.2.2.2.1 && (bt470.2.2.2.2.2.2.2.2.1 == bt488.2.2.2.2.2.2.2.2.1 && (bt470.2.2.2.2.2.2.2.2.2.1 == bt488.2.2.2.2.2.2.2.2.2.1 && (bt470.2.2.2.2.2.2.2.2.2.2.1 == bt488.2.2.2.2.2.2.2.2.2.2.1 && (bt470.2.2.2.2.2.2.2.2.2.2.2.1 == bt488.2.2.2.2.2.2.2.2.2.2.2.1 && (bt470.2.2.2.2.2.2.2.2.2.2.2.2.1 == bt488.2.2.2.2.2.2.2.2.2.2.2.2.1 && (bt470.2.2.2.2.2.2.2.2.2.2.2.2.2.1 == bt488.2.2.2.2.2.2.2.2.2.2.2.2.2.1 && (bt470.2.2.2.2.2.2.2.2.2.2.2.2.2.2.1 == bt488.2.2.2.2.2.2.2.2.2.2.2.2.2.2.1 && (bt470.2.2.2.2.2.2.2.2.2.2.2.2.2.2.2.1 == bt488.2.2.2.2.2.2.2.2.2.2.2.2.2.2.2.1 && (bt470.2.2.2.2.2.2.2.2.2.2.2.2.2.2.2.2 == bt488.2.2.2.2.2.2.2.2.2.2.2.2.2.2.2.2)))))))))))))))))) = true then (some (false, 0, 0, 0, 0, 0, 0, 0, 0, 0, 0, 0, 0, 0, 0, 0, 0, false)) else ((lanternref05_V4.f kj33 1).bind fun bt505 => (if (bt470.1 == bt505.1 && ((bt470.2.1 == bt505.2.1 && (bt470.2.2.1 == bt505.2.2.1 && (bt470.2.2.2.1 == bt505.2.2.2.1 && (bt470.2.2.2.2.1 == bt505.2.2.2.2.1 && (bt470.2.2.2.2.2.1 == bt505.2.2.2.2.2.1 && (bt470.2.2.2.2.2.2.1 == bt505.2.2.2.2.2.2.1 && (bt470.2.2.2.2.2.2.2.1 == bt505.2.2.2.2.2.2.2.1 && (bt470.2.2.2.2.2.2.2.2.1 == bt505.2.2.2.2.2.2.2.2.1 && (bt470.2.2.2.2.2.2.2.2.2.1 == bt505.2.2.2.2.2.2.2.2.2.1 && (bt470.2.2.2.2.2.2.2.2.2.2.1 == bt505.2.2.2.2.2.2.2.2.2.2.1 && (bt470.2.2.2.2.2.2.2.2.2.2.2.1 == bt505.2.2.2.2.2.2.2.2.2.2.2.1 && (bt470.2.2.2.2.2.2.2.2.2.2.2.2.1 == bt505.2.2.2.2.2.2.2.2.2.2.2.2.1 && (bt470.2.2.2.2.2.2.2.2.2.2.2.2.2.1 == bt505.2.2.2.2.2.2.2.2.2.2.2.2.2.1 && (bt470.2.2.2.2.2.2.2.2.2.2.2.2.2.2.1 == bt505.2.2.2.2.2.2.2.2.2.2.2.2.2.2.1 && (bt470.2.2.2.2.2.2.2.2.2.2.2.2.2.2.2.1 == bt505.2.2.2.2.2.2.2.2.2.2.2.2.2.2.2.1 && (bt470.2.2.2.2.2.2.2.2.2.2.2.2.2.2.2.2 == bt505.2.2.2.2.2.2.2.2.2.2.2.2.2.2.2.2)))))))))))))))))) = true then (some (false, 0, 0, 0, 0, 0, 0, 0, 0, 0, 0, 0, 0, 0, 0, 0, 0, false)) else (some (bt470.1, bt470.2.1, bt470.2.2.1, bt470.2.2.2.1, bt470.2.2.2.2.1, bt470.2.2.2.2.2.1, bt470.2.2.2.2.2.2.1, bt470.2.2.2.2.2.2.2.1, bt470.2.2.2.2.2.2.2.2.1, bt470.2.2.2.2.2.2.2.2.2.1, bt470.2.2.2.2.2.2.2.2.2.2.1, bt470.2.2.2.2.2.2.2.2.2.2.2.1, bt470.2.2.2.2.2.2.2.2.2.2.2.2.1, bt470.2.2.2.2.2.2.2.2.2.2.2.2.2.1, bt470.2.2.2.2.2.2.2.2.2.2.2.2.2.2.1, bt470.2.2.2.2.2.2.2.2.2.2.2.2.2.2.2.1, bt470.2.2.2.2.2.2.2.2.2.2.2.2.2.2.2.2, true))))))) = some (r1, r2, r3, r4, r5, r6, r7, r8, r9, r10, r11, r12, r13, r14, r15, r16, r17, r18) := by rw [if_pos rfl] at H; exact H
            clear H
            have H := H1
            clear H1
            replace H := Option.bind_eq_some_iff.mp H
            obtain ⟨⟨t470, t471, t472, t473, t474, t475, t476, t477, t478, t479, t480, t481, t482, t483, t484, t485, t486⟩, A370, H⟩ := H
            replace H : ((lanternref05_V4.f kj33 0).bind fun bt488 => (if (t470 == bt488.1 && ((t471 == bt488.2.1 && (t472 == bt488.2.2.1 && (t473 == bt488.2.2.2.1 && (t474 == bt488.2.2.2.2.1 && (t475 == bt488.2.2.2.2.2.1 && (t476 == bt488.2.2.2.2.2.2.1 && (t477 == bt488.2.2.2.2.2.2.2.1 && (t478 == bt488.2.2.2.2.2.2.2.2.1 && (t479 == bt488.2.2.2.2.2.2.2.2.2.1 && (t480 == bt488.2.2.2.2.2.2.2.2.2.2.1 && (t481 == bt488.2.2.2.2.2.2.2.2.2.2.2.1 && (t482 == bt488.2.2.2.2.2.2.2.2.2.2.2.2.1 && (t483 == bt488.2.2.2.2.2.2.2.2.2.2.2.2.2.1 && (t484 == bt488.2.2.2.2.2.2.2.2.2.2.2.2.2.2.1 && (t485 == bt488.2.2.2.2.2.2.2.2.2.2.2.2.2.2.2.1 && (t486 == bt488.2.2.2.2.2.2.2.2.2.2.2.2.2.2.2.2)))))))))))))))))) = true then (some (false, 0, 0, 0, 0, 0, 0, 0, 0, 0, 0, 0, 0, 0, 0, 0, 0, false)) else ((lanternref05_V4.f kj33 1).bind fun bt505 => (if (t470 == bt505.1 && ((t471 == bt505.2.1 && (t472 == bt505.2.2.1 && (t473 == bt505.2.2.2.1 && (t474 == bt505.2.2.2.2.1 && (t475 == bt505.2.2.2.2.2.1 && (t476 == bt505.2.2.2.2.2.2.1 && (t477 == bt505.2.2.2.2.2.2.2.1 && (t478 == bt505.2.2.2.2.2.2.2.2.1 && (t479 == bt505.2.2.2.2.2.2.2.2.2.1 && (t480 == bt505.2.2.2.2.2.2.2.2.2.2.1 && (t481 == bt505.2.2.2.2.2.2.2.2.2.2.2.1 && (t482 == bt505.2.2.2.2.2.2.2.2.2.2.2.2.1 && (t483 == bt505.2.2.2.2.2.2.2.2.2.2.2.2.2.1 && (t484 == bt505.2.2.2.2.2.2.2.2.2.2.2.2.2.2.1 && (t485 == bt505.2.2.2.2.2.2.2.2.2.2.2.2.2.2.2.1 && (t486 == bt505.2.2.2.2.2.2.2.2.2.2.2.2.2.2.2.2)))))))))))))))))) = true then (some (false, 0, 0, 0, 0, 0, 0, 0, 0, 0, 0, 0, 0, 0, 0, 0, 0, false)) else (some (t470, t471, t472, t473, t474, t475, t476, t477, t478, t479, t480, t481, t482, t483, t484, t485, t486, true)))))) = some (r1, r2, r3, r4, r5, r6, r7, r8, r9, r10, r11, r12, r13, r14, r15, r16, r17, r18) := H
            have A37 := Aside0.mk A370
            clear A370
            replace H := Option.bind_eq_some_iff.mp H
            obtain ⟨⟨t488, t489, t490, t491, t492, t493, t494, t495, t496, t497, t498, t499, t500, t501, t502, t503, t504⟩, A380, H⟩ := H
            replace H : (if (t470 == t488 && ((t471 == t489 && (t472 == t490 && (t473 == t491 && (t474 == t492 && (t475 == t493 && (t476 == t494 && (t477 == t495 && (t478 == t496 && (t479 == t497 && (t480 == t498 && (t481 == t499 && (t482 == t500 && (t483 == t501 && (t484 == t502 && (t485 == t503 && (t486 == t504)))))))))))))))))) = true then (some (false, 0, 0, 0, 0, 0, 0, 0, 0, 0, 0, 0, 0, 0, 0, 0, 0, false)) else ((lanternref05_V4.f kj33 1).bind fun bt505 => (if (t470 == bt505.1 && ((t471 == bt505.2.1 && (t472 == bt505.2.2.1 && (t473 == bt505.2.2.2.1 && (t474 == bt505.2.2.2.2.1 && (t475 == bt505.2.2.2.2.2.1 && (t476 == bt505.2.2.2.2.2.2.1 && (t477 == bt505.2.2.2.2.2.2.2.1 && (t478 == bt505.2.2.2.2.2.2.2.2.1 && (t479 == bt505.2.2.2.2.2.2.2.2.2.1 && (t480 == bt505.2.2.2.2.2.2.2.2.2.2.1 && (t481 == bt505.2.2.2.2.2.2.2.2.2.2.2.1 && (t482 == bt505.2.2.2.2.2.2.2.2.2.2.2.2.1 && (t483 == bt505.2.2.2.2.2.2.2.2.2.2.2.2.2.1 && (t484 == bt505.2.2.2.2.2.2.2.2.2.2.2.2.2.2.1 && (t485 == bt505.2.2.2.2.2.2.2.2.2.2.2.2.2.2.2.1 && (t486 == bt505.2.2.2.2.2.2.2.2.2.2.2.2.2.2.2.2)))))))))))))))))) = true then (some (false, 0, 0, 0, 0, 0, 0, 0, 0, 0, 0, 0, 0, 0, 0, 0, 0, false)) else (some (t470, t471, t472, t473, t474, t475, t476, t477, t478, t479, t480, t481, t482, t483, t484, t485, t486, true))))) = some (r1, r2, r3, r4, r5, r6, r7, r8, r9, r10, r11, r12, r13, r14, r15, r16, r17, r18) := H
            have A38 := Aside0.mk A380
            clear A380
            by_cases c39 : (t470 == t488 && ((t471 == t489 && (t472 == t490 && (t473 == t491 && (t474 == t492 && (t475 == t493 && (t476 == t494 && (t477 == t495 && (t478 == t496 && (t479 == t497 && (t480 == t498 && (t481 == t499 && (t482 == t500 && (t483 == t501 && (t484 == t502 && (t485 == t503 && (t486 == t504)))))))))))))))))) = true
            ·rw [if_pos c39] at H
             have c39b0 : (t470 == t488 && ((t471 == t489 && (t472 == t490 && (t473 == t491 && (t474 == t492 && (t475 == t493 && (t476 == t494 && (t477 == t495 && (t478 == t496 && (t479 == t497 && (t480 == t498 && (t481 == t499 && (t482 == t500 && (t483 == t501 && (t484 == t502 && (t485 == t503 && (t486 == t504)))))))))))))))))) = true := c39
             clear c39
             simp only [Option.some.injEq, Prod.mk.injEq] at H
             obtain ⟨rfl, rfl, rfl, rfl, rfl, rfl, rfl, rfl, rfl, rfl, rfl, rfl, rfl, rfl, rfl, rfl, rfl, rfl⟩ := H
             try go_wp2_with (first | ((with_reducible refine gate_dst (N := 65) rfl ?_); (try (refine gate_guard (by rfl) ?_; dsimp only)); refine load_box ?hg 25 (.tmp 1) rfl BK432.out [] [.bool true, .int .u8 a0_1, .int .u8 a0_2, .int .u8 a0_3, .int .u8 a0_4, .int .u8 a0_5, .int .u8 a0_6, .int .u8 a0_7, .int .u8 a0_8, .int .u8 a0_9, .int .u8 a0_10, .int .u8 a0_11, .int .u8 a0_12, .int .u8 a0_13, .int .u8 a0_14, .int .u8 a0_15, .int .u8 a0_16] [] rfl 0 rfl rfl Tryd.underlying25 rfl (by kernel_rfl) ?_; (case hg => rfl)) | ((with_reducible refine gate_callee (f := 22) rfl ?_); refine goesL_ (some 66) rfl rfl Tryd.func22 (by kernel_rfl) rfl #[.agg #[.bool true, .int .u8 a0_1, .int .u8 a0_2, .int .u8 a0_3, .int .u8 a0_4, .int .u8 a0_5, .int .u8 a0_6, .int .u8 a0_7, .int .u8 a0_8, .int .u8 a0_9, .int .u8 a0_10, .int .u8 a0_11, .int .u8 a0_12, .int .u8 a0_13, .int .u8 a0_14, .int .u8 a0_15, .int .u8 a0_16], .int .i64 12] rfl (by (try simp only [List.map_toArray, List.map_cons, List.map_nil]); first | done | rfl | (simp only [List.length_drop, List.length_take]; rfl)) ?_; (with_reducible refine (lanternref05_Tail.calls kj33 true a0_1 a0_2 a0_3 a0_4 a0_5 a0_6 a0_7 a0_8 a0_9 a0_10 a0_11 a0_12 a0_13 a0_14 a0_15 a0_16 12 t470 t471 t472 t473 t474 t475 t476 t477 t478 t479 t480 t481 t482 t483 t484 t485 t486 _ ?side1 A37.out).mono ?_); (case side1 => exact LW.below HLW.out (by repeat (first | (with_reducible first | exact HB.out | apply below_alloc | apply pw_below_drewN | apply below_drew1 | refine below_set ?_ GE432.out | refine below_set ?_ GE433.out) | exact HB.out))); rintro e w40 ⟨rfl, hb⟩; refine ⟨_, rfl, ?_⟩; have n0_ := Aside0.mk (blk_below (g := gb432) (o := .cells #[.bool true, .int .u8 a0_1, .int .u8 a0_2, .int .u8 a0_3, .int .u8 a0_4, .int .u8 a0_5, .int .u8 a0_6, .int .u8 a0_7, .int .u8 a0_8, .int .u8 a0_9, .int .u8 a0_10, .int .u8 a0_11, .int .u8 a0_12, .int .u8 a0_13, .int .u8 a0_14, .int .u8 a0_15, .int .u8 a0_16] 25 (0, 0)) (by (with_reducible repeat (first | refine blk_drewN ?_ _ | refine blk_drew ?_ | refine blk_alloc ?_ _)); exact BK432.out) hb); have n1_ := Aside0.mk (blk_below (g := gb433) (o := .cells #[.bool false, .int .u8 0, .int .u8 0, .int .u8 0, .int .u8 0, .int .u8 0, .int .u8 0, .int .u8 0, .int .u8 0, .int .u8 0, .int .u8 0, .int .u8 0, .int .u8 0, .int .u8 0, .int .u8 0, .int .u8 0, .int .u8 0] 25 (0, 0)) (by (with_reducible repeat (first | refine blk_drewN ?_ _ | refine blk_drew ?_ | refine blk_alloc ?_ _)); exact BK433.out) hb); have n2_ := Aside0.mk (below_step (by repeat (first | (with_reducible first | exact HB.out | apply below_alloc | apply pw_below_drewN | apply below_drew1 | refine below_set ?_ GE432.out | refine below_set ?_ GE433.out) | exact HB.out)) hb); clear BK432; clear BK433; clear HB; have BK432 := n0_; have BK433 := n1_; have HB := n2_; clear n0_ n1_ n2_; (try clear hb); (try clear hb2); (try clear hk); (try clear hi)) | ((with_reducible refine gate_dst (N := 7) rfl ?_); refine box_event ?hg (N := 7) ?hd (cs := #[.bool false, .int .u8 0, .int .u8 0, .int .u8 0, .int .u8 0, .int .u8 0, .int .u8 0, .int .u8 0, .int .u8 0, .int .u8 0, .int .u8 0, .int .u8 0, .int .u8 0, .int .u8 0, .int .u8 0, .int .u8 0, .int .u8 0]) (t := 25) ?hr ?_; (case hd => rfl); (case hg => rfl); (case hr => first | (go_simp; done) | (go_simp; rfl)); intro gb487 hg w41 hbox hb; have n0_ := Aside0.mk (blk_below (g := gb432) (o := .cells #[.bool true, .int .u8 a0_1, .int .u8 a0_2, .int .u8 a0_3, .int .u8 a0_4, .int .u8 a0_5, .int .u8 a0_6, .int .u8 a0_7, .int .u8 a0_8, .int .u8 a0_9, .int .u8 a0_10, .int .u8 a0_11, .int .u8 a0_12, .int .u8 a0_13, .int .u8 a0_14, .int .u8 a0_15, .int .u8 a0_16] 25 (0, 0)) (by (with_reducible repeat (first | refine blk_drewN ?_ _ | refine blk_drew ?_ | refine blk_alloc ?_ _)); exact BK432.out) hb); have n1_ := Aside0.mk (blk_below (g := gb433) (o := .cells #[.bool false, .int .u8 0, .int .u8 0, .int .u8 0, .int .u8 0, .int .u8 0, .int .u8 0, .int .u8 0, .int .u8 0, .int .u8 0, .int .u8 0, .int .u8 0, .int .u8 0, .int .u8 0, .int .u8 0, .int .u8 0, .int .u8 0] 25 (0, 0)) (by (with_reducible repeat (first | refine blk_drewN ?_ _ | refine blk_drew ?_ | refine blk_alloc ?_ _)); exact BK433.out) hb); have n2_ := Aside0.mk (below_step (by repeat (first | (with_reducible first | exact HB.out | apply below_alloc | apply pw_below_drewN | apply below_drew1 | refine below_set ?_ GE432.out | refine below_set ?_ GE433.out) | exact HB.out)) hb); have n3_ := Aside0.mk (hbox); have n4_ := Aside0.mk ((by rw [hg]; exact (below_size (by repeat (first | (with_reducible first | exact HB.out | apply below_alloc | apply pw_below_drewN | apply below_drew1 | refine below_set ?_ GE432.out | refine below_set ?_ GE433.out) | exact HB.out))) : w.heap.size ≤ gb487)); have n5_ := Aside0.mk ((by rw [hg]; exact (below_size (by repeat (first | (with_reducible first | exact HB.out | apply below_alloc | apply pw_below_drewN | apply below_drew1 | refine below_set ?_ GE432.out | refine below_set ?_ GE433.out) | exact HB.out))) : w.heap.size ≤ gb487)); have n6_ := Aside0.mk ((by rw [hg]; exact Nat.ne_of_lt (blk_lt (g := gb432) (o := .cells #[.bool true, .int .u8 a0_1, .int .u8 a0_2, .int .u8 a0_3, .int .u8 a0_4, .int .u8 a0_5, .int .u8 a0_6, .int .u8 a0_7, .int .u8 a0_8, .int .u8 a0_9, .int .u8 a0_10, .int .u8 a0_11, .int .u8 a0_12, .int .u8 a0_13, .int .u8 a0_14, .int .u8 a0_15, .int .u8 a0_16] 25 (0, 0)) (by (with_reducible repeat (first | refine blk_drewN ?_ _ | refine blk_drew ?_ | refine blk_alloc ?_ _)); exact BK432.out)) : gb432 ≠ gb487)); have n7_ := Aside0.mk ((by rw [hg]; exact Nat.ne_of_gt (blk_lt (g := gb432) (o := .cells #[.bool true, .int .u8 a0_1, .int .u8 a0_2, .int .u8 a0_3, .int .u8 a0_4, .int .u8 a0_5, .int .u8 a0_6, .int .u8 a0_7, .int .u8 a0_8, .int .u8 a0_9, .int .u8 a0_10, .int .u8 a0_11, .int .u8 a0_12, .int .u8 a0_13, .int .u8 a0_14, .int .u8 a0_15, .int .u8 a0_16] 25 (0, 0)) (by (with_reducible repeat (first | refine blk_drewN ?_ _ | refine blk_drew ?_ | refine blk_alloc ?_ _)); exact BK432.out)) : gb487 ≠ gb432)); have n8_ := Aside0.mk ((by rw [hg]; exact Nat.ne_of_lt (blk_lt (g := gb433) (o := .cells #[.bool false, .int .u8 0, .int .u8 0, .int .u8 0, .int .u8 0, .int .u8 0, .int .u8 0, .int .u8 0, .int .u8 0, .int .u8 0, .int .u8 0, .int .u8 0, .int .u8 0, .int .u8 0, .int .u8 0, .int .u8 0, .int .u8 0] 25 (0, 0)) (by (with_reducible repeat (first | refine blk_drewN ?_ _ | refine blk_drew ?_ | refine blk_alloc ?_ _)); exact BK433.out)) : gb433 ≠ gb487)); have n9_ := Aside0.mk ((by rw [hg]; exact Nat.ne_of_gt (blk_lt (g := gb433) (o := .cells #[.bool false, .int .u8 0, .int .u8 0, .int .u8 0, .int .u8 0, .int .u8 0, .int .u8 0, .int .u8 0, .int .u8 0, .int .u8 0, .int .u8 0, .int .u8 0, .int .u8 0, .int .u8 0, .int .u8 0, .int .u8 0, .int .u8 0] 25 (0, 0)) (by (with_reducible repeat (first | refine blk_drewN ?_ _ | refine blk_drew ?_ | refine blk_alloc ?_ _)); exact BK433.out)) : gb487 ≠ gb433)); clear BK432; clear BK433; clear HB; have BK432 := n0_; have BK433 := n1_; have HB := n2_; have BK487 := n3_; have GW487 := n4_; have GE487 := n5_; have NB432_487 := n6_; have NB487_432 := n7_; have NB433_487 := n8_; have NB487_433 := n9_; clear n0_ n1_ n2_ n3_ n4_ n5_ n6_ n7_ n8_ n9_; clear hb hbox hg; have hnb42 := NB487_432.out; have hnc42 := NB432_487.out; have hnb43 := NB487_433.out; have hnc43 := NB433_487.out; have hcz44_0 : w41.cell? ⟨gb487, 0, none⟩ = some (.bool false) := (blk_cell BK487.out 0).trans rfl; have hcz44_1 : w41.cell? ⟨gb487, 1, none⟩ = some (.int .u8 0) := (blk_cell BK487.out 1).trans rfl; have hcz44_2 : w41.cell? ⟨gb487, 2, none⟩ = some (.int .u8 0) := (blk_cell BK487.out 2).trans rfl; have hcz44_3 : w41.cell? ⟨gb487, 3, none⟩ = some (.int .u8 0) := (blk_cell BK487.out 3).trans rfl; have hcz44_4 : w41.cell? ⟨gb487, 4, none⟩ = some (.int .u8 0) := (blk_cell BK487.out 4).trans rfl; have hcz44_5 : w41.cell? ⟨gb487, 5, none⟩ = some (.int .u8 0) := (blk_cell BK487.out 5).trans rfl; have hcz44_6 : w41.cell? ⟨gb487, 6, none⟩ = some (.int .u8 0) := (blk_cell BK487.out 6).trans rfl; have hcz44_7 : w41.cell? ⟨gb487, 7, none⟩ = some (.int .u8 0) := (blk_cell BK487.out 7).trans rfl; have hcz44_8 : w41.cell? ⟨gb487, 8, none⟩ = some (.int .u8 0) := (blk_cell BK487.out 8).trans rfl; have hcz44_9 : w41.cell? ⟨gb487, 9, none⟩ = some (.int .u8 0) := (blk_cell BK487.out 9).trans rfl; have hcz44_10 : w41.cell? ⟨gb487, 10, none⟩ = some (.int .u8 0) := (blk_cell BK487.out 10).trans rfl; have hcz44_11 : w41.cell? ⟨gb487, 11, none⟩ = some (.int .u8 0) := (blk_cell BK487.out 11).trans rfl; have hcz44_12 : w41.cell? ⟨gb487, 12, none⟩ = some (.int .u8 0) := (blk_cell BK487.out 12).trans rfl; have hcz44_13 : w41.cell? ⟨gb487, 13, none⟩ = some (.int .u8 0) := (blk_cell BK487.out 13).trans rfl; have hcz44_14 : w41.cell? ⟨gb487, 14, none⟩ = some (.int .u8 0) := (blk_cell BK487.out 14).trans rfl; have hcz44_15 : w41.cell? ⟨gb487, 15, none⟩ = some (.int .u8 0) := (blk_cell BK487.out 15).trans rfl; have hcz44_16 : w41.cell? ⟨gb487, 16, none⟩ = some (.int .u8 0) := (blk_cell BK487.out 16).trans rfl; have hfz44_0 := blk_frozen BK487.out 0; have hfz44_1 := blk_frozen BK487.out 1; have hfz44_2 := blk_frozen BK487.out 2; have hfz44_3 := blk_frozen BK487.out 3; have hfz44_4 := blk_frozen BK487.out 4; have hfz44_5 := blk_frozen BK487.out 5; have hfz44_6 := blk_frozen BK487.out 6; have hfz44_7 := blk_frozen BK487.out 7; have hfz44_8 := blk_frozen BK487.out 8; have hfz44_9 := blk_frozen BK487.out 9; have hfz44_10 := blk_frozen BK487.out 10; have hfz44_11 := blk_frozen BK487.out 11; have hfz44_12 := blk_frozen BK487.out 12; have hfz44_13 := blk_frozen BK487.out 13; have hfz44_14 := blk_frozen BK487.out 14; have hfz44_15 := blk_frozen BK487.out 15; have hfz44_16 := blk_frozen BK487.out 16) | ((with_reducible refine gate_store (t := 25) (p := 7) rfl ?_); refine store_all ?hg 25 7 _ rfl rfl gb487 [.bool false, .int .u8 0, .int .u8 0, .int .u8 0, .int .u8 0, .int .u8 0, .int .u8 0, .int .u8 0, .int .u8 0, .int .u8 0, .int .u8 0, .int .u8 0, .int .u8 0, .int .u8 0, .int .u8 0, .int .u8 0, .int .u8 0] [.bool t470, .int .u8 t471, .int .u8 t472, .int .u8 t473, .int .u8 t474, .int .u8 t475, .int .u8 t476, .int .u8 t477, .int .u8 t478, .int .u8 t479, .int .u8 t480, .int .u8 t481, .int .u8 t482, .int .u8 t483, .int .u8 t484, .int .u8 t485, .int .u8 t486] BK487.out rfl rfl rfl (by kernel_rfl) rfl ?_; (case hg => rfl); intro w45 hw; have n0_ : Aside0 (w45.heap[gb432]? = some (.cells #[.bool true, .int .u8 a0_1, .int .u8 a0_2, .int .u8 a0_3, .int .u8 a0_4, .int .u8 a0_5, .int .u8 a0_6, .int .u8 a0_7, .int .u8 a0_8, .int .u8 a0_9, .int .u8 a0_10, .int .u8 a0_11, .int .u8 a0_12, .int .u8 a0_13, .int .u8 a0_14, .int .u8 a0_15, .int .u8 a0_16] 25 (0, 0))) := ⟨(by rw [hw]; exact (by (with_reducible repeat (first | refine blk_drewN ?_ _ | refine blk_drew ?_ | refine blk_alloc ?_ _)); refine blk_farC NB432_487.out _ _ ?_; (with_reducible repeat (first | refine blk_drewN ?_ _ | refine blk_drew ?_ | refine blk_alloc ?_ _)); exact BK432.out))⟩; have n1_ : Aside0 (w45.heap[gb433]? = some (.cells #[.bool false, .int .u8 0, .int .u8 0, .int .u8 0, .int .u8 0, .int .u8 0, .int .u8 0, .int .u8 0, .int .u8 0, .int .u8 0, .int .u8 0, .int .u8 0, .int .u8 0, .int .u8 0, .int .u8 0, .int .u8 0, .int .u8 0] 25 (0, 0))) := ⟨(by rw [hw]; exact (by (with_reducible repeat (first | refine blk_drewN ?_ _ | refine blk_drew ?_ | refine blk_alloc ?_ _)); refine blk_farC NB433_487.out _ _ ?_; (with_reducible repeat (first | refine blk_drewN ?_ _ | refine blk_drew ?_ | refine blk_alloc ?_ _)); exact BK433.out))⟩; have n2_ : Aside0 (w45.heap[gb487]? = some (.cells #[.bool t470, .int .u8 t471, .int .u8 t472, .int .u8 t473, .int .u8 t474, .int .u8 t475, .int .u8 t476, .int .u8 t477, .int .u8 t478, .int .u8 t479, .int .u8 t480, .int .u8 t481, .int .u8 t482, .int .u8 t483, .int .u8 t484, .int .u8 t485, .int .u8 t486] 25 (0, 0))) := ⟨(by rw [hw]; exact (by (with_reducible repeat (first | refine blk_drewN ?_ _ | refine blk_drew ?_ | refine blk_alloc ?_ _)); refine blk_part [.bool t470, .int .u8 t471, .int .u8 t472, .int .u8 t473, .int .u8 t474, .int .u8 t475, .int .u8 t476, .int .u8 t477, .int .u8 t478, .int .u8 t479, .int .u8 t480, .int .u8 t481, .int .u8 t482, .int .u8 t483, .int .u8 t484, .int .u8 t485, .int .u8 t486] [.bool false, .int .u8 0, .int .u8 0, .int .u8 0, .int .u8 0, .int .u8 0, .int .u8 0, .int .u8 0, .int .u8 0, .int .u8 0, .int .u8 0, .int .u8 0, .int .u8 0, .int .u8 0, .int .u8 0, .int .u8 0, .int .u8 0] [] [] (cs := #[.bool false, .int .u8 0, .int .u8 0, .int .u8 0, .int .u8 0, .int .u8 0, .int .u8 0, .int .u8 0, .int .u8 0, .int .u8 0, .int .u8 0, .int .u8 0, .int .u8 0, .int .u8 0, .int .u8 0, .int .u8 0, .int .u8 0]) ?_ rfl rfl rfl; (with_reducible repeat (first | refine blk_drewN ?_ _ | refine blk_drew ?_ | refine blk_alloc ?_ _)); exact BK487.out))⟩; have n3_ : Aside0 (Below w.heap.size w w45) := ⟨(by rw [hw]; exact (by repeat (first | (with_reducible first | exact HB.out | apply below_alloc | apply pw_below_drewN | apply below_drew1 | refine below_set ?_ GE432.out | refine below_set ?_ GE433.out | refine below_set ?_ GE487.out | refine below_setC GE432.out _ _ ?_ | refine below_setC GE433.out _ _ ?_ | refine below_setC GE487.out _ _ ?_) | exact HB.out)))⟩; clear hw; clear BK432; clear BK433; clear BK487; clear HB; have BK432 := n0_; have BK433 := n1_; have BK487 := n2_; have HB := n3_; clear n0_ n1_ n2_ n3_))
             have n0_ := Aside0.mk (blk_drew BK432.out)
             have n1_ := Aside0.mk (blk_drew BK433.out)
             have n2_ := Aside0.mk (blk_drew BK487.out)
             have n3_ := Aside0.mk (below_drew1 HB.out)
             clear BK432
             clear BK433
             clear BK487
             clear HB
             have BK432 := n0_
             have BK433 := n1_
             have BK487 := n2_
             have HB := n3_
             clear n0_ n1_ n2_ n3_
             refine start_ (n := 8) (S := fun w' => (Instr.loadAt 25 (.pointer (some ⟨gb487, 0, none⟩))).run Tryd.prog w' = .ok (.agg #[.bool t470, .int .u8 t471, .int .u8 t472, .int .u8 t473, .int .u8 t474, .int .u8 t475, .int .u8 t476, .int .u8 t477, .int .u8 t478, .int .u8 t479, .int .u8 t480, .int .u8 t481, .int .u8 t482, .int .u8 t483, .int .u8 t484, .int .u8 t485, .int .u8 t486]) w') (ds := []) #[false, false, false, false, false, false, false, false] (by kernel_rfl) rfl rfl ((run_load_box BK487.out 25 [] [.bool t470, .int .u8 t471, .int .u8 t472, .int .u8 t473, .int .u8 t474, .int .u8 t475, .int .u8 t476, .int .u8 t477, .int .u8 t478, .int .u8 t479, .int .u8 t480, .int .u8 t481, .int .u8 t482, .int .u8 t483, .int .u8 t484, .int .u8 t485, .int .u8 t486] [] rfl 0 rfl Tryd.underlying25 rfl (by kernel_rfl))) (fun hHeld => ?_); refine with_tabW lanternref05_Embeds.tab15 lanternref05_Embeds.bits15 (fun HT_ HW_ => ?_)
             generalize w45.drew = w46 at BK432 BK433 BK487 HB hHeld ⊢
             refine take_ (i := 0) (N := some 67) (v := ?_) (a' := ?_) #[true, false, false, false, false, false, false, false] rfl rfl (take_ofW HT_.out HW_.out (by kernel_rfl)) (fun _ _ _ h => h) (Or.inl ⟨by rfl, ?_⟩) hHeld ?_ ?_
             rotate_left
             ·intro w' s0
              first | (refine (load_exec rfl rfl s0).trans ?_; with_reducible rfl) | (go_simp; with_reducible rfl)
             rotate_left
             ·simp only [Act.put, List.setIfInBounds_toArray, List.set_cons_zero, List.set_cons_succ, i64_w, i32_w]
              rfl
             refine one_ (i := 1) (N := some 68) #[true, true, false, false, false, false, false, false] rfl rfl (one_of HT_.out (by kernel_rfl)) (by decide) (fun K hK => ?_)
             refine goes_ Tryd.func16 (by kernel_rfl) rfl #[.int .u64 0] (by rfl) rfl rfl (by (try simp only [List.map_toArray, List.map_cons, List.map_nil]); first | done | rfl | (simp only [List.length_drop, List.length_take]; rfl)) ?_
             with_reducible refine (lanternref05_V4.calls kj33 0 t488 t489 t490 t491 t492 t493 t494 t495 t496 t497 t498 t499 t500 t501 t502 t503 t504 _ ?side1 A38.out).mono ?_
             (case side1 => exact LW.below HLW.out (by repeat (first | (with_reducible first | exact HB.out | apply below_alloc | apply pw_below_drewN | apply below_drew1 | refine below_set ?_ GE432.out | refine below_set ?_ GE433.out | refine below_set ?_ GE487.out) | exact HB.out)))
             rintro e w47 ⟨rfl, hb⟩
             refine ⟨_, rfl, ?_⟩
             have n0_ := Aside0.mk (blk_below (g := gb432) (o := .cells #[.bool true, .int .u8 a0_1, .int .u8 a0_2, .int .u8 a0_3, .int .u8 a0_4, .int .u8 a0_5, .int .u8 a0_6, .int .u8 a0_7, .int .u8 a0_8, .int .u8 a0_9, .int .u8 a0_10, .int .u8 a0_11, .int .u8 a0_12, .int .u8 a0_13, .int .u8 a0_14, .int .u8 a0_15, .int .u8 a0_16] 25 (0, 0)) (by (with_reducible repeat (first | refine blk_drewN ?_ _ | refine blk_drew ?_ | refine blk_alloc ?_ _)); exact BK432.out) hb)
             have n1_ := Aside0.mk (blk_below (g := gb433) (o := .cells #[.bool false, .int .u8 0, .int .u8 0, .int .u8 0, .int .u8 0, .int .u8 0, .int .u8 0, .int .u8 0, .int .u8 0, .int .u8 0, .int .u8 0, .int .u8 0, .int .u8 0, .int .u8 0, .int .u8 0, .int .u8 0, .int .u8 0] 25 (0, 0)) (by (with_reducible repeat (first | refine blk_drewN ?_ _ | refine blk_drew ?_ | refine blk_alloc ?_ _)); exact BK433.out) hb)
             have n2_ := Aside0.mk (blk_below (g := gb487) (o := .cells #[.bool t470, .int .u8 t471, .int .u8 t472, .int .u8 t473, .int .u8 t474, .int .u8 t475, .int .u8 t476, .int .u8 t477, .int .u8 t478, .int .u8 t479, .int .u8 t480, .int .u8 t481, .int .u8 t482, .int .u8 t483, .int .u8 t484, .int .u8 t485, .int .u8 t486] 25 (0, 0)) (by (with_reducible repeat (first | refine blk_drewN ?_ _ | refine blk_drew ?_ | refine blk_alloc ?_ _)); exact BK487.out) hb)
             have n3_ := Aside0.mk (below_step (by repeat (first | (with_reducible first | exact HB.out | apply below_alloc | apply pw_below_drewN | apply below_drew1 | refine below_set ?_ GE432.out | refine below_set ?_ GE433.out | refine below_set ?_ GE487.out) | exact HB.out)) hb)
             clear BK432
             clear BK433
             clear BK487
             clear HB
             have BK432 := n0_
             have BK433 := n1_
             have BK487 := n2_
             have HB := n3_
             clear n0_ n1_ n2_ n3_
             (try clear hb)
             (try clear hb2)
             (try clear hk)
             (try clear hi)
             refine hK.out _ _ ((run_load_box BK487.out 25 [] [.bool t470, .int .u8 t471, .int .u8 t472, .int .u8 t473, .int .u8 t474, .int .u8 t475, .int .u8 t476, .int .u8 t477, .int .u8 t478, .int .u8 t479, .int .u8 t480, .int .u8 t481, .int .u8 t482, .int .u8 t483, .int .u8 t484, .int .u8 t485, .int .u8 t486] [] rfl 0 rfl Tryd.underlying25 rfl (by kernel_rfl))) (fun hHeld => ?_)
             clear hK K
             refine norm_ (a' := ?_) ?_ ?_
             rotate_left
             ·show Act.put _ (some 68) _ = _
              simp only [Act.put, List.setIfInBounds_toArray, List.set_cons_zero, List.set_cons_succ, i64_w, i32_w]
              rfl
             refine pure_ (i := 2) (N := some 69) (v := ?_) (a' := ?_) #[true, true, true, false, false, false, false, false] rfl rfl (any_of HT_.out (by kernel_rfl)) (fun _ _ _ h => h) (Or.inl ⟨by rfl, ?_⟩) ?_ ?_
             rotate_left
             ·intro w'
              go_simp
              with_reducible rfl
             rotate_left
             ·simp only [Act.put, List.setIfInBounds_toArray, List.set_cons_zero, List.set_cons_succ, i64_w, i32_w]
              rfl
             refine pure_ (i := 3) (N := some 70) (v := ?_) (a' := ?_) #[true, true, true, true, false, false, false, false] rfl rfl (any_of HT_.out (by kernel_rfl)) (fun _ _ _ h => h) (Or.inl ⟨by rfl, ?_⟩) ?_ ?_
             rotate_left
             ·intro w'
              go_simp
              with_reducible rfl
             rotate_left
             ·simp only [Act.put, List.setIfInBounds_toArray, List.set_cons_zero, List.set_cons_succ, i64_w, i32_w]
              rfl
             refine pure_ (i := 4) (N := some 71) (v := undef) (a' := ?_) #[true, true, true, true, true, false, false, false] rfl rfl (any_of HT_.out (by kernel_rfl)) (fun _ _ _ h => h) (Or.inr ⟨by rfl, rfl⟩) ?_ ?_
             rotate_left
             ·simp only [Act.put, List.setIfInBounds_toArray, List.set_cons_zero, List.set_cons_succ, i64_w, i32_w]
              rfl
             refine pure_ (i := 5) (N := some 72) (v := undef) (a' := ?_) #[true, true, true, true, true, true, false, false] rfl rfl (any_of HT_.out (by kernel_rfl)) (fun _ _ _ h => h) (Or.inr ⟨by rfl, rfl⟩) ?_ ?_
             rotate_left
             ·simp only [Act.put, List.setIfInBounds_toArray, List.set_cons_zero, List.set_cons_succ, i64_w, i32_w]
              rfl
             refine pure_ (i := 6) (N := some 73) (v := undef) (a' := ?_) #[true, true, true, true, true, true, true, false] rfl rfl (any_of HT_.out (by kernel_rfl)) (fun _ _ _ h => h) (Or.inr ⟨by rfl, rfl⟩) ?_ ?_
             rotate_left
             ·simp only [Act.put, List.setIfInBounds_toArray, List.set_cons_zero, List.set_cons_succ, i64_w, i32_w]
              rfl
             refine pure_ (i := 7) (N := some 74) (v := ?_) (a' := ?_) #[true, true, true, true, true, true, true, true] rfl rfl (any_of HT_.out (by kernel_rfl)) (fun _ _ _ h => h) (Or.inl ⟨by rfl, ?_⟩) ?_ ?_
             rotate_left
             ·intro w'
              go_simp
              with_reducible rfl
             rotate_left
             ·simp only [Act.put, List.setIfInBounds_toArray, List.set_cons_zero, List.set_cons_succ, i64_w, i32_w]
              rfl
             refine done_ (done_of HT_.out (by kernel_rfl)) ?_
             have hnb48 := NB433_432.out
             have hnc48 := NB432_433.out
             have hcz49_0 : w47.cell? ⟨gb433, 0, none⟩ = some (.bool false) := (blk_cell BK433.out 0).trans rfl
             have hcz49_1 : w47.cell? ⟨gb433, 1, none⟩ = some (.int .u8 0) := (blk_cell BK433.out 1).trans rfl
             have hcz49_2 : w47.cell? ⟨gb433, 2, none⟩ = some (.int .u8 0) := (blk_cell BK433.out 2).trans rfl
             have hcz49_3 : w47.cell? ⟨gb433, 3, none⟩ = some (.int .u8 0) := (blk_cell BK433.out 3).trans rfl
             have hcz49_4 : w47.cell? ⟨gb433, 4, none⟩ = some (.int .u8 0) := (blk_cell BK433.out 4).trans rfl
             have hcz49_5 : w47.cell? ⟨gb433, 5, none⟩ = some (.int .u8 0) := (blk_cell BK433.out 5).trans rfl
             have hcz49_6 : w47.cell? ⟨gb433, 6, none⟩ = some (.int .u8 0) := (blk_cell BK433.out 6).trans rfl
             have hcz49_7 : w47.cell? ⟨gb433, 7, none⟩ = some (.int .u8 0) := (blk_cell BK433.out 7).trans rfl
             have hcz49_8 : w47.cell? ⟨gb433, 8, none⟩ = some (.int .u8 0) := (blk_cell BK433.out 8).trans rfl
             have hcz49_9 : w47.cell? ⟨gb433, 9, none⟩ = some (.int .u8 0) := (blk_cell BK433.out 9).trans rfl
             have hcz49_10 : w47.cell? ⟨gb433, 10, none⟩ = some (.int .u8 0) := (blk_cell BK433.out 10).trans rfl
             have hcz49_11 : w47.cell? ⟨gb433, 11, none⟩ = some (.int .u8 0) := (blk_cell BK433.out 11).trans rfl
             have hcz49_12 : w47.cell? ⟨gb433, 12, none⟩ = some (.int .u8 0) := (blk_cell BK433.out 12).trans rfl
             have hcz49_13 : w47.cell? ⟨gb433, 13, none⟩ = some (.int .u8 0) := (blk_cell BK433.out 13).trans rfl
             have hcz49_14 : w47.cell? ⟨gb433, 14, none⟩ = some (.int .u8 0) := (blk_cell BK433.out 14).trans rfl
             have hcz49_15 : w47.cell? ⟨gb433, 15, none⟩ = some (.int .u8 0) := (blk_cell BK433.out 15).trans rfl
             have hcz49_16 : w47.cell? ⟨gb433, 16, none⟩ = some (.int .u8 0) := (blk_cell BK433.out 16).trans rfl
             have hfz49_0 := blk_frozen BK433.out 0
             have hfz49_1 := blk_frozen BK433.out 1
             have hfz49_2 := blk_frozen BK433.out 2
             have hfz49_3 := blk_frozen BK433.out 3
             have hfz49_4 := blk_frozen BK433.out 4
             have hfz49_5 := blk_frozen BK433.out 5
             have hfz49_6 := blk_frozen BK433.out 6
             have hfz49_7 := blk_frozen BK433.out 7
             have hfz49_8 := blk_frozen BK433.out 8
             have hfz49_9 := blk_frozen BK433.out 9
             have hfz49_10 := blk_frozen BK433.out 10
             have hfz49_11 := blk_frozen BK433.out 11
             have hfz49_12 := blk_frozen BK433.out 12
             have hfz49_13 := blk_frozen BK433.out 13
             have hfz49_14 := blk_frozen BK433.out 14
             have hfz49_15 := blk_frozen BK433.out 15
             have hfz49_16 := blk_frozen BK433.out 16
             try go_wp2_with (first | ((with_reducible refine gate_store (t := 25) (p := 2) rfl ?_); refine store_all ?hg 25 2 _ rfl rfl gb433 [.bool false, .int .u8 0, .int .u8 0, .int .u8 0, .int .u8 0, .int .u8 0, .int .u8 0, .int .u8 0, .int .u8 0, .int .u8 0, .int .u8 0, .int .u8 0, .int .u8 0, .int .u8 0, .int .u8 0, .int .u8 0, .int .u8 0] [.bool false, .int .u8 0, .int .u8 0, .int .u8 0, .int .u8 0, .int .u8 0, .int .u8 0, .int .u8 0, .int .u8 0, .int .u8 0, .int .u8 0, .int .u8 0, .int .u8 0, .int .u8 0, .int .u8 0, .int .u8 0, .int .u8 0] BK433.out rfl rfl rfl (by kernel_rfl) rfl ?_; (case hg => rfl); intro w50 hw; have n0_ : Aside0 (w50.heap[gb432]? = some (.cells #[.bool true, .int .u8 a0_1, .int .u8 a0_2, .int .u8 a0_3, .int .u8 a0_4, .int .u8 a0_5, .int .u8 a0_6, .int .u8 a0_7, .int .u8 a0_8, .int .u8 a0_9, .int .u8 a0_10, .int .u8 a0_11, .int .u8 a0_12, .int .u8 a0_13, .int .u8 a0_14, .int .u8 a0_15, .int .u8 a0_16] 25 (0, 0))) := ⟨(by rw [hw]; exact (by (with_reducible repeat (first | refine blk_drewN ?_ _ | refine blk_drew ?_ | refine blk_alloc ?_ _)); refine blk_farC NB432_433.out _ _ ?_; (with_reducible repeat (first | refine blk_drewN ?_ _ | refine blk_drew ?_ | refine blk_alloc ?_ _)); exact BK432.out))⟩; have n1_ : Aside0 (w50.heap[gb433]? = some (.cells #[.bool false, .int .u8 0, .int .u8 0, .int .u8 0, .int .u8 0, .int .u8 0, .int .u8 0, .int .u8 0, .int .u8 0, .int .u8 0, .int .u8 0, .int .u8 0, .int .u8 0, .int .u8 0, .int .u8 0, .int .u8 0, .int .u8 0] 25 (0, 0))) := ⟨(by rw [hw]; exact (by (with_reducible repeat (first | refine blk_drewN ?_ _ | refine blk_drew ?_ | refine blk_alloc ?_ _)); refine blk_part [.bool false, .int .u8 0, .int .u8 0, .int .u8 0, .int .u8 0, .int .u8 0, .int .u8 0, .int .u8 0, .int .u8 0, .int .u8 0, .int .u8 0, .int .u8 0, .int .u8 0, .int .u8 0, .int .u8 0, .int .u8 0, .int .u8 0] [.bool false, .int .u8 0, .int .u8 0, .int .u8 0, .int .u8 0, .int .u8 0, .int .u8 0, .int .u8 0, .int .u8 0, .int .u8 0, .int .u8 0, .int .u8 0, .int .u8 0, .int .u8 0, .int .u8 0, .int .u8 0, .int .u8 0] [] [] (cs := #[.bool false, .int .u8 0, .int .u8 0, .int .u8 0, .int .u8 0, .int .u8 0, .int .u8 0, .int .u8 0, .int .u8 0, .int .u8 0, .int .u8 0, .int .u8 0, .int .u8 0, .int .u8 0, .int .u8 0, .int .u8 0, .int .u8 0]) ?_ rfl rfl rfl; (with_reducible repeat (first | refine blk_drewN ?_ _ | refine blk_drew ?_ | refine blk_alloc ?_ _)); exact BK433.out))⟩; have n2_ : Aside0 (w50.heap[gb487]? = some (.cells #[.bool t470, .int .u8 t471, .int .u8 t472, .int .u8 t473, .int .u8 t474, .int .u8 t475, .int .u8 t476, .int .u8 t477, .int .u8 t478, .int .u8 t479, .int .u8 t480, .int .u8 t481, .int .u8 t482, .int .u8 t483, .int .u8 t484, .int .u8 t485, .int .u8 t486] 25 (0, 0))) := ⟨(by rw [hw]; exact (by (with_reducible repeat (first | refine blk_drewN ?_ _ | refine blk_drew ?_ | refine blk_alloc ?_ _)); refine blk_farC NB487_433.out _ _ ?_; (with_reducible repeat (first | refine blk_drewN ?_ _ | refine blk_drew ?_ | refine blk_alloc ?_ _)); exact BK487.out))⟩; have n3_ : Aside0 (Below w.heap.size w w50) := ⟨(by rw [hw]; exact (by repeat (first | (with_reducible first | exact HB.out | apply below_alloc | apply pw_below_drewN | apply below_drew1 | refine below_set ?_ GE432.out | refine below_set ?_ GE433.out | refine below_set ?_ GE487.out | refine below_setC GE432.out _ _ ?_ | refine below_setC GE433.out _ _ ?_ | refine below_setC GE487.out _ _ ?_) | exact HB.out)))⟩; clear hw; clear BK432; clear BK433; clear BK487; clear HB; have BK432 := n0_; have BK433 := n1_; have BK487 := n2_; have HB := n3_; clear n0_ n1_ n2_ n3_))
             refine bodyPost_ret (results_ct rfl _ _ gb433 25 #[.bool false, .int .u8 0, .int .u8 0, .int .u8 0, .int .u8 0, .int .u8 0, .int .u8 0, .int .u8 0, .int .u8 0, .int .u8 0, .int .u8 0, .int .u8 0, .int .u8 0, .int .u8 0, .int .u8 0, .int .u8 0, .int .u8 0] (0, 0) _ rfl (by (with_reducible repeat (first | refine blk_drewN ?_ _ | refine blk_drew ?_ | refine blk_alloc ?_ _)); exact BK433.out) Tryd.underlying25 rfl (by kernel_rfl)) rfl ?_
             exact ⟨by first | rfl | (simp [errW_none, errW_some] <;> rfl) | (simp [*, errW_none, errW_some] <;> rfl) | (simp [errW_none, errW_some]; first | exact isEmpty_bne _ | exact isEmpty_beq _ | exact (isEmpty_bne _).symm), by repeat (first | (with_reducible first | exact HB.out | apply below_alloc | apply pw_below_drewN | apply below_drew1 | refine below_set ?_ GE432.out | refine below_set ?_ GE433.out | refine below_set ?_ GE487.out) | exact HB.out)⟩
            ·rw [if_neg c39] at H
             have c39b0 : (t470 == t488 && ((t471 == t489 && (t472 == t490 && (t473 == t491 && (t474 == t492 && (t475 == t493 && (t476 == t494 && (t477 == t495 && (t478 == t496 && (t479 == t497 && (t480 == t498 && (t481 == t499 && (t482 == t500 && (t483 == t501 && (t484 == t502 && (t485 == t503 && (t486 == t504)))))))))))))))))) = false := by simpa using c39
             (try (have c39b3 : ¬ (t470 = t488 && ((t471 == t489 && (t472 == t490 && (t473 == t491 && (t474 == t492 && (t475 == t493 && (t476 == t494 && (t477 == t495 && (t478 == t496 && (t479 == t497 && (t480 == t498 && (t481 == t499 && (t482 == t500 && (t483 == t501 && (t484 == t502 && (t485 == t503 && (t486 == t504)))))))))))))))))) := by simpa using c39))
             clear c39
             replace H := Option.bind_eq_some_iff.mp H
             obtain ⟨⟨t505, t506, t507, t508, t509, t510, t511, t512, t513, t514, t515, t516, t517, t518, t519, t520, t521⟩, A510, H⟩ := H
             replace H : (if (t470 == t505 && ((t471 == t506 && (t472 == t507 && (t473 == t508 && (t474 == t509 && (t475 == t510 && (t476 == t511 && (t477 == t512 && (t478 == t513 && (t479 == t514 && (t480 == t515 && (t481 == t516 && (t482 == t517 && (t483 == t518 && (t484 == t519 && (t485 == t520 && (t486 == t521)))))))))))))))))) = true then (some (false, 0, 0, 0, 0, 0, 0, 0, 0, 0, 0, 0, 0, 0, 0, 0, 0, false)) else (some (t470, t471, t472, t473, t474, t475, t476, t477, t478, t479, t480, t481, t482, t483, t484, t485, t486, true))) = some (r1, r2, r3, r4, r5, r6, r7, r8, r9, r10, r11, r12, r13, r14, r15, r16, r17, r18) := H
             have A51 := Aside0.mk A510
             clear A510
             by_cases c52 : (t470 == t505 && ((t471 == t506 && (t472 == t507 && (t473 == t508 && (t474 == t509 && (t475 == t510 && (t476 == t511 && (t477 == t512 && (t478 == t513 && (t479 == t514 && (t480 == t515 && (t481 == t516 && (t482 == t517 && (t483 == t518 && (t484 == t519 && (t485 == t520 && (t486 == t521)))))))))))))))))) = true
             ·rw [if_pos c52] at H
              have c52b0 : (t470 == t505 && ((t471 == t506 && (t472 == t507 && (t473 == t508 && (t474 == t509 && (t475 == t510 && (t476 == t511 && (t477 == t512 && (t478 == t513 && (t479 == t514 && (t480 == t515 && (t481 == t516 && (t482 == t517 && (t483 == t518 && (t484 == t519 && (t485 == t520 && (t486 == t521)))))))))))))))))) = true := c52
              clear c52
              simp only [Option.some.injEq, Prod.mk.injEq] at H
              obtain ⟨rfl, rfl, rfl, rfl, rfl, rfl, rfl, rfl, rfl, rfl, rfl, rfl, rfl, rfl, rfl, rfl, rfl, rfl⟩ := H
              try go_wp2_with (first | ((with_reducible refine gate_dst (N := 65) rfl ?_); (try (refine gate_guard (by rfl) ?_; dsimp only)); refine load_box ?hg 25 (.tmp 1) rfl BK432.out [] [.bool true, .int .u8 a0_1, .int .u8 a0_2, .int .u8 a0_3, .int .u8 a0_4, .int .u8 a0_5, .int .u8 a0_6, .int .u8 a0_7, .int .u8 a0_8, .int .u8 a0_9, .int .u8 a0_10, .int .u8 a0_11, .int .u8 a0_12, .int .u8 a0_13, .int .u8 a0_14, .int .u8 a0_15, .int .u8 a0_16] [] rfl 0 rfl rfl Tryd.underlying25 rfl (by kernel_rfl) ?_; (case hg => rfl)) | ((with_reducible refine gate_callee (f := 22) rfl ?_); refine goesL_ (some 66) rfl rfl Tryd.func22 (by kernel_rfl) rfl #[.agg #[.bool true, .int .u8 a0_1, .int .u8 a0_2, .int .u8 a0_3, .int .u8 a0_4, .int .u8 a0_5, .int .u8 a0_6, .int .u8 a0_7, .int .u8 a0_8, .int .u8 a0_9, .int .u8 a0_10, .int .u8 a0_11, .int .u8 a0_12, .int .u8 a0_13, .int .u8 a0_14, .int .u8 a0_15, .int .u8 a0_16], .int .i64 12] rfl (by (try simp only [List.map_toArray, List.map_cons, List.map_nil]); first | done | rfl | (simp only [List.length_drop, List.length_take]; rfl)) ?_; (with_reducible refine (lanternref05_Tail.calls kj33 true a0_1 a0_2 a0_3 a0_4 a0_5 a0_6 a0_7 a0_8 a0_9 a0_10 a0_11 a0_12 a0_13 a0_14 a0_15 a0_16 12 t470 t471 t472 t473 t474 t475 t476 t477 t478 t479 t480 t481 t482 t483 t484 t485 t486 _ ?side1 A37.out).mono ?_); (case side1 => exact LW.below HLW.out (by repeat (first | (with_reducible first | exact HB.out | apply below_alloc | apply pw_below_drewN | apply below_drew1 | refine below_set ?_ GE432.out | refine below_set ?_ GE433.out) | exact HB.out))); rintro e w53 ⟨rfl, hb⟩; refine ⟨_, rfl, ?_⟩; have n0_ := Aside0.mk (blk_below (g := gb432) (o := .cells #[.bool true, .int .u8 a0_1, .int .u8 a0_2, .int .u8 a0_3, .int .u8 a0_4, .int .u8 a0_5, .int .u8 a0_6, .int .u8 a0_7, .int .u8 a0_8, .int .u8 a0_9, .int .u8 a0_10, .int .u8 a0_11, .int .u8 a0_12, .int .u8 a0_13, .int .u8 a0_14, .int .u8 a0_15, .int .u8 a0_16] 25 (0, 0)) (by (with_reducible repeat (first | refine blk_drewN ?_ _ | refine blk_drew ?_ | refine blk_alloc ?_ _)); exact BK432.out) hb); have n1_ := Aside0.mk (blk_below (g := gb433) (o := .cells #[.bool false, .int .u8 0, .int .u8 0, .int .u8 0, .int .u8 0, .int .u8 0, .int .u8 0, .int .u8 0, .int .u8 0, .int .u8 0, .int .u8 0, .int .u8 0, .int .u8 0, .int .u8 0, .int .u8 0, .int .u8 0, .int .u8 0] 25 (0, 0)) (by (with_reducible repeat (first | refine blk_drewN ?_ _ | refine blk_drew ?_ | refine blk_alloc ?_ _)); exact BK433.out) hb); have n2_ := Aside0.mk (below_step (by repeat (first | (with_reducible first | exact HB.out | apply below_alloc | apply pw_below_drewN | apply below_drew1 | refine below_set ?_ GE432.out | refine below_set ?_ GE433.out) | exact HB.out)) hb); clear BK432; clear BK433; clear HB; have BK432 := n0_; have BK433 := n1_; have HB := n2_; clear n0_ n1_ n2_; (try clear hb); (try clear hb2); (try clear hk); (try clear hi)) | ((with_reducible refine gate_dst (N := 7) rfl ?_); refine box_event ?hg (N := 7) ?hd (cs := #[.bool false, .int .u8 0, .int .u8 0, .int .u8 0, .int .u8 0, .int .u8 0, .int .u8 0, .int .u8 0, .int .u8 0, .int .u8 0, .int .u8 0, .int .u8 0, .int .u8 0, .int .u8 0, .int .u8 0, .int .u8 0, .int .u8 0]) (t := 25) ?hr ?_; (case hd => rfl); (case hg => rfl); (case hr => first | (go_simp; done) | (go_simp; rfl)); intro gb487 hg w54 hbox hb; have n0_ := Aside0.mk (blk_below (g := gb432) (o := .cells #[.bool true, .int .u8 a0_1, .int .u8 a0_2, .int .u8 a0_3, .int .u8 a0_4, .int .u8 a0_5, .int .u8 a0_6, .int .u8 a0_7, .int .u8 a0_8, .int .u8 a0_9, .int .u8 a0_10, .int .u8 a0_11, .int .u8 a0_12, .int .u8 a0_13, .int .u8 a0_14, .int .u8 a0_15, .int .u8 a0_16] 25 (0, 0)) (by (with_reducible repeat (first | refine blk_drewN ?_ _ | refine blk_drew ?_ | refine blk_alloc ?_ _)); exact BK432.out) hb); have n1_ := Aside0.mk (blk_below (g := gb433) (o := .cells #[.bool false, .int .u8 0, .int .u8 0, .int .u8 0, .int .u8 0, .int .u8 0, .int .u8 0, .int .u8 0, .int .u8 0, .int .u8 0, .int .u8 0, .int .u8 0, .int .u8 0, .int .u8 0, .int .u8 0, .int .u8 0, .int .u8 0] 25 (0, 0)) (by (with_reducible repeat (first | refine blk_drewN ?_ _ | refine blk_drew ?_ | refine blk_alloc ?_ _)); exact BK433.out) hb); have n2_ := Aside0.mk (below_step (by repeat (first | (with_reducible first | exact HB.out | apply below_alloc | apply pw_below_drewN | apply below_drew1 | refine below_set ?_ GE432.out | refine below_set ?_ GE433.out) | exact HB.out)) hb); have n3_ := Aside0.mk (hbox); have n4_ := Aside0.mk ((by rw [hg]; exact (below_size (by repeat (first | (with_reducible first | exact HB.out | apply below_alloc | apply pw_below_drewN | apply below_drew1 | refine below_set ?_ GE432.out | refine below_set ?_ GE433.out) | exact HB.out))) : w.heap.size ≤ gb487)); have n5_ := Aside0.mk ((by rw [hg]; exact (below_size (by repeat (first | (with_reducible first | exact HB.out | apply below_alloc | apply pw_below_drewN | apply below_drew1 | refine below_set ?_ GE432.out | refine below_set ?_ GE433.out) | exact HB.out))) : w.heap.size ≤ gb487)); have n6_ := Aside0.mk ((by rw [hg]; exact Nat.ne_of_lt (blk_lt (g := gb432) (o := .cells #[.bool true, .int .u8 a0_1, .int .u8 a0_2, .int .u8 a0_3, .int .u8 a0_4, .int .u8 a0_5, .int .u8 a0_6, .int .u8 a0_7, .int .u8 a0_8, .int .u8 a0_9, .int .u8 a0_10, .int .u8 a0_11, .int .u8 a0_12, .int .u8 a0_13, .int .u8 a0_14, .int .u8 a0_15, .int .u8 a0_16] 25 (0, 0)) (by (with_reducible repeat (first | refine blk_drewN ?_ _ | refine blk_drew ?_ | refine blk_alloc ?_ _)); exact BK432.out)) : gb432 ≠ gb487)); have n7_ := Aside0.mk ((by rw [hg]; exact Nat.ne_of_gt (blk_lt (g := gb432) (o := .cells #[.bool true, .int .u8 a0_1, .int .u8 a0_2, .int .u8 a0_3, .int .u8 a0_4, .int .u8 a0_5, .int .u8 a0_6, .int .u8 a0_7, .int .u8 a0_8, .int .u8 a0_9, .int .u8 a0_10, .int .u8 a0_11, .int .u8 a0_12, .int .u8 a0_13, .int .u8 a0_14, .int .u8 a0_15, .int .u8 a0_16] 25 (0, 0)) (by (with_reducible repeat (first | refine blk_drewN ?_ _ | refine blk_drew ?_ | refine blk_alloc ?_ _)); exact BK432.out)) : gb487 ≠ gb432)); have n8_ := Aside0.mk ((by rw [hg]; exact Nat.ne_of_lt (blk_lt (g := gb433) (o := .cells #[.bool false, .int .u8 0, .int .u8 0, .int .u8 0, .int .u8 0, .int .u8 0, .int .u8 0, .int .u8 0, .int .u8 0, .int .u8 0, .int .u8 0, .int .u8 0, .int .u8 0, .int .u8 0, .int .u8 0, .int .u8 0, .int .u8 0] 25 (0, 0)) (by (with_reducible repeat (first | refine blk_drewN ?_ _ | refine blk_drew ?_ | refine blk_alloc ?_ _)); exact BK433.out)) : gb433 ≠ gb487)); have n9_ := Aside0.mk ((by rw [hg]; exact Nat.ne_of_gt (blk_lt (g := gb433) (o := .cells #[.bool false, .int .u8 0, .int .u8 0, .int .u8 0, .int .u8 0, .int .u8 0, .int .u8 0, .int .u8 0, .int .u8 0, .int .u8 0, .int .u8 0, .int .u8 0, .int .u8 0, .int .u8 0, .int .u8 0, .int .u8 0, .int .u8 0] 25 (0, 0)) (by (with_reducible repeat (first | refine blk_drewN ?_ _ | refine blk_drew ?_ | refine blk_alloc ?_ _)); exact BK433.out)) : gb487 ≠ gb433)); clear BK432; clear BK433; clear HB; have BK432 := n0_; have BK433 := n1_; have HB := n2_; have BK487 := n3_; have GW487 := n4_; have GE487 := n5_; have NB432_487 := n6_; have NB487_432 := n7_; have NB433_487 := n8_; have NB487_433 := n9_; clear n0_ n1_ n2_ n3_ n4_ n5_ n6_ n7_ n8_ n9_; clear hb hbox hg; have hnb55 := NB487_432.out; have hnc55 := NB432_487.out; have hnb56 := NB487_433.out; have hnc56 := NB433_487.out; have hcz57_0 : w54.cell? ⟨gb487, 0, none⟩ = some (.bool false) := (blk_cell BK487.out 0).trans rfl; have hcz57_1 : w54.cell? ⟨gb487, 1, none⟩ = some (.int .u8 0) := (blk_cell BK487.out 1).trans rfl; have hcz57_2 : w54.cell? ⟨gb487, 2, none⟩ = some (.int .u8 0) := (blk_cell BK487.out 2).trans rfl; have hcz57_3 : w54.cell? ⟨gb487, 3, none⟩ = some (.int .u8 0) := (blk_cell BK487.out 3).trans rfl; have hcz57_4 : w54.cell? ⟨gb487, 4, none⟩ = some (.int .u8 0) := (blk_cell BK487.out 4).trans rfl; have hcz57_5 : w54.cell? ⟨gb487, 5, none⟩ = some (.int .u8 0) := (blk_cell BK487.out 5).trans rfl; have hcz57_6 : w54.cell? ⟨gb487, 6, none⟩ = some (.int .u8 0) := (blk_cell BK487.out 6).trans rfl; have hcz57_7 : w54.cell? ⟨gb487, 7, none⟩ = some (.int .u8 0) := (blk_cell BK487.out 7).trans rfl; have hcz57_8 : w54.cell? ⟨gb487, 8, none⟩ = some (.int .u8 0) := (blk_cell BK487.out 8).trans rfl; have hcz57_9 : w54.cell? ⟨gb487, 9, none⟩ = some (.int .u8 0) := (blk_cell BK487.out 9).trans rfl; have hcz57_10 : w54.cell? ⟨gb487, 10, none⟩ = some (.int .u8 0) := (blk_cell BK487.out 10).trans rfl; have hcz57_11 : w54.cell? ⟨gb487, 11, none⟩ = some (.int .u8 0) := (blk_cell BK487.out 11).trans rfl; have hcz57_12 : w54.cell? ⟨gb487, 12, none⟩ = some (.int .u8 0) := (blk_cell BK487.out 12).trans rfl; have hcz57_13 : w54.cell? ⟨gb487, 13, none⟩ = some (.int .u8 0) := (blk_cell BK487.out 13).trans rfl; have hcz57_14 : w54.cell? ⟨gb487, 14, none⟩ = some (.int .u8 0) := (blk_cell BK487.out 14).trans rfl; have hcz57_15 : w54.cell? ⟨gb487, 15, none⟩ = some (.int .u8 0) := (blk_cell BK487.out 15).trans rfl; have hcz57_16 : w54.cell? ⟨gb487, 16, none⟩ = some (.int .u8 0) := (blk_cell BK487.out 16).trans rfl; have hfz57_0 := blk_frozen BK487.out 0; have hfz57_1 := blk_frozen BK487.out 1; have hfz57_2 := blk_frozen BK487.out 2; have hfz57_3 := blk_frozen BK487.out 3; have hfz57_4 := blk_frozen BK487.out 4; have hfz57_5 := blk_frozen BK487.out 5; have hfz57_6 := blk_frozen BK487.out 6; have hfz57_7 := blk_frozen BK487.out 7; have hfz57_8 := blk_frozen BK487.out 8; have hfz57_9 := blk_frozen BK487.out 9; have hfz57_10 := blk_frozen BK487.out 10; have hfz57_11 := blk_frozen BK487.out 11; have hfz57_12 := blk_frozen BK487.out 12; have hfz57_13 := blk_frozen BK487.out 13; have hfz57_14 := blk_frozen BK487.out 14; have hfz57_15 := blk_frozen BK487.out 15; have hfz57_16 := blk_frozen BK487.out 16) | ((with_reducible refine gate_store (t := 25) (p := 7) rfl ?_); refine store_all ?hg 25 7 _ rfl rfl gb487 [.bool false, .int .u8 0, .int .u8 0, .int .u8 0, .int .u8 0, .int .u8 0, .int .u8 0, .int .u8 0, .int .u8 0, .int .u8 0, .int .u8 0, .int .u8 0, .int .u8 0, .int .u8 0, .int .u8 0, .int .u8 0, .int .u8 0] [.bool t470, .int .u8 t471, .int .u8 t472, .int .u8 t473, .int .u8 t474, .int .u8 t475, .int .u8 t476, .int .u8 t477, .int .u8 t478, .int .u8 t479, .int .u8 t480, .int .u8 t481, .int .u8 t482, .int .u8 t483, .int .u8 t484, .int .u8 t485, .int .u8 t486] BK487.out rfl rfl rfl (by kernel_rfl) rfl ?_; (case hg => rfl); intro w58 hw; have n0_ : Aside0 (w58.heap[gb432]? = some (.cells #[.bool true, .int .u8 a0_1, .int .u8 a0_2, .int .u8 a0_3, .int .u8 a0_4, .int .u8 a0_5, .int .u8 a0_6, .int .u8 a0_7, .int .u8 a0_8, .int .u8 a0_9, .int .u8 a0_10, .int .u8 a0_11, .int .u8 a0_12, .int .u8 a0_13, .int .u8 a0_14, .int .u8 a0_15, .int .u8 a0_16] 25 (0, 0))) := ⟨(by rw [hw]; exact (by (with_reducible repeat (first | refine blk_drewN ?_ _ | refine blk_drew ?_ | refine blk_alloc ?_ _)); refine blk_farC NB432_487.out _ _ ?_; (with_reducible repeat (first | refine blk_drewN ?_ _ | refine blk_drew ?_ | refine blk_alloc ?_ _)); exact BK432.out))⟩; have n1_ : Aside0 (w58.heap[gb433]? = some (.cells #[.bool false, .int .u8 0, .int .u8 0, .int .u8 0, .int .u8 0, .int .u8 0, .int .u8 0, .int .u8 0, .int .u8 0, .int .u8 0, .int .u8 0, .int .u8 0, .int .u8 0, .int .u8 0, .int .u8 0, .int .u8 0, .int .u8 0] 25 (0, 0))) := ⟨(by rw [hw]; exact (by (with_reducible repeat (first | refine blk_drewN ?_ _ | refine blk_drew ?_ | refine blk_alloc ?_ _)); refine blk_farC NB433_487.out _ _ ?_; (with_reducible repeat (first | refine blk_drewN ?_ _ | refine blk_drew ?_ | refine blk_alloc ?_ _)); exact BK433.out))⟩; have n2_ : Aside0 (w58.heap[gb487]? = some (.cells #[.bool t470, .int .u8 t471, .int .u8 t472, .int .u8 t473, .int .u8 t474, .int .u8 t475, .int .u8 t476, .int .u8 t477, .int .u8 t478, .int .u8 t479, .int .u8 t480, .int .u8 t481, .int .u8 t482, .int .u8 t483, .int .u8 t484, .int .u8 t485, .int .u8 t486] 25 (0, 0))) := ⟨(by rw [hw]; exact (by (with_reducible repeat (first | refine blk_drewN ?_ _ | refine blk_drew ?_ | refine blk_alloc ?_ _)); refine blk_part [.bool t470, .int .u8 t471, .int .u8 t472, .int .u8 t473, .int .u8 t474, .int .u8 t475, .int .u8 t476, .int .u8 t477, .int .u8 t478, .int .u8 t479, .int .u8 t480, .int .u8 t481, .int .u8 t482, .int .u8 t483, .int .u8 t484, .int .u8 t485, .int .u8 t486] [.bool false, .int .u8 0, .int .u8 0, .int .u8 0, .int .u8 0, .int .u8 0, .int .u8 0, .int .u8 0, .int .u8 0, .int .u8 0, .int .u8 0, .int .u8 0, .int .u8 0, .int .u8 0, .int .u8 0, .int .u8 0, .int .u8 0] [] [] (cs := #[.bool false, .int .u8 0, .int .u8 0, .int .u8 0, .int .u8 0, .int .u8 0, .int .u8 0, .int .u8 0, .int .u8 0, .int .u8 0, .int .u8 0, .int .u8 0, .int .u8 0, .int .u8 0, .int .u8 0, .int .u8 0, .int .u8 0]) ?_ rfl rfl rfl; (with_reducible repeat (first | refine blk_drewN ?_ _ | refine blk_drew ?_ | refine blk_alloc ?_ _)); exact BK487.out))⟩; have n3_ : Aside0 (Below w.heap.size w w58) := ⟨(by rw [hw]; exact (by repeat (first | (with_reducible first | exact HB.out | apply below_alloc | apply pw_below_drewN | apply below_drew1 | refine below_set ?_ GE432.out | refine below_set ?_ GE433.out | refine below_set ?_ GE487.out | refine below_setC GE432.out _ _ ?_ | refine below_setC GE433.out _ _ ?_ | refine below_setC GE487.out _ _ ?_) | exact HB.out)))⟩; clear hw; clear BK432; clear BK433; clear BK487; clear HB; have BK432 := n0_; have BK433 := n1_; have BK487 := n2_; have HB := n3_; clear n0_ n1_ n2_ n3_))
              have n0_ := Aside0.mk (blk_drew BK432.out)
              have n1_ := Aside0.mk (blk_drew BK433.out)
              have n2_ := Aside0.mk (blk_drew BK487.out)
              have n3_ := Aside0.mk (below_drew1 HB.out)
              clear BK432
              clear BK433
              clear BK487
              clear HB
              have BK432 := n0_
              have BK433 := n1_
              have BK487 := n2_
              have HB := n3_
              clear n0_ n1_ n2_ n3_
              refine start_ (n := 8) (S := fun w' => (Instr.loadAt 25 (.pointer (some ⟨gb487, 0, none⟩))).run Tryd.prog w' = .ok (.agg #[.bool t470, .int .u8 t471, .int .u8 t472, .int .u8 t473, .int .u8 t474, .int .u8 t475, .int .u8 t476, .int .u8 t477, .int .u8 t478, .int .u8 t479, .int .u8 t480, .int .u8 t481, .int .u8 t482, .int .u8 t483, .int .u8 t484, .int .u8 t485, .int .u8 t486]) w' ∧ (Instr.loadAt 25 (.pointer (some ⟨gb487, 0, none⟩))).run Tryd.prog w' = .ok (.agg #[.bool t470, .int .u8 t471, .int .u8 t472, .int .u8 t473, .int .u8 t474, .int .u8 t475, .int .u8 t476, .int .u8 t477, .int .u8 t478, .int .u8 t479, .int .u8 t480, .int .u8 t481, .int .u8 t482, .int .u8 t483, .int .u8 t484, .int .u8 t485, .int .u8 t486]) w') (ds := []) #[false, false, false, false, false, false, false, false] (by kernel_rfl) rfl rfl ⟨(run_load_box BK487.out 25 [] [.bool t470, .int .u8 t471, .int .u8 t472, .int .u8 t473, .int .u8 t474, .int .u8 t475, .int .u8 t476, .int .u8 t477, .int .u8 t478, .int .u8 t479, .int .u8 t480, .int .u8 t481, .int .u8 t482, .int .u8 t483, .int .u8 t484, .int .u8 t485, .int .u8 t486] [] rfl 0 rfl Tryd.underlying25 rfl (by kernel_rfl)), (run_load_box BK487.out 25 [] [.bool t470, .int .u8 t471, .int .u8 t472, .int .u8 t473, .int .u8 t474, .int .u8 t475, .int .u8 t476, .int .u8 t477, .int .u8 t478, .int .u8 t479, .int .u8 t480, .int .u8 t481, .int .u8 t482, .int .u8 t483, .int .u8 t484, .int .u8 t485, .int .u8 t486] [] rfl 0 rfl Tryd.underlying25 rfl (by kernel_rfl))⟩ (fun hHeld => ?_); refine with_tabW lanternref05_Embeds.tab15 lanternref05_Embeds.bits15 (fun HT_ HW_ => ?_)
              generalize w58.drew = w59 at BK432 BK433 BK487 HB hHeld ⊢
              refine take_ (i := 0) (N := some 67) (v := ?_) (a' := ?_) #[true, false, false, false, false, false, false, false] rfl rfl (take_ofW HT_.out HW_.out (by kernel_rfl)) (fun _ _ _ h => h) (Or.inl ⟨by rfl, ?_⟩) hHeld ?_ ?_
              rotate_left
              ·rintro w' ⟨s0, s1⟩
               first | (refine (load_exec rfl rfl s0).trans ?_; with_reducible rfl) | (refine (load_exec rfl rfl s1).trans ?_; with_reducible rfl) | (go_simp; with_reducible rfl)
              rotate_left
              ·simp only [Act.put, List.setIfInBounds_toArray, List.set_cons_zero, List.set_cons_succ, i64_w, i32_w]
               rfl
              refine one_ (i := 1) (N := some 68) #[true, true, false, false, false, false, false, false] rfl rfl (one_of HT_.out (by kernel_rfl)) (by decide) (fun K hK => ?_)
              refine goes_ Tryd.func16 (by kernel_rfl) rfl #[.int .u64 0] (by rfl) rfl rfl (by (try simp only [List.map_toArray, List.map_cons, List.map_nil]); first | done | rfl | (simp only [List.length_drop, List.length_take]; rfl)) ?_
              with_reducible refine (lanternref05_V4.calls kj33 0 t488 t489 t490 t491 t492 t493 t494 t495 t496 t497 t498 t499 t500 t501 t502 t503 t504 _ ?side1 A38.out).mono ?_
              (case side1 => exact LW.below HLW.out (by repeat (first | (with_reducible first | exact HB.out | apply below_alloc | apply pw_below_drewN | apply below_drew1 | refine below_set ?_ GE432.out | refine below_set ?_ GE433.out | refine below_set ?_ GE487.out) | exact HB.out)))
              rintro e w60 ⟨rfl, hb⟩
              refine ⟨_, rfl, ?_⟩
              have n0_ := Aside0.mk (blk_below (g := gb432) (o := .cells #[.bool true, .int .u8 a0_1, .int .u8 a0_2, .int .u8 a0_3, .int .u8 a0_4, .int .u8 a0_5, .int .u8 a0_6, .int .u8 a0_7, .int .u8 a0_8, .int .u8 a0_9, .int .u8 a0_10, .int .u8 a0_11, .int .u8 a0_12, .int .u8 a0_13, .int .u8 a0_14, .int .u8 a0_15, .int .u8 a0_16] 25 (0, 0)) (by (with_reducible repeat (first | refine blk_drewN ?_ _ | refine blk_drew ?_ | refine blk_alloc ?_ _)); exact BK432.out) hb)
              have n1_ := Aside0.mk (blk_below (g := gb433) (o := .cells #[.bool false, .int .u8 0, .int .u8 0, .int .u8 0, .int .u8 0, .int .u8 0, .int .u8 0, .int .u8 0, .int .u8 0, .int .u8 0, .int .u8 0, .int .u8 0, .int .u8 0, .int .u8 0, .int .u8 0, .int .u8 0, .int .u8 0] 25 (0, 0)) (by (with_reducible repeat (first | refine blk_drewN ?_ _ | refine blk_drew ?_ | refine blk_alloc ?_ _)); exact BK433.out) hb)
              have n2_ := Aside0.mk (blk_below (g := gb487) (o := .cells #[.bool t470, .int .u8 t471, .int .u8 t472, .int .u8 t473, .int .u8 t474, .int .u8 t475, .int .u8 t476, .int .u8 t477, .int .u8 t478, .int .u8 t479, .int .u8 t480, .int .u8 t481, .int .u8 t482, .int .u8 t483, .int .u8 t484, .int .u8 t485, .int .u8 t486] 25 (0, 0)) (by (with_reducible repeat (first | refine blk_drewN ?_ _ | refine blk_drew ?_ | refine blk_alloc ?_ _)); exact BK487.out) hb)
              have n3_ := Aside0.mk (below_step (by repeat (first | (with_reducible first | exact HB.out | apply below_alloc | apply pw_below_drewN | apply below_drew1 | refine below_set ?_ GE432.out | refine below_set ?_ GE433.out | refine below_set ?_ GE487.out) | exact HB.out)) hb)
              clear BK432
              clear BK433
              clear BK487
              clear HB
              have BK432 := n0_
              have BK433 := n1_
              have BK487 := n2_
              have HB := n3_
              clear n0_ n1_ n2_ n3_
              (try clear hb)
              (try clear hb2)
              (try clear hk)
              (try clear hi)
              refine hK.out _ _ ⟨(run_load_box BK487.out 25 [] [.bool t470, .int .u8 t471, .int .u8 t472, .int .u8 t473, .int .u8 t474, .int .u8 t475, .int .u8 t476, .int .u8 t477, .int .u8 t478, .int .u8 t479, .int .u8 t480, .int .u8 t481, .int .u8 t482, .int .u8 t483, .int .u8 t484, .int .u8 t485, .int .u8 t486] [] rfl 0 rfl Tryd.underlying25 rfl (by kernel_rfl)), (run_load_box BK487.out 25 [] [.bool t470, .int .u8 t471, .int .u8 t472, .int .u8 t473, .int .u8 t474, .int .u8 t475, .int .u8 t476, .int .u8 t477, .int .u8 t478, .int .u8 t479, .int .u8 t480, .int .u8 t481, .int .u8 t482, .int .u8 t483, .int .u8 t484, .int .u8 t485, .int .u8 t486] [] rfl 0 rfl Tryd.underlying25 rfl (by kernel_rfl))⟩ (fun hHeld => ?_)
              clear hK K
              refine norm_ (a' := ?_) ?_ ?_
              rotate_left
              ·show Act.put _ (some 68) _ = _
               simp only [Act.put, List.setIfInBounds_toArray, List.set_cons_zero, List.set_cons_succ, i64_w, i32_w]
               rfl
              refine pure_ (i := 2) (N := some 69) (v := ?_) (a' := ?_) #[true, true, true, false, false, false, false, false] rfl rfl (any_of HT_.out (by kernel_rfl)) (fun _ _ _ h => h) (Or.inl ⟨by rfl, ?_⟩) ?_ ?_
              rotate_left
              ·intro w'
               go_simp
               with_reducible rfl
              rotate_left
              ·simp only [Act.put, List.setIfInBounds_toArray, List.set_cons_zero, List.set_cons_succ, i64_w, i32_w]
               rfl
              refine pure_ (i := 3) (N := some 70) (v := ?_) (a' := ?_) #[true, true, true, true, false, false, false, false] rfl rfl (any_of HT_.out (by kernel_rfl)) (fun _ _ _ h => h) (Or.inl ⟨by rfl, ?_⟩) ?_ ?_
              rotate_left
              ·intro w'
               go_simp
               with_reducible rfl
              rotate_left
              ·simp only [Act.put, List.setIfInBounds_toArray, List.set_cons_zero, List.set_cons_succ, i64_w, i32_w]
               rfl
              refine take_ (i := 4) (N := some 71) (v := ?_) (a' := ?_) #[true, true, true, true, true, false, false, false] rfl rfl (take_ofW HT_.out HW_.out (by kernel_rfl)) (fun _ _ _ h => h) (Or.inl ⟨by rfl, ?_⟩) hHeld ?_ ?_
              rotate_left
              ·rintro w' ⟨s0, s1⟩
               first | (refine (load_exec rfl rfl s0).trans ?_; with_reducible rfl) | (refine (load_exec rfl rfl s1).trans ?_; with_reducible rfl) | (go_simp; with_reducible rfl)
              rotate_left
              ·simp only [Act.put, List.setIfInBounds_toArray, List.set_cons_zero, List.set_cons_succ, i64_w, i32_w]
               rfl
              refine one_ (i := 5) (N := some 72) #[true, true, true, true, true, true, false, false] rfl rfl (one_of HT_.out (by kernel_rfl)) (by decide) (fun K hK => ?_)
              refine goes_ Tryd.func16 (by kernel_rfl) rfl #[.int .u64 1] (by rfl) rfl rfl (by (try simp only [List.map_toArray, List.map_cons, List.map_nil]); first | done | rfl | (simp only [List.length_drop, List.length_take]; rfl)) ?_
              with_reducible refine (lanternref05_V4.calls kj33 1 t505 t506 t507 t508 t509 t510 t511 t512 t513 t514 t515 t516 t517 t518 t519 t520 t521 _ ?side1 A51.out).mono ?_
              (case side1 => exact LW.below HLW.out (by repeat (first | (with_reducible first | exact HB.out | apply below_alloc | apply pw_below_drewN | apply below_drew1 | refine below_set ?_ GE432.out | refine below_set ?_ GE433.out | refine below_set ?_ GE487.out) | exact HB.out)))
              rintro e w61 ⟨rfl, hb⟩
              refine ⟨_, rfl, ?_⟩
              have n0_ := Aside0.mk (blk_below (g := gb432) (o := .cells #[.bool true, .int .u8 a0_1, .int .u8 a0_2, .int .u8 a0_3, .int .u8 a0_4, .int .u8 a0_5, .int .u8 a0_6, .int .u8 a0_7, .int .u8 a0_8, .int .u8 a0_9, .int .u8 a0_10, .int .u8 a0_11, .int .u8 a0_12, .int .u8 a0_13, .int .u8 a0_14, .int .u8 a0_15, .int .u8 a0_16] 25 (0, 0)) (by (with_reducible repeat (first | refine blk_drewN ?_ _ | refine blk_drew ?_ | refine blk_alloc ?_ _)); exact BK432.out) hb)
              have n1_ := Aside0.mk (blk_below (g := gb433) (o := .cells #[.bool false, .int .u8 0, .int .u8 0, .int .u8 0, .int .u8 0, .int .u8 0, .int .u8 0, .int .u8 0, .int .u8 0, .int .u8 0, .int .u8 0, .int .u8 0, .int .u8 0, .int .u8 0, .int .u8 0, .int .u8 0, .int .u8 0] 25 (0, 0)) (by (with_reducible repeat (first | refine blk_drewN ?_ _ | refine blk_drew ?_ | refine blk_alloc ?_ _)); exact BK433.out) hb)
              have n2_ := Aside0.mk (blk_below (g := gb487) (o := .cells #[.bool t470, .int .u8 t471, .int .u8 t472, .int .u8 t473, .int .u8 t474, .int .u8 t475, .int .u8 t476, .int .u8 t477, .int .u8 t478, .int .u8 t479, .int .u8 t480, .int .u8 t481, .int .u8 t482, .int .u8 t483, .int .u8 t484, .int .u8 t485, .int .u8 t486] 25 (0, 0)) (by (with_reducible repeat (first | refine blk_drewN ?_ _ | refine blk_drew ?_ | refine blk_alloc ?_ _)); exact BK487.out) hb)
              have n3_ := Aside0.mk (below_step (by repeat (first | (with_reducible first | exact HB.out | apply below_alloc | apply pw_below_drewN | apply below_drew1 | refine below_set ?_ GE432.out | refine below_set ?_ GE433.out | refine below_set ?_ GE487.out) | exact HB.out)) hb)
              clear BK432
              clear BK433
              clear BK487
              clear HB
              have BK432 := n0_
              have BK433 := n1_
              have BK487 := n2_
              have HB := n3_
              clear n0_ n1_ n2_ n3_
              (try clear hb)
              (try clear hb2)
              (try clear hk)
              (try clear hi)
              refine hK.out _ _ ⟨(run_load_box BK487.out 25 [] [.bool t470, .int .u8 t471, .int .u8 t472, .int .u8 t473, .int .u8 t474, .int .u8 t475, .int .u8 t476, .int .u8 t477, .int .u8 t478, .int .u8 t479, .int .u8 t480, .int .u8 t481, .int .u8 t482, .int .u8 t483, .int .u8 t484, .int .u8 t485, .int .u8 t486] [] rfl 0 rfl Tryd.underlying25 rfl (by kernel_rfl)), (run_load_box BK487.out 25 [] [.bool t470, .int .u8 t471, .int .u8 t472, .int .u8 t473, .int .u8 t474, .int .u8 t475, .int .u8 t476, .int .u8 t477, .int .u8 t478, .int .u8 t479, .int .u8 t480, .int .u8 t481, .int .u8 t482, .int .u8 t483, .int .u8 t484, .int .u8 t485, .int .u8 t486] [] rfl 0 rfl Tryd.underlying25 rfl (by kernel_rfl))⟩ (fun hHeld => ?_)
              clear hK K
              refine norm_ (a' := ?_) ?_ ?_
              rotate_left
              ·show Act.put _ (some 72) _ = _
               simp only [Act.put, List.setIfInBounds_toArray, List.set_cons_zero, List.set_cons_succ, i64_w, i32_w]
               rfl
              refine pure_ (i := 6) (N := some 73) (v := ?_) (a' := ?_) #[true, true, true, true, true, true, true, false] rfl rfl (any_of HT_.out (by kernel_rfl)) (fun _ _ _ h => h) (Or.inl ⟨by rfl, ?_⟩) ?_ ?_
              rotate_left
              ·intro w'
               go_simp
               with_reducible rfl
              rotate_left
              ·simp only [Act.put, List.setIfInBounds_toArray, List.set_cons_zero, List.set_cons_succ, i64_w, i32_w]
               rfl
              refine pure_ (i := 7) (N := some 74) (v := ?_) (a' := ?_) #[true, true, true, true, true, true, true, true] rfl rfl (any_of HT_.out (by kernel_rfl)) (fun _ _ _ h => h) (Or.inl ⟨by rfl, ?_⟩) ?_ ?_
              rotate_left
              ·intro w'
               go_simp
               with_reducible rfl
              rotate_left
              ·simp only [Act.put, List.setIfInBounds_toArray, List.set_cons_zero, List.set_cons_succ, i64_w, i32_w]
               rfl
              refine done_ (done_of HT_.out (by kernel_rfl)) ?_
              have hnb62 := NB433_432.out
              have hnc62 := NB432_433.out
              have hcz63_0 : w61.cell? ⟨gb433, 0, none⟩ = some (.bool false) := (blk_cell BK433.out 0).trans rfl
              have hcz63_1 : w61.cell? ⟨gb433, 1, none⟩ = some (.int .u8 0) := (blk_cell BK433.out 1).trans rfl
              have hcz63_2 : w61.cell? ⟨gb433, 2, none⟩ = some (.int .u8 0) := (blk_cell BK433.out 2).trans rfl
              have hcz63_3 : w61.cell? ⟨gb433, 3, none⟩ = some (.int .u8 0) := (blk_cell BK433.out 3).trans rfl
              have hcz63_4 : w61.cell? ⟨gb433, 4, none⟩ = some (.int .u8 0) := (blk_cell BK433.out 4).trans rfl
              have hcz63_5 : w61.cell? ⟨gb433, 5, none⟩ = some (.int .u8 0) := (blk_cell BK433.out 5).trans rfl
              have hcz63_6 : w61.cell? ⟨gb433, 6, none⟩ = some (.int .u8 0) := (blk_cell BK433.out 6).trans rfl
              have hcz63_7 : w61.cell? ⟨gb433, 7, none⟩ = some (.int .u8 0) := (blk_cell BK433.out 7).trans rfl
              have hcz63_8 : w61.cell? ⟨gb433, 8, none⟩ = some (.int .u8 0) := (blk_cell BK433.out 8).trans rfl
              have hcz63_9 : w61.cell? ⟨gb433, 9, none⟩ = some (.int .u8 0) := (blk_cell BK433.out 9).trans rfl
              have hcz63_10 : w61.cell? ⟨gb433, 10, none⟩ = some (.int .u8 0) := (blk_cell BK433.out 10).trans rfl
              have hcz63_11 : w61.cell? ⟨gb433, 11, none⟩ = some (.int .u8 0) := (blk_cell BK433.out 11).trans rfl
              have hcz63_12 : w61.cell? ⟨gb433, 12, none⟩ = some (.int .u8 0) := (blk_cell BK433.out 12).trans rfl
              have hcz63_13 : w61.cell? ⟨gb433, 13, none⟩ = some (.int .u8 0) := (blk_cell BK433.out 13).trans rfl
              have hcz63_14 : w61.cell? ⟨gb433, 14, none⟩ = some (.int .u8 0) := (blk_cell BK433.out 14).trans rfl
              have hcz63_15 : w61.cell? ⟨gb433, 15, none⟩ = some (.int .u8 0) := (blk_cell BK433.out 15).trans rfl
              have hcz63_16 : w61.cell? ⟨gb433, 16, none⟩ = some (.int .u8 0) := (blk_cell BK433.out 16).trans rfl
              have hfz63_0 := blk_frozen BK433.out 0
              have hfz63_1 := blk_frozen BK433.out 1
              have hfz63_2 := blk_frozen BK433.out 2
              have hfz63_3 := blk_frozen BK433.out 3
              have hfz63_4 := blk_frozen BK433.out 4
              have hfz63_5 := blk_frozen BK433.out 5
              have hfz63_6 := blk_frozen BK433.out 6
              have hfz63_7 := blk_frozen BK433.out 7
              have hfz63_8 := blk_frozen BK433.out 8
              have hfz63_9 := blk_frozen BK433.out 9
              have hfz63_10 := blk_frozen BK433.out 10
              have hfz63_11 := blk_frozen BK433.out 11
              have hfz63_12 := blk_frozen BK433.out 12
              have hfz63_13 := blk_frozen BK433.out 13
              have hfz63_14 := blk_frozen BK433.out 14
              have hfz63_15 := blk_frozen BK433.out 15
              have hfz63_16 := blk_frozen BK433.out 16
              try go_wp2_with (first | ((with_reducible refine gate_store (t := 25) (p := 2) rfl ?_); refine store_all ?hg 25 2 _ rfl rfl gb433 [.bool false, .int .u8 0, .int .u8 0, .int .u8 0, .int .u8 0, .int .u8 0, .int .u8 0, .int .u8 0, .int .u8 0, .int .u8 0, .int .u8 0, .int .u8 0, .int .u8 0, .int .u8 0, .int .u8 0, .int .u8 0, .int .u8 0] [.bool false, .int .u8 0, .int .u8 0, .int .u8 0, .int .u8 0, .int .u8 0, .int .u8 0, .int .u8 0, .int .u8 0, .int .u8 0, .int .u8 0, .int .u8 0, .int .u8 0, .int .u8 0, .int .u8 0, .int .u8 0, .int .u8 0] BK433.out rfl rfl rfl (by kernel_rfl) rfl ?_; (case hg => rfl); intro w64 hw; have n0_ : Aside0 (w64.heap[gb432]? = some (.cells #[.bool true, .int .u8 a0_1, .int .u8 a0_2, .int .u8 a0_3, .int .u8 a0_4, .int .u8 a0_5, .int .u8 a0_6, .int .u8 a0_7, .int .u8 a0_8, .int .u8 a0_9, .int .u8 a0_10, .int .u8 a0_11, .int .u8 a0_12, .int .u8 a0_13, .int .u8 a0_14, .int .u8 a0_15, .int .u8 a0_16] 25 (0, 0))) := ⟨(by rw [hw]; exact (by (with_reducible repeat (first | refine blk_drewN ?_ _ | refine blk_drew ?_ | refine blk_alloc ?_ _)); refine blk_farC NB432_433.out _ _ ?_; (with_reducible repeat (first | refine blk_drewN ?_ _ | refine blk_drew ?_ | refine blk_alloc ?_ _)); exact BK432.out))⟩; have n1_ : Aside0 (w64.heap[gb433]? = some (.cells #[.bool false, .int .u8 0, .int .u8 0, .int .u8 0, .int .u8 0, .int .u8 0, .int .u8 0, .int .u8 0, .int .u8 0, .int .u8 0, .int .u8 0, .int .u8 0, .int .u8 0, .int .u8 0, .int .u8 0, .int .u8 0, .int .u8 0] 25 (0, 0))) := ⟨(by rw [hw]; exact (by (with_reducible repeat (first | refine blk_drewN ?_ _ | refine blk_drew ?_ | refine blk_alloc ?_ _)); refine blk_part [.bool false, .int .u8 0, .int .u8 0, .int .u8 0, .int .u8 0, .int .u8 0, .int .u8 0, .int .u8 0, .int .u8 0, .int .u8 0, .int .u8 0, .int .u8 0, .int .u8 0, .int .u8 0, .int .u8 0, .int .u8 0, .int .u8 0] [.bool false, .int .u8 0, .int .u8 0, .int .u8 0, .int .u8 0, .int .u8 0, .int .u8 0, .int .u8 0, .int .u8 0, .int .u8 0, .int .u8 0, .int .u8 0, .int .u8 0, .int .u8 0, .int .u8 0, .int .u8 0, .int .u8 0] [] [] (cs := #[.bool false, .int .u8 0, .int .u8 0, .int .u8 0, .int .u8 0, .int .u8 0, .int .u8 0, .int .u8 0, .int .u8 0, .int .u8 0, .int .u8 0, .int .u8 0, .int .u8 0, .int .u8 0, .int .u8 0, .int .u8 0, .int .u8 0]) ?_ rfl rfl rfl; (with_reducible repeat (first | refine blk_drewN ?_ _ | refine blk_drew ?_ | refine blk_alloc ?_ _)); exact BK433.out))⟩; have n2_ : Aside0 (w64.heap[gb487]? = some (.cells #[.bool t470, .int .u8 t471, .int .u8 t472, .int .u8 t473, .int .u8 t474, .int .u8 t475, .int .u8 t476, .int .u8 t477, .int .u8 t478, .int .u8 t479, .int .u8 t480, .int .u8 t481, .int .u8 t482, .int .u8 t483, .int .u8 t484, .int .u8 t485, .int .u8 t486] 25 (0, 0))) := ⟨(by rw [hw]; exact (by (with_reducible repeat (first | refine blk_drewN ?_ _ | refine blk_drew ?_ | refine blk_alloc ?_ _)); refine blk_farC NB487_433.out _ _ ?_; (with_reducible repeat (first | refine blk_drewN ?_ _ | refine blk_drew ?_ | refine blk_alloc ?_ _)); exact BK487.out))⟩; have n3_ : Aside0 (Below w.heap.size w w64) := ⟨(by rw [hw]; exact (by repeat (first | (with_reducible first | exact HB.out | apply below_alloc | apply pw_below_drewN | apply below_drew1 | refine below_set ?_ GE432.out | refine below_set ?_ GE433.out | refine below_set ?_ GE487.out | refine below_setC GE432.out _ _ ?_ | refine below_setC GE433.out _ _ ?_ | refine below_setC GE487.out _ _ ?_) | exact HB.out)))⟩; clear hw; clear BK432; clear BK433; clear BK487; clear HB; have BK432 := n0_; have BK433 := n1_; have BK487 := n2_; have HB := n3_; clear n0_ n1_ n2_ n3_))
              refine bodyPost_ret (results_ct rfl _ _ gb433 25 #[.bool false, .int .u8 0, .int .u8 0, .int .u8 0, .int .u8 0, .int .u8 0, .int .u8 0, .int .u8 0, .int .u8 0, .int .u8 0, .int .u8 0, .int .u8 0, .int .u8 0, .int .u8 0, .int .u8 0, .int .u8 0, .int .u8 0] (0, 0) _ rfl (by (with_reducible repeat (first | refine blk_drewN ?_ _ | refine blk_drew ?_ | refine blk_alloc ?_ _)); exact BK433.out) Tryd.underlying25 rfl (by kernel_rfl)) rfl ?_
              exact ⟨by first | rfl | (simp [errW_none, errW_some] <;> rfl) | (simp [*, errW_none, errW_some] <;> rfl) | (simp [errW_none, errW_some]; first | exact isEmpty_bne _ | exact isEmpty_beq _ | exact (isEmpty_bne _).symm), by repeat (first | (with_reducible first | exact HB.out | apply below_alloc | apply pw_below_drewN | apply below_drew1 | refine below_set ?_ GE432.out | refine below_set ?_ GE433.out | refine below_set ?_ GE487.out) | exact HB.out)⟩
             ·rw [if_neg c52] at H
              have c52b0 : (t470 == t505 && ((t471 == t506 && (t472 == t507 && (t473 == t508 && (t474 == t509 && (t475 == t510 && (t476 == t511 && (t477 == t512 && (t478 == t513 && (t479 == t514 && (t480 == t515 && (t481 == t516 && (t482 == t517 && (t483 == t518 && (t484 == t519 && (t485 == t520 && (t486 == t521)))))))))))))))))) = false := by simpa using c52
              (try (have c52b3 : ¬ (t470 = t505 && ((t471 == t506 && (t472 == t507 && (t473 == t508 && (t474 == t509 && (t475 == t510 && (t476 == t511 && (t477 == t512 && (t478 == t513 && (t479 == t514 && (t480 == t515 && (t481 == t516 && (t482 == t517 && (t483 == t518 && (t484 == t519 && (t485 == t520 && (t486 == t521)))))))))))))))))) := by simpa using c52))
              clear c52
              simp only [Option.some.injEq, Prod.mk.injEq] at H
              obtain ⟨rfl, rfl, rfl, rfl, rfl, rfl, rfl, rfl, rfl, rfl, rfl, rfl, rfl, rfl, rfl, rfl, rfl, rfl⟩ := H
              try go_wp2_with (first | ((with_reducible refine gate_dst (N := 65) rfl ?_); (try (refine gate_guard (by rfl) ?_; dsimp only)); refine load_box ?hg 25 (.tmp 1) rfl BK432.out [] [.bool true, .int .u8 a0_1, .int .u8 a0_2, .int .u8 a0_3, .int .u8 a0_4, .int .u8 a0_5, .int .u8 a0_6, .int .u8 a0_7, .int .u8 a0_8, .int .u8 a0_9, .int .u8 a0_10, .int .u8 a0_11, .int .u8 a0_12, .int .u8 a0_13, .int .u8 a0_14, .int .u8 a0_15, .int .u8 a0_16] [] rfl 0 rfl rfl Tryd.underlying25 rfl (by kernel_rfl) ?_; (case hg => rfl)) | ((with_reducible refine gate_callee (f := 22) rfl ?_); refine goesL_ (some 66) rfl rfl Tryd.func22 (by kernel_rfl) rfl #[.agg #[.bool true, .int .u8 a0_1, .int .u8 a0_2, .int .u8 a0_3, .int .u8 a0_4, .int .u8 a0_5, .int .u8 a0_6, .int .u8 a0_7, .int .u8 a0_8, .int .u8 a0_9, .int .u8 a0_10, .int .u8 a0_11, .int .u8 a0_12, .int .u8 a0_13, .int .u8 a0_14, .int .u8 a0_15, .int .u8 a0_16], .int .i64 12] rfl (by (try simp only [List.map_toArray, List.map_cons, List.map_nil]); first | done | rfl | (simp only [List.length_drop, List.length_take]; rfl)) ?_; (with_reducible refine (lanternref05_Tail.calls kj33 true a0_1 a0_2 a0_3 a0_4 a0_5 a0_6 a0_7 a0_8 a0_9 a0_10 a0_11 a0_12 a0_13 a0_14 a0_15 a0_16 12 t470 t471 t472 t473 t474 t475 t476 t477 t478 t479 t480 t481 t482 t483 t484 t485 t486 _ ?side1 A37.out).mono ?_); (case side1 => exact LW.below HLW.out (by repeat (first | (with_reducible first | exact HB.out | apply below_alloc | apply pw_below_drewN | apply below_drew1 | refine below_set ?_ GE432.out | refine below_set ?_ GE433.out) | exact HB.out))); rintro e w65 ⟨rfl, hb⟩; refine ⟨_, rfl, ?_⟩; have n0_ := Aside0.mk (blk_below (g := gb432) (o := .cells #[.bool true, .int .u8 a0_1, .int .u8 a0_2, .int .u8 a0_3, .int .u8 a0_4, .int .u8 a0_5, .int .u8 a0_6, .int .u8 a0_7, .int .u8 a0_8, .int .u8 a0_9, .int .u8 a0_10, .int .u8 a0_11, .int .u8 a0_12, .int .u8 a0_13, .int .u8 a0_14, .int .u8 a0_15, .int .u8 a0_16] 25 (0, 0)) (by (with_reducible repeat (first | refine blk_drewN ?_ _ | refine blk_drew ?_ | refine blk_alloc ?_ _)); exact BK432.out) hb); have n1_ := Aside0.mk (blk_below (g := gb433) (o := .cells #[.bool false, .int .u8 0, .int .u8 0, .int .u8 0, .int .u8 0, .int .u8 0, .int .u8 0, .int .u8 0, .int .u8 0, .int .u8 0, .int .u8 0, .int .u8 0, .int .u8 0, .int .u8 0, .int .u8 0, .int .u8 0, .int .u8 0] 25 (0, 0)) (by (with_reducible repeat (first | refine blk_drewN ?_ _ | refine blk_drew ?_ | refine blk_alloc ?_ _)); exact BK433.out) hb); have n2_ := Aside0.mk (below_step (by repeat (first | (with_reducible first | exact HB.out | apply below_alloc | apply pw_below_drewN | apply below_drew1 | refine below_set ?_ GE432.out | refine below_set ?_ GE433.out) | exact HB.out)) hb); clear BK432; clear BK433; clear HB; have BK432 := n0_; have BK433 := n1_; have HB := n2_; clear n0_ n1_ n2_; (try clear hb); (try clear hb2); (try clear hk); (try clear hi)) | ((with_reducible refine gate_dst (N := 7) rfl ?_); refine box_event ?hg (N := 7) ?hd (cs := #[.bool false, .int .u8 0, .int .u8 0, .int .u8 0, .int .u8 0, .int .u8 0, .int .u8 0, .int .u8 0, .int .u8 0, .int .u8 0, .int .u8 0, .int .u8 0, .int .u8 0, .int .u8 0, .int .u8 0, .int .u8 0, .int .u8 0]) (t := 25) ?hr ?_; (case hd => rfl); (case hg => rfl); (case hr => first | (go_simp; done) | (go_simp; rfl)); intro gb487 hg w66 hbox hb; have n0_ := Aside0.mk (blk_below (g := gb432) (o := .cells #[.bool true, .int .u8 a0_1, .int .u8 a0_2, .int .u8 a0_3, .int .u8 a0_4, .int .u8 a0_5, .int .u8 a0_6, .int .u8 a0_7, .int .u8 a0_8, .int .u8 a0_9, .int .u8 a0_10, .int .u8 a0_11, .int .u8 a0_12, .int .u8 a0_13, .int .u8 a0_14, .int .u8 a0_15, .int .u8 a0_16] 25 (0, 0)) (by (with_reducible repeat (first | refine blk_drewN ?_ _ | refine blk_drew ?_ | refine blk_alloc ?_ _)); exact BK432.out) hb); have n1_ := Aside0.mk (blk_below (g := gb433) (o := .cells #[.bool false, .int .u8 0, .int .u8 0, .int .u8 0, .int .u8 0, .int .u8 0, .int .u8 0, .int .u8 0, .int .u8 0, .int .u8 0, .int .u8 0, .int .u8 0, .int .u8 0, .int .u8 0, .int .u8 0, .int .u8 0, .int .u8 0] 25 (0, 0)) (by (with_reducible repeat (first | refine blk_drewN ?_ _ | refine blk_drew ?_ | refine blk_alloc ?_ _)); exact BK433.out) hb); have n2_ := Aside0.mk (below_step (by repeat (first | (with_reducible first | exact HB.out | apply below_alloc | apply pw_below_drewN | apply below_drew1 | refine below_set ?_ GE432.out | refine below_set ?_ GE433.out) | exact HB.out)) hb); have n3_ := Aside0.mk (hbox); have n4_ := Aside0.mk ((by rw [hg]; exact (below_size (by repeat (first | (with_reducible first | exact HB.out | apply below_alloc | apply pw_below_drewN | apply below_drew1 | refine below_set ?_ GE432.out | refine below_set ?_ GE433.out) | exact HB.out))) : w.heap.size ≤ gb487)); have n5_ := Aside0.mk ((by rw [hg]; exact (below_size (by repeat (first | (with_reducible first | exact HB.out | apply below_alloc | apply pw_below_drewN | apply below_drew1 | refine below_set ?_ GE432.out | refine below_set ?_ GE433.out) | exact HB.out))) : w.heap.size ≤ gb487)); have n6_ := Aside0.mk ((by rw [hg]; exact Nat.ne_of_lt (blk_lt (g := gb432) (o := .cells #[.bool true, .int .u8 a0_1, .int .u8 a0_2, .int .u8 a0_3, .int .u8 a0_4, .int .u8 a0_5, .int .u8 a0_6, .int .u8 a0_7, .int .u8 a0_8, .int .u8 a0_9, .int .u8 a0_10, .int .u8 a0_11, .int .u8 a0_12, .int .u8 a0_13, .int .u8 a0_14, .int .u8 a0_15, .int .u8 a0_16] 25 (0, 0)) (by (with_reducible repeat (first | refine blk_drewN ?_ _ | refine blk_drew ?_ | refine blk_alloc ?_ _)); exact BK432.out)) : gb432 ≠ gb487)); have n7_ := Aside0.mk ((by rw [hg]; exact Nat.ne_of_gt (blk_lt (g := gb432) (o := .cells #[.bool true, .int .u8 a0_1, .int .u8 a0_2, .int .u8 a0_3, .int .u8 a0_4, .int .u8 a0_5, .int .u8 a0_6, .int .u8 a0_7, .int .u8 a0_8, .int .u8 a0_9, .int .u8 a0_10, .int .u8 a0_11, .int .u8 a0_12, .int .u8 a0_13, .int .u8 a0_14, .int .u8 a0_15, .int .u8 a0_16] 25 (0, 0)) (by (with_reducible repeat (first | refine blk_drewN ?_ _ | refine blk_drew ?_ | refine blk_alloc ?_ _)); exact BK432.out)) : gb487 ≠ gb432)); have n8_ := Aside0.mk ((by rw [hg]; exact Nat.ne_of_lt (blk_lt (g := gb433) (o := .cells #[.bool false, .int .u8 0, .int .u8 0, .int .u8 0, .int .u8 0, .int .u8 0, .int .u8 0, .int .u8 0, .int .u8 0, .int .u8 0, .int .u8 0, .int .u8 0, .int .u8 0, .int .u8 0, .int .u8 0, .int .u8 0, .int .u8 0] 25 (0, 0)) (by (with_reducible repeat (first | refine blk_drewN ?_ _ | refine blk_drew ?_ | refine blk_alloc ?_ _)); exact BK433.out)) : gb433 ≠ gb487)); have n9_ := Aside0.mk ((by rw [hg]; exact Nat.ne_of_gt (blk_lt (g := gb433) (o := .cells #[.bool false, .int .u8 0, .int .u8 0, .int .u8 0, .int .u8 0, .int .u8 0, .int .u8 0, .int .u8 0, .int .u8 0, .int .u8 0, .int .u8 0, .int .u8 0, .int .u8 0, .int .u8 0, .int .u8 0, .int .u8 0, .int .u8 0] 25 (0, 0)) (by (with_reducible repeat (first | refine blk_drewN ?_ _ | refine blk_drew ?_ | refine blk_alloc ?_ _)); exact BK433.out)) : gb487 ≠ gb433)); clear BK432; clear BK433; clear HB; have BK432 := n0_; have BK433 := n1_; have HB := n2_; have BK487 := n3_; have GW487 := n4_; have GE487 := n5_; have NB432_487 := n6_; have NB487_432 := n7_; have NB433_487 := n8_; have NB487_433 := n9_; clear n0_ n1_ n2_ n3_ n4_ n5_ n6_ n7_ n8_ n9_; clear hb hbox hg; have hnb67 := NB487_432.out; have hnc67 := NB432_487.out; have hnb68 := NB487_433.out; have hnc68 := NB433_487.out; have hcz69_0 : w66.cell? ⟨gb487, 0, none⟩ = some (.bool false) := (blk_cell BK487.out 0).trans rfl; have hcz69_1 : w66.cell? ⟨gb487, 1, none⟩ = some (.int .u8 0) := (blk_cell BK487.out 1).trans rfl; have hcz69_2 : w66.cell? ⟨gb487, 2, none⟩ = some (.int .u8 0) := (blk_cell BK487.out 2).trans rfl; have hcz69_3 : w66.cell? ⟨gb487, 3, none⟩ = some (.int .u8 0) := (blk_cell BK487.out 3).trans rfl; have hcz69_4 : w66.cell? ⟨gb487, 4, none⟩ = some (.int .u8 0) := (blk_cell BK487.out 4).trans rfl; have hcz69_5 : w66.cell? ⟨gb487, 5, none⟩ = some (.int .u8 0) := (blk_cell BK487.out 5).trans rfl; have hcz69_6 : w66.cell? ⟨gb487, 6, none⟩ = some (.int .u8 0) := (blk_cell BK487.out 6).trans rfl; have hcz69_7 : w66.cell? ⟨gb487, 7, none⟩ = some (.int .u8 0) := (blk_cell BK487.out 7).trans rfl; have hcz69_8 : w66.cell? ⟨gb487, 8, none⟩ = some (.int .u8 0) := (blk_cell BK487.out 8).trans rfl; have hcz69_9 : w66.cell? ⟨gb487, 9, none⟩ = some (.int .u8 0) := (blk_cell BK487.out 9).trans rfl; have hcz69_10 : w66.cell? ⟨gb487, 10, none⟩ = some (.int .u8 0) := (blk_cell BK487.out 10).trans rfl; have hcz69_11 : w66.cell? ⟨gb487, 11, none⟩ = some (.int .u8 0) := (blk_cell BK487.out 11).trans rfl; have hcz69_12 : w66.cell? ⟨gb487, 12, none⟩ = some (.int .u8 0) := (blk_cell BK487.out 12).trans rfl; have hcz69_13 : w66.cell? ⟨gb487, 13, none⟩ = some (.int .u8 0) := (blk_cell BK487.out 13).trans rfl; have hcz69_14 : w66.cell? ⟨gb487, 14, none⟩ = some (.int .u8 0) := (blk_cell BK487.out 14).trans rfl; have hcz69_15 : w66.cell? ⟨gb487, 15, none⟩ = some (.int .u8 0) := (blk_cell BK487.out 15).trans rfl; have hcz69_16 : w66.cell? ⟨gb487, 16, none⟩ = some (.int .u8 0) := (blk_cell BK487.out 16).trans rfl; have hfz69_0 := blk_frozen BK487.out 0; have hfz69_1 := blk_frozen BK487.out 1; have hfz69_2 := blk_frozen BK487.out 2; have hfz69_3 := blk_frozen BK487.out 3; have hfz69_4 := blk_frozen BK487.out 4; have hfz69_5 := blk_frozen BK487.out 5; have hfz69_6 := blk_frozen BK487.out 6; have hfz69_7 := blk_frozen BK487.out 7; have hfz69_8 := blk_frozen BK487.out 8; have hfz69_9 := blk_frozen BK487.out 9; have hfz69_10 := blk_frozen BK487.out 10; have hfz69_11 := blk_frozen BK487.out 11; have hfz69_12 := blk_frozen BK487.out 12; have hfz69_13 := blk_frozen BK487.out 13; have hfz69_14 := blk_frozen BK487.out 14; have hfz69_15 := blk_frozen BK487.out 15; have hfz69_16 := blk_frozen BK487.out 16) | ((with_reducible refine gate_store (t := 25) (p := 7) rfl ?_); refine store_all ?hg 25 7 _ rfl rfl gb487 [.bool false, .int .u8 0, .int .u8 0, .int .u8 0, .int .u8 0, .int .u8 0, .int .u8 0, .int .u8 0, .int .u8 0, .int .u8 0, .int .u8 0, .int .u8 0, .int .u8 0, .int .u8 0, .int .u8 0, .int .u8 0, .int .u8 0] [.bool t470, .int .u8 t471, .int .u8 t472, .int .u8 t473, .int .u8 t474, .int .u8 t475, .int .u8 t476, .int .u8 t477, .int .u8 t478, .int .u8 t479, .int .u8 t480, .int .u8 t481, .int .u8 t482, .int .u8 t483, .int .u8 t484, .int .u8 t485, .int .u8 t486] BK487.out rfl rfl rfl (by kernel_rfl) rfl ?_; (case hg => rfl); intro w70 hw; have n0_ : Aside0 (w70.heap[gb432]? = some (.cells #[.bool true, .int .u8 a0_1, .int .u8 a0_2, .int .u8 a0_3, .int .u8 a0_4, .int .u8 a0_5, .int .u8 a0_6, .int .u8 a0_7, .int .u8 a0_8, .int .u8 a0_9, .int .u8 a0_10, .int .u8 a0_11, .int .u8 a0_12, .int .u8 a0_13, .int .u8 a0_14, .int .u8 a0_15, .int .u8 a0_16] 25 (0, 0))) := ⟨(by rw [hw]; exact (by (with_reducible repeat (first | refine blk_drewN ?_ _ | refine blk_drew ?_ | refine blk_alloc ?_ _)); refine blk_farC NB432_487.out _ _ ?_; (with_reducible repeat (first | refine blk_drewN ?_ _ | refine blk_drew ?_ | refine blk_alloc ?_ _)); exact BK432.out))⟩; have n1_ : Aside0 (w70.heap[gb433]? = some (.cells #[.bool false, .int .u8 0, .int .u8 0, .int .u8 0, .int .u8 0, .int .u8 0, .int .u8 0, .int .u8 0, .int .u8 0, .int .u8 0, .int .u8 0, .int .u8 0, .int .u8 0, .int .u8 0, .int .u8 0, .int .u8 0, .int .u8 0] 25 (0, 0))) := ⟨(by rw [hw]; exact (by (with_reducible repeat (first | refine blk_drewN ?_ _ | refine blk_drew ?_ | refine blk_alloc ?_ _)); refine blk_farC NB433_487.out _ _ ?_; (with_reducible repeat (first | refine blk_drewN ?_ _ | refine blk_drew ?_ | refine blk_alloc ?_ _)); exact BK433.out))⟩; have n2_ : Aside0 (w70.heap[gb487]? = some (.cells #[.bool t470, .int .u8 t471, .int .u8 t472, .int .u8 t473, .int .u8 t474, .int .u8 t475, .int .u8 t476, .int .u8 t477, .int .u8 t478, .int .u8 t479, .int .u8 t480, .int .u8 t481, .int .u8 t482, .int .u8 t483, .int .u8 t484, .int .u8 t485, .int .u8 t486] 25 (0, 0))) := ⟨(by rw [hw]; exact (by (with_reducible repeat (first | refine blk_drewN ?_ _ | refine blk_drew ?_ | refine blk_alloc ?_ _)); refine blk_part [.bool t470, .int .u8 t471, .int .u8 t472, .int .u8 t473, .int .u8 t474, .int .u8 t475, .int .u8 t476, .int .u8 t477, .int .u8 t478, .int .u8 t479, .int .u8 t480, .int .u8 t481, .int .u8 t482, .int .u8 t483, .int .u8 t484, .int .u8 t485, .int .u8 t486] [.bool false, .int .u8 0, .int .u8 0, .int .u8 0, .int .u8 0, .int .u8 0, .int .u8 0, .int .u8 0, .int .u8 0, .int .u8 0, .int .u8 0, .int .u8 0, .int .u8 0, .int .u8 0, .int .u8 0, .int .u8 0, .int .u8 0] [] [] (cs := #[.bool false, .int .u8 0, .int .u8 0, .int .u8 0, .int .u8 0, .int .u8 0, .int .u8 0, .int .u8 0, .int .u8 0, .int .u8 0, .int .u8 0, .int .u8 0, .int .u8 0, .int .u8 0, .int .u8 0, .int .u8 0, .int .u8 0]) ?_ rfl rfl rfl; (with_reducible repeat (first | refine blk_drewN ?_ _ | refine blk_drew ?_ | refine blk_alloc ?_ _)); exact BK487.out))⟩; have n3_ : Aside0 (Below w.heap.size w w70) := ⟨(by rw [hw]; exact (by repeat (first | (with_reducible first | exact HB.out | apply below_alloc | apply pw_below_drewN | apply below_drew1 | refine below_set ?_ GE432.out | refine below_set ?_ GE433.out | refine below_set ?_ GE487.out | refine below_setC GE432.out _ _ ?_ | refine below_setC GE433.out _ _ ?_ | refine below_setC GE487.out _ _ ?_) | exact HB.out)))⟩; clear hw; clear BK432; clear BK433; clear BK487; clear HB; have BK432 := n0_; have BK433 := n1_; have BK487 := n2_; have HB := n3_; clear n0_ n1_ n2_ n3_))
              have n0_ := Aside0.mk (blk_drew BK432.out)
              have n1_ := Aside0.mk (blk_drew BK433.out)
              have n2_ := Aside0.mk (blk_drew BK487.out)
              have n3_ := Aside0.mk (below_drew1 HB.out)
              clear BK432
              clear BK433
              clear BK487
              clear HB
              have BK432 := n0_
              have BK433 := n1_
              have BK487 := n2_
              have HB := n3_
              clear n0_ n1_ n2_ n3_
              refine start_ (n := 8) (S := fun w' => (Instr.loadAt 25 (.pointer (some ⟨gb487, 0, none⟩))).run Tryd.prog w' = .ok (.agg #[.bool t470, .int .u8 t471, .int .u8 t472, .int .u8 t473, .int .u8 t474, .int .u8 t475, .int .u8 t476, .int .u8 t477, .int .u8 t478, .int .u8 t479, .int .u8 t480, .int .u8 t481, .int .u8 t482, .int .u8 t483, .int .u8 t484, .int .u8 t485, .int .u8 t486]) w' ∧ (Instr.loadAt 25 (.pointer (some ⟨gb487, 0, none⟩))).run Tryd.prog w' = .ok (.agg #[.bool t470, .int .u8 t471, .int .u8 t472, .int .u8 t473, .int .u8 t474, .int .u8 t475, .int .u8 t476, .int .u8 t477, .int .u8 t478, .int .u8 t479, .int .u8 t480, .int .u8 t481, .int .u8 t482, .int .u8 t483, .int .u8 t484, .int .u8 t485, .int .u8 t486]) w') (ds := []) #[false, false, false, false, false, false, false, false] (by kernel_rfl) rfl rfl ⟨(run_load_box BK487.out 25 [] [.bool t470, .int .u8 t471, .int .u8 t472, .int .u8 t473, .int .u8 t474, .int .u8 t475, .int .u8 t476, .int .u8 t477, .int .u8 t478, .int .u8 t479, .int .u8 t480, .int .u8 t481, .int .u8 t482, .int .u8 t483, .int .u8 t484, .int .u8 t485, .int .u8 t486] [] rfl 0 rfl Tryd.underlying25 rfl (by kernel_rfl)), (run_load_box BK487.out 25 [] [.bool t470, .int .u8 t471, .int .u8 t472, .int .u8 t473, .int .u8 t474, .int .u8 t475, .int .u8 t476, .int .u8 t477, .int .u8 t478, .int .u8 t479, .int .u8 t480, .int .u8 t481, .int .u8 t482, .int .u8 t483, .int .u8 t484, .int .u8 t485, .int .u8 t486] [] rfl 0 rfl Tryd.underlying25 rfl (by kernel_rfl))⟩ (fun hHeld => ?_); refine with_tabW lanternref05_Embeds.tab15 lanternref05_Embeds.bits15 (fun HT_ HW_ => ?_)
              generalize w70.drew = w71 at BK432 BK433 BK487 HB hHeld ⊢
              refine take_ (i := 0) (N := some 67) (v := ?_) (a' := ?_) #[true, false, false, false, false, false, false, false] rfl rfl (take_ofW HT_.out HW_.out (by kernel_rfl)) (fun _ _ _ h => h) (Or.inl ⟨by rfl, ?_⟩) hHeld ?_ ?_
              rotate_left
              ·rintro w' ⟨s0, s1⟩
               first | (refine (load_exec rfl rfl s0).trans ?_; with_reducible rfl) | (refine (load_exec rfl rfl s1).trans ?_; with_reducible rfl) | (go_simp; with_reducible rfl)
              rotate_left
              ·simp only [Act.put, List.setIfInBounds_toArray, List.set_cons_zero, List.set_cons_succ, i64_w, i32_w]
               rfl
              refine one_ (i := 1) (N := some 68) #[true, true, false, false, false, false, false, false] rfl rfl (one_of HT_.out (by kernel_rfl)) (by decide) (fun K hK => ?_)
              refine goes_ Tryd.func16 (by kernel_rfl) rfl #[.int .u64 0] (by rfl) rfl rfl (by (try simp only [List.map_toArray, List.map_cons, List.map_nil]); first | done | rfl | (simp only [List.length_drop, List.length_take]; rfl)) ?_
              with_reducible refine (lanternref05_V4.calls kj33 0 t488 t489 t490 t491 t492 t493 t494 t495 t496 t497 t498 t499 t500 t501 t502 t503 t504 _ ?side1 A38.out).mono ?_
              (case side1 => exact LW.below HLW.out (by repeat (first | (with_reducible first | exact HB.out | apply below_alloc | apply pw_below_drewN | apply below_drew1 | refine below_set ?_ GE432.out | refine below_set ?_ GE433.out | refine below_set ?_ GE487.out) | exact HB.out)))
              rintro e w72 ⟨rfl, hb⟩
              refine ⟨_, rfl, ?_⟩
              have n0_ := Aside0.mk (blk_below (g := gb432) (o := .cells #[.bool true, .int .u8 a0_1, .int .u8 a0_2, .int .u8 a0_3, .int .u8 a0_4, .int .u8 a0_5, .int .u8 a0_6, .int .u8 a0_7, .int .u8 a0_8, .int .u8 a0_9, .int .u8 a0_10, .int .u8 a0_11, .int .u8 a0_12, .int .u8 a0_13, .int .u8 a0_14, .int .u8 a0_15, .int .u8 a0_16] 25 (0, 0)) (by (with_reducible repeat (first | refine blk_drewN ?_ _ | refine blk_drew ?_ | refine blk_alloc ?_ _)); exact BK432.out) hb)
              have n1_ := Aside0.mk (blk_below (g := gb433) (o := .cells #[.bool false, .int .u8 0, .int .u8 0, .int .u8 0, .int .u8 0, .int .u8 0, .int .u8 0, .int .u8 0, .int .u8 0, .int .u8 0, .int .u8 0, .int .u8 0, .int .u8 0, .int .u8 0, .int .u8 0, .int .u8 0, .int .u8 0] 25 (0, 0)) (by (with_reducible repeat (first | refine blk_drewN ?_ _ | refine blk_drew ?_ | refine blk_alloc ?_ _)); exact BK433.out) hb)
              have n2_ := Aside0.mk (blk_below (g := gb487) (o := .cells #[.bool t470, .int .u8 t471, .int .u8 t472, .int .u8 t473, .int .u8 t474, .int .u8 t475, .int .u8 t476, .int .u8 t477, .int .u8 t478, .int .u8 t479, .int .u8 t480, .int .u8 t481, .int .u8 t482, .int .u8 t483, .int .u8 t484, .int .u8 t485, .int .u8 t486] 25 (0, 0)) (by (with_reducible repeat (first | refine blk_drewN ?_ _ | refine blk_drew ?_ | refine blk_alloc ?_ _)); exact BK487.out) hb)
              have n3_ := Aside0.mk (below_step (by repeat (first | (with_reducible first | exact HB.out | apply below_alloc | apply pw_below_drewN | apply below_drew1 | refine below_set ?_ GE432.out | refine below_set ?_ GE433.out | refine below_set ?_ GE487.out) | exact HB.out)) hb)
              clear BK432
              clear BK433
              clear BK487
              clear HB
              have BK432 := n0_
              have BK433 := n1_
              have BK487 := n2_
              have HB := n3_
              clear n0_ n1_ n2_ n3_
              (try clear hb)
              (try clear hb2)
              (try clear hk)
              (try clear hi)
              refine hK.out _ _ ⟨(run_load_box BK487.out 25 [] [.bool t470, .int .u8 t471, .int .u8 t472, .int .u8 t473, .int .u8 t474, .int .u8 t475, .int .u8 t476, .int .u8 t477, .int .u8 t478, .int .u8 t479, .int .u8 t480, .int .u8 t481, .int .u8 t482, .int .u8 t483, .int .u8 t484, .int .u8 t485, .int .u8 t486] [] rfl 0 rfl Tryd.underlying25 rfl (by kernel_rfl)), (run_load_box BK487.out 25 [] [.bool t470, .int .u8 t471, .int .u8 t472, .int .u8 t473, .int .u8 t474, .int .u8 t475, .int .u8 t476, .int .u8 t477, .int .u8 t478, .int .u8 t479, .int .u8 t480, .int .u8 t481, .int .u8 t482, .int .u8 t483, .int .u8 t484, .int .u8 t485, .int .u8 t486] [] rfl 0 rfl Tryd.underlying25 rfl (by kernel_rfl))⟩ (fun hHeld => ?_)
              clear hK K
              refine norm_ (a' := ?_) ?_ ?_
              rotate_left
              ·show Act.put _ (some 68) _ = _
               simp only [Act.put, List.setIfInBounds_toArray, List.set_cons_zero, List.set_cons_succ, i64_w, i32_w]
               rfl
              refine pure_ (i := 2) (N := some 69) (v := ?_) (a' := ?_) #[true, true, true, false, false, false, false, false] rfl rfl (any_of HT_.out (by kernel_rfl)) (fun _ _ _ h => h) (Or.inl ⟨by rfl, ?_⟩) ?_ ?_
              rotate_left
              ·intro w'
               go_simp
               with_reducible rfl
              rotate_left
              ·simp only [Act.put, List.setIfInBounds_toArray, List.set_cons_zero, List.set_cons_succ, i64_w, i32_w]
               rfl
              refine pure_ (i := 3) (N := some 70) (v := ?_) (a' := ?_) #[true, true, true, true, false, false, false, false] rfl rfl (any_of HT_.out (by kernel_rfl)) (fun _ _ _ h => h) (Or.inl ⟨by rfl, ?_⟩) ?_ ?_
              rotate_left
              ·intro w'
               go_simp
               with_reducible rfl
              rotate_left
              ·simp only [Act.put, List.setIfInBounds_toArray, List.set_cons_zero, List.set_cons_succ, i64_w, i32_w]
               rfl
              refine take_ (i := 4) (N := some 71) (v := ?_) (a' := ?_) #[true, true, true, true, true, false, false, false] rfl rfl (take_ofW HT_.out HW_.out (by kernel_rfl)) (fun _ _ _ h => h) (Or.inl ⟨by rfl, ?_⟩) hHeld ?_ ?_
              rotate_left
              ·rintro w' ⟨s0, s1⟩
               first | (refine (load_exec rfl rfl s0).trans ?_; with_reducible rfl) | (refine (load_exec rfl rfl s1).trans ?_; with_reducible rfl) | (go_simp; with_reducible rfl)
              rotate_left
              ·simp only [Act.put, List.setIfInBounds_toArray, List.set_cons_zero, List.set_cons_succ, i64_w, i32_w]
               rfl
              refine one_ (i := 5) (N := some 72) #[true, true, true, true, true, true, false, false] rfl rfl (one_of HT_.out (by kernel_rfl)) (by decide) (fun K hK => ?_)
              refine goes_ Tryd.func16 (by kernel_rfl) rfl #[.int .u64 1] (by rfl) rfl rfl (by (try simp only [List.map_toArray, List.map_cons, List.map_nil]); first | done | rfl | (simp only [List.length_drop, List.length_take]; rfl)) ?_
              with_reducible refine (lanternref05_V4.calls kj33 1 t505 t506 t507 t508 t509 t510 t511 t512 t513 t514 t515 t516 t517 t518 t519 t520 t521 _ ?side1 A51.out).mono ?_
              (case side1 => exact LW.below HLW.out (by repeat (first | (with_reducible first | exact HB.out | apply below_alloc | apply pw_below_drewN | apply below_drew1 | refine below_set ?_ GE432.out | refine below_set ?_ GE433.out | refine below_set ?_ GE487.out) | exact HB.out)))
              rintro e w73 ⟨rfl, hb⟩
              refine ⟨_, rfl, ?_⟩
              have n0_ := Aside0.mk (blk_below (g := gb432) (o := .cells #[.bool true, .int .u8 a0_1, .int .u8 a0_2, .int .u8 a0_3, .int .u8 a0_4, .int .u8 a0_5, .int .u8 a0_6, .int .u8 a0_7, .int .u8 a0_8, .int .u8 a0_9, .int .u8 a0_10, .int .u8 a0_11, .int .u8 a0_12, .int .u8 a0_13, .int .u8 a0_14, .int .u8 a0_15, .int .u8 a0_16] 25 (0, 0)) (by (with_reducible repeat (first | refine blk_drewN ?_ _ | refine blk_drew ?_ | refine blk_alloc ?_ _)); exact BK432.out) hb)
              have n1_ := Aside0.mk (blk_below (g := gb433) (o := .cells #[.bool false, .int .u8 0, .int .u8 0, .int .u8 0, .int .u8 0, .int .u8 0, .int .u8 0, .int .u8 0, .int .u8 0, .int .u8 0, .int .u8 0, .int .u8 0, .int .u8 0, .int .u8 0, .int .u8 0, .int .u8 0, .int .u8 0] 25 (0, 0)) (by (with_reducible repeat (first | refine blk_drewN ?_ _ | refine blk_drew ?_ | refine blk_alloc ?_ _)); exact BK433.out) hb)
              have n2_ := Aside0.mk (blk_below (g := gb487) (o := .cells #[.bool t470, .int .u8 t471, .int .u8 t472, .int .u8 t473, .int .u8 t474, .int .u8 t475, .int .u8 t476, .int .u8 t477, .int .u8 t478, .int .u8 t479, .int .u8 t480, .int .u8 t481, .int .u8 t482, .int .u8 t483, .int .u8 t484, .int .u8 t485, .int .u8 t486] 25 (0, 0)) (by (with_reducible repeat (first | refine blk_drewN ?_ _ | refine blk_drew ?_ | refine blk_alloc ?_ _)); exact BK487.out) hb)
              have n3_ := Aside0.mk (below_step (by repeat (first | (with_reducible first | exact HB.out | apply below_alloc | apply pw_below_drewN | apply below_drew1 | refine below_set ?_ GE432.out | refine below_set ?_ GE433.out | refine below_set ?_ GE487.out) | exact HB.out)) hb)
              clear BK432
              clear BK433
              clear BK487
              clear HB
              have BK432 := n0_
              have BK433 := n1_
              have BK487 := n2_
              have HB := n3_
              clear n0_ n1_ n2_ n3_
              (try clear hb)
              (try clear hb2)
              (try clear hk)
              (try clear hi)
              refine hK.out _ _ ⟨(run_load_box BK487.out 25 [] [.bool t470, .int .u8 t471, .int .u8 t472, .int .u8 t473, .int .u8 t474, .int .u8 t475, .int .u8 t476, .int .u8 t477, .int .u8 t478, .int .u8 t479, .int .u8 t480, .int .u8 t481, .int .u8 t482, .int .u8 t483, .int .u8 t484, .int .u8 t485, .int .u8 t486] [] rfl 0 rfl Tryd.underlying25 rfl (by kernel_rfl)), (run_load_box BK487.out 25 [] [.bool t470, .int .u8 t471, .int .u8 t472, .int .u8 t473, .int .u8 t474, .int .u8 t475, .int .u8 t476, .int .u8 t477, .int .u8 t478, .int .u8 t479, .int .u8 t480, .int .u8 t481, .int .u8 t482, .int .u8 t483, .int .u8 t484, .int .u8 t485, .int .u8 t486] [] rfl 0 rfl Tryd.underlying25 rfl (by kernel_rfl))⟩ (fun hHeld => ?_)
              clear hK K
              refine norm_ (a' := ?_) ?_ ?_
              rotate_left
              ·show Act.put _ (some 72) _ = _
               simp only [Act.put, List.setIfInBounds_toArray, List.set_cons_zero, List.set_cons_succ, i64_w, i32_w]
               rfl
              refine pure_ (i := 6) (N := some 73) (v := ?_) (a' := ?_) #[true, true, true, true, true, true, true, false] rfl rfl (any_of HT_.out (by kernel_rfl)) (fun _ _ _ h => h) (Or.inl ⟨by rfl, ?_⟩) ?_ ?_
              rotate_left
              ·intro w'
               go_simp
               with_reducible rfl
              rotate_left
              ·simp only [Act.put, List.setIfInBounds_toArray, List.set_cons_zero, List.set_cons_succ, i64_w, i32_w]
               rfl
              refine pure_ (i := 7) (N := some 74) (v := ?_) (a' := ?_) #[true, true, true, true, true, true, true, true] rfl rfl (any_of HT_.out (by kernel_rfl)) (fun _ _ _ h => h) (Or.inl ⟨by rfl, ?_⟩) ?_ ?_
              rotate_left
              ·intro w'
               go_simp
               with_reducible rfl
              rotate_left
              ·simp only [Act.put, List.setIfInBounds_toArray, List.set_cons_zero, List.set_cons_succ, i64_w, i32_w]
               rfl
              refine done_ (done_of HT_.out (by kernel_rfl)) ?_
              have hnb74 := NB433_432.out
              have hnc74 := NB432_433.out
              have hcz75_0 : w73.cell? ⟨gb433, 0, none⟩ = some (.bool false) := (blk_cell BK433.out 0).trans rfl
              have hcz75_1 : w73.cell? ⟨gb433, 1, none⟩ = some (.int .u8 0) := (blk_cell BK433.out 1).trans rfl
              have hcz75_2 : w73.cell? ⟨gb433, 2, none⟩ = some (.int .u8 0) := (blk_cell BK433.out 2).trans rfl
              have hcz75_3 : w73.cell? ⟨gb433, 3, none⟩ = some (.int .u8 0) := (blk_cell BK433.out 3).trans rfl
              have hcz75_4 : w73.cell? ⟨gb433, 4, none⟩ = some (.int .u8 0) := (blk_cell BK433.out 4).trans rfl
              have hcz75_5 : w73.cell? ⟨gb433, 5, none⟩ = some (.int .u8 0) := (blk_cell BK433.out 5).trans rfl
              have hcz75_6 : w73.cell? ⟨gb433, 6, none⟩ = some (.int .u8 0) := (blk_cell BK433.out 6).trans rfl
              have hcz75_7 : w73.cell? ⟨gb433, 7, none⟩ = some (.int .u8 0) := (blk_cell BK433.out 7).trans rfl
              have hcz75_8 : w73.cell? ⟨gb433, 8, none⟩ = some (.int .u8 0) := (blk_cell BK433.out 8).trans rfl
              have hcz75_9 : w73.cell? ⟨gb433, 9, none⟩ = some (.int .u8 0) := (blk_cell BK433.out 9).trans rfl
              have hcz75_10 : w73.cell? ⟨gb433, 10, none⟩ = some (.int .u8 0) := (blk_cell BK433.out 10).trans rfl
              have hcz75_11 : w73.cell? ⟨gb433, 11, none⟩ = some (.int .u8 0) := (blk_cell BK433.out 11).trans rfl
              have hcz75_12 : w73.cell? ⟨gb433, 12, none⟩ = some (.int .u8 0) := (blk_cell BK433.out 12).trans rfl
              have hcz75_13 : w73.cell? ⟨gb433, 13, none⟩ = some (.int .u8 0) := (blk_cell BK433.out 13).trans rfl
              have hcz75_14 : w73.cell? ⟨gb433, 14, none⟩ = some (.int .u8 0) := (blk_cell BK433.out 14).trans rfl
              have hcz75_15 : w73.cell? ⟨gb433, 15, none⟩ = some (.int .u8 0) := (blk_cell BK433.out 15).trans rfl
              have hcz75_16 : w73.cell? ⟨gb433, 16, none⟩ = some (.int .u8 0) := (blk_cell BK433.out 16).trans rfl
              have hfz75_0 := blk_frozen BK433.out 0
              have hfz75_1 := blk_frozen BK433.out 1
              have hfz75_2 := blk_frozen BK433.out 2
              have hfz75_3 := blk_frozen BK433.out 3
              have hfz75_4 := blk_frozen BK433.out 4
              have hfz75_5 := blk_frozen BK433.out 5
              have hfz75_6 := blk_frozen BK433.out 6
              have hfz75_7 := blk_frozen BK433.out 7
              have hfz75_8 := blk_frozen BK433.out 8
              have hfz75_9 := blk_frozen BK433.out 9
              have hfz75_10 := blk_frozen BK433.out 10
              have hfz75_11 := blk_frozen BK433.out 11
              have hfz75_12 := blk_frozen BK433.out 12
              have hfz75_13 := blk_frozen BK433.out 13
              have hfz75_14 := blk_frozen BK433.out 14
              have hfz75_15 := blk_frozen BK433.out 15
              have hfz75_16 := blk_frozen BK433.out 16
              try go_wp2_with (first | ((with_reducible refine gate_dst (N := 76) rfl ?_); (try (refine gate_guard (by rfl) ?_; dsimp only)); refine load_box ?hg 25 (.tmp 7) rfl BK487.out [] [.bool t470, .int .u8 t471, .int .u8 t472, .int .u8 t473, .int .u8 t474, .int .u8 t475, .int .u8 t476, .int .u8 t477, .int .u8 t478, .int .u8 t479, .int .u8 t480, .int .u8 t481, .int .u8 t482, .int .u8 t483, .int .u8 t484, .int .u8 t485, .int .u8 t486] [] rfl 0 rfl rfl Tryd.underlying25 rfl (by kernel_rfl) ?_; (case hg => rfl)) | ((with_reducible refine gate_store (t := 25) (p := 2) rfl ?_); refine store_all ?hg 25 2 _ rfl rfl gb433 [.bool false, .int .u8 0, .int .u8 0, .int .u8 0, .int .u8 0, .int .u8 0, .int .u8 0, .int .u8 0, .int .u8 0, .int .u8 0, .int .u8 0, .int .u8 0, .int .u8 0, .int .u8 0, .int .u8 0, .int .u8 0, .int .u8 0] [.bool t470, .int .u8 t471, .int .u8 t472, .int .u8 t473, .int .u8 t474, .int .u8 t475, .int .u8 t476, .int .u8 t477, .int .u8 t478, .int .u8 t479, .int .u8 t480, .int .u8 t481, .int .u8 t482, .int .u8 t483, .int .u8 t484, .int .u8 t485, .int .u8 t486] BK433.out rfl rfl rfl (by kernel_rfl) rfl ?_; (case hg => rfl); intro w76 hw; have n0_ : Aside0 (w76.heap[gb432]? = some (.cells #[.bool true, .int .u8 a0_1, .int .u8 a0_2, .int .u8 a0_3, .int .u8 a0_4, .int .u8 a0_5, .int .u8 a0_6, .int .u8 a0_7, .int .u8 a0_8, .int .u8 a0_9, .int .u8 a0_10, .int .u8 a0_11, .int .u8 a0_12, .int .u8 a0_13, .int .u8 a0_14, .int .u8 a0_15, .int .u8 a0_16] 25 (0, 0))) := ⟨(by rw [hw]; exact (by (with_reducible repeat (first | refine blk_drewN ?_ _ | refine blk_drew ?_ | refine blk_alloc ?_ _)); refine blk_farC NB432_433.out _ _ ?_; (with_reducible repeat (first | refine blk_drewN ?_ _ | refine blk_drew ?_ | refine blk_alloc ?_ _)); exact BK432.out))⟩; have n1_ : Aside0 (w76.heap[gb433]? = some (.cells #[.bool t470, .int .u8 t471, .int .u8 t472, .int .u8 t473, .int .u8 t474, .int .u8 t475, .int .u8 t476, .int .u8 t477, .int .u8 t478, .int .u8 t479, .int .u8 t480, .int .u8 t481, .int .u8 t482, .int .u8 t483, .int .u8 t484, .int .u8 t485, .int .u8 t486] 25 (0, 0))) := ⟨(by rw [hw]; exact (by (with_reducible repeat (first | refine blk_drewN ?_ _ | refine blk_drew ?_ | refine blk_alloc ?_ _)); refine blk_part [.bool t470, .int .u8 t471, .int .u8 t472, .int .u8 t473, .int .u8 t474, .int .u8 t475, .int .u8 t476, .int .u8 t477, .int .u8 t478, .int .u8 t479, .int .u8 t480, .int .u8 t481, .int .u8 t482, .int .u8 t483, .int .u8 t484, .int .u8 t485, .int .u8 t486] [.bool false, .int .u8 0, .int .u8 0, .int .u8 0, .int .u8 0, .int .u8 0, .int .u8 0, .int .u8 0, .int .u8 0, .int .u8 0, .int .u8 0, .int .u8 0, .int .u8 0, .int .u8 0, .int .u8 0, .int .u8 0, .int .u8 0] [] [] (cs := #[.bool false, .int .u8 0, .int .u8 0, .int .u8 0, .int .u8 0, .int .u8 0, .int .u8 0, .int .u8 0, .int .u8 0, .int .u8 0, .int .u8 0, .int .u8 0, .int .u8 0, .int .u8 0, .int .u8 0, .int .u8 0, .int .u8 0]) ?_ rfl rfl rfl; (with_reducible repeat (first | refine blk_drewN ?_ _ | refine blk_drew ?_ | refine blk_alloc ?_ _)); exact BK433.out))⟩; have n2_ : Aside0 (w76.heap[gb487]? = some (.cells #[.bool t470, .int .u8 t471, .int .u8 t472, .int .u8 t473, .int .u8 t474, .int .u8 t475, .int .u8 t476, .int .u8 t477, .int .u8 t478, .int .u8 t479, .int .u8 t480, .int .u8 t481, .int .u8 t482, .int .u8 t483, .int .u8 t484, .int .u8 t485, .int .u8 t486] 25 (0, 0))) := ⟨(by rw [hw]; exact (by (with_reducible repeat (first | refine blk_drewN ?_ _ | refine blk_drew ?_ | refine blk_alloc ?_ _)); refine blk_farC NB487_433.out _ _ ?_; (with_reducible repeat (first | refine blk_drewN ?_ _ | refine blk_drew ?_ | refine blk_alloc ?_ _)); exact BK487.out))⟩; have n3_ : Aside0 (Below w.heap.size w w76) := ⟨(by rw [hw]; exact (by repeat (first | (with_reducible first | exact HB.out | apply below_alloc | apply pw_below_drewN | apply below_drew1 | refine below_set ?_ GE432.out | refine below_set ?_ GE433.out | refine below_set ?_ GE487.out | refine below_setC GE432.out _ _ ?_ | refine below_setC GE433.out _ _ ?_ | refine below_setC GE487.out _ _ ?_) | exact HB.out)))⟩; clear hw; clear BK432; clear BK433; clear BK487; clear HB; have BK432 := n0_; have BK433 := n1_; have BK487 := n2_; have HB := n3_; clear n0_ n1_ n2_ n3_))
              refine bodyPost_ret (results_ct rfl _ _ gb433 25 #[.bool t470, .int .u8 t471, .int .u8 t472, .int .u8 t473, .int .u8 t474, .int .u8 t475, .int .u8 t476, .int .u8 t477, .int .u8 t478, .int .u8 t479, .int .u8 t480, .int .u8 t481, .int .u8 t482, .int .u8 t483, .int .u8 t484, .int .u8 t485, .int .u8 t486] (0, 0) _ rfl (by (with_reducible repeat (first | refine blk_drewN ?_ _ | refine blk_drew ?_ | refine blk_alloc ?_ _)); exact BK433.out) Tryd.underlying25 rfl (by kernel_rfl)) rfl ?_
              exact ⟨by first | rfl | (simp [errW_none, errW_some] <;> rfl) | (simp [*, errW_none, errW_some] <;> rfl) | (simp [errW_none, errW_some]; first | exact isEmpty_bne _ | exact isEmpty_beq _ | exact (isEmpty_bne _).symm), by repeat (first | (with_reducible first | exact HB.out | apply below_alloc | apply pw_below_drewN | apply below_drew1 | refine below_set ?_ GE432.out | refine below_set ?_ GE433.out | refine below_set ?_ GE487.out) | exact HB.out)⟩
           ·replace c36 := Bool.eq_false_iff.mpr c36
            subst c36
            have H1 : (if (wrap64 (Int.tdiv (wrap64 ((wrap64 ((wrap64 ((wrap64 ((wrap64 (a0_1)) * 16777216)) + (wrap64 ((wrap64 (a0_2)) * 65536)))) + (wrap64 ((wrap64 (a0_3)) * 256)))) + (wrap64 (a0_4)))) 65536)) = 8194 then ((lanternref05_Tail.f kj33 true a0_1 a0_2 a0_3 a0_4 a0_5 a0_6 a0_7 a0_8 a0_9 a0_10 a0_11 a0_12 a0_13 a0_14 a0_15 a0_16 2).bind fun bt522 => (some (bt522.1, bt522.2.1, bt522.2.2.1, bt522.2.2.2.1, bt522.2.2.2.2.1, bt522.2.2.2.2.2.1, bt522.2.2.2.2.2.2.1, bt522.2.2.2.2.2.2.2.1, bt522.2.2.2.2.2.2.2.2.1, bt522.2.2.2.2.2.2.2.2.2.1, bt522.2.2.2.2.2.2.2.2.2.2.1, bt522.2.2.2.2.2.2.2.2.2.2.2.1, bt522.2.2.2.2.2.2.2.2.2.2.2.2.1, bt522.2.2.2.2.2.2.2.2.2.2.2.2.2.1, bt522.2.2.2.2.2.2.2.2.2.2.2.2.2.2.1, bt522.2.2.2.2.2.2.2.2.2.2.2.2.2.2.2.1, bt522.2.2.2.2.2.2.2.2.2.2.2.2.2.2.2.2, true))) else (some (false, 0, 0, 0, 0, 0, 0, 0, 0, 0, 0, 0, 0, 0, 0, 0, 0, false))) = some (r1, r2, r3, r4, r5, r6, r7, r8, r9, r10, r11, r12, r13, r14, r15, r16, r17, r18) := by rw [if_neg (show ¬ (false = true) by decide)] at H; exact H
            clear H
            have H := H1
            clear H1
            by_cases c77 : (wrap64 (Int.tdiv (wrap64 ((wrap64 ((wrap64 ((wrap64 ((wrap64 (a0_1)) * 16777216)) + (wrap64 ((wrap64 (a0_2)) * 65536)))) + (wrap64 ((wrap64 (a0_3)) * 256)))) + (wrap64 (a0_4)))) 65536)) = 8194
            ·rw [if_pos c77] at H
             have c77b0 : ((wrap64 (Int.tdiv (wrap64 ((wrap64 ((wrap64 ((wrap64 ((wrap64 (a0_1)) * 16777216)) + (wrap64 ((wrap64 (a0_2)) * 65536)))) + (wrap64 ((wrap64 (a0_3)) * 256)))) + (wrap64 (a0_4)))) 65536)) == 8194) = true := beq_iff_eq.mpr c77
             have c77b1 : ((wrap64 (Int.tdiv (wrap64 ((wrap64 ((wrap64 ((wrap64 ((wrap64 (a0_1)) * 16777216)) + (wrap64 ((wrap64 (a0_2)) * 65536)))) + (wrap64 ((wrap64 (a0_3)) * 256)))) + (wrap64 (a0_4)))) 65536)) != 8194) = false := bne_eq_false_iff_eq.mpr c77
             clear c77
             replace H := Option.bind_eq_some_iff.mp H
             obtain ⟨⟨t522, t523, t524, t525, t526, t527, t528, t529, t530, t531, t532, t533, t534, t535, t536, t537, t538⟩, A780, H⟩ := H
             replace H : (some (t522, t523, t524, t525, t526, t527, t528, t529, t530, t531, t532, t533, t534, t535, t536, t537, t538, true)) = some (r1, r2, r3, r4, r5, r6, r7, r8, r9, r10, r11, r12, r13, r14, r15, r16, r17, r18) := H
             have A78 := Aside0.mk A780
             clear A780
             simp only [Option.some.injEq, Prod.mk.injEq] at H
             obtain ⟨rfl, rfl, rfl, rfl, rfl, rfl, rfl, rfl, rfl, rfl, rfl, rfl, rfl, rfl, rfl, rfl, rfl, rfl⟩ := H
             go_wp2_with (first | ((with_reducible refine gate_dst (N := 81) rfl ?_); (try (refine gate_guard (by rfl) ?_; dsimp only)); refine load_box ?hg 25 (.tmp 1) rfl BK432.out [] [.bool true, .int .u8 a0_1, .int .u8 a0_2, .int .u8 a0_3, .int .u8 a0_4, .int .u8 a0_5, .int .u8 a0_6, .int .u8 a0_7, .int .u8 a0_8, .int .u8 a0_9, .int .u8 a0_10, .int .u8 a0_11, .int .u8 a0_12, .int .u8 a0_13, .int .u8 a0_14, .int .u8 a0_15, .int .u8 a0_16] [] rfl 0 rfl rfl Tryd.underlying25 rfl (by kernel_rfl) ?_; (case hg => rfl)) | ((with_reducible refine gate_callee (f := 22) rfl ?_); refine goesL_ (some 82) rfl rfl Tryd.func22 (by kernel_rfl) rfl #[.agg #[.bool true, .int .u8 a0_1, .int .u8 a0_2, .int .u8 a0_3, .int .u8 a0_4, .int .u8 a0_5, .int .u8 a0_6, .int .u8 a0_7, .int .u8 a0_8, .int .u8 a0_9, .int .u8 a0_10, .int .u8 a0_11, .int .u8 a0_12, .int .u8 a0_13, .int .u8 a0_14, .int .u8 a0_15, .int .u8 a0_16], .int .i64 2] rfl (by (try simp only [List.map_toArray, List.map_cons, List.map_nil]); first | done | rfl | (simp only [List.length_drop, List.length_take]; rfl)) ?_; (with_reducible refine (lanternref05_Tail.calls kj33 true a0_1 a0_2 a0_3 a0_4 a0_5 a0_6 a0_7 a0_8 a0_9 a0_10 a0_11 a0_12 a0_13 a0_14 a0_15 a0_16 2 t522 t523 t524 t525 t526 t527 t528 t529 t530 t531 t532 t533 t534 t535 t536 t537 t538 _ ?side1 A78.out).mono ?_); (case side1 => exact LW.below HLW.out (by repeat (first | (with_reducible first | exact HB.out | apply below_alloc | apply pw_below_drewN | apply below_drew1 | refine below_set ?_ GE432.out | refine below_set ?_ GE433.out) | exact HB.out))); rintro e w79 ⟨rfl, hb⟩; refine ⟨_, rfl, ?_⟩; have n0_ := Aside0.mk (blk_below (g := gb432) (o := .cells #[.bool true, .int .u8 a0_1, .int .u8 a0_2, .int .u8 a0_3, .int .u8 a0_4, .int .u8 a0_5, .int .u8 a0_6, .int .u8 a0_7, .int .u8 a0_8, .int .u8 a0_9, .int .u8 a0_10, .int .u8 a0_11, .int .u8 a0_12, .int .u8 a0_13, .int .u8 a0_14, .int .u8 a0_15, .int .u8 a0_16] 25 (0, 0)) (by (with_reducible repeat (first | refine blk_drewN ?_ _ | refine blk_drew ?_ | refine blk_alloc ?_ _)); exact BK432.out) hb); have n1_ := Aside0.mk (blk_below (g := gb433) (o := .cells #[.bool false, .int .u8 0, .int .u8 0, .int .u8 0, .int .u8 0, .int .u8 0, .int .u8 0, .int .u8 0, .int .u8 0, .int .u8 0, .int .u8 0, .int .u8 0, .int .u8 0, .int .u8 0, .int .u8 0, .int .u8 0, .int .u8 0] 25 (0, 0)) (by (with_reducible repeat (first | refine blk_drewN ?_ _ | refine blk_drew ?_ | refine blk_alloc ?_ _)); exact BK433.out) hb); have n2_ := Aside0.mk (below_step (by repeat (first | (with_reducible first | exact HB.out | apply below_alloc | apply pw_below_drewN | apply below_drew1 | refine below_set ?_ GE432.out | refine below_set ?_ GE433.out) | exact HB.out)) hb); clear BK432; clear BK433; clear HB; have BK432 := n0_; have BK433 := n1_; have HB := n2_; clear n0_ n1_ n2_; (try clear hb); (try clear hb2); (try clear hk); (try clear hi); have hnb80 := NB433_432.out; have hnc80 := NB432_433.out; have hcz81_0 : w79.cell? ⟨gb433, 0, none⟩ = some (.bool false) := (blk_cell BK433.out 0).trans rfl; have hcz81_1 : w79.cell? ⟨gb433, 1, none⟩ = some (.int .u8 0) := (blk_cell BK433.out 1).trans rfl; have hcz81_2 : w79.cell? ⟨gb433, 2, none⟩ = some (.int .u8 0) := (blk_cell BK433.out 2).trans rfl; have hcz81_3 : w79.cell? ⟨gb433, 3, none⟩ = some (.int .u8 0) := (blk_cell BK433.out 3).trans rfl; have hcz81_4 : w79.cell? ⟨gb433, 4, none⟩ = some (.int .u8 0) := (blk_cell BK433.out 4).trans rfl; have hcz81_5 : w79.cell? ⟨gb433, 5, none⟩ = some (.int .u8 0) := (blk_cell BK433.out 5).trans rfl; have hcz81_6 : w79.cell? ⟨gb433, 6, none⟩ = some (.int .u8 0) := (blk_cell BK433.out 6).trans rfl; have hcz81_7 : w79.cell? ⟨gb433, 7, none⟩ = some (.int .u8 0) := (blk_cell BK433.out 7).trans rfl; have hcz81_8 : w79.cell? ⟨gb433, 8, none⟩ = some (.int .u8 0) := (blk_cell BK433.out 8).trans rfl; have hcz81_9 : w79.cell? ⟨gb433, 9, none⟩ = some (.int .u8 0) := (blk_cell BK433.out 9).trans rfl; have hcz81_10 : w79.cell? ⟨gb433, 10, none⟩ = some (.int .u8 0) := (blk_cell BK433.out 10).trans rfl; have hcz81_11 : w79.cell? ⟨gb433, 11, none⟩ = some (.int .u8 0) := (blk_cell BK433.out 11).trans rfl; have hcz81_12 : w79.cell? ⟨gb433, 12, none⟩ = some (.int .u8 0) := (blk_cell BK433.out 12).trans rfl; have hcz81_13 : w79.cell? ⟨gb433, 13, none⟩ = some (.int .u8 0) := (blk_cell BK433.out 13).trans rfl; have hcz81_14 : w79.cell? ⟨gb433, 14, none⟩ = some (.int .u8 0) := (blk_cell BK433.out 14).trans rfl; have hcz81_15 : w79.cell? ⟨gb433, 15, none⟩ = some (.int .u8 0) := (blk_cell BK433.out 15).trans rfl; have hcz81_16 : w79.cell? ⟨gb433, 16, none⟩ = some (.int .u8 0) := (blk_cell BK433.out 16).trans rfl; have hfz81_0 := blk_frozen BK433.out 0; have hfz81_1 := blk_frozen BK433.out 1; have hfz81_2 := blk_frozen BK433.out 2; have hfz81_3 := blk_frozen BK433.out 3; have hfz81_4 := blk_frozen BK433.out 4; have hfz81_5 := blk_frozen BK433.out 5; have hfz81_6 := blk_frozen BK433.out 6; have hfz81_7 := blk_frozen BK433.out 7; have hfz81_8 := blk_frozen BK433.out 8; have hfz81_9 := blk_frozen BK433.out 9; have hfz81_10 := blk_frozen BK433.out 10; have hfz81_11 := blk_frozen BK433.out 11; have hfz81_12 := blk_frozen BK433.out 12; have hfz81_13 := blk_frozen BK433.out 13; have hfz81_14 := blk_frozen BK433.out 14; have hfz81_15 := blk_frozen BK433.out 15; have hfz81_16 := blk_frozen BK433.out 16) | ((with_reducible refine gate_store (t := 25) (p := 2) rfl ?_); refine store_all ?hg 25 2 _ rfl rfl gb433 [.bool false, .int .u8 0, .int .u8 0, .int .u8 0, .int .u8 0, .int .u8 0, .int .u8 0, .int .u8 0, .int .u8 0, .int .u8 0, .int .u8 0, .int .u8 0, .int .u8 0, .int .u8 0, .int .u8 0, .int .u8 0, .int .u8 0] [.bool t522, .int .u8 t523, .int .u8 t524, .int .u8 t525, .int .u8 t526, .int .u8 t527, .int .u8 t528, .int .u8 t529, .int .u8 t530, .int .u8 t531, .int .u8 t532, .int .u8 t533, .int .u8 t534, .int .u8 t535, .int .u8 t536, .int .u8 t537, .int .u8 t538] BK433.out rfl rfl rfl (by kernel_rfl) rfl ?_; (case hg => rfl); intro w82 hw; have n0_ : Aside0 (w82.heap[gb432]? = some (.cells #[.bool true, .int .u8 a0_1, .int .u8 a0_2, .int .u8 a0_3, .int .u8 a0_4, .int .u8 a0_5, .int .u8 a0_6, .int .u8 a0_7, .int .u8 a0_8, .int .u8 a0_9, .int .u8 a0_10, .int .u8 a0_11, .int .u8 a0_12, .int .u8 a0_13, .int .u8 a0_14, .int .u8 a0_15, .int .u8 a0_16] 25 (0, 0))) := ⟨(by rw [hw]; exact (by (with_reducible repeat (first | refine blk_drewN ?_ _ | refine blk_drew ?_ | refine blk_alloc ?_ _)); refine blk_farC NB432_433.out _ _ ?_; (with_reducible repeat (first | refine blk_drewN ?_ _ | refine blk_drew ?_ | refine blk_alloc ?_ _)); exact BK432.out))⟩; have n1_ : Aside0 (w82.heap[gb433]? = some (.cells #[.bool t522, .int .u8 t523, .int .u8 t524, .int .u8 t525, .int .u8 t526, .int .u8 t527, .int .u8 t528, .int .u8 t529, .int .u8 t530, .int .u8 t531, .int .u8 t532, .int .u8 t533, .int .u8 t534, .int .u8 t535, .int .u8 t536, .int .u8 t537, .int .u8 t538] 25 (0, 0))) := ⟨(by rw [hw]; exact (by (with_reducible repeat (first | refine blk_drewN ?_ _ | refine blk_drew ?_ | refine blk_alloc ?_ _)); refine blk_part [.bool t522, .int .u8 t523, .int .u8 t524, .int .u8 t525, .int .u8 t526, .int .u8 t527, .int .u8 t528, .int .u8 t529, .int .u8 t530, .int .u8 t531, .int .u8 t532, .int .u8 t533, .int .u8 t534, .int .u8 t535, .int .u8 t536, .int .u8 t537, .int .u8 t538] [.bool false, .int .u8 0, .int .u8 0, .int .u8 0, .int .u8 0, .int .u8 0, .int .u8 0, .int .u8 0, .int .u8 0, .int .u8 0, .int .u8 0, .int .u8 0, .int .u8 0, .int .u8 0, .int .u8 0, .int .u8 0, .int .u8 0] [] [] (cs := #[.bool false, .int .u8 0, .int .u8 0, .int .u8 0, .int .u8 0, .int .u8 0, .int .u8 0, .int .u8 0, .int .u8 0, .int .u8 0, .int .u8 0, .int .u8 0, .int .u8 0, .int .u8 0, .int .u8 0, .int .u8 0, .int .u8 0]) ?_ rfl rfl rfl; (with_reducible repeat (first | refine blk_drewN ?_ _ | refine blk_drew ?_ | refine blk_alloc ?_ _)); exact BK433.out))⟩; have n2_ : Aside0 (Below w.heap.size w w82) := ⟨(by rw [hw]; exact (by repeat (first | (with_reducible first | exact HB.out | apply below_alloc | apply pw_below_drewN | apply below_drew1 | refine below_set ?_ GE432.out | refine below_set ?_ GE433.out | refine below_setC GE432.out _ _ ?_ | refine below_setC GE433.out _ _ ?_) | exact HB.out)))⟩; clear hw; clear BK432; clear BK433; clear HB; have BK432 := n0_; have BK433 := n1_; have HB := n2_; clear n0_ n1_ n2_))
             refine bodyPost_ret (results_ct rfl _ _ gb433 25 #[.bool t522, .int .u8 t523, .int .u8 t524, .int .u8 t525, .int .u8 t526, .int .u8 t527, .int .u8 t528, .int .u8 t529, .int .u8 t530, .int .u8 t531, .int .u8 t532, .int .u8 t533, .int .u8 t534, .int .u8 t535, .int .u8 t536, .int .u8 t537, .int .u8 t538] (0, 0) _ rfl (by (with_reducible repeat (first | refine blk_drewN ?_ _ | refine blk_drew ?_ | refine blk_alloc ?_ _)); exact BK433.out) Tryd.underlying25 rfl (by kernel_rfl)) rfl ?_
             exact ⟨by first | rfl | (simp [errW_none, errW_some] <;> rfl) | (simp [*, errW_none, errW_some] <;> rfl) | (simp [errW_none, errW_some]; first | exact isEmpty_bne _ | exact isEmpty_beq _ | exact (isEmpty_bne _).symm), by repeat (first | (with_reducible first | exact HB.out | apply below_alloc | apply pw_below_drewN | apply below_drew1 | refine below_set ?_ GE432.out | refine below_set ?_ GE433.out) | exact HB.out)⟩
            ·rw [if_neg c77] at H
             have c77b0 : ((wrap64 (Int.tdiv (wrap64 ((wrap64 ((wrap64 ((wrap64 ((wrap64 (a0_1)) * 16777216)) + (wrap64 ((wrap64 (a0_2)) * 65536)))) + (wrap64 ((wrap64 (a0_3)) * 256)))) + (wrap64 (a0_4)))) 65536)) == 8194) = false := beq_eq_false_iff_ne.mpr c77
             have c77b1 : ((wrap64 (Int.tdiv (wrap64 ((wrap64 ((wrap64 ((wrap64 ((wrap64 (a0_1)) * 16777216)) + (wrap64 ((wrap64 (a0_2)) * 65536)))) + (wrap64 ((wrap64 (a0_3)) * 256)))) + (wrap64 (a0_4)))) 65536)) != 8194) = true := bne_iff_ne.mpr c77
             simp only [Option.some.injEq, Prod.mk.injEq] at H
             obtain ⟨rfl, rfl, rfl, rfl, rfl, rfl, rfl, rfl, rfl, rfl, rfl, rfl, rfl, rfl, rfl, rfl, rfl, rfl⟩ := H
             have hnb83 := NB433_432.out
             have hnc83 := NB432_433.out
             have hcz84_0 : wc.cell? ⟨gb433, 0, none⟩ = some (.bool false) := (blk_cell BK433.out 0).trans rfl
             have hcz84_1 : wc.cell? ⟨gb433, 1, none⟩ = some (.int .u8 0) := (blk_cell BK433.out 1).trans rfl
             have hcz84_2 : wc.cell? ⟨gb433, 2, none⟩ = some (.int .u8 0) := (blk_cell BK433.out 2).trans rfl
             have hcz84_3 : wc.cell? ⟨gb433, 3, none⟩ = some (.int .u8 0) := (blk_cell BK433.out 3).trans rfl
             have hcz84_4 : wc.cell? ⟨gb433, 4, none⟩ = some (.int .u8 0) := (blk_cell BK433.out 4).trans rfl
             have hcz84_5 : wc.cell? ⟨gb433, 5, none⟩ = some (.int .u8 0) := (blk_cell BK433.out 5).trans rfl
             have hcz84_6 : wc.cell? ⟨gb433, 6, none⟩ = some (.int .u8 0) := (blk_cell BK433.out 6).trans rfl
             have hcz84_7 : wc.cell? ⟨gb433, 7, none⟩ = some (.int .u8 0) := (blk_cell BK433.out 7).trans rfl
             have hcz84_8 : wc.cell? ⟨gb433, 8, none⟩ = some (.int .u8 0) := (blk_cell BK433.out 8).trans rfl
             have hcz84_9 : wc.cell? ⟨gb433, 9, none⟩ = some (.int .u8 0) := (blk_cell BK433.out 9).trans rfl
             have hcz84_10 : wc.cell? ⟨gb433, 10, none⟩ = some (.int .u8 0) := (blk_cell BK433.out 10).trans rfl
             have hcz84_11 : wc.cell? ⟨gb433, 11, none⟩ = some (.int .u8 0) := (blk_cell BK433.out 11).trans rfl
             have hcz84_12 : wc.cell? ⟨gb433, 12, none⟩ = some (.int .u8 0) := (blk_cell BK433.out 12).trans rfl
             have hcz84_13 : wc.cell? ⟨gb433, 13, none⟩ = some (.int .u8 0) := (blk_cell BK433.out 13).trans rfl
             have hcz84_14 : wc.cell? ⟨gb433, 14, none⟩ = some (.int .u8 0) := (blk_cell BK433.out 14).trans rfl
             have hcz84_15 : wc.cell? ⟨gb433, 15, none⟩ = some (.int .u8 0) := (blk_cell BK433.out 15).trans rfl
             have hcz84_16 : wc.cell? ⟨gb433, 16, none⟩ = some (.int .u8 0) := (blk_cell BK433.out 16).trans rfl
             have hfz84_0 := blk_frozen BK433.out 0
             have hfz84_1 := blk_frozen BK433.out 1
             have hfz84_2 := blk_frozen BK433.out 2
             have hfz84_3 := blk_frozen BK433.out 3
             have hfz84_4 := blk_frozen BK433.out 4
             have hfz84_5 := blk_frozen BK433.out 5
             have hfz84_6 := blk_frozen BK433.out 6
             have hfz84_7 := blk_frozen BK433.out 7
             have hfz84_8 := blk_frozen BK433.out 8
             have hfz84_9 := blk_frozen BK433.out 9
             have hfz84_10 := blk_frozen BK433.out 10
             have hfz84_11 := blk_frozen BK433.out 11
             have hfz84_12 := blk_frozen BK433.out 12
             have hfz84_13 := blk_frozen BK433.out 13
             have hfz84_14 := blk_frozen BK433.out 14
             have hfz84_15 := blk_frozen BK433.out 15
             have hfz84_16 := blk_frozen BK433.out 16
             go_wp2_with (first | ((with_reducible refine gate_store (t := 25) (p := 2) rfl ?_); refine store_all ?hg 25 2 _ rfl rfl gb433 [.bool false, .int .u8 0, .int .u8 0, .int .u8 0, .int .u8 0, .int .u8 0, .int .u8 0, .int .u8 0, .int .u8 0, .int .u8 0, .int .u8 0, .int .u8 0, .int .u8 0, .int .u8 0, .int .u8 0, .int .u8 0, .int .u8 0] [.bool false, .int .u8 0, .int .u8 0, .int .u8 0, .int .u8 0, .int .u8 0, .int .u8 0, .int .u8 0, .int .u8 0, .int .u8 0, .int .u8 0, .int .u8 0, .int .u8 0, .int .u8 0, .int .u8 0, .int .u8 0, .int .u8 0] BK433.out rfl rfl rfl (by kernel_rfl) rfl ?_; (case hg => rfl); intro w85 hw; have n0_ : Aside0 (w85.heap[gb432]? = some (.cells #[.bool true, .int .u8 a0_1, .int .u8 a0_2, .int .u8 a0_3, .int .u8 a0_4, .int .u8 a0_5, .int .u8 a0_6, .int .u8 a0_7, .int .u8 a0_8, .int .u8 a0_9, .int .u8 a0_10, .int .u8 a0_11, .int .u8 a0_12, .int .u8 a0_13, .int .u8 a0_14, .int .u8 a0_15, .int .u8 a0_16] 25 (0, 0))) := ⟨(by rw [hw]; exact (by (with_reducible repeat (first | refine blk_drewN ?_ _ | refine blk_drew ?_ | refine blk_alloc ?_ _)); refine blk_farC NB432_433.out _ _ ?_; (with_reducible repeat (first | refine blk_drewN ?_ _ | refine blk_drew ?_ | refine blk_alloc ?_ _)); exact BK432.out))⟩; have n1_ : Aside0 (w85.heap[gb433]? = some (.cells #[.bool false, .int .u8 0, .int .u8 0, .int .u8 0, .int .u8 0, .int .u8 0, .int .u8 0, .int .u8 0, .int .u8 0, .int .u8 0, .int .u8 0, .int .u8 0, .int .u8 0, .int .u8 0, .int .u8 0, .int .u8 0, .int .u8 0] 25 (0, 0))) := ⟨(by rw [hw]; exact (by (with_reducible repeat (first | refine blk_drewN ?_ _ | refine blk_drew ?_ | refine blk_alloc ?_ _)); refine blk_part [.bool false, .int .u8 0, .int .u8 0, .int .u8 0, .int .u8 0, .int .u8 0, .int .u8 0, .int .u8 0, .int .u8 0, .int .u8 0, .int .u8 0, .int .u8 0, .int .u8 0, .int .u8 0, .int .u8 0, .int .u8 0, .int .u8 0] [.bool false, .int .u8 0, .int .u8 0, .int .u8 0, .int .u8 0, .int .u8 0, .int .u8 0, .int .u8 0, .int .u8 0, .int .u8 0, .int .u8 0, .int .u8 0, .int .u8 0, .int .u8 0, .int .u8 0, .int .u8 0, .int .u8 0] [] [] (cs := #[.bool false, .int .u8 0, .int .u8 0, .int .u8 0, .int .u8 0, .int .u8 0, .int .u8 0, .int .u8 0, .int .u8 0, .int .u8 0, .int .u8 0, .int .u8 0, .int .u8 0, .int .u8 0, .int .u8 0, .int .u8 0, .int .u8 0]) ?_ rfl rfl rfl; (with_reducible repeat (first | refine blk_drewN ?_ _ | refine blk_drew ?_ | refine blk_alloc ?_ _)); exact BK433.out))⟩; have n2_ : Aside0 (Below w.heap.size w w85) := ⟨(by rw [hw]; exact (by repeat (first | (with_reducible first | exact HB.out | apply below_alloc | apply pw_below_drewN | apply below_drew1 | refine below_set ?_ GE432.out | refine below_set ?_ GE433.out | refine below_setC GE432.out _ _ ?_ | refine below_setC GE433.out _ _ ?_) | exact HB.out)))⟩; clear hw; clear BK432; clear BK433; clear HB; have BK432 := n0_; have BK433 := n1_; have HB := n2_; clear n0_ n1_ n2_))
             refine bodyPost_ret (results_ct rfl _ _ gb433 25 #[.bool false, .int .u8 0, .int .u8 0, .int .u8 0, .int .u8 0, .int .u8 0, .int .u8 0, .int .u8 0, .int .u8 0, .int .u8 0, .int .u8 0, .int .u8 0, .int .u8 0, .int .u8 0, .int .u8 0, .int .u8 0, .int .u8 0] (0, 0) _ rfl (by (with_reducible repeat (first | refine blk_drewN ?_ _ | refine blk_drew ?_ | refine blk_alloc ?_ _)); exact BK433.out) Tryd.underlying25 rfl (by kernel_rfl)) rfl ?_
             exact ⟨by first | rfl | (simp [errW_none, errW_some] <;> rfl) | (simp [*, errW_none, errW_some] <;> rfl) | (simp [errW_none, errW_some]; first | exact isEmpty_bne _ | exact isEmpty_beq _ | exact (isEmpty_bne _).symm), by repeat (first | (with_reducible first | exact HB.out | apply below_alloc | apply pw_below_drewN | apply below_drew1 | refine below_set ?_ GE432.out | refine below_set ?_ GE433.out) | exact HB.out)⟩
 ·replace c2 := Bool.eq_false_iff.mpr c2
  subst c2
  have H1 : (some (false, 0, 0, 0, 0, 0, 0, 0, 0, 0, 0, 0, 0, 0, 0, 0, 0, false)) = some (r1, r2, r3, r4, r5, r6, r7, r8, r9, r10, r11, r12, r13, r14, r15, r16, r17, r18) := by rw [if_neg (show ¬ (false = true) by decide)] at H; exact H
  clear H
  have H := H1
  clear H1
  simp only [Option.some.injEq, Prod.mk.injEq] at H
  obtain ⟨rfl, rfl, rfl, rfl, rfl, rfl, rfl, rfl, rfl, rfl, rfl, rfl, rfl, rfl, rfl, rfl, rfl, rfl⟩ := H
  go_enter Tryd.func19, Tryd.ntmps19
  go_wp2_with (first | ((with_reducible refine gate_dst (N := 1) rfl ?_); refine box_event ?hg (N := 1) ?hd (cs := #[.bool false, .int .u8 a0_1, .int .u8 a0_2, .int .u8 a0_3, .int .u8 a0_4, .int .u8 a0_5, .int .u8 a0_6, .int .u8 a0_7, .int .u8 a0_8, .int .u8 a0_9, .int .u8 a0_10, .int .u8 a0_11, .int .u8 a0_12, .int .u8 a0_13, .int .u8 a0_14, .int .u8 a0_15, .int .u8 a0_16]) (t := 25) ?hr ?_; (case hd => rfl); (case hg => rfl); (case hr => first | (go_simp; done) | (go_simp; rfl)); intro gb432 hg w86 hbox hb; have n0_ := Aside0.mk (below_step (by repeat (first | (with_reducible first | exact HB.out | apply below_alloc | apply pw_below_drewN | apply below_drew1) | exact HB.out)) hb); have n1_ := Aside0.mk (hbox); have n2_ := Aside0.mk ((by rw [hg]; exact (below_size (by repeat (first | (with_reducible first | exact HB.out | apply below_alloc | apply pw_below_drewN | apply below_drew1) | exact HB.out))) : w.heap.size ≤ gb432)); have n3_ := Aside0.mk ((by rw [hg]; exact (below_size (by repeat (first | (with_reducible first | exact HB.out | apply below_alloc | apply pw_below_drewN | apply below_drew1) | exact HB.out))) : w.heap.size ≤ gb432)); clear HB; have HB := n0_; have BK432 := n1_; have GW432 := n2_; have GE432 := n3_; clear n0_ n1_ n2_ n3_; clear hb hbox hg) | ((with_reducible refine gate_dst (N := 2) rfl ?_); refine box_event ?hg (N := 2) ?hd (cs := #[.bool false, .int .u8 0, .int .u8 0, .int .u8 0, .int .u8 0, .int .u8 0, .int .u8 0, .int .u8 0, .int .u8 0, .int .u8 0, .int .u8 0, .int .u8 0, .int .u8 0, .int .u8 0, .int .u8 0, .int .u8 0, .int .u8 0]) (t := 25) ?hr ?_; (case hd => rfl); (case hg => rfl); (case hr => first | (go_simp; done) | (go_simp; rfl)); intro gb433 hg w87 hbox hb; have n0_ := Aside0.mk (blk_below (g := gb432) (o := .cells #[.bool false, .int .u8 a0_1, .int .u8 a0_2, .int .u8 a0_3, .int .u8 a0_4, .int .u8 a0_5, .int .u8 a0_6, .int .u8 a0_7, .int .u8 a0_8, .int .u8 a0_9, .int .u8 a0_10, .int .u8 a0_11, .int .u8 a0_12, .int .u8 a0_13, .int .u8 a0_14, .int .u8 a0_15, .int .u8 a0_16] 25 (0, 0)) (by (with_reducible repeat (first | refine blk_drewN ?_ _ | refine blk_drew ?_ | refine blk_alloc ?_ _)); exact BK432.out) hb); have n1_ := Aside0.mk (below_step (by repeat (first | (with_reducible first | exact HB.out | apply below_alloc | apply pw_below_drewN | apply below_drew1 | refine below_set ?_ GE432.out) | exact HB.out)) hb); have n2_ := Aside0.mk (hbox); have n3_ := Aside0.mk ((by rw [hg]; exact (below_size (by repeat (first | (with_reducible first | exact HB.out | apply below_alloc | apply pw_below_drewN | apply below_drew1 | refine below_set ?_ GE432.out) | exact HB.out))) : w.heap.size ≤ gb433)); have n4_ := Aside0.mk ((by rw [hg]; exact (below_size (by repeat (first | (with_reducible first | exact HB.out | apply below_alloc | apply pw_below_drewN | apply below_drew1 | refine below_set ?_ GE432.out) | exact HB.out))) : w.heap.size ≤ gb433)); have n5_ := Aside0.mk ((by rw [hg]; exact Nat.ne_of_lt (blk_lt (g := gb432) (o := .cells #[.bool false, .int .u8 a0_1, .int .u8 a0_2, .int .u8 a0_3, .int .u8 a0_4, .int .u8 a0_5, .int .u8 a0_6, .int .u8 a0_7, .int .u8 a0_8, .int .u8 a0_9, .int .u8 a0_10, .int .u8 a0_11, .int .u8 a0_12, .int .u8 a0_13, .int .u8 a0_14, .int .u8 a0_15, .int .u8 a0_16] 25 (0, 0)) (by (with_reducible repeat (first | refine blk_drewN ?_ _ | refine blk_drew ?_ | refine blk_alloc ?_ _)); exact BK432.out)) : gb432 ≠ gb433)); have n6_ := Aside0.mk ((by rw [hg]; exact Nat.ne_of_gt (blk_lt (g := gb432) (o := .cells #[.bool false, .int .u8 a0_1, .int .u8 a0_2, .int .u8 a0_3, .int .u8 a0_4, .int .u8 a0_5, .int .u8 a0_6, .int .u8 a0_7, .int .u8 a0_8, .int .u8 a0_9, .int .u8 a0_10, .int .u8 a0_11, .int .u8 a0_12, .int .u8 a0_13, .int .u8 a0_14, .int .u8 a0_15, .int .u8 a0_16] 25 (0, 0)) (by (with_reducible repeat (first | refine blk_drewN ?_ _ | refine blk_drew ?_ | refine blk_alloc ?_ _)); exact BK432.out)) : gb433 ≠ gb432)); clear BK432; clear HB; have BK432 := n0_; have HB := n1_; have BK433 := n2_; have GW433 := n3_; have GE433 := n4_; have NB432_433 := n5_; have NB433_432 := n6_; clear n0_ n1_ n2_ n3_ n4_ n5_ n6_; clear hb hbox hg; have hnb88 := NB432_433.out; have hnc88 := NB433_432.out; have hcz89_0 : w87.cell? ⟨gb432, 0, none⟩ = some (.bool false) := (blk_cell BK432.out 0).trans rfl; have hcz89_1 : w87.cell? ⟨gb432, 1, none⟩ = some (.int .u8 a0_1) := (blk_cell BK432.out 1).trans rfl; have hcz89_2 : w87.cell? ⟨gb432, 2, none⟩ = some (.int .u8 a0_2) := (blk_cell BK432.out 2).trans rfl; have hcz89_3 : w87.cell? ⟨gb432, 3, none⟩ = some (.int .u8 a0_3) := (blk_cell BK432.out 3).trans rfl; have hcz89_4 : w87.cell? ⟨gb432, 4, none⟩ = some (.int .u8 a0_4) := (blk_cell BK432.out 4).trans rfl; have hcz89_5 : w87.cell? ⟨gb432, 5, none⟩ = some (.int .u8 a0_5) := (blk_cell BK432.out 5).trans rfl; have hcz89_6 : w87.cell? ⟨gb432, 6, none⟩ = some (.int .u8 a0_6) := (blk_cell BK432.out 6).trans rfl; have hcz89_7 : w87.cell? ⟨gb432, 7, none⟩ = some (.int .u8 a0_7) := (blk_cell BK432.out 7).trans rfl; have hcz89_8 : w87.cell? ⟨gb432, 8, none⟩ = some (.int .u8 a0_8) := (blk_cell BK432.out 8).trans rfl; have hcz89_9 : w87.cell? ⟨gb432, 9, none⟩ = some (.int .u8 a0_9) := (blk_cell BK432.out 9).trans rfl; have hcz89_10 : w87.cell? ⟨gb432, 10, none⟩ = some (.int .u8 a0_10) := (blk_cell BK432.out 10).trans rfl; have hcz89_11 : w87.cell? ⟨gb432, 11, none⟩ = some (.int .u8 a0_11) := (blk_cell BK432.out 11).trans rfl; have hcz89_12 : w87.cell? ⟨gb432, 12, none⟩ = some (.int .u8 a0_12) := (blk_cell BK432.out 12).trans rfl; have hcz89_13 : w87.cell? ⟨gb432, 13, none⟩ = some (.int .u8 a0_13) := (blk_cell BK432.out 13).trans rfl; have hcz89_14 : w87.cell? ⟨gb432, 14, none⟩ = some (.int .u8 a0_14) := (blk_cell BK432.out 14).trans rfl; have hcz89_15 : w87.cell? ⟨gb432, 15, none⟩ = some (.int .u8 a0_15) := (blk_cell BK432.out 15).trans rfl; have hcz89_16 : w87.cell? ⟨gb432, 16, none⟩ = some (.int .u8 a0_16) := (blk_cell BK432.out 16).trans rfl; have hfz89_0 := blk_frozen BK432.out 0; have hfz89_1 := blk_frozen BK432.out 1; have hfz89_2 := blk_frozen BK432.out 2; have hfz89_3 := blk_frozen BK432.out 3; have hfz89_4 := blk_frozen BK432.out 4; have hfz89_5 := blk_frozen BK432.out 5; have hfz89_6 := blk_frozen BK432.out 6; have hfz89_7 := blk_frozen BK432.out 7; have hfz89_8 := blk_frozen BK432.out 8; have hfz89_9 := blk_frozen BK432.out 9; have hfz89_10 := blk_frozen BK432.out 10; have hfz89_11 := blk_frozen BK432.out 11; have hfz89_12 := blk_frozen BK432.out 12; have hfz89_13 := blk_frozen BK432.out 13; have hfz89_14 := blk_frozen BK432.out 14; have hfz89_15 := blk_frozen BK432.out 15; have hfz89_16 := blk_frozen BK432.out 16; have hcz90_0 : w87.cell? ⟨gb433, 0, none⟩ = some (.bool false) := (blk_cell BK433.out 0).trans rfl; have hcz90_1 : w87.cell? ⟨gb433, 1, none⟩ = some (.int .u8 0) := (blk_cell BK433.out 1).trans rfl; have hcz90_2 : w87.cell? ⟨gb433, 2, none⟩ = some (.int .u8 0) := (blk_cell BK433.out 2).trans rfl; have hcz90_3 : w87.cell? ⟨gb433, 3, none⟩ = some (.int .u8 0) := (blk_cell BK433.out 3).trans rfl; have hcz90_4 : w87.cell? ⟨gb433, 4, none⟩ = some (.int .u8 0) := (blk_cell BK433.out 4).trans rfl; have hcz90_5 : w87.cell? ⟨gb433, 5, none⟩ = some (.int .u8 0) := (blk_cell BK433.out 5).trans rfl; have hcz90_6 : w87.cell? ⟨gb433, 6, none⟩ = some (.int .u8 0) := (blk_cell BK433.out 6).trans rfl; have hcz90_7 : w87.cell? ⟨gb433, 7, none⟩ = some (.int .u8 0) := (blk_cell BK433.out 7).trans rfl; have hcz90_8 : w87.cell? ⟨gb433, 8, none⟩ = some (.int .u8 0) := (blk_cell BK433.out 8).trans rfl; have hcz90_9 : w87.cell? ⟨gb433, 9, none⟩ = some (.int .u8 0) := (blk_cell BK433.out 9).trans rfl; have hcz90_10 : w87.cell? ⟨gb433, 10, none⟩ = some (.int .u8 0) := (blk_cell BK433.out 10).trans rfl; have hcz90_11 : w87.cell? ⟨gb433, 11, none⟩ = some (.int .u8 0) := (blk_cell BK433.out 11).trans rfl; have hcz90_12 : w87.cell? ⟨gb433, 12, none⟩ = some (.int .u8 0) := (blk_cell BK433.out 12).trans rfl; have hcz90_13 : w87.cell? ⟨gb433, 13, none⟩ = some (.int .u8 0) := (blk_cell BK433.out 13).trans rfl; have hcz90_14 : w87.cell? ⟨gb433, 14, none⟩ = some (.int .u8 0) := (blk_cell BK433.out 14).trans rfl; have hcz90_15 : w87.cell? ⟨gb433, 15, none⟩ = some (.int .u8 0) := (blk_cell BK433.out 15).trans rfl; have hcz90_16 : w87.cell? ⟨gb433, 16, none⟩ = some (.int .u8 0) := (blk_cell BK433.out 16).trans rfl; have hfz90_0 := blk_frozen BK433.out 0; have hfz90_1 := blk_frozen BK433.out 1; have hfz90_2 := blk_frozen BK433.out 2; have hfz90_3 := blk_frozen BK433.out 3; have hfz90_4 := blk_frozen BK433.out 4; have hfz90_5 := blk_frozen BK433.out 5; have hfz90_6 := blk_frozen BK433.out 6; have hfz90_7 := blk_frozen BK433.out 7; have hfz90_8 := blk_frozen BK433.out 8; have hfz90_9 := blk_frozen BK433.out 9; have hfz90_10 := blk_frozen BK433.out 10; have hfz90_11 := blk_frozen BK433.out 11; have hfz90_12 := blk_frozen BK433.out 12; have hfz90_13 := blk_frozen BK433.out 13; have hfz90_14 := blk_frozen BK433.out 14; have hfz90_15 := blk_frozen BK433.out 15; have hfz90_16 := blk_frozen BK433.out 16) | ((with_reducible refine gate_store (t := 25) (p := 2) rfl ?_); refine store_all ?hg 25 2 _ rfl rfl gb433 [.bool false, .int .u8 0, .int .u8 0, .int .u8 0, .int .u8 0, .int .u8 0, .int .u8 0, .int .u8 0, .int .u8 0, .int .u8 0, .int .u8 0, .int .u8 0, .int .u8 0, .int .u8 0, .int .u8 0, .int .u8 0, .int .u8 0] [.bool false, .int .u8 0, .int .u8 0, .int .u8 0, .int .u8 0, .int .u8 0, .int .u8 0, .int .u8 0, .int .u8 0, .int .u8 0, .int .u8 0, .int .u8 0, .int .u8 0, .int .u8 0, .int .u8 0, .int .u8 0, .int .u8 0] BK433.out rfl rfl rfl (by kernel_rfl) rfl ?_; (case hg => rfl); intro w91 hw; have n0_ : Aside0 (w91.heap[gb432]? = some (.cells #[.bool false, .int .u8 a0_1, .int .u8 a0_2, .int .u8 a0_3, .int .u8 a0_4, .int .u8 a0_5, .int .u8 a0_6, .int .u8 a0_7, .int .u8 a0_8, .int .u8 a0_9, .int .u8 a0_10, .int .u8 a0_11, .int .u8 a0_12, .int .u8 a0_13, .int .u8 a0_14, .int .u8 a0_15, .int .u8 a0_16] 25 (0, 0))) := ⟨(by rw [hw]; exact (by (with_reducible repeat (first | refine blk_drewN ?_ _ | refine blk_drew ?_ | refine blk_alloc ?_ _)); refine blk_farC NB432_433.out _ _ ?_; (with_reducible repeat (first | refine blk_drewN ?_ _ | refine blk_drew ?_ | refine blk_alloc ?_ _)); exact BK432.out))⟩; have n1_ : Aside0 (w91.heap[gb433]? = some (.cells #[.bool false, .int .u8 0, .int .u8 0, .int .u8 0, .int .u8 0, .int .u8 0, .int .u8 0, .int .u8 0, .int .u8 0, .int .u8 0, .int .u8 0, .int .u8 0, .int .u8 0, .int .u8 0, .int .u8 0, .int .u8 0, .int .u8 0] 25 (0, 0))) := ⟨(by rw [hw]; exact (by (with_reducible repeat (first | refine blk_drewN ?_ _ | refine blk_drew ?_ | refine blk_alloc ?_ _)); refine blk_part [.bool false, .int .u8 0, .int .u8 0, .int .u8 0, .int .u8 0, .int .u8 0, .int .u8 0, .int .u8 0, .int .u8 0, .int .u8 0, .int .u8 0, .int .u8 0, .int .u8 0, .int .u8 0, .int .u8 0, .int .u8 0, .int .u8 0] [.bool false, .int .u8 0, .int .u8 0, .int .u8 0, .int .u8 0, .int .u8 0, .int .u8 0, .int .u8 0, .int .u8 0, .int .u8 0, .int .u8 0, .int .u8 0, .int .u8 0, .int .u8 0, .int .u8 0, .int .u8 0, .int .u8 0] [] [] (cs := #[.bool false, .int .u8 0, .int .u8 0, .int .u8 0, .int .u8 0, .int .u8 0, .int .u8 0, .int .u8 0, .int .u8 0, .int .u8 0, .int .u8 0, .int .u8 0, .int .u8 0, .int .u8 0, .int .u8 0, .int .u8 0, .int .u8 0]) ?_ rfl rfl rfl; (with_reducible repeat (first | refine blk_drewN ?_ _ | refine blk_drew ?_ | refine blk_alloc ?_ _)); exact BK433.out))⟩; have n2_ : Aside0 (Below w.heap.size w w91) := ⟨(by rw [hw]; exact (by repeat (first | (with_reducible first | exact HB.out | apply below_alloc | apply pw_below_drewN | apply below_drew1 | refine below_set ?_ GE432.out | refine below_set ?_ GE433.out | refine below_setC GE432.out _ _ ?_ | refine below_setC GE433.out _ _ ?_) | exact HB.out)))⟩; clear hw; clear BK432; clear BK433; clear HB; have BK432 := n0_; have BK433 := n1_; have HB := n2_; clear n0_ n1_ n2_))
  refine bodyPost_ret (results_ct rfl _ _ gb433 25 #[.bool false, .int .u8 0, .int .u8 0, .int .u8 0, .int .u8 0, .int .u8 0, .int .u8 0, .int .u8 0, .int .u8 0, .int .u8 0, .int .u8 0, .int .u8 0, .int .u8 0, .int .u8 0, .int .u8 0, .int .u8 0, .int .u8 0] (0, 0) _ rfl (by (with_reducible repeat (first | refine blk_drewN ?_ _ | refine blk_drew ?_ | refine blk_alloc ?_ _)); exact BK433.out) Tryd.underlying25 rfl (by kernel_rfl)) rfl ?_
  exact ⟨by first | rfl | (simp [errW_none, errW_some] <;> rfl) | (simp [*, errW_none, errW_some] <;> rfl) | (simp [errW_none, errW_some]; first | exact isEmpty_bne _ | exact isEmpty_beq _ | exact (isEmpty_bne _).symm), by repeat (first | (with_reducible first | exact HB.out | apply below_alloc | apply pw_below_drewN | apply below_drew1 | refine below_set ?_ GE432.out | refine below_set ?_ GE433.out) | exact HB.out)⟩

end Go.Proofs.YtfiefecjcmcejaaDoor.P
