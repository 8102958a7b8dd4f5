-- Written by a program of this session (wip/gen/lprint.py over the kit's print.py) out of the translation. Lean checks it.
import Derived.Test.YtfiefecjcmcejaaDoorP0
namespace Go.Proofs.YtfiefecjcmcejaaDoor.P
open Go.Proofs.YtfiefecjcmcejaaDoor.E Go.Proofs.YtfiefecjcmcejaaDoorV
open Go.RowKit Go.Proofs.YtfiefecjcmcejaaDoorW.PrintWords Go.Proofs.YtfiefecjcmcejaaDoorW.PrintLast Go.Proofs.YtfiefecjcmcejaaDoorW.PrintMore
attribute [local go_sem] max2_int min2_int max_two min_two max_three min_three max_four min_four   -- for this text's walks alone
set_option linter.unusedVariables false
set_option linter.unusedSimpArgs false

def lanternref05_Mapped.l0 : Nat → Int → Bool → Int → Int → Int → Int → Int → Int → Int → Int → Int → Int → Int → Int → Int → Int → Int → Int → Option (Bool)
 | 0, _, _, _, _, _, _, _, _, _, _, _, _, _, _, _, _, _, _ => none
 | k + 1, x3, x428000, x428001, x428002, x428003, x428004, x428005, x428006, x428007, x428008, x428009, x428010, x428011, x428012, x428013, x428014, x428015, x428016 => if x3 < 12 then (if x3 < 10 then (if 0 ≤ x3 then (if x3 < 16 then (if (rd [x428001, x428002, x428003, x428004, x428005, x428006, x428007, x428008, x428009, x428010, x428011, x428012, x428013, x428014, x428015, x428016] x3) = 0 then (if x3 ≥ 10 then (if (rd [x428001, x428002, x428003, x428004, x428005, x428006, x428007, x428008, x428009, x428010, x428011, x428012, x428013, x428014, x428015, x428016] x3) = 255 then (lanternref05_Mapped.l0 k (wrap64 (x3 + 1)) x428000 x428001 x428002 x428003 x428004 x428005 x428006 x428007 x428008 x428009 x428010 x428011 x428012 x428013 x428014 x428015 x428016) else (some false)) else (lanternref05_Mapped.l0 k (wrap64 (x3 + 1)) x428000 x428001 x428002 x428003 x428004 x428005 x428006 x428007 x428008 x428009 x428010 x428011 x428012 x428013 x428014 x428015 x428016)) else (some false)) else (none)) else (none)) else (if x3 ≥ 10 then (if 0 ≤ x3 then (if x3 < 16 then (if (rd [x428001, x428002, x428003, x428004, x428005, x428006, x428007, x428008, x428009, x428010, x428011, x428012, x428013, x428014, x428015, x428016] x3) = 255 then (lanternref05_Mapped.l0 k (wrap64 (x3 + 1)) x428000 x428001 x428002 x428003 x428004 x428005 x428006 x428007 x428008 x428009 x428010 x428011 x428012 x428013 x428014 x428015 x428016) else (some false)) else (none)) else (none)) else (lanternref05_Mapped.l0 k (wrap64 (x3 + 1)) x428000 x428001 x428002 x428003 x428004 x428005 x428006 x428007 x428008 x428009 x428010 x428011 x428012 x428013 x428014 x428015 x428016))) else (some x428000)
def lanternref05_Mapped.f (k : Nat) (a0_0 : Bool) (a0_1 : Int) (a0_2 : Int) (a0_3 : Int) (a0_4 : Int) (a0_5 : Int) (a0_6 : Int) (a0_7 : Int) (a0_8 : Int) (a0_9 : Int) (a0_10 : Int) (a0_11 : Int) (a0_12 : Int) (a0_13 : Int) (a0_14 : Int) (a0_15 : Int) (a0_16 : Int) : Option (Bool) := lanternref05_Mapped.l0 k 0 a0_0 a0_1 a0_2 a0_3 a0_4 a0_5 a0_6 a0_7 a0_8 a0_9 a0_10 a0_11 a0_12 a0_13 a0_14 a0_15 a0_16
theorem lanternref05_Mapped.mono_l : ∀ k, (∀ y0 y1 y2 y3 y4 y5 y6 y7 y8 y9 y10 y11 y12 y13 y14 y15 y16 y17, LeO (lanternref05_Mapped.l0 k y0 y1 y2 y3 y4 y5 y6 y7 y8 y9 y10 y11 y12 y13 y14 y15 y16 y17) (lanternref05_Mapped.l0 (k + 1) y0 y1 y2 y3 y4 y5 y6 y7 y8 y9 y10 y11 y12 y13 y14 y15 y16 y17))
 | 0 => fun _ _ _ _ _ _ _ _ _ _ _ _ _ _ _ _ _ _ r h => by simp [lanternref05_Mapped.l0] at h
 | k + 1 => by
  have ih0 := lanternref05_Mapped.mono_l k
  ·intro y0 y1 y2 y3 y4 y5 y6 y7 y8 y9 y10 y11 y12 y13 y14 y15 y16 y17
   unfold lanternref05_Mapped.l0
   repeat' first
   | (with_reducible exact ih0 _ _ _ _ _ _ _ _ _ _ _ _ _ _ _ _ _ _)
   | (with_reducible exact LeO.refl _)
   | (with_reducible exact LeO.none _)
   | (with_reducible refine LeO.ite ?_ ?_)
   | (with_reducible refine LeO.bind ?_ (fun _ => ?_))
   | exact ih0 _ _ _ _ _ _ _ _ _ _ _ _ _ _ _ _ _ _
   | exact LeO.none _
   | refine LeO.ite ?_ ?_
   | refine LeO.bind ?_ (fun _ => ?_)
theorem lanternref05_Mapped.mono : ∀ a0 a1 a2 a3 a4 a5 a6 a7 a8 a9 a10 a11 a12 a13 a14 a15 a16 k, LeO (lanternref05_Mapped.f k a0 a1 a2 a3 a4 a5 a6 a7 a8 a9 a10 a11 a12 a13 a14 a15 a16) (lanternref05_Mapped.f (k + 1) a0 a1 a2 a3 a4 a5 a6 a7 a8 a9 a10 a11 a12 a13 a14 a15 a16) := by
 intro a0 a1 a2 a3 a4 a5 a6 a7 a8 a9 a10 a11 a12 a13 a14 a15 a16 k
 have ih0 := lanternref05_Mapped.mono_l k
 unfold lanternref05_Mapped.f
 repeat' first
   | (with_reducible exact ih0 _ _ _ _ _ _ _ _ _ _ _ _ _ _ _ _ _ _)
   | (with_reducible exact LeO.refl _)
   | (with_reducible exact LeO.none _)
   | (with_reducible refine LeO.ite ?_ ?_)
   | (with_reducible refine LeO.bind ?_ (fun _ => ?_))
   | exact ih0 _ _ _ _ _ _ _ _ _ _ _ _ _ _ _ _ _ _
   | exact LeO.none _
   | refine LeO.ite ?_ ?_
   | refine LeO.bind ?_ (fun _ => ?_)
def lanternref05_digits.f : Nat → Int → Int → Option (ByteArray)
 | 0, _, _ => none
 | k + 1, a0, a1 => if a1 = 0 then (none) else (if 0 ≤ (Int.tmod a0 a1) then (if (Int.tmod a0 a1) ≤ (wrap64 ((Int.tmod a0 a1) + 1)) then (if (wrap64 ((Int.tmod a0 a1) + 1)) ≤ 16 then (if a0 < a1 then (some ((⟨#[48, 49, 50, 51, 52, 53, 54, 55, 56, 57, 97, 98, 99, 100, 101, 102]⟩ : ByteArray).extract ((Int.tmod a0 a1) : Int).toNat ((wrap64 ((Int.tmod a0 a1) + 1)) : Int).toNat)) else ((lanternref05_digits.f k (wrap64 (Int.tdiv a0 a1)) a1).bind fun t431 => (if t431.size + ((⟨#[48, 49, 50, 51, 52, 53, 54, 55, 56, 57, 97, 98, 99, 100, 101, 102]⟩ : ByteArray).extract ((Int.tmod a0 a1) : Int).toNat ((wrap64 ((Int.tmod a0 a1) + 1)) : Int).toNat).size ≤ 9223372036854775807 then (some (t431 ++ ((⟨#[48, 49, 50, 51, 52, 53, 54, 55, 56, 57, 97, 98, 99, 100, 101, 102]⟩ : ByteArray).extract ((Int.tmod a0 a1) : Int).toNat ((wrap64 ((Int.tmod a0 a1) + 1)) : Int).toNat))) else (none)))) else (none)) else (none)) else (none))
theorem lanternref05_digits.mono_l : ∀ k, (∀ y0 y1, LeO (lanternref05_digits.f k y0 y1) (lanternref05_digits.f (k + 1) y0 y1))
 | 0 => fun _ _ r h => by simp [lanternref05_digits.f] at h
 | k + 1 => by
  have ih0 := lanternref05_digits.mono_l k
  ·intro y0 y1
   unfold lanternref05_digits.f
   repeat' first
   | (with_reducible exact ih0 _ _)
   | (with_reducible exact LeO.refl _)
   | (with_reducible exact LeO.none _)
   | (with_reducible refine LeO.ite ?_ ?_)
   | (with_reducible refine LeO.bind ?_ (fun _ => ?_))
   | exact ih0 _ _
   | exact LeO.none _
   | refine LeO.ite ?_ ?_
   | refine LeO.bind ?_ (fun _ => ?_)
theorem lanternref05_digits.mono : ∀ a0 a1 k, LeO (lanternref05_digits.f k a0 a1) (lanternref05_digits.f (k + 1) a0 a1) := by
 intro a0 a1 k
 have ih0 := lanternref05_digits.mono_l k
 exact ih0 a0 a1
def lanternref05_dots.l0 : Nat → ByteArray → Int → Bool → Int → Int → Int → Int → Int → Int → Int → Int → Int → Int → Int → Int → Int → Int → Int → Int → Option (ByteArray)
 | 0, _, _, _, _, _, _, _, _, _, _, _, _, _, _, _, _, _, _, _ => none
 | k + 1, x3, x4, x433000, x433001, x433002, x433003, x433004, x433005, x433006, x433007, x433008, x433009, x433010, x433011, x433012, x433013, x433014, x433015, x433016 => if x4 < 16 then (if x4 > 12 then (if x3.size + 1 ≤ 9223372036854775807 then (if 0 ≤ x4 then ((lanternref05_digits.f k (wrap64 (rd [x433001, x433002, x433003, x433004, x433005, x433006, x433007, x433008, x433009, x433010, x433011, x433012, x433013, x433014, x433015, x433016] x4)) 10).bind fun t434 => (if (x3 ++ (⟨#[46]⟩ : ByteArray)).size + t434.size ≤ 9223372036854775807 then (lanternref05_dots.l0 k ((x3 ++ (⟨#[46]⟩ : ByteArray)) ++ t434) (wrap64 (x4 + 1)) x433000 x433001 x433002 x433003 x433004 x433005 x433006 x433007 x433008 x433009 x433010 x433011 x433012 x433013 x433014 x433015 x433016) else (none))) else (none)) else (none)) else (if 0 ≤ x4 then ((lanternref05_digits.f k (wrap64 (rd [x433001, x433002, x433003, x433004, x433005, x433006, x433007, x433008, x433009, x433010, x433011, x433012, x433013, x433014, x433015, x433016] x4)) 10).bind fun t436 => (if x3.size + t436.size ≤ 9223372036854775807 then (lanternref05_dots.l0 k (x3 ++ t436) (wrap64 (x4 + 1)) x433000 x433001 x433002 x433003 x433004 x433005 x433006 x433007 x433008 x433009 x433010 x433011 x433012 x433013 x433014 x433015 x433016) else (none))) else (none))) else (some x3)
def lanternref05_dots.f (k : Nat) (a0_0 : Bool) (a0_1 : Int) (a0_2 : Int) (a0_3 : Int) (a0_4 : Int) (a0_5 : Int) (a0_6 : Int) (a0_7 : Int) (a0_8 : Int) (a0_9 : Int) (a0_10 : Int) (a0_11 : Int) (a0_12 : Int) (a0_13 : Int) (a0_14 : Int) (a0_15 : Int) (a0_16 : Int) : Option (ByteArray) := lanternref05_dots.l0 k (⟨#[]⟩ : ByteArray) 12 a0_0 a0_1 a0_2 a0_3 a0_4 a0_5 a0_6 a0_7 a0_8 a0_9 a0_10 a0_11 a0_12 a0_13 a0_14 a0_15 a0_16
theorem lanternref05_dots.mono_l : ∀ k, (∀ y0 y1 y2 y3 y4 y5 y6 y7 y8 y9 y10 y11 y12 y13 y14 y15 y16 y17 y18, LeO (lanternref05_dots.l0 k y0 y1 y2 y3 y4 y5 y6 y7 y8 y9 y10 y11 y12 y13 y14 y15 y16 y17 y18) (lanternref05_dots.l0 (k + 1) y0 y1 y2 y3 y4 y5 y6 y7 y8 y9 y10 y11 y12 y13 y14 y15 y16 y17 y18))
 | 0 => fun _ _ _ _ _ _ _ _ _ _ _ _ _ _ _ _ _ _ _ r h => by simp [lanternref05_dots.l0] at h
 | k + 1 => by
  have ih0 := lanternref05_dots.mono_l k
  ·intro y0 y1 y2 y3 y4 y5 y6 y7 y8 y9 y10 y11 y12 y13 y14 y15 y16 y17 y18
   unfold lanternref05_dots.l0
   repeat' first
   | (with_reducible exact ih0 _ _ _ _ _ _ _ _ _ _ _ _ _ _ _ _ _ _ _)
   | (with_reducible exact lanternref05_digits.mono _ _ _)
   | (with_reducible exact LeO.refl _)
   | (with_reducible exact LeO.none _)
   | (with_reducible refine LeO.ite ?_ ?_)
   | (with_reducible refine LeO.bind ?_ (fun _ => ?_))
   | exact ih0 _ _ _ _ _ _ _ _ _ _ _ _ _ _ _ _ _ _ _
   | exact lanternref05_digits.mono _ _ _
   | exact LeO.none _
   | refine LeO.ite ?_ ?_
   | refine LeO.bind ?_ (fun _ => ?_)
theorem lanternref05_dots.mono : ∀ a0 a1 a2 a3 a4 a5 a6 a7 a8 a9 a10 a11 a12 a13 a14 a15 a16 k, LeO (lanternref05_dots.f k a0 a1 a2 a3 a4 a5 a6 a7 a8 a9 a10 a11 a12 a13 a14 a15 a16) (lanternref05_dots.f (k + 1) a0 a1 a2 a3 a4 a5 a6 a7 a8 a9 a10 a11 a12 a13 a14 a15 a16) := by
 intro a0 a1 a2 a3 a4 a5 a6 a7 a8 a9 a10 a11 a12 a13 a14 a15 a16 k
 have ih0 := lanternref05_dots.mono_l k
 unfold lanternref05_dots.f
 repeat' first
   | (with_reducible exact ih0 _ _ _ _ _ _ _ _ _ _ _ _ _ _ _ _ _ _ _)
   | (with_reducible exact lanternref05_digits.mono _ _ _)
   | (with_reducible exact LeO.refl _)
   | (with_reducible exact LeO.none _)
   | (with_reducible refine LeO.ite ?_ ?_)
   | (with_reducible refine LeO.bind ?_ (fun _ => ?_))
   | exact ih0 _ _ _ _ _ _ _ _ _ _ _ _ _ _ _ _ _ _ _
   | exact lanternref05_digits.mono _ _ _
   | exact LeO.none _
   | refine LeO.ite ?_ ?_
   | refine LeO.bind ?_ (fun _ => ?_)
end Go.Proofs.YtfiefecjcmcejaaDoor.P
