-- Written by a program of this session (wip/gen/lprint.py over the kit's print.py) out of the translation. Lean checks it.
import Derived.Test.YtdopafhppaalfaaDoorProg
import Derived.Below
import Derived.Deep.Draws
import Derived.Deep.AppendLies
import Derived.Maps.AppendAt
import Derived.OwnWalk
import Derived.Laws.BytesArg
import Derived.Laws.MakeOwn
import Derived.Laws.OwnMore
import Derived.Deep.OwnRows
import Derived.Tactics
import Derived.Lib.ConvBytes
import Derived.Laws.Slices
import Derived.WalkKit
import Derived.KernelRfl
import Derived.RowKit3
import Derived.Deep.LoopGhost
import Derived.Deep.QuietTactic
import Derived.BigQuiet
import Derived.WideLaws
import Derived.Deep.DeepCutAuto
import Derived.Deep.CutBlock
import Derived.Deep.RegionHeld3
import Derived.Laws.Rows
import Derived.Lib.AppendStr
import Derived.ArgAppend
import Derived.Laws.IdiomCopy
import Derived.OrdersHeld
import Derived.Laws.BitsLemmas
import Derived.RowKit
import Derived.Test.YtdopafhppaalfaaDoorAR
import Derived.Test.YtdopafhppaalfaaDoorP0
import Derived.Test.YtdopafhppaalfaaDoorP1
import Derived.Test.YtdopafhppaalfaaDoorP2
import Derived.Test.YtdopafhppaalfaaDoorP3
import Derived.Test.YtdopafhppaalfaaDoorP4
import Derived.Test.YtdopafhppaalfaaDoorP5
import Derived.Test.YtdopafhppaalfaaDoorP6
import Derived.Test.YtdopafhppaalfaaDoorP7
import Derived.Test.YtdopafhppaalfaaDoorP8
import Derived.Test.YtdopafhppaalfaaDoorP9
import Derived.Test.YtdopafhppaalfaaDoorP10
import Derived.Test.YtdopafhppaalfaaDoorM2
import Derived.Test.YtdopafhppaalfaaDoorG0
import Derived.Test.YtdopafhppaalfaaDoorZ
import Derived.Test.YtdopafhppaalfaaDoorG2
import Derived.Test.YtdopafhppaalfaaDoorG3
import Derived.Test.YtdopafhppaalfaaDoorG4
import Derived.Test.YtdopafhppaalfaaDoorG5
import Derived.Test.YtdopafhppaalfaaDoorM7
import Derived.Test.YtdopafhppaalfaaDoorWWords
import Derived.Test.YtdopafhppaalfaaDoorWLast
import Derived.Test.YtdopafhppaalfaaDoorWTab
import Derived.Test.YtdopafhppaalfaaDoorWApart
import Derived.Test.YtdopafhppaalfaaDoorWFoot
import Derived.Test.YtdopafhppaalfaaDoorWKept
import Derived.Test.YtdopafhppaalfaaDoorWShare
import Derived.Test.YtdopafhppaalfaaDoorWN
import Derived.Test.YtdopafhppaalfaaDoorWEqStruct
import Derived.Test.YtdopafhppaalfaaDoorWRepsOne
import Derived.Test.YtdopafhppaalfaaDoorWGuard
import Derived.Test.YtdopafhppaalfaaDoorWMore
import Derived.Test.YtdopafhppaalfaaDoorL1
namespace Go.Proofs.YtdopafhppaalfaaDoor.L
open Go.Proofs.YtdopafhppaalfaaDoorZ
open Go.Proofs.YtdopafhppaalfaaDoor.E Go.Proofs.YtdopafhppaalfaaDoorV
open Go.Proofs.YtdopafhppaalfaaDoor.P
open Go.Proofs.YtdopafhppaalfaaDoor.G
open Go.RowKit Go.Proofs.YtdopafhppaalfaaDoorW.PrintWords Go.Proofs.YtdopafhppaalfaaDoorW.PrintLast Go.Proofs.YtdopafhppaalfaaDoorW.PrintMore
attribute [local go_sem] max2_int min2_int max_two min_two max_three min_three max_four min_four   -- for this text's walks alone
set_option linter.unusedVariables false
set_option linter.unusedSimpArgs false

mutual
def lanternlaw06_CidrHas.j0 : Nat → Bool → Bool → Bool → Bool → Int → Int → Int → Int → Int → Int → Int → Int → Int → Int → Int → Int → Int → Int → Int → Int → Int → Bool → Int → Int → Int → Int → Int → Int → Int → Int → Int → Int → Int → Int → Int → Int → Int → Int → Int → Bool → Int → Int → Int → Int → Int → Int → Int → Int → Int → Int → Int → Int → Int → Int → Int → Int → Option (Bool)
 | 0, _, _, _, _, _, _, _, _, _, _, _, _, _, _, _, _, _, _, _, _, _, _, _, _, _, _, _, _, _, _, _, _, _, _, _, _, _, _, _, _, _, _, _, _, _, _, _, _, _, _, _, _, _, _, _, _ => none
 | k + 1, x7, x8, x27, x145000, x145001, x145002, x145003, x145004, x145005, x145006, x145007, x145008, x145009, x145010, x145011, x145012, x145013, x145014, x145015, x145016, x145017, x146000, x146001, x146002, x146003, x146004, x146005, x146006, x146007, x146008, x146009, x146010, x146011, x146012, x146013, x146014, x146015, x146016, x146017, x147000, x147001, x147002, x147003, x147004, x147005, x147006, x147007, x147008, x147009, x147010, x147011, x147012, x147013, x147014, x147015, x147016 => if x27 = true then (none) else (if x7 = true then (if x8 = true then (if x145017 ≤ x146017 then ((lanternref06_Has.f k x145000 x145001 x145002 x145003 x145004 x145005 x145006 x145007 x145008 x145009 x145010 x145011 x145012 x145013 x145014 x145015 x145016 x145017 x146000 x146001 x146002 x146003 x146004 x146005 x146006 x146007 x146008 x146009 x146010 x146011 x146012 x146013 x146014 x146015 x146016).bind fun t152 => (if t152 = true then (lanternlaw06_CidrHas.j1 k true x145000 x145001 x145002 x145003 x145004 x145005 x145006 x145007 x145008 x145009 x145010 x145011 x145012 x145013 x145014 x145015 x145016 x145017 x146000 x146001 x146002 x146003 x146004 x146005 x146006 x146007 x146008 x146009 x146010 x146011 x146012 x146013 x146014 x146015 x146016 x146017 x147000 x147001 x147002 x147003 x147004 x147005 x147006 x147007 x147008 x147009 x147010 x147011 x147012 x147013 x147014 x147015 x147016) else (if x146017 ≤ x145017 then ((lanternref06_Has.f k x146000 x146001 x146002 x146003 x146004 x146005 x146006 x146007 x146008 x146009 x146010 x146011 x146012 x146013 x146014 x146015 x146016 x146017 x145000 x145001 x145002 x145003 x145004 x145005 x145006 x145007 x145008 x145009 x145010 x145011 x145012 x145013 x145014 x145015 x145016).bind fun t153 => (lanternlaw06_CidrHas.j1 k t153 x145000 x145001 x145002 x145003 x145004 x145005 x145006 x145007 x145008 x145009 x145010 x145011 x145012 x145013 x145014 x145015 x145016 x145017 x146000 x146001 x146002 x146003 x146004 x146005 x146006 x146007 x146008 x146009 x146010 x146011 x146012 x146013 x146014 x146015 x146016 x146017 x147000 x147001 x147002 x147003 x147004 x147005 x147006 x147007 x147008 x147009 x147010 x147011 x147012 x147013 x147014 x147015 x147016)) else (lanternlaw06_CidrHas.j1 k false x145000 x145001 x145002 x145003 x145004 x145005 x145006 x145007 x145008 x145009 x145010 x145011 x145012 x145013 x145014 x145015 x145016 x145017 x146000 x146001 x146002 x146003 x146004 x146005 x146006 x146007 x146008 x146009 x146010 x146011 x146012 x146013 x146014 x146015 x146016 x146017 x147000 x147001 x147002 x147003 x147004 x147005 x147006 x147007 x147008 x147009 x147010 x147011 x147012 x147013 x147014 x147015 x147016)))) else (if x146017 ≤ x145017 then ((lanternref06_Has.f k x146000 x146001 x146002 x146003 x146004 x146005 x146006 x146007 x146008 x146009 x146010 x146011 x146012 x146013 x146014 x146015 x146016 x146017 x145000 x145001 x145002 x145003 x145004 x145005 x145006 x145007 x145008 x145009 x145010 x145011 x145012 x145013 x145014 x145015 x145016).bind fun t154 => (lanternlaw06_CidrHas.j1 k t154 x145000 x145001 x145002 x145003 x145004 x145005 x145006 x145007 x145008 x145009 x145010 x145011 x145012 x145013 x145014 x145015 x145016 x145017 x146000 x146001 x146002 x146003 x146004 x146005 x146006 x146007 x146008 x146009 x146010 x146011 x146012 x146013 x146014 x146015 x146016 x146017 x147000 x147001 x147002 x147003 x147004 x147005 x147006 x147007 x147008 x147009 x147010 x147011 x147012 x147013 x147014 x147015 x147016)) else (lanternlaw06_CidrHas.j1 k false x145000 x145001 x145002 x145003 x145004 x145005 x145006 x145007 x145008 x145009 x145010 x145011 x145012 x145013 x145014 x145015 x145016 x145017 x146000 x146001 x146002 x146003 x146004 x146005 x146006 x146007 x146008 x146009 x146010 x146011 x146012 x146013 x146014 x146015 x146016 x146017 x147000 x147001 x147002 x147003 x147004 x147005 x147006 x147007 x147008 x147009 x147010 x147011 x147012 x147013 x147014 x147015 x147016))) else (lanternlaw06_CidrHas.j1 k false x145000 x145001 x145002 x145003 x145004 x145005 x145006 x145007 x145008 x145009 x145010 x145011 x145012 x145013 x145014 x145015 x145016 x145017 x146000 x146001 x146002 x146003 x146004 x146005 x146006 x146007 x146008 x146009 x146010 x146011 x146012 x146013 x146014 x146015 x146016 x146017 x147000 x147001 x147002 x147003 x147004 x147005 x147006 x147007 x147008 x147009 x147010 x147011 x147012 x147013 x147014 x147015 x147016)) else (lanternlaw06_CidrHas.j1 k false x145000 x145001 x145002 x145003 x145004 x145005 x145006 x145007 x145008 x145009 x145010 x145011 x145012 x145013 x145014 x145015 x145016 x145017 x146000 x146001 x146002 x146003 x146004 x146005 x146006 x146007 x146008 x146009 x146010 x146011 x146012 x146013 x146014 x146015 x146016 x146017 x147000 x147001 x147002 x147003 x147004 x147005 x147006 x147007 x147008 x147009 x147010 x147011 x147012 x147013 x147014 x147015 x147016))
def lanternlaw06_CidrHas.j1 : Nat → Bool → Bool → Int → Int → Int → Int → Int → Int → Int → Int → Int → Int → Int → Int → Int → Int → Int → Int → Int → Bool → Int → Int → Int → Int → Int → Int → Int → Int → Int → Int → Int → Int → Int → Int → Int → Int → Int → Bool → Int → Int → Int → Int → Int → Int → Int → Int → Int → Int → Int → Int → Int → Int → Int → Int → Option (Bool)
 | 0, _, _, _, _, _, _, _, _, _, _, _, _, _, _, _, _, _, _, _, _, _, _, _, _, _, _, _, _, _, _, _, _, _, _, _, _, _, _, _, _, _, _, _, _, _, _, _, _, _, _, _, _, _, _ => none
 | k + 1, x9, x145000, x145001, x145002, x145003, x145004, x145005, x145006, x145007, x145008, x145009, x145010, x145011, x145012, x145013, x145014, x145015, x145016, x145017, x146000, x146001, x146002, x146003, x146004, x146005, x146006, x146007, x146008, x146009, x146010, x146011, x146012, x146013, x146014, x146015, x146016, x146017, x147000, x147001, x147002, x147003, x147004, x147005, x147006, x147007, x147008, x147009, x147010, x147011, x147012, x147013, x147014, x147015, x147016 => (cidr_Meet.f x145000 x145001 x145002 x145003 x145004 x145005 x145006 x145007 x145008 x145009 x145010 x145011 x145012 x145013 x145014 x145015 x145016 x145017 x146000 x146001 x146002 x146003 x146004 x146005 x146006 x146007 x146008 x146009 x146010 x146011 x146012 x146013 x146014 x146015 x146016 x146017).bind fun t155 => (if (t155 != x9) = true then (none) else ((cidr_Meet.f x146000 x146001 x146002 x146003 x146004 x146005 x146006 x146007 x146008 x146009 x146010 x146011 x146012 x146013 x146014 x146015 x146016 x146017 x145000 x145001 x145002 x145003 x145004 x145005 x145006 x145007 x145008 x145009 x145010 x145011 x145012 x145013 x145014 x145015 x145016 x145017).bind fun t156 => (if (t156 != x9) = true then (some false) else ((cidr_Has.f x145000 x145001 x145002 x145003 x145004 x145005 x145006 x145007 x145008 x145009 x145010 x145011 x145012 x145013 x145014 x145015 x145016 x145017 x147000 x147001 x147002 x147003 x147004 x147005 x147006 x147007 x147008 x147009 x147010 x147011 x147012 x147013 x147014 x147015 x147016).bind fun t157 => (if t157 = true then ((cidr_Has.f x146000 x146001 x146002 x146003 x146004 x146005 x146006 x146007 x146008 x146009 x146010 x146011 x146012 x146013 x146014 x146015 x146016 x146017 x147000 x147001 x147002 x147003 x147004 x147005 x147006 x147007 x147008 x147009 x147010 x147011 x147012 x147013 x147014 x147015 x147016).bind fun t158 => (if t158 = true then (if x9 = true then ((lanternlaw06_awake.f k).bind fun t159 => (some t159)) else (none)) else ((lanternlaw06_awake.f k).bind fun t160 => (some t160)))) else ((lanternlaw06_awake.f k).bind fun t161 => (some t161)))))))
end
def lanternlaw06_CidrHas.f (k : Nat) (a0_0 : Bool) (a0_1 : Int) (a0_2 : Int) (a0_3 : Int) (a0_4 : Int) (a0_5 : Int) (a0_6 : Int) (a0_7 : Int) (a0_8 : Int) (a0_9 : Int) (a0_10 : Int) (a0_11 : Int) (a0_12 : Int) (a0_13 : Int) (a0_14 : Int) (a0_15 : Int) (a0_16 : Int) (a0_17 : Int) (a1_0 : Bool) (a1_1 : Int) (a1_2 : Int) (a1_3 : Int) (a1_4 : Int) (a1_5 : Int) (a1_6 : Int) (a1_7 : Int) (a1_8 : Int) (a1_9 : Int) (a1_10 : Int) (a1_11 : Int) (a1_12 : Int) (a1_13 : Int) (a1_14 : Int) (a1_15 : Int) (a1_16 : Int) (a1_17 : Int) (a2_0 : Bool) (a2_1 : Int) (a2_2 : Int) (a2_3 : Int) (a2_4 : Int) (a2_5 : Int) (a2_6 : Int) (a2_7 : Int) (a2_8 : Int) (a2_9 : Int) (a2_10 : Int) (a2_11 : Int) (a2_12 : Int) (a2_13 : Int) (a2_14 : Int) (a2_15 : Int) (a2_16 : Int) : Option (Bool) := (lanternref06_May.f k a0_0 a0_1 a0_2 a0_3 a0_4 a0_5 a0_6 a0_7 a0_8 a0_9 a0_10 a0_11 a0_12 a0_13 a0_14 a0_15 a0_16 a0_17).bind fun t147 => ((lanternref06_May.f k a1_0 a1_1 a1_2 a1_3 a1_4 a1_5 a1_6 a1_7 a1_8 a1_9 a1_10 a1_11 a1_12 a1_13 a1_14 a1_15 a1_16 a1_17).bind fun t148 => ((cidr_Has.f a0_0 a0_1 a0_2 a0_3 a0_4 a0_5 a0_6 a0_7 a0_8 a0_9 a0_10 a0_11 a0_12 a0_13 a0_14 a0_15 a0_16 a0_17 a2_0 a2_1 a2_2 a2_3 a2_4 a2_5 a2_6 a2_7 a2_8 a2_9 a2_10 a2_11 a2_12 a2_13 a2_14 a2_15 a2_16).bind fun t149 => (if t147 = true then ((lanternref05_May.f k a2_0 a2_1 a2_2 a2_3 a2_4 a2_5 a2_6 a2_7 a2_8 a2_9 a2_10 a2_11 a2_12 a2_13 a2_14 a2_15 a2_16).bind fun t150 => (if t150 = true then ((lanternref06_Has.f k a0_0 a0_1 a0_2 a0_3 a0_4 a0_5 a0_6 a0_7 a0_8 a0_9 a0_10 a0_11 a0_12 a0_13 a0_14 a0_15 a0_16 a0_17 a2_0 a2_1 a2_2 a2_3 a2_4 a2_5 a2_6 a2_7 a2_8 a2_9 a2_10 a2_11 a2_12 a2_13 a2_14 a2_15 a2_16).bind fun t151 => (lanternlaw06_CidrHas.j0 k t147 t148 (t149 != t151) a0_0 a0_1 a0_2 a0_3 a0_4 a0_5 a0_6 a0_7 a0_8 a0_9 a0_10 a0_11 a0_12 a0_13 a0_14 a0_15 a0_16 a0_17 a1_0 a1_1 a1_2 a1_3 a1_4 a1_5 a1_6 a1_7 a1_8 a1_9 a1_10 a1_11 a1_12 a1_13 a1_14 a1_15 a1_16 a1_17 a2_0 a2_1 a2_2 a2_3 a2_4 a2_5 a2_6 a2_7 a2_8 a2_9 a2_10 a2_11 a2_12 a2_13 a2_14 a2_15 a2_16)) else (lanternlaw06_CidrHas.j0 k t147 t148 (t149 != false) a0_0 a0_1 a0_2 a0_3 a0_4 a0_5 a0_6 a0_7 a0_8 a0_9 a0_10 a0_11 a0_12 a0_13 a0_14 a0_15 a0_16 a0_17 a1_0 a1_1 a1_2 a1_3 a1_4 a1_5 a1_6 a1_7 a1_8 a1_9 a1_10 a1_11 a1_12 a1_13 a1_14 a1_15 a1_16 a1_17 a2_0 a2_1 a2_2 a2_3 a2_4 a2_5 a2_6 a2_7 a2_8 a2_9 a2_10 a2_11 a2_12 a2_13 a2_14 a2_15 a2_16))) else (lanternlaw06_CidrHas.j0 k t147 t148 (t149 != false) a0_0 a0_1 a0_2 a0_3 a0_4 a0_5 a0_6 a0_7 a0_8 a0_9 a0_10 a0_11 a0_12 a0_13 a0_14 a0_15 a0_16 a0_17 a1_0 a1_1 a1_2 a1_3 a1_4 a1_5 a1_6 a1_7 a1_8 a1_9 a1_10 a1_11 a1_12 a1_13 a1_14 a1_15 a1_16 a1_17 a2_0 a2_1 a2_2 a2_3 a2_4 a2_5 a2_6 a2_7 a2_8 a2_9 a2_10 a2_11 a2_12 a2_13 a2_14 a2_15 a2_16))))
theorem lanternlaw06_CidrHas.mono_l : ∀ k, (∀ y0 y1 y2 y3 y4 y5 y6 y7 y8 y9 y10 y11 y12 y13 y14 y15 y16 y17 y18 y19 y20 y21 y22 y23 y24 y25 y26 y27 y28 y29 y30 y31 y32 y33 y34 y35 y36 y37 y38 y39 y40 y41 y42 y43 y44 y45 y46 y47 y48 y49 y50 y51 y52 y53 y54 y55, LeO (lanternlaw06_CidrHas.j0 k y0 y1 y2 y3 y4 y5 y6 y7 y8 y9 y10 y11 y12 y13 y14 y15 y16 y17 y18 y19 y20 y21 y22 y23 y24 y25 y26 y27 y28 y29 y30 y31 y32 y33 y34 y35 y36 y37 y38 y39 y40 y41 y42 y43 y44 y45 y46 y47 y48 y49 y50 y51 y52 y53 y54 y55) (lanternlaw06_CidrHas.j0 (k + 1) y0 y1 y2 y3 y4 y5 y6 y7 y8 y9 y10 y11 y12 y13 y14 y15 y16 y17 y18 y19 y20 y21 y22 y23 y24 y25 y26 y27 y28 y29 y30 y31 y32 y33 y34 y35 y36 y37 y38 y39 y40 y41 y42 y43 y44 y45 y46 y47 y48 y49 y50 y51 y52 y53 y54 y55)) ∧ (∀ y0 y1 y2 y3 y4 y5 y6 y7 y8 y9 y10 y11 y12 y13 y14 y15 y16 y17 y18 y19 y20 y21 y22 y23 y24 y25 y26 y27 y28 y29 y30 y31 y32 y33 y34 y35 y36 y37 y38 y39 y40 y41 y42 y43 y44 y45 y46 y47 y48 y49 y50 y51 y52 y53, LeO (lanternlaw06_CidrHas.j1 k y0 y1 y2 y3 y4 y5 y6 y7 y8 y9 y10 y11 y12 y13 y14 y15 y16 y17 y18 y19 y20 y21 y22 y23 y24 y25 y26 y27 y28 y29 y30 y31 y32 y33 y34 y35 y36 y37 y38 y39 y40 y41 y42 y43 y44 y45 y46 y47 y48 y49 y50 y51 y52 y53) (lanternlaw06_CidrHas.j1 (k + 1) y0 y1 y2 y3 y4 y5 y6 y7 y8 y9 y10 y11 y12 y13 y14 y15 y16 y17 y18 y19 y20 y21 y22 y23 y24 y25 y26 y27 y28 y29 y30 y31 y32 y33 y34 y35 y36 y37 y38 y39 y40 y41 y42 y43 y44 y45 y46 y47 y48 y49 y50 y51 y52 y53))
 | 0 => ⟨fun _ _ _ _ _ _ _ _ _ _ _ _ _ _ _ _ _ _ _ _ _ _ _ _ _ _ _ _ _ _ _ _ _ _ _ _ _ _ _ _ _ _ _ _ _ _ _ _ _ _ _ _ _ _ _ _ r h => by simp [lanternlaw06_CidrHas.j0] at h, fun _ _ _ _ _ _ _ _ _ _ _ _ _ _ _ _ _ _ _ _ _ _ _ _ _ _ _ _ _ _ _ _ _ _ _ _ _ _ _ _ _ _ _ _ _ _ _ _ _ _ _ _ _ _ r h => by simp [lanternlaw06_CidrHas.j1] at h⟩
 | k + 1 => by
  obtain ⟨ih0, ih1⟩ := lanternlaw06_CidrHas.mono_l k
  refine ⟨?_, ?_⟩
  ·intro y0 y1 y2 y3 y4 y5 y6 y7 y8 y9 y10 y11 y12 y13 y14 y15 y16 y17 y18 y19 y20 y21 y22 y23 y24 y25 y26 y27 y28 y29 y30 y31 y32 y33 y34 y35 y36 y37 y38 y39 y40 y41 y42 y43 y44 y45 y46 y47 y48 y49 y50 y51 y52 y53 y54 y55
   unfold lanternlaw06_CidrHas.j0
   repeat' first
   | (with_reducible exact ih0 _ _ _ _ _ _ _ _ _ _ _ _ _ _ _ _ _ _ _ _ _ _ _ _ _ _ _ _ _ _ _ _ _ _ _ _ _ _ _ _ _ _ _ _ _ _ _ _ _ _ _ _ _ _ _ _)
   | (with_reducible exact ih1 _ _ _ _ _ _ _ _ _ _ _ _ _ _ _ _ _ _ _ _ _ _ _ _ _ _ _ _ _ _ _ _ _ _ _ _ _ _ _ _ _ _ _ _ _ _ _ _ _ _ _ _ _ _)
   | (with_reducible exact lanternlaw06_awake.mono _)
   | (with_reducible exact lanternref05_May.mono _ _ _ _ _ _ _ _ _ _ _ _ _ _ _ _ _ _)
   | (with_reducible exact lanternref06_Has.mono _ _ _ _ _ _ _ _ _ _ _ _ _ _ _ _ _ _ _ _ _ _ _ _ _ _ _ _ _ _ _ _ _ _ _ _)
   | (with_reducible exact lanternref06_May.mono _ _ _ _ _ _ _ _ _ _ _ _ _ _ _ _ _ _ _)
   | (with_reducible exact LeO.refl _)
   | (with_reducible exact LeO.none _)
   | (with_reducible refine LeO.ite ?_ ?_)
   | (with_reducible refine LeO.bind ?_ (fun _ => ?_))
   | exact ih0 _ _ _ _ _ _ _ _ _ _ _ _ _ _ _ _ _ _ _ _ _ _ _ _ _ _ _ _ _ _ _ _ _ _ _ _ _ _ _ _ _ _ _ _ _ _ _ _ _ _ _ _ _ _ _ _
   | exact ih1 _ _ _ _ _ _ _ _ _ _ _ _ _ _ _ _ _ _ _ _ _ _ _ _ _ _ _ _ _ _ _ _ _ _ _ _ _ _ _ _ _ _ _ _ _ _ _ _ _ _ _ _ _ _
   | exact lanternlaw06_awake.mono _
   | exact lanternref05_May.mono _ _ _ _ _ _ _ _ _ _ _ _ _ _ _ _ _ _
   | exact lanternref06_Has.mono _ _ _ _ _ _ _ _ _ _ _ _ _ _ _ _ _ _ _ _ _ _ _ _ _ _ _ _ _ _ _ _ _ _ _ _
   | exact lanternref06_May.mono _ _ _ _ _ _ _ _ _ _ _ _ _ _ _ _ _ _ _
   | exact LeO.none _
   | refine LeO.ite ?_ ?_
   | refine LeO.bind ?_ (fun _ => ?_)
  ·intro y0 y1 y2 y3 y4 y5 y6 y7 y8 y9 y10 y11 y12 y13 y14 y15 y16 y17 y18 y19 y20 y21 y22 y23 y24 y25 y26 y27 y28 y29 y30 y31 y32 y33 y34 y35 y36 y37 y38 y39 y40 y41 y42 y43 y44 y45 y46 y47 y48 y49 y50 y51 y52 y53
   unfold lanternlaw06_CidrHas.j1
   repeat' first
   | (with_reducible exact ih0 _ _ _ _ _ _ _ _ _ _ _ _ _ _ _ _ _ _ _ _ _ _ _ _ _ _ _ _ _ _ _ _ _ _ _ _ _ _ _ _ _ _ _ _ _ _ _ _ _ _ _ _ _ _ _ _)
   | (with_reducible exact ih1 _ _ _ _ _ _ _ _ _ _ _ _ _ _ _ _ _ _ _ _ _ _ _ _ _ _ _ _ _ _ _ _ _ _ _ _ _ _ _ _ _ _ _ _ _ _ _ _ _ _ _ _ _ _)
   | (with_reducible exact lanternlaw06_awake.mono _)
   | (with_reducible exact lanternref05_May.mono _ _ _ _ _ _ _ _ _ _ _ _ _ _ _ _ _ _)
   | (with_reducible exact lanternref06_Has.mono _ _ _ _ _ _ _ _ _ _ _ _ _ _ _ _ _ _ _ _ _ _ _ _ _ _ _ _ _ _ _ _ _ _ _ _)
   | (with_reducible exact lanternref06_May.mono _ _ _ _ _ _ _ _ _ _ _ _ _ _ _ _ _ _ _)
   | (with_reducible exact LeO.refl _)
   | (with_reducible exact LeO.none _)
   | (with_reducible refine LeO.ite ?_ ?_)
   | (with_reducible refine LeO.bind ?_ (fun _ => ?_))
   | exact ih0 _ _ _ _ _ _ _ _ _ _ _ _ _ _ _ _ _ _ _ _ _ _ _ _ _ _ _ _ _ _ _ _ _ _ _ _ _ _ _ _ _ _ _ _ _ _ _ _ _ _ _ _ _ _ _ _
   | exact ih1 _ _ _ _ _ _ _ _ _ _ _ _ _ _ _ _ _ _ _ _ _ _ _ _ _ _ _ _ _ _ _ _ _ _ _ _ _ _ _ _ _ _ _ _ _ _ _ _ _ _ _ _ _ _
   | exact lanternlaw06_awake.mono _
   | exact lanternref05_May.mono _ _ _ _ _ _ _ _ _ _ _ _ _ _ _ _ _ _
   | exact lanternref06_Has.mono _ _ _ _ _ _ _ _ _ _ _ _ _ _ _ _ _ _ _ _ _ _ _ _ _ _ _ _ _ _ _ _ _ _ _ _
   | exact lanternref06_May.mono _ _ _ _ _ _ _ _ _ _ _ _ _ _ _ _ _ _ _
   | exact LeO.none _
   | refine LeO.ite ?_ ?_
   | refine LeO.bind ?_ (fun _ => ?_)
theorem lanternlaw06_CidrHas.mono : ∀ a0 a1 a2 a3 a4 a5 a6 a7 a8 a9 a10 a11 a12 a13 a14 a15 a16 a17 a18 a19 a20 a21 a22 a23 a24 a25 a26 a27 a28 a29 a30 a31 a32 a33 a34 a35 a36 a37 a38 a39 a40 a41 a42 a43 a44 a45 a46 a47 a48 a49 a50 a51 a52 k, LeO (lanternlaw06_CidrHas.f k a0 a1 a2 a3 a4 a5 a6 a7 a8 a9 a10 a11 a12 a13 a14 a15 a16 a17 a18 a19 a20 a21 a22 a23 a24 a25 a26 a27 a28 a29 a30 a31 a32 a33 a34 a35 a36 a37 a38 a39 a40 a41 a42 a43 a44 a45 a46 a47 a48 a49 a50 a51 a52) (lanternlaw06_CidrHas.f (k + 1) a0 a1 a2 a3 a4 a5 a6 a7 a8 a9 a10 a11 a12 a13 a14 a15 a16 a17 a18 a19 a20 a21 a22 a23 a24 a25 a26 a27 a28 a29 a30 a31 a32 a33 a34 a35 a36 a37 a38 a39 a40 a41 a42 a43 a44 a45 a46 a47 a48 a49 a50 a51 a52) := by
 intro a0 a1 a2 a3 a4 a5 a6 a7 a8 a9 a10 a11 a12 a13 a14 a15 a16 a17 a18 a19 a20 a21 a22 a23 a24 a25 a26 a27 a28 a29 a30 a31 a32 a33 a34 a35 a36 a37 a38 a39 a40 a41 a42 a43 a44 a45 a46 a47 a48 a49 a50 a51 a52 k
 obtain ⟨ih0, ih1⟩ := lanternlaw06_CidrHas.mono_l k
 unfold lanternlaw06_CidrHas.f
 repeat' first
   | (with_reducible exact ih0 _ _ _ _ _ _ _ _ _ _ _ _ _ _ _ _ _ _ _ _ _ _ _ _ _ _ _ _ _ _ _ _ _ _ _ _ _ _ _ _ _ _ _ _ _ _ _ _ _ _ _ _ _ _ _ _)
   | (with_reducible exact ih1 _ _ _ _ _ _ _ _ _ _ _ _ _ _ _ _ _ _ _ _ _ _ _ _ _ _ _ _ _ _ _ _ _ _ _ _ _ _ _ _ _ _ _ _ _ _ _ _ _ _ _ _ _ _)
   | (with_reducible exact lanternlaw06_awake.mono _)
   | (with_reducible exact lanternref05_May.mono _ _ _ _ _ _ _ _ _ _ _ _ _ _ _ _ _ _)
   | (with_reducible exact lanternref06_Has.mono _ _ _ _ _ _ _ _ _ _ _ _ _ _ _ _ _ _ _ _ _ _ _ _ _ _ _ _ _ _ _ _ _ _ _ _)
   | (with_reducible exact lanternref06_May.mono _ _ _ _ _ _ _ _ _ _ _ _ _ _ _ _ _ _ _)
   | (with_reducible exact LeO.refl _)
   | (with_reducible exact LeO.none _)
   | (with_reducible refine LeO.ite ?_ ?_)
   | (with_reducible refine LeO.bind ?_ (fun _ => ?_))
   | exact ih0 _ _ _ _ _ _ _ _ _ _ _ _ _ _ _ _ _ _ _ _ _ _ _ _ _ _ _ _ _ _ _ _ _ _ _ _ _ _ _ _ _ _ _ _ _ _ _ _ _ _ _ _ _ _ _ _
   | exact ih1 _ _ _ _ _ _ _ _ _ _ _ _ _ _ _ _ _ _ _ _ _ _ _ _ _ _ _ _ _ _ _ _ _ _ _ _ _ _ _ _ _ _ _ _ _ _ _ _ _ _ _ _ _ _
   | exact lanternlaw06_awake.mono _
   | exact lanternref05_May.mono _ _ _ _ _ _ _ _ _ _ _ _ _ _ _ _ _ _
   | exact lanternref06_Has.mono _ _ _ _ _ _ _ _ _ _ _ _ _ _ _ _ _ _ _ _ _ _ _ _ _ _ _ _ _ _ _ _ _ _ _ _
   | exact lanternref06_May.mono _ _ _ _ _ _ _ _ _ _ _ _ _ _ _ _ _ _ _
   | exact LeO.none _
   | refine LeO.ite ?_ ?_
   | refine LeO.bind ?_ (fun _ => ?_)
set_option maxHeartbeats 8000000 in
set_option maxRecDepth 100000 in
theorem lanternlaw06_CidrHas.calls (k : Nat) (a0_0 : Bool) (a0_1 : Int) (a0_2 : Int) (a0_3 : Int) (a0_4 : Int) (a0_5 : Int) (a0_6 : Int) (a0_7 : Int) (a0_8 : Int) (a0_9 : Int) (a0_10 : Int) (a0_11 : Int) (a0_12 : Int) (a0_13 : Int) (a0_14 : Int) (a0_15 : Int) (a0_16 : Int) (a0_17 : Int) (a1_0 : Bool) (a1_1 : Int) (a1_2 : Int) (a1_3 : Int) (a1_4 : Int) (a1_5 : Int) (a1_6 : Int) (a1_7 : Int) (a1_8 : Int) (a1_9 : Int) (a1_10 : Int) (a1_11 : Int) (a1_12 : Int) (a1_13 : Int) (a1_14 : Int) (a1_15 : Int) (a1_16 : Int) (a1_17 : Int) (a2_0 : Bool) (a2_1 : Int) (a2_2 : Int) (a2_3 : Int) (a2_4 : Int) (a2_5 : Int) (a2_6 : Int) (a2_7 : Int) (a2_8 : Int) (a2_9 : Int) (a2_10 : Int) (a2_11 : Int) (a2_12 : Int) (a2_13 : Int) (a2_14 : Int) (a2_15 : Int) (a2_16 : Int) (r : Bool) (w : World) (hLW : LW w) (h : lanternlaw06_CidrHas.f k a0_0 a0_1 a0_2 a0_3 a0_4 a0_5 a0_6 a0_7 a0_8 a0_9 a0_10 a0_11 a0_12 a0_13 a0_14 a0_15 a0_16 a0_17 a1_0 a1_1 a1_2 a1_3 a1_4 a1_5 a1_6 a1_7 a1_8 a1_9 a1_10 a1_11 a1_12 a1_13 a1_14 a1_15 a1_16 a1_17 a2_0 a2_1 a2_2 a2_3 a2_4 a2_5 a2_6 a2_7 a2_8 a2_9 a2_10 a2_11 a2_12 a2_13 a2_14 a2_15 a2_16 = some r) :
  Calls Tryd.prog 5 #[.agg #[.bool a0_0, .int .u8 a0_1, .int .u8 a0_2, .int .u8 a0_3, .int .u8 a0_4, .int .u8 a0_5, .int .u8 a0_6, .int .u8 a0_7, .int .u8 a0_8, .int .u8 a0_9, .int .u8 a0_10, .int .u8 a0_11, .int .u8 a0_12, .int .u8 a0_13, .int .u8 a0_14, .int .u8 a0_15, .int .u8 a0_16, .int .i64 a0_17], .agg #[.bool a1_0, .int .u8 a1_1, .int .u8 a1_2, .int .u8 a1_3, .int .u8 a1_4, .int .u8 a1_5, .int .u8 a1_6, .int .u8 a1_7, .int .u8 a1_8, .int .u8 a1_9, .int .u8 a1_10, .int .u8 a1_11, .int .u8 a1_12, .int .u8 a1_13, .int .u8 a1_14, .int .u8 a1_15, .int .u8 a1_16, .int .i64 a1_17], .agg #[.bool a2_0, .int .u8 a2_1, .int .u8 a2_2, .int .u8 a2_3, .int .u8 a2_4, .int .u8 a2_5, .int .u8 a2_6, .int .u8 a2_7, .int .u8 a2_8, .int .u8 a2_9, .int .u8 a2_10, .int .u8 a2_11, .int .u8 a2_12, .int .u8 a2_13, .int .u8 a2_14, .int .u8 a2_15, .int .u8 a2_16]] w fun e w' => e = .returned (.bool r) ∧ Below w.heap.size w w' := by
 have hu34 := Tryd.underlying34
 have hu24 := Tryd.underlying24
 have HLW := Aside0.mk hLW
 clear hLW
 have HB := Aside0.mk (Below.refl w.heap.size w)
 have H : ((lanternref06_May.f k a0_0 a0_1 a0_2 a0_3 a0_4 a0_5 a0_6 a0_7 a0_8 a0_9 a0_10 a0_11 a0_12 a0_13 a0_14 a0_15 a0_16 a0_17).bind fun t147 => ((lanternref06_May.f k a1_0 a1_1 a1_2 a1_3 a1_4 a1_5 a1_6 a1_7 a1_8 a1_9 a1_10 a1_11 a1_12 a1_13 a1_14 a1_15 a1_16 a1_17).bind fun t148 => ((cidr_Has.f a0_0 a0_1 a0_2 a0_3 a0_4 a0_5 a0_6 a0_7 a0_8 a0_9 a0_10 a0_11 a0_12 a0_13 a0_14 a0_15 a0_16 a0_17 a2_0 a2_1 a2_2 a2_3 a2_4 a2_5 a2_6 a2_7 a2_8 a2_9 a2_10 a2_11 a2_12 a2_13 a2_14 a2_15 a2_16).bind fun t149 => (if t147 = true then ((lanternref05_May.f k a2_0 a2_1 a2_2 a2_3 a2_4 a2_5 a2_6 a2_7 a2_8 a2_9 a2_10 a2_11 a2_12 a2_13 a2_14 a2_15 a2_16).bind fun t150 => (if t150 = true then ((lanternref06_Has.f k a0_0 a0_1 a0_2 a0_3 a0_4 a0_5 a0_6 a0_7 a0_8 a0_9 a0_10 a0_11 a0_12 a0_13 a0_14 a0_15 a0_16 a0_17 a2_0 a2_1 a2_2 a2_3 a2_4 a2_5 a2_6 a2_7 a2_8 a2_9 a2_10 a2_11 a2_12 a2_13 a2_14 a2_15 a2_16).bind fun t151 => (lanternlaw06_CidrHas.j0 k t147 t148 (t149 != t151) a0_0 a0_1 a0_2 a0_3 a0_4 a0_5 a0_6 a0_7 a0_8 a0_9 a0_10 a0_11 a0_12 a0_13 a0_14 a0_15 a0_16 a0_17 a1_0 a1_1 a1_2 a1_3 a1_4 a1_5 a1_6 a1_7 a1_8 a1_9 a1_10 a1_11 a1_12 a1_13 a1_14 a1_15 a1_16 a1_17 a2_0 a2_1 a2_2 a2_3 a2_4 a2_5 a2_6 a2_7 a2_8 a2_9 a2_10 a2_11 a2_12 a2_13 a2_14 a2_15 a2_16)) else (lanternlaw06_CidrHas.j0 k t147 t148 (t149 != false) a0_0 a0_1 a0_2 a0_3 a0_4 a0_5 a0_6 a0_7 a0_8 a0_9 a0_10 a0_11 a0_12 a0_13 a0_14 a0_15 a0_16 a0_17 a1_0 a1_1 a1_2 a1_3 a1_4 a1_5 a1_6 a1_7 a1_8 a1_9 a1_10 a1_11 a1_12 a1_13 a1_14 a1_15 a1_16 a1_17 a2_0 a2_1 a2_2 a2_3 a2_4 a2_5 a2_6 a2_7 a2_8 a2_9 a2_10 a2_11 a2_12 a2_13 a2_14 a2_15 a2_16))) else (lanternlaw06_CidrHas.j0 k t147 t148 (t149 != false) a0_0 a0_1 a0_2 a0_3 a0_4 a0_5 a0_6 a0_7 a0_8 a0_9 a0_10 a0_11 a0_12 a0_13 a0_14 a0_15 a0_16 a0_17 a1_0 a1_1 a1_2 a1_3 a1_4 a1_5 a1_6 a1_7 a1_8 a1_9 a1_10 a1_11 a1_12 a1_13 a1_14 a1_15 a1_16 a1_17 a2_0 a2_1 a2_2 a2_3 a2_4 a2_5 a2_6 a2_7 a2_8 a2_9 a2_10 a2_11 a2_12 a2_13 a2_14 a2_15 a2_16))))) = some r := h
 clear h
 replace H := Option.bind_eq_some_iff.mp H
 obtain ⟨t147, A40, H⟩ := H
 (try dsimp only at H)
 have A4 := Aside0.mk A40
 clear A40
 replace H := Option.bind_eq_some_iff.mp H
 obtain ⟨t148, A50, H⟩ := H
 (try dsimp only at H)
 have A5 := Aside0.mk A50
 clear A50
 have HC6 := Aside0.mk H
 clear H
 go_enter Tryd.func5, Tryd.ntmps5
 try go_wp2_with (first | ((with_reducible refine gate_dst (N := 3) rfl ?_); refine box_event ?hg (N := 3) ?hd (cs := #[.bool a0_0, .int .u8 a0_1, .int .u8 a0_2, .int .u8 a0_3, .int .u8 a0_4, .int .u8 a0_5, .int .u8 a0_6, .int .u8 a0_7, .int .u8 a0_8, .int .u8 a0_9, .int .u8 a0_10, .int .u8 a0_11, .int .u8 a0_12, .int .u8 a0_13, .int .u8 a0_14, .int .u8 a0_15, .int .u8 a0_16, .int .i64 a0_17]) (t := 34) ?hr ?_; (case hd => rfl); (case hg => rfl); (case hr => first | (go_simp; done) | (go_simp; rfl)); intro gb144 hg w7 hbox hb; have n0_ := Aside0.mk (below_step bq_ hb); have n1_ := Aside0.mk (hbox); have n2_ := Aside0.mk (show w.heap.size ≤ gb144 from ge_ hg); have n3_ := Aside0.mk (show w.heap.size ≤ gb144 from ge_ hg); clear HB; have HB := n0_; have BK144 := n1_; have GW144 := n2_; have GE144 := n3_; clear n0_ n1_ n2_ n3_; clear hb hbox hg) | ((with_reducible refine gate_dst (N := 4) rfl ?_); refine box_event ?hg (N := 4) ?hd (cs := #[.bool a1_0, .int .u8 a1_1, .int .u8 a1_2, .int .u8 a1_3, .int .u8 a1_4, .int .u8 a1_5, .int .u8 a1_6, .int .u8 a1_7, .int .u8 a1_8, .int .u8 a1_9, .int .u8 a1_10, .int .u8 a1_11, .int .u8 a1_12, .int .u8 a1_13, .int .u8 a1_14, .int .u8 a1_15, .int .u8 a1_16, .int .i64 a1_17]) (t := 34) ?hr ?_; (case hd => rfl); (case hg => rfl); (case hr => first | (go_simp; done) | (go_simp; rfl)); intro gb145 hg w8 hbox hb; have n0_ := Aside0.mk (bb_ BK144 hb); have n1_ := Aside0.mk (below_step bg_ hb); have n2_ := Aside0.mk (hbox); have n3_ := Aside0.mk (show w.heap.size ≤ gb145 from gg_ hg); have n4_ := Aside0.mk (show w.heap.size ≤ gb145 from gg_ hg); have n5_ := Aside0.mk (show gb144 ≠ gb145 from nl_ BK144 hg); have n6_ := Aside0.mk (show gb145 ≠ gb144 from ng_ BK144 hg); clear BK144; clear HB; have BK144 := n0_; have HB := n1_; have BK145 := n2_; have GW145 := n3_; have GE145 := n4_; have NB144_145 := n5_; have NB145_144 := n6_; clear n0_ n1_ n2_ n3_ n4_ n5_ n6_; clear hb hbox hg) | ((with_reducible refine gate_dst (N := 5) rfl ?_); refine box_event ?hg (N := 5) ?hd (cs := #[.bool a2_0, .int .u8 a2_1, .int .u8 a2_2, .int .u8 a2_3, .int .u8 a2_4, .int .u8 a2_5, .int .u8 a2_6, .int .u8 a2_7, .int .u8 a2_8, .int .u8 a2_9, .int .u8 a2_10, .int .u8 a2_11, .int .u8 a2_12, .int .u8 a2_13, .int .u8 a2_14, .int .u8 a2_15, .int .u8 a2_16]) (t := 24) ?hr ?_; (case hd => rfl); (case hg => rfl); (case hr => first | (go_simp; done) | (go_simp; rfl)); intro gb146 hg w9 hbox hb; have n0_ := Aside0.mk (bb_ BK144 hb); have n1_ := Aside0.mk (bb_ BK145 hb); have n2_ := Aside0.mk (below_step bg_ hb); have n3_ := Aside0.mk (hbox); have n4_ := Aside0.mk (show w.heap.size ≤ gb146 from gg_ hg); have n5_ := Aside0.mk (show w.heap.size ≤ gb146 from gg_ hg); have n6_ := Aside0.mk (show gb144 ≠ gb146 from nl_ BK144 hg); have n7_ := Aside0.mk (show gb146 ≠ gb144 from ng_ BK144 hg); have n8_ := Aside0.mk (show gb145 ≠ gb146 from nl_ BK145 hg); have n9_ := Aside0.mk (show gb146 ≠ gb145 from ng_ BK145 hg); clear BK144; clear BK145; clear HB; have BK144 := n0_; have BK145 := n1_; have HB := n2_; have BK146 := n3_; have GW146 := n4_; have GE146 := n5_; have NB144_146 := n6_; have NB146_144 := n7_; have NB145_146 := n8_; have NB146_145 := n9_; clear n0_ n1_ n2_ n3_ n4_ n5_ n6_ n7_ n8_ n9_; clear hb hbox hg))
 have n0_ := Aside0.mk (blk_drew BK144.out)
 have n1_ := Aside0.mk (blk_drew BK145.out)
 have n2_ := Aside0.mk (blk_drew BK146.out)
 have n3_ := Aside0.mk (below_drew1 HB.out)
 clear BK144
 clear BK145
 clear BK146
 clear HB
 have BK144 := n0_
 have BK145 := n1_
 have BK146 := n2_
 have HB := n3_
 clear n0_ n1_ n2_ n3_
 refine start_ (n := 6) (S := fun w' => (Instr.loadAt 34 (.pointer (some ⟨gb144, 0, none⟩))).run Tryd.prog w' = .ok (.agg #[.bool a0_0, .int .u8 a0_1, .int .u8 a0_2, .int .u8 a0_3, .int .u8 a0_4, .int .u8 a0_5, .int .u8 a0_6, .int .u8 a0_7, .int .u8 a0_8, .int .u8 a0_9, .int .u8 a0_10, .int .u8 a0_11, .int .u8 a0_12, .int .u8 a0_13, .int .u8 a0_14, .int .u8 a0_15, .int .u8 a0_16, .int .i64 a0_17]) w' ∧ (Instr.loadAt 34 (.pointer (some ⟨gb145, 0, none⟩))).run Tryd.prog w' = .ok (.agg #[.bool a1_0, .int .u8 a1_1, .int .u8 a1_2, .int .u8 a1_3, .int .u8 a1_4, .int .u8 a1_5, .int .u8 a1_6, .int .u8 a1_7, .int .u8 a1_8, .int .u8 a1_9, .int .u8 a1_10, .int .u8 a1_11, .int .u8 a1_12, .int .u8 a1_13, .int .u8 a1_14, .int .u8 a1_15, .int .u8 a1_16, .int .i64 a1_17]) w') (ds := []) (bv_ 0 6) (by kernel_rfl) rfl rfl ⟨(run_load_box BK144.out 34 [] [.bool a0_0, .int .u8 a0_1, .int .u8 a0_2, .int .u8 a0_3, .int .u8 a0_4, .int .u8 a0_5, .int .u8 a0_6, .int .u8 a0_7, .int .u8 a0_8, .int .u8 a0_9, .int .u8 a0_10, .int .u8 a0_11, .int .u8 a0_12, .int .u8 a0_13, .int .u8 a0_14, .int .u8 a0_15, .int .u8 a0_16, .int .i64 a0_17] [] rfl 0 rfl Tryd.underlying34 rfl (by kernel_rfl)), (run_load_box BK145.out 34 [] [.bool a1_0, .int .u8 a1_1, .int .u8 a1_2, .int .u8 a1_3, .int .u8 a1_4, .int .u8 a1_5, .int .u8 a1_6, .int .u8 a1_7, .int .u8 a1_8, .int .u8 a1_9, .int .u8 a1_10, .int .u8 a1_11, .int .u8 a1_12, .int .u8 a1_13, .int .u8 a1_14, .int .u8 a1_15, .int .u8 a1_16, .int .i64 a1_17] [] rfl 0 rfl Tryd.underlying34 rfl (by kernel_rfl))⟩ (fun hHeld => ?_)
 generalize w9.drew = w10 at BK144 BK145 BK146 HB hHeld ⊢
 refine take_ (i := 0) (N := some 10) (v := ?_) (a' := ?_) (bv_ 1 5) rfl rfl (by kernel_rfl) (fun _ _ _ h => h) (Or.inl ⟨by rfl, ?_⟩) hHeld ?_ ?_
 rotate_left
 ·rintro w' ⟨s0, s1⟩
  first | (refine (load_exec rfl rfl s0).trans ?_; with_reducible rfl) | (refine (load_exec rfl rfl s1).trans ?_; with_reducible rfl) | (go_simp; with_reducible rfl)
 rotate_left
 ·simp only [Act.put, sa_, s0_, s1_, i64_w, i32_w]
  rfl
 refine take_ (i := 2) (N := some 12) (v := ?_) (a' := ?_) #[true, false, true, false, false, false] rfl rfl (by kernel_rfl) (fun _ _ _ h => h) (Or.inl ⟨by rfl, ?_⟩) hHeld ?_ ?_
 rotate_left
 ·rintro w' ⟨s0, s1⟩
  first | (refine (load_exec rfl rfl s0).trans ?_; with_reducible rfl) | (refine (load_exec rfl rfl s1).trans ?_; with_reducible rfl) | (go_simp; with_reducible rfl)
 rotate_left
 ·simp only [Act.put, sa_, s0_, s1_, i64_w, i32_w]
  rfl
 refine one_ (i := 1) (N := some 11) (bv_ 3 3) rfl rfl (by kernel_rfl) (by decide) (fun K hK => ?_)
 refine goes_ Tryd.func14 (by kernel_rfl) rfl #[.agg #[.bool a0_0, .int .u8 a0_1, .int .u8 a0_2, .int .u8 a0_3, .int .u8 a0_4, .int .u8 a0_5, .int .u8 a0_6, .int .u8 a0_7, .int .u8 a0_8, .int .u8 a0_9, .int .u8 a0_10, .int .u8 a0_11, .int .u8 a0_12, .int .u8 a0_13, .int .u8 a0_14, .int .u8 a0_15, .int .u8 a0_16, .int .i64 a0_17]] (by rfl) rfl rfl lq_ ?_
 with_reducible refine (lanternref06_May.calls k a0_0 a0_1 a0_2 a0_3 a0_4 a0_5 a0_6 a0_7 a0_8 a0_9 a0_10 a0_11 a0_12 a0_13 a0_14 a0_15 a0_16 a0_17 t147 _ ?side1 A4.out).mono ?_
 (case side1 => exact lg_)
 rintro e w11 ⟨rfl, hb⟩
 refine ⟨_, rfl, ?_⟩
 have n0_ := Aside0.mk (bb_ BK144 hb)
 have n1_ := Aside0.mk (bb_ BK145 hb)
 have n2_ := Aside0.mk (bb_ BK146 hb)
 have n3_ := Aside0.mk (below_step bg_ hb)
 clear BK144
 clear BK145
 clear BK146
 clear HB
 have BK144 := n0_
 have BK145 := n1_
 have BK146 := n2_
 have HB := n3_
 clear n0_ n1_ n2_ n3_
 (try clear hb)
 (try clear hb2)
 (try clear hk)
 (try clear hi)
 refine hK.out _ _ ⟨(run_load_box BK144.out 34 [] [.bool a0_0, .int .u8 a0_1, .int .u8 a0_2, .int .u8 a0_3, .int .u8 a0_4, .int .u8 a0_5, .int .u8 a0_6, .int .u8 a0_7, .int .u8 a0_8, .int .u8 a0_9, .int .u8 a0_10, .int .u8 a0_11, .int .u8 a0_12, .int .u8 a0_13, .int .u8 a0_14, .int .u8 a0_15, .int .u8 a0_16, .int .i64 a0_17] [] rfl 0 rfl Tryd.underlying34 rfl (by kernel_rfl)), (run_load_box BK145.out 34 [] [.bool a1_0, .int .u8 a1_1, .int .u8 a1_2, .int .u8 a1_3, .int .u8 a1_4, .int .u8 a1_5, .int .u8 a1_6, .int .u8 a1_7, .int .u8 a1_8, .int .u8 a1_9, .int .u8 a1_10, .int .u8 a1_11, .int .u8 a1_12, .int .u8 a1_13, .int .u8 a1_14, .int .u8 a1_15, .int .u8 a1_16, .int .i64 a1_17] [] rfl 0 rfl Tryd.underlying34 rfl (by kernel_rfl))⟩ (fun hHeld => ?_)
 clear hK K
 refine norm_ (a' := ?_) ?_ ?_
 rotate_left
 ·show Act.put _ (some 11) _ = _
  simp only [Act.put, sa_, s0_, s1_, i64_w, i32_w]
  rfl
 refine one_ (i := 3) (N := some 13) (bv_ 4 2) rfl rfl (by kernel_rfl) (by decide) (fun K hK => ?_)
 refine goes_ Tryd.func14 (by kernel_rfl) rfl #[.agg #[.bool a1_0, .int .u8 a1_1, .int .u8 a1_2, .int .u8 a1_3, .int .u8 a1_4, .int .u8 a1_5, .int .u8 a1_6, .int .u8 a1_7, .int .u8 a1_8, .int .u8 a1_9, .int .u8 a1_10, .int .u8 a1_11, .int .u8 a1_12, .int .u8 a1_13, .int .u8 a1_14, .int .u8 a1_15, .int .u8 a1_16, .int .i64 a1_17]] (by rfl) rfl rfl lq_ ?_
 with_reducible refine (lanternref06_May.calls k a1_0 a1_1 a1_2 a1_3 a1_4 a1_5 a1_6 a1_7 a1_8 a1_9 a1_10 a1_11 a1_12 a1_13 a1_14 a1_15 a1_16 a1_17 t148 _ ?side1 A5.out).mono ?_
 (case side1 => exact lg_)
 rintro e w12 ⟨rfl, hb⟩
 refine ⟨_, rfl, ?_⟩
 have n0_ := Aside0.mk (bb_ BK144 hb)
 have n1_ := Aside0.mk (bb_ BK145 hb)
 have n2_ := Aside0.mk (bb_ BK146 hb)
 have n3_ := Aside0.mk (below_step bg_ hb)
 clear BK144
 clear BK145
 clear BK146
 clear HB
 have BK144 := n0_
 have BK145 := n1_
 have BK146 := n2_
 have HB := n3_
 clear n0_ n1_ n2_ n3_
 (try clear hb)
 (try clear hb2)
 (try clear hk)
 (try clear hi)
 refine hK.out _ _ ⟨(run_load_box BK144.out 34 [] [.bool a0_0, .int .u8 a0_1, .int .u8 a0_2, .int .u8 a0_3, .int .u8 a0_4, .int .u8 a0_5, .int .u8 a0_6, .int .u8 a0_7, .int .u8 a0_8, .int .u8 a0_9, .int .u8 a0_10, .int .u8 a0_11, .int .u8 a0_12, .int .u8 a0_13, .int .u8 a0_14, .int .u8 a0_15, .int .u8 a0_16, .int .i64 a0_17] [] rfl 0 rfl Tryd.underlying34 rfl (by kernel_rfl)), (run_load_box BK145.out 34 [] [.bool a1_0, .int .u8 a1_1, .int .u8 a1_2, .int .u8 a1_3, .int .u8 a1_4, .int .u8 a1_5, .int .u8 a1_6, .int .u8 a1_7, .int .u8 a1_8, .int .u8 a1_9, .int .u8 a1_10, .int .u8 a1_11, .int .u8 a1_12, .int .u8 a1_13, .int .u8 a1_14, .int .u8 a1_15, .int .u8 a1_16, .int .i64 a1_17] [] rfl 0 rfl Tryd.underlying34 rfl (by kernel_rfl))⟩ (fun hHeld => ?_)
 clear hK K
 refine norm_ (a' := ?_) ?_ ?_
 rotate_left
 ·show Act.put _ (some 13) _ = _
  simp only [Act.put, sa_, s0_, s1_, i64_w, i32_w]
  rfl
 refine pure_ (i := 4) (N := some 7) (v := ?_) (a' := ?_) (bv_ 5 1) rfl rfl (by kernel_rfl) (fun _ _ _ h => h) (Or.inl ⟨by rfl, ?_⟩) ?_ ?_
 rotate_left
 ·intro w'
  go_simp
  with_reducible rfl
 rotate_left
 ·simp only [Act.put, sa_, s0_, s1_, i64_w, i32_w]
  rfl
 refine pure_ (i := 5) (N := some 8) (v := ?_) (a' := ?_) (bv_ 6 0) rfl rfl (by kernel_rfl) (fun _ _ _ h => h) (Or.inl ⟨by rfl, ?_⟩) ?_ ?_
 rotate_left
 ·intro w'
  go_simp
  with_reducible rfl
 rotate_left
 ·simp only [Act.put, sa_, s0_, s1_, i64_w, i32_w]
  rfl
 refine done_ (by kernel_rfl) ?_
 go_upto_region 2 with (fail)
 go_cut [27] (fun v27 wc => ∃ (kq : Nat) (x27_5 : Bool), v27 = .bool x27_5 ∧ Aside0 (lanternlaw06_CidrHas.j0 kq t147 t148 x27_5 a0_0 a0_1 a0_2 a0_3 a0_4 a0_5 a0_6 a0_7 a0_8 a0_9 a0_10 a0_11 a0_12 a0_13 a0_14 a0_15 a0_16 a0_17 a1_0 a1_1 a1_2 a1_3 a1_4 a1_5 a1_6 a1_7 a1_8 a1_9 a1_10 a1_11 a1_12 a1_13 a1_14 a1_15 a1_16 a1_17 a2_0 a2_1 a2_2 a2_3 a2_4 a2_5 a2_6 a2_7 a2_8 a2_9 a2_10 a2_11 a2_12 a2_13 a2_14 a2_15 a2_16 = some r) ∧ Aside0 (kq ≤ k) ∧ Aside0 (wc.heap[gb144]? = some (.cells #[.bool a0_0, .int .u8 a0_1, .int .u8 a0_2, .int .u8 a0_3, .int .u8 a0_4, .int .u8 a0_5, .int .u8 a0_6, .int .u8 a0_7, .int .u8 a0_8, .int .u8 a0_9, .int .u8 a0_10, .int .u8 a0_11, .int .u8 a0_12, .int .u8 a0_13, .int .u8 a0_14, .int .u8 a0_15, .int .u8 a0_16, .int .i64 a0_17] 34 (0, 0))) ∧ Aside0 (wc.heap[gb145]? = some (.cells #[.bool a1_0, .int .u8 a1_1, .int .u8 a1_2, .int .u8 a1_3, .int .u8 a1_4, .int .u8 a1_5, .int .u8 a1_6, .int .u8 a1_7, .int .u8 a1_8, .int .u8 a1_9, .int .u8 a1_10, .int .u8 a1_11, .int .u8 a1_12, .int .u8 a1_13, .int .u8 a1_14, .int .u8 a1_15, .int .u8 a1_16, .int .i64 a1_17] 34 (0, 0))) ∧ Aside0 (wc.heap[gb146]? = some (.cells #[.bool a2_0, .int .u8 a2_1, .int .u8 a2_2, .int .u8 a2_3, .int .u8 a2_4, .int .u8 a2_5, .int .u8 a2_6, .int .u8 a2_7, .int .u8 a2_8, .int .u8 a2_9, .int .u8 a2_10, .int .u8 a2_11, .int .u8 a2_12, .int .u8 a2_13, .int .u8 a2_14, .int .u8 a2_15, .int .u8 a2_16] 24 (0, 0))) ∧ Aside0 (Below w.heap.size w wc))
 case first =>
  have H := HC6.out
  clear HC6
  replace H := Option.bind_eq_some_iff.mp H
  obtain ⟨t149, A130, H⟩ := H
  (try dsimp only at H)
  have A13 := Aside0.mk A130
  clear A130
  by_cases c14 : t147 = true
  ·subst c14
   replace H := ifT_ H
   replace H := Option.bind_eq_some_iff.mp H
   obtain ⟨t150, A150, H⟩ := H
   (try dsimp only at H)
   have A15 := Aside0.mk A150
   clear A150
   by_cases c16 : t150 = true
   ·subst c16
    replace H := ifT_ H
    replace H := Option.bind_eq_some_iff.mp H
    obtain ⟨t151, A170, H⟩ := H
    (try dsimp only at H)
    have A17 := Aside0.mk A170
    clear A170
    have H' := Aside0.mk H
    clear H
    go_wp2_with (first | ((with_reducible refine gate_dst (N := 14) rfl ?_); (try (refine gate_guard (by rfl) ?_; dsimp only)); refine load_box ?hg 34 (.tmp 3) rfl BK144.out [] [.bool a0_0, .int .u8 a0_1, .int .u8 a0_2, .int .u8 a0_3, .int .u8 a0_4, .int .u8 a0_5, .int .u8 a0_6, .int .u8 a0_7, .int .u8 a0_8, .int .u8 a0_9, .int .u8 a0_10, .int .u8 a0_11, .int .u8 a0_12, .int .u8 a0_13, .int .u8 a0_14, .int .u8 a0_15, .int .u8 a0_16, .int .i64 a0_17] [] rfl 0 rfl rfl Tryd.underlying34 rfl (by kernel_rfl) ?_; (case hg => rfl)) | ((with_reducible refine gate_dst (N := 15) rfl ?_); (try (refine gate_guard (by rfl) ?_; dsimp only)); refine load_box ?hg 24 (.tmp 5) rfl BK146.out [] [.bool a2_0, .int .u8 a2_1, .int .u8 a2_2, .int .u8 a2_3, .int .u8 a2_4, .int .u8 a2_5, .int .u8 a2_6, .int .u8 a2_7, .int .u8 a2_8, .int .u8 a2_9, .int .u8 a2_10, .int .u8 a2_11, .int .u8 a2_12, .int .u8 a2_13, .int .u8 a2_14, .int .u8 a2_15, .int .u8 a2_16] [] rfl 0 rfl rfl Tryd.underlying24 rfl (by kernel_rfl) ?_; (case hg => rfl)) | ((with_reducible refine gate_callee (f := 12) rfl ?_); refine goesL_ (some 16) rfl rfl Tryd.func12 (by kernel_rfl) rfl #[.agg #[.bool a0_0, .int .u8 a0_1, .int .u8 a0_2, .int .u8 a0_3, .int .u8 a0_4, .int .u8 a0_5, .int .u8 a0_6, .int .u8 a0_7, .int .u8 a0_8, .int .u8 a0_9, .int .u8 a0_10, .int .u8 a0_11, .int .u8 a0_12, .int .u8 a0_13, .int .u8 a0_14, .int .u8 a0_15, .int .u8 a0_16, .int .i64 a0_17], .agg #[.bool a2_0, .int .u8 a2_1, .int .u8 a2_2, .int .u8 a2_3, .int .u8 a2_4, .int .u8 a2_5, .int .u8 a2_6, .int .u8 a2_7, .int .u8 a2_8, .int .u8 a2_9, .int .u8 a2_10, .int .u8 a2_11, .int .u8 a2_12, .int .u8 a2_13, .int .u8 a2_14, .int .u8 a2_15, .int .u8 a2_16]] rfl lq_ ?_; (with_reducible refine (cidr_Has.calls a0_0 a0_1 a0_2 a0_3 a0_4 a0_5 a0_6 a0_7 a0_8 a0_9 a0_10 a0_11 a0_12 a0_13 a0_14 a0_15 a0_16 a0_17 a2_0 a2_1 a2_2 a2_3 a2_4 a2_5 a2_6 a2_7 a2_8 a2_9 a2_10 a2_11 a2_12 a2_13 a2_14 a2_15 a2_16 t149 _ ?side1 A13.out).mono ?_); (case side1 => exact lg_); rintro e w18 ⟨rfl, hb⟩; refine ⟨_, rfl, ?_⟩; have n0_ := Aside0.mk (bb_ BK144 hb); have n1_ := Aside0.mk (bb_ BK145 hb); have n2_ := Aside0.mk (bb_ BK146 hb); have n3_ := Aside0.mk (below_step bg_ hb); clear BK144; clear BK145; clear BK146; clear HB; have BK144 := n0_; have BK145 := n1_; have BK146 := n2_; have HB := n3_; clear n0_ n1_ n2_ n3_; (try clear hb); (try clear hb2); (try clear hk); (try clear hi)) | ((with_reducible refine gate_dst (N := 19) rfl ?_); (try (refine gate_guard (by rfl) ?_; dsimp only)); refine load_box ?hg 24 (.tmp 5) rfl BK146.out [] [.bool a2_0, .int .u8 a2_1, .int .u8 a2_2, .int .u8 a2_3, .int .u8 a2_4, .int .u8 a2_5, .int .u8 a2_6, .int .u8 a2_7, .int .u8 a2_8, .int .u8 a2_9, .int .u8 a2_10, .int .u8 a2_11, .int .u8 a2_12, .int .u8 a2_13, .int .u8 a2_14, .int .u8 a2_15, .int .u8 a2_16] [] rfl 0 rfl rfl Tryd.underlying24 rfl (by kernel_rfl) ?_; (case hg => rfl)) | (go_at_call 15; (with_reducible refine (lanternref05_May.calls k a2_0 a2_1 a2_2 a2_3 a2_4 a2_5 a2_6 a2_7 a2_8 a2_9 a2_10 a2_11 a2_12 a2_13 a2_14 a2_15 a2_16 true _ ?side1 A15.out).mono ?_); (case side1 => exact lg_); rintro e w19 ⟨rfl, hb⟩; have n0_ := Aside0.mk (bb_ BK144 hb); have n1_ := Aside0.mk (bb_ BK145 hb); have n2_ := Aside0.mk (bb_ BK146 hb); have n3_ := Aside0.mk (below_step bg_ hb); clear BK144; clear BK145; clear BK146; clear HB; have BK144 := n0_; have BK145 := n1_; have BK146 := n2_; have HB := n3_; clear n0_ n1_ n2_ n3_; (try clear hb); (try clear hb2); (try clear hk); (try clear hi)) | ((with_reducible refine gate_dst (N := 23) rfl ?_); (try (refine gate_guard (by rfl) ?_; dsimp only)); refine load_box ?hg 34 (.tmp 3) rfl BK144.out [] [.bool a0_0, .int .u8 a0_1, .int .u8 a0_2, .int .u8 a0_3, .int .u8 a0_4, .int .u8 a0_5, .int .u8 a0_6, .int .u8 a0_7, .int .u8 a0_8, .int .u8 a0_9, .int .u8 a0_10, .int .u8 a0_11, .int .u8 a0_12, .int .u8 a0_13, .int .u8 a0_14, .int .u8 a0_15, .int .u8 a0_16, .int .i64 a0_17] [] rfl 0 rfl rfl Tryd.underlying34 rfl (by kernel_rfl) ?_; (case hg => rfl)) | ((with_reducible refine gate_dst (N := 24) rfl ?_); (try (refine gate_guard (by rfl) ?_; dsimp only)); refine load_box ?hg 24 (.tmp 5) rfl BK146.out [] [.bool a2_0, .int .u8 a2_1, .int .u8 a2_2, .int .u8 a2_3, .int .u8 a2_4, .int .u8 a2_5, .int .u8 a2_6, .int .u8 a2_7, .int .u8 a2_8, .int .u8 a2_9, .int .u8 a2_10, .int .u8 a2_11, .int .u8 a2_12, .int .u8 a2_13, .int .u8 a2_14, .int .u8 a2_15, .int .u8 a2_16] [] rfl 0 rfl rfl Tryd.underlying24 rfl (by kernel_rfl) ?_; (case hg => rfl)) | (go_at_call 16; (with_reducible refine (lanternref06_Has.calls k a0_0 a0_1 a0_2 a0_3 a0_4 a0_5 a0_6 a0_7 a0_8 a0_9 a0_10 a0_11 a0_12 a0_13 a0_14 a0_15 a0_16 a0_17 a2_0 a2_1 a2_2 a2_3 a2_4 a2_5 a2_6 a2_7 a2_8 a2_9 a2_10 a2_11 a2_12 a2_13 a2_14 a2_15 a2_16 t151 _ ?side1 A17.out).mono ?_); (case side1 => exact lg_); rintro e w20 ⟨rfl, hb⟩; have n0_ := Aside0.mk (bb_ BK144 hb); have n1_ := Aside0.mk (bb_ BK145 hb); have n2_ := Aside0.mk (bb_ BK146 hb); have n3_ := Aside0.mk (below_step bg_ hb); clear BK144; clear BK145; clear BK146; clear HB; have BK144 := n0_; have BK145 := n1_; have BK146 := n2_; have HB := n3_; clear n0_ n1_ n2_ n3_; (try clear hb); (try clear hb2); (try clear hk); (try clear hi)))
    go_meet
    case rel => exact ⟨_, ((t149 != t151)), sq_, H', ⟨by first | omega | exact Nat.le_refl _⟩, ⟨by (with_reducible repeat (first | refine blk_drewN ?_ _ | refine blk_drew ?_ | refine blk_alloc ?_ _)); exact BK144.out⟩, ⟨by (with_reducible repeat (first | refine blk_drewN ?_ _ | refine blk_drew ?_ | refine blk_alloc ?_ _)); exact BK145.out⟩, ⟨by (with_reducible repeat (first | refine blk_drewN ?_ _ | refine blk_drew ?_ | refine blk_alloc ?_ _)); exact BK146.out⟩, ⟨bg_⟩⟩
   ·replace c16 := Bool.eq_false_iff.mpr c16
    subst c16
    replace H := ifF_ H
    have H' := Aside0.mk H
    clear H
    go_wp2_with (first | ((with_reducible refine gate_dst (N := 14) rfl ?_); (try (refine gate_guard (by rfl) ?_; dsimp only)); refine load_box ?hg 34 (.tmp 3) rfl BK144.out [] [.bool a0_0, .int .u8 a0_1, .int .u8 a0_2, .int .u8 a0_3, .int .u8 a0_4, .int .u8 a0_5, .int .u8 a0_6, .int .u8 a0_7, .int .u8 a0_8, .int .u8 a0_9, .int .u8 a0_10, .int .u8 a0_11, .int .u8 a0_12, .int .u8 a0_13, .int .u8 a0_14, .int .u8 a0_15, .int .u8 a0_16, .int .i64 a0_17] [] rfl 0 rfl rfl Tryd.underlying34 rfl (by kernel_rfl) ?_; (case hg => rfl)) | ((with_reducible refine gate_dst (N := 15) rfl ?_); (try (refine gate_guard (by rfl) ?_; dsimp only)); refine load_box ?hg 24 (.tmp 5) rfl BK146.out [] [.bool a2_0, .int .u8 a2_1, .int .u8 a2_2, .int .u8 a2_3, .int .u8 a2_4, .int .u8 a2_5, .int .u8 a2_6, .int .u8 a2_7, .int .u8 a2_8, .int .u8 a2_9, .int .u8 a2_10, .int .u8 a2_11, .int .u8 a2_12, .int .u8 a2_13, .int .u8 a2_14, .int .u8 a2_15, .int .u8 a2_16] [] rfl 0 rfl rfl Tryd.underlying24 rfl (by kernel_rfl) ?_; (case hg => rfl)) | ((with_reducible refine gate_callee (f := 12) rfl ?_); refine goesL_ (some 16) rfl rfl Tryd.func12 (by kernel_rfl) rfl #[.agg #[.bool a0_0, .int .u8 a0_1, .int .u8 a0_2, .int .u8 a0_3, .int .u8 a0_4, .int .u8 a0_5, .int .u8 a0_6, .int .u8 a0_7, .int .u8 a0_8, .int .u8 a0_9, .int .u8 a0_10, .int .u8 a0_11, .int .u8 a0_12, .int .u8 a0_13, .int .u8 a0_14, .int .u8 a0_15, .int .u8 a0_16, .int .i64 a0_17], .agg #[.bool a2_0, .int .u8 a2_1, .int .u8 a2_2, .int .u8 a2_3, .int .u8 a2_4, .int .u8 a2_5, .int .u8 a2_6, .int .u8 a2_7, .int .u8 a2_8, .int .u8 a2_9, .int .u8 a2_10, .int .u8 a2_11, .int .u8 a2_12, .int .u8 a2_13, .int .u8 a2_14, .int .u8 a2_15, .int .u8 a2_16]] rfl lq_ ?_; (with_reducible refine (cidr_Has.calls a0_0 a0_1 a0_2 a0_3 a0_4 a0_5 a0_6 a0_7 a0_8 a0_9 a0_10 a0_11 a0_12 a0_13 a0_14 a0_15 a0_16 a0_17 a2_0 a2_1 a2_2 a2_3 a2_4 a2_5 a2_6 a2_7 a2_8 a2_9 a2_10 a2_11 a2_12 a2_13 a2_14 a2_15 a2_16 t149 _ ?side1 A13.out).mono ?_); (case side1 => exact lg_); rintro e w21 ⟨rfl, hb⟩; refine ⟨_, rfl, ?_⟩; have n0_ := Aside0.mk (bb_ BK144 hb); have n1_ := Aside0.mk (bb_ BK145 hb); have n2_ := Aside0.mk (bb_ BK146 hb); have n3_ := Aside0.mk (below_step bg_ hb); clear BK144; clear BK145; clear BK146; clear HB; have BK144 := n0_; have BK145 := n1_; have BK146 := n2_; have HB := n3_; clear n0_ n1_ n2_ n3_; (try clear hb); (try clear hb2); (try clear hk); (try clear hi)) | ((with_reducible refine gate_dst (N := 19) rfl ?_); (try (refine gate_guard (by rfl) ?_; dsimp only)); refine load_box ?hg 24 (.tmp 5) rfl BK146.out [] [.bool a2_0, .int .u8 a2_1, .int .u8 a2_2, .int .u8 a2_3, .int .u8 a2_4, .int .u8 a2_5, .int .u8 a2_6, .int .u8 a2_7, .int .u8 a2_8, .int .u8 a2_9, .int .u8 a2_10, .int .u8 a2_11, .int .u8 a2_12, .int .u8 a2_13, .int .u8 a2_14, .int .u8 a2_15, .int .u8 a2_16] [] rfl 0 rfl rfl Tryd.underlying24 rfl (by kernel_rfl) ?_; (case hg => rfl)) | (go_at_call 15; (with_reducible refine (lanternref05_May.calls k a2_0 a2_1 a2_2 a2_3 a2_4 a2_5 a2_6 a2_7 a2_8 a2_9 a2_10 a2_11 a2_12 a2_13 a2_14 a2_15 a2_16 false _ ?side1 A15.out).mono ?_); (case side1 => exact lg_); rintro e w22 ⟨rfl, hb⟩; have n0_ := Aside0.mk (bb_ BK144 hb); have n1_ := Aside0.mk (bb_ BK145 hb); have n2_ := Aside0.mk (bb_ BK146 hb); have n3_ := Aside0.mk (below_step bg_ hb); clear BK144; clear BK145; clear BK146; clear HB; have BK144 := n0_; have BK145 := n1_; have BK146 := n2_; have HB := n3_; clear n0_ n1_ n2_ n3_; (try clear hb); (try clear hb2); (try clear hk); (try clear hi)))
    go_meet
    case rel => exact ⟨_, ((t149 != false)), sq_, H', ⟨by first | omega | exact Nat.le_refl _⟩, ⟨by (with_reducible repeat (first | refine blk_drewN ?_ _ | refine blk_drew ?_ | refine blk_alloc ?_ _)); exact BK144.out⟩, ⟨by (with_reducible repeat (first | refine blk_drewN ?_ _ | refine blk_drew ?_ | refine blk_alloc ?_ _)); exact BK145.out⟩, ⟨by (with_reducible repeat (first | refine blk_drewN ?_ _ | refine blk_drew ?_ | refine blk_alloc ?_ _)); exact BK146.out⟩, ⟨bg_⟩⟩
  ·replace c14 := Bool.eq_false_iff.mpr c14
   subst c14
   replace H := ifF_ H
   have H' := Aside0.mk H
   clear H
   go_wp2_with (first | ((with_reducible refine gate_dst (N := 14) rfl ?_); (try (refine gate_guard (by rfl) ?_; dsimp only)); refine load_box ?hg 34 (.tmp 3) rfl BK144.out [] [.bool a0_0, .int .u8 a0_1, .int .u8 a0_2, .int .u8 a0_3, .int .u8 a0_4, .int .u8 a0_5, .int .u8 a0_6, .int .u8 a0_7, .int .u8 a0_8, .int .u8 a0_9, .int .u8 a0_10, .int .u8 a0_11, .int .u8 a0_12, .int .u8 a0_13, .int .u8 a0_14, .int .u8 a0_15, .int .u8 a0_16, .int .i64 a0_17] [] rfl 0 rfl rfl Tryd.underlying34 rfl (by kernel_rfl) ?_; (case hg => rfl)) | ((with_reducible refine gate_dst (N := 15) rfl ?_); (try (refine gate_guard (by rfl) ?_; dsimp only)); refine load_box ?hg 24 (.tmp 5) rfl BK146.out [] [.bool a2_0, .int .u8 a2_1, .int .u8 a2_2, .int .u8 a2_3, .int .u8 a2_4, .int .u8 a2_5, .int .u8 a2_6, .int .u8 a2_7, .int .u8 a2_8, .int .u8 a2_9, .int .u8 a2_10, .int .u8 a2_11, .int .u8 a2_12, .int .u8 a2_13, .int .u8 a2_14, .int .u8 a2_15, .int .u8 a2_16] [] rfl 0 rfl rfl Tryd.underlying24 rfl (by kernel_rfl) ?_; (case hg => rfl)) | ((with_reducible refine gate_callee (f := 12) rfl ?_); refine goesL_ (some 16) rfl rfl Tryd.func12 (by kernel_rfl) rfl #[.agg #[.bool a0_0, .int .u8 a0_1, .int .u8 a0_2, .int .u8 a0_3, .int .u8 a0_4, .int .u8 a0_5, .int .u8 a0_6, .int .u8 a0_7, .int .u8 a0_8, .int .u8 a0_9, .int .u8 a0_10, .int .u8 a0_11, .int .u8 a0_12, .int .u8 a0_13, .int .u8 a0_14, .int .u8 a0_15, .int .u8 a0_16, .int .i64 a0_17], .agg #[.bool a2_0, .int .u8 a2_1, .int .u8 a2_2, .int .u8 a2_3, .int .u8 a2_4, .int .u8 a2_5, .int .u8 a2_6, .int .u8 a2_7, .int .u8 a2_8, .int .u8 a2_9, .int .u8 a2_10, .int .u8 a2_11, .int .u8 a2_12, .int .u8 a2_13, .int .u8 a2_14, .int .u8 a2_15, .int .u8 a2_16]] rfl lq_ ?_; (with_reducible refine (cidr_Has.calls a0_0 a0_1 a0_2 a0_3 a0_4 a0_5 a0_6 a0_7 a0_8 a0_9 a0_10 a0_11 a0_12 a0_13 a0_14 a0_15 a0_16 a0_17 a2_0 a2_1 a2_2 a2_3 a2_4 a2_5 a2_6 a2_7 a2_8 a2_9 a2_10 a2_11 a2_12 a2_13 a2_14 a2_15 a2_16 t149 _ ?side1 A13.out).mono ?_); (case side1 => exact lg_); rintro e w23 ⟨rfl, hb⟩; refine ⟨_, rfl, ?_⟩; have n0_ := Aside0.mk (bb_ BK144 hb); have n1_ := Aside0.mk (bb_ BK145 hb); have n2_ := Aside0.mk (bb_ BK146 hb); have n3_ := Aside0.mk (below_step bg_ hb); clear BK144; clear BK145; clear BK146; clear HB; have BK144 := n0_; have BK145 := n1_; have BK146 := n2_; have HB := n3_; clear n0_ n1_ n2_ n3_; (try clear hb); (try clear hb2); (try clear hk); (try clear hi)))
   go_meet
   case rel => exact ⟨_, ((t149 != false)), sq_, H', ⟨by first | omega | exact Nat.le_refl _⟩, ⟨by (with_reducible repeat (first | refine blk_drewN ?_ _ | refine blk_drew ?_ | refine blk_alloc ?_ _)); exact BK144.out⟩, ⟨by (with_reducible repeat (first | refine blk_drewN ?_ _ | refine blk_drew ?_ | refine blk_alloc ?_ _)); exact BK145.out⟩, ⟨by (with_reducible repeat (first | refine blk_drewN ?_ _ | refine blk_drew ?_ | refine blk_alloc ?_ _)); exact BK146.out⟩, ⟨bg_⟩⟩
 case rest =>
  clear HC6
  try clear c1
  try clear p2
  try clear c5
  try clear c12
  try clear c14
  try clear c16
  obtain ⟨kq, x27_5, rfl, HA, HJ5, BK144, BK145, BK146, HB⟩ := hcut
  cases kq with
  | zero => exact absurd HA.out (by simp [lanternlaw06_CidrHas.j0])
  | succ kj5 =>
   have H := HA.out
   clear HA
   simp only [lanternlaw06_CidrHas.j0] at H
   by_cases c24 : x27_5 = true
   ·subst c24
    replace H := ifT_ H
    exact absurd H (by simp)
   ·replace c24 := Bool.eq_false_iff.mpr c24
    subst c24
    replace H := ifF_ H
    have HC25 := Aside0.mk H
    clear H
    go_upto_region 4 with (fail)
    go_cut [9] (fun v9 wc => ∃ (kq : Nat) (x9_24 : Bool), v9 = .bool x9_24 ∧ Aside0 (lanternlaw06_CidrHas.j1 kq x9_24 a0_0 a0_1 a0_2 a0_3 a0_4 a0_5 a0_6 a0_7 a0_8 a0_9 a0_10 a0_11 a0_12 a0_13 a0_14 a0_15 a0_16 a0_17 a1_0 a1_1 a1_2 a1_3 a1_4 a1_5 a1_6 a1_7 a1_8 a1_9 a1_10 a1_11 a1_12 a1_13 a1_14 a1_15 a1_16 a1_17 a2_0 a2_1 a2_2 a2_3 a2_4 a2_5 a2_6 a2_7 a2_8 a2_9 a2_10 a2_11 a2_12 a2_13 a2_14 a2_15 a2_16 = some r) ∧ Aside0 (kq ≤ kj5) ∧ Aside0 (wc.heap[gb144]? = some (.cells #[.bool a0_0, .int .u8 a0_1, .int .u8 a0_2, .int .u8 a0_3, .int .u8 a0_4, .int .u8 a0_5, .int .u8 a0_6, .int .u8 a0_7, .int .u8 a0_8, .int .u8 a0_9, .int .u8 a0_10, .int .u8 a0_11, .int .u8 a0_12, .int .u8 a0_13, .int .u8 a0_14, .int .u8 a0_15, .int .u8 a0_16, .int .i64 a0_17] 34 (0, 0))) ∧ Aside0 (wc.heap[gb145]? = some (.cells #[.bool a1_0, .int .u8 a1_1, .int .u8 a1_2, .int .u8 a1_3, .int .u8 a1_4, .int .u8 a1_5, .int .u8 a1_6, .int .u8 a1_7, .int .u8 a1_8, .int .u8 a1_9, .int .u8 a1_10, .int .u8 a1_11, .int .u8 a1_12, .int .u8 a1_13, .int .u8 a1_14, .int .u8 a1_15, .int .u8 a1_16, .int .i64 a1_17] 34 (0, 0))) ∧ Aside0 (wc.heap[gb146]? = some (.cells #[.bool a2_0, .int .u8 a2_1, .int .u8 a2_2, .int .u8 a2_3, .int .u8 a2_4, .int .u8 a2_5, .int .u8 a2_6, .int .u8 a2_7, .int .u8 a2_8, .int .u8 a2_9, .int .u8 a2_10, .int .u8 a2_11, .int .u8 a2_12, .int .u8 a2_13, .int .u8 a2_14, .int .u8 a2_15, .int .u8 a2_16] 24 (0, 0))) ∧ Aside0 (Below w.heap.size w wc))
    case first =>
     have H := HC25.out
     clear HC25
     by_cases c26 : t147 = true
     ·subst c26
      replace H := ifT_ H
      by_cases c27 : t148 = true
      ·subst c27
       replace H := ifT_ H
       by_cases c28 : a0_17 ≤ a1_17
       ·rw [if_pos c28] at H
        have c28b0 : decide (a0_17 ≤ a1_17) = true := decide_eq_true c28
        clear c28
        (first | rw [c28b0] | (simp only [i64_w, i32_w]; rw [c28b0]) | skip)
        replace H := Option.bind_eq_some_iff.mp H
        obtain ⟨t152, A290, H⟩ := H
        (try dsimp only at H)
        have A29 := Aside0.mk A290
        clear A290
        by_cases c30 : t152 = true
        ·subst c30
         replace H := ifT_ H
         have H' := Aside0.mk H
         clear H
         have hnb31 := NB144_145.out
         have hnc31 := NB145_144.out
         have hnb32 := NB144_146.out
         have hnc32 := NB146_144.out
         have hcz33_0 := cz_ BK144 0 (.bool a0_0)
         have hcz33_17 := cz_ BK144 17 (.int .i64 a0_17)
         have hfz33_0 := bf_ BK144 0
         have hfz33_17 := bf_ BK144 17
         have hnb34 := NB145_146.out
         have hnc34 := NB146_145.out
         have hcz35_0 := cz_ BK145 0 (.bool a1_0)
         have hcz35_17 := cz_ BK145 17 (.int .i64 a1_17)
         have hfz35_0 := bf_ BK145 0
         have hfz35_17 := bf_ BK145 17
         go_wp2_with (first | ((with_reducible refine gate_dst (N := 39) rfl ?_); (try (refine gate_guard (by rfl) ?_; dsimp only)); refine load_box ?hg 34 (.tmp 3) rfl BK144.out [] [.bool a0_0, .int .u8 a0_1, .int .u8 a0_2, .int .u8 a0_3, .int .u8 a0_4, .int .u8 a0_5, .int .u8 a0_6, .int .u8 a0_7, .int .u8 a0_8, .int .u8 a0_9, .int .u8 a0_10, .int .u8 a0_11, .int .u8 a0_12, .int .u8 a0_13, .int .u8 a0_14, .int .u8 a0_15, .int .u8 a0_16, .int .i64 a0_17] [] rfl 0 rfl rfl Tryd.underlying34 rfl (by kernel_rfl) ?_; (case hg => rfl)) | ((with_reducible refine gate_dst (N := 41) rfl ?_); (try (refine gate_guard (by rfl) ?_; dsimp only)); refine load_box ?hg 24 (.tmp 40) rfl BK145.out [] [.bool a1_0, .int .u8 a1_1, .int .u8 a1_2, .int .u8 a1_3, .int .u8 a1_4, .int .u8 a1_5, .int .u8 a1_6, .int .u8 a1_7, .int .u8 a1_8, .int .u8 a1_9, .int .u8 a1_10, .int .u8 a1_11, .int .u8 a1_12, .int .u8 a1_13, .int .u8 a1_14, .int .u8 a1_15, .int .u8 a1_16] [.int .i64 a1_17] rfl 0 rfl rfl Tryd.underlying24 rfl (by kernel_rfl) ?_; (case hg => rfl)) | (go_at_call 16; (with_reducible refine (lanternref06_Has.calls kj5 a0_0 a0_1 a0_2 a0_3 a0_4 a0_5 a0_6 a0_7 a0_8 a0_9 a0_10 a0_11 a0_12 a0_13 a0_14 a0_15 a0_16 a0_17 a1_0 a1_1 a1_2 a1_3 a1_4 a1_5 a1_6 a1_7 a1_8 a1_9 a1_10 a1_11 a1_12 a1_13 a1_14 a1_15 a1_16 true _ ?side1 A29.out).mono ?_); (case side1 => exact lg_); rintro e w36 ⟨rfl, hb⟩; have n0_ := Aside0.mk (bb_ BK144 hb); have n1_ := Aside0.mk (bb_ BK145 hb); have n2_ := Aside0.mk (bb_ BK146 hb); have n3_ := Aside0.mk (below_step bg_ hb); clear BK144; clear BK145; clear BK146; clear HB; have BK144 := n0_; have BK145 := n1_; have BK146 := n2_; have HB := n3_; clear n0_ n1_ n2_ n3_; (try clear hb); (try clear hb2); (try clear hk); (try clear hi)))
         go_meet
         case rel => exact ⟨_, (true), sq_, H', ⟨by have := HJ5.out; first | omega | exact Nat.le_refl _⟩, ⟨by (with_reducible repeat (first | refine blk_drewN ?_ _ | refine blk_drew ?_ | refine blk_alloc ?_ _)); exact BK144.out⟩, ⟨by (with_reducible repeat (first | refine blk_drewN ?_ _ | refine blk_drew ?_ | refine blk_alloc ?_ _)); exact BK145.out⟩, ⟨by (with_reducible repeat (first | refine blk_drewN ?_ _ | refine blk_drew ?_ | refine blk_alloc ?_ _)); exact BK146.out⟩, ⟨bg_⟩⟩
        ·replace c30 := Bool.eq_false_iff.mpr c30
         subst c30
         replace H := ifF_ H
         by_cases c37 : a1_17 ≤ a0_17
         ·rw [if_pos c37] at H
          have c37b0 : decide (a1_17 ≤ a0_17) = true := decide_eq_true c37
          clear c37
          replace H := Option.bind_eq_some_iff.mp H
          obtain ⟨t153, A380, H⟩ := H
          (try dsimp only at H)
          have A38 := Aside0.mk A380
          clear A380
          have H' := Aside0.mk H
          clear H
          have hnb39 := NB144_145.out
          have hnc39 := NB145_144.out
          have hnb40 := NB144_146.out
          have hnc40 := NB146_144.out
          have hcz41_0 := cz_ BK144 0 (.bool a0_0)
          have hcz41_17 := cz_ BK144 17 (.int .i64 a0_17)
          have hfz41_0 := bf_ BK144 0
          have hfz41_17 := bf_ BK144 17
          have hnb42 := NB145_146.out
          have hnc42 := NB146_145.out
          have hcz43_0 := cz_ BK145 0 (.bool a1_0)
          have hcz43_17 := cz_ BK145 17 (.int .i64 a1_17)
          have hfz43_0 := bf_ BK145 0
          have hfz43_17 := bf_ BK145 17
          go_wp2_with (first | ((with_reducible refine gate_dst (N := 39) rfl ?_); (try (refine gate_guard (by rfl) ?_; dsimp only)); refine load_box ?hg 34 (.tmp 3) rfl BK144.out [] [.bool a0_0, .int .u8 a0_1, .int .u8 a0_2, .int .u8 a0_3, .int .u8 a0_4, .int .u8 a0_5, .int .u8 a0_6, .int .u8 a0_7, .int .u8 a0_8, .int .u8 a0_9, .int .u8 a0_10, .int .u8 a0_11, .int .u8 a0_12, .int .u8 a0_13, .int .u8 a0_14, .int .u8 a0_15, .int .u8 a0_16, .int .i64 a0_17] [] rfl 0 rfl rfl Tryd.underlying34 rfl (by kernel_rfl) ?_; (case hg => rfl)) | ((with_reducible refine gate_dst (N := 41) rfl ?_); (try (refine gate_guard (by rfl) ?_; dsimp only)); refine load_box ?hg 24 (.tmp 40) rfl BK145.out [] [.bool a1_0, .int .u8 a1_1, .int .u8 a1_2, .int .u8 a1_3, .int .u8 a1_4, .int .u8 a1_5, .int .u8 a1_6, .int .u8 a1_7, .int .u8 a1_8, .int .u8 a1_9, .int .u8 a1_10, .int .u8 a1_11, .int .u8 a1_12, .int .u8 a1_13, .int .u8 a1_14, .int .u8 a1_15, .int .u8 a1_16] [.int .i64 a1_17] rfl 0 rfl rfl Tryd.underlying24 rfl (by kernel_rfl) ?_; (case hg => rfl)) | (go_at_call 16; (with_reducible refine (lanternref06_Has.calls kj5 a0_0 a0_1 a0_2 a0_3 a0_4 a0_5 a0_6 a0_7 a0_8 a0_9 a0_10 a0_11 a0_12 a0_13 a0_14 a0_15 a0_16 a0_17 a1_0 a1_1 a1_2 a1_3 a1_4 a1_5 a1_6 a1_7 a1_8 a1_9 a1_10 a1_11 a1_12 a1_13 a1_14 a1_15 a1_16 false _ ?side1 A29.out).mono ?_); (case side1 => exact lg_); rintro e w44 ⟨rfl, hb⟩; have n0_ := Aside0.mk (bb_ BK144 hb); have n1_ := Aside0.mk (bb_ BK145 hb); have n2_ := Aside0.mk (bb_ BK146 hb); have n3_ := Aside0.mk (below_step bg_ hb); clear BK144; clear BK145; clear BK146; clear HB; have BK144 := n0_; have BK145 := n1_; have BK146 := n2_; have HB := n3_; clear n0_ n1_ n2_ n3_; (try clear hb); (try clear hb2); (try clear hk); (try clear hi); have hcz45_0 := cz_ BK145 0 (.bool a1_0); have hcz45_17 := cz_ BK145 17 (.int .i64 a1_17); have hfz45_0 := bf_ BK145 0; have hfz45_17 := bf_ BK145 17; have hcz46_0 := cz_ BK144 0 (.bool a0_0); have hcz46_17 := cz_ BK144 17 (.int .i64 a0_17); have hfz46_0 := bf_ BK144 0; have hfz46_17 := bf_ BK144 17) | ((with_reducible refine gate_dst (N := 51) rfl ?_); (try (refine gate_guard (by rfl) ?_; dsimp only)); refine load_box ?hg 34 (.tmp 4) rfl BK145.out [] [.bool a1_0, .int .u8 a1_1, .int .u8 a1_2, .int .u8 a1_3, .int .u8 a1_4, .int .u8 a1_5, .int .u8 a1_6, .int .u8 a1_7, .int .u8 a1_8, .int .u8 a1_9, .int .u8 a1_10, .int .u8 a1_11, .int .u8 a1_12, .int .u8 a1_13, .int .u8 a1_14, .int .u8 a1_15, .int .u8 a1_16, .int .i64 a1_17] [] rfl 0 rfl rfl Tryd.underlying34 rfl (by kernel_rfl) ?_; (case hg => rfl)) | ((with_reducible refine gate_dst (N := 53) rfl ?_); (try (refine gate_guard (by rfl) ?_; dsimp only)); refine load_box ?hg 24 (.tmp 52) rfl BK144.out [] [.bool a0_0, .int .u8 a0_1, .int .u8 a0_2, .int .u8 a0_3, .int .u8 a0_4, .int .u8 a0_5, .int .u8 a0_6, .int .u8 a0_7, .int .u8 a0_8, .int .u8 a0_9, .int .u8 a0_10, .int .u8 a0_11, .int .u8 a0_12, .int .u8 a0_13, .int .u8 a0_14, .int .u8 a0_15, .int .u8 a0_16] [.int .i64 a0_17] rfl 0 rfl rfl Tryd.underlying24 rfl (by kernel_rfl) ?_; (case hg => rfl)) | (go_at_call 16; (with_reducible refine (lanternref06_Has.calls kj5 a1_0 a1_1 a1_2 a1_3 a1_4 a1_5 a1_6 a1_7 a1_8 a1_9 a1_10 a1_11 a1_12 a1_13 a1_14 a1_15 a1_16 a1_17 a0_0 a0_1 a0_2 a0_3 a0_4 a0_5 a0_6 a0_7 a0_8 a0_9 a0_10 a0_11 a0_12 a0_13 a0_14 a0_15 a0_16 t153 _ ?side1 A38.out).mono ?_); (case side1 => exact lg_); rintro e w47 ⟨rfl, hb⟩; have n0_ := Aside0.mk (bb_ BK144 hb); have n1_ := Aside0.mk (bb_ BK145 hb); have n2_ := Aside0.mk (bb_ BK146 hb); have n3_ := Aside0.mk (below_step bg_ hb); clear BK144; clear BK145; clear BK146; clear HB; have BK144 := n0_; have BK145 := n1_; have BK146 := n2_; have HB := n3_; clear n0_ n1_ n2_ n3_; (try clear hb); (try clear hb2); (try clear hk); (try clear hi)))
          go_meet
          case rel => exact ⟨_, (t153), sq_, H', ⟨by have := HJ5.out; first | omega | exact Nat.le_refl _⟩, ⟨by (with_reducible repeat (first | refine blk_drewN ?_ _ | refine blk_drew ?_ | refine blk_alloc ?_ _)); exact BK144.out⟩, ⟨by (with_reducible repeat (first | refine blk_drewN ?_ _ | refine blk_drew ?_ | refine blk_alloc ?_ _)); exact BK145.out⟩, ⟨by (with_reducible repeat (first | refine blk_drewN ?_ _ | refine blk_drew ?_ | refine blk_alloc ?_ _)); exact BK146.out⟩, ⟨bg_⟩⟩
         ·rw [if_neg c37] at H
          have c37b0 : decide (a1_17 ≤ a0_17) = false := decide_eq_false c37
          clear c37
          have H' := Aside0.mk H
          clear H
          have hnb48 := NB144_145.out
          have hnc48 := NB145_144.out
          have hnb49 := NB144_146.out
          have hnc49 := NB146_144.out
          have hcz50_0 := cz_ BK144 0 (.bool a0_0)
          have hcz50_17 := cz_ BK144 17 (.int .i64 a0_17)
          have hfz50_0 := bf_ BK144 0
          have hfz50_17 := bf_ BK144 17
          have hnb51 := NB145_146.out
          have hnc51 := NB146_145.out
          have hcz52_0 := cz_ BK145 0 (.bool a1_0)
          have hcz52_17 := cz_ BK145 17 (.int .i64 a1_17)
          have hfz52_0 := bf_ BK145 0
          have hfz52_17 := bf_ BK145 17
          go_wp2_with (first | ((with_reducible refine gate_dst (N := 39) rfl ?_); (try (refine gate_guard (by rfl) ?_; dsimp only)); refine load_box ?hg 34 (.tmp 3) rfl BK144.out [] [.bool a0_0, .int .u8 a0_1, .int .u8 a0_2, .int .u8 a0_3, .int .u8 a0_4, .int .u8 a0_5, .int .u8 a0_6, .int .u8 a0_7, .int .u8 a0_8, .int .u8 a0_9, .int .u8 a0_10, .int .u8 a0_11, .int .u8 a0_12, .int .u8 a0_13, .int .u8 a0_14, .int .u8 a0_15, .int .u8 a0_16, .int .i64 a0_17] [] rfl 0 rfl rfl Tryd.underlying34 rfl (by kernel_rfl) ?_; (case hg => rfl)) | ((with_reducible refine gate_dst (N := 41) rfl ?_); (try (refine gate_guard (by rfl) ?_; dsimp only)); refine load_box ?hg 24 (.tmp 40) rfl BK145.out [] [.bool a1_0, .int .u8 a1_1, .int .u8 a1_2, .int .u8 a1_3, .int .u8 a1_4, .int .u8 a1_5, .int .u8 a1_6, .int .u8 a1_7, .int .u8 a1_8, .int .u8 a1_9, .int .u8 a1_10, .int .u8 a1_11, .int .u8 a1_12, .int .u8 a1_13, .int .u8 a1_14, .int .u8 a1_15, .int .u8 a1_16] [.int .i64 a1_17] rfl 0 rfl rfl Tryd.underlying24 rfl (by kernel_rfl) ?_; (case hg => rfl)) | (go_at_call 16; (with_reducible refine (lanternref06_Has.calls kj5 a0_0 a0_1 a0_2 a0_3 a0_4 a0_5 a0_6 a0_7 a0_8 a0_9 a0_10 a0_11 a0_12 a0_13 a0_14 a0_15 a0_16 a0_17 a1_0 a1_1 a1_2 a1_3 a1_4 a1_5 a1_6 a1_7 a1_8 a1_9 a1_10 a1_11 a1_12 a1_13 a1_14 a1_15 a1_16 false _ ?side1 A29.out).mono ?_); (case side1 => exact lg_); rintro e w53 ⟨rfl, hb⟩; have n0_ := Aside0.mk (bb_ BK144 hb); have n1_ := Aside0.mk (bb_ BK145 hb); have n2_ := Aside0.mk (bb_ BK146 hb); have n3_ := Aside0.mk (below_step bg_ hb); clear BK144; clear BK145; clear BK146; clear HB; have BK144 := n0_; have BK145 := n1_; have BK146 := n2_; have HB := n3_; clear n0_ n1_ n2_ n3_; (try clear hb); (try clear hb2); (try clear hk); (try clear hi); have hcz54_0 := cz_ BK145 0 (.bool a1_0); have hcz54_17 := cz_ BK145 17 (.int .i64 a1_17); have hfz54_0 := bf_ BK145 0; have hfz54_17 := bf_ BK145 17; have hcz55_0 := cz_ BK144 0 (.bool a0_0); have hcz55_17 := cz_ BK144 17 (.int .i64 a0_17); have hfz55_0 := bf_ BK144 0; have hfz55_17 := bf_ BK144 17))
          go_meet
          case rel => exact ⟨_, (false), sq_, H', ⟨by have := HJ5.out; first | omega | exact Nat.le_refl _⟩, ⟨by (with_reducible repeat (first | refine blk_drewN ?_ _ | refine blk_drew ?_ | refine blk_alloc ?_ _)); exact BK144.out⟩, ⟨by (with_reducible repeat (first | refine blk_drewN ?_ _ | refine blk_drew ?_ | refine blk_alloc ?_ _)); exact BK145.out⟩, ⟨by (with_reducible repeat (first | refine blk_drewN ?_ _ | refine blk_drew ?_ | refine blk_alloc ?_ _)); exact BK146.out⟩, ⟨bg_⟩⟩
       ·rw [if_neg c28] at H
        have c28b0 : decide (a0_17 ≤ a1_17) = false := decide_eq_false c28
        clear c28
        (first | rw [c28b0] | (simp only [i64_w, i32_w]; rw [c28b0]) | skip)
        by_cases c56 : a1_17 ≤ a0_17
        ·rw [if_pos c56] at H
         have c56b0 : decide (a1_17 ≤ a0_17) = true := decide_eq_true c56
         clear c56
         replace H := Option.bind_eq_some_iff.mp H
         obtain ⟨t154, A570, H⟩ := H
         (try dsimp only at H)
         have A57 := Aside0.mk A570
         clear A570
         have H' := Aside0.mk H
         clear H
         have hnb58 := NB144_145.out
         have hnc58 := NB145_144.out
         have hnb59 := NB144_146.out
         have hnc59 := NB146_144.out
         have hcz60_0 := cz_ BK144 0 (.bool a0_0)
         have hcz60_17 := cz_ BK144 17 (.int .i64 a0_17)
         have hfz60_0 := bf_ BK144 0
         have hfz60_17 := bf_ BK144 17
         have hnb61 := NB145_146.out
         have hnc61 := NB146_145.out
         have hcz62_0 := cz_ BK145 0 (.bool a1_0)
         have hcz62_17 := cz_ BK145 17 (.int .i64 a1_17)
         have hfz62_0 := bf_ BK145 0
         have hfz62_17 := bf_ BK145 17
         go_wp2_with (first | ((with_reducible refine gate_dst (N := 51) rfl ?_); (try (refine gate_guard (by rfl) ?_; dsimp only)); refine load_box ?hg 34 (.tmp 4) rfl BK145.out [] [.bool a1_0, .int .u8 a1_1, .int .u8 a1_2, .int .u8 a1_3, .int .u8 a1_4, .int .u8 a1_5, .int .u8 a1_6, .int .u8 a1_7, .int .u8 a1_8, .int .u8 a1_9, .int .u8 a1_10, .int .u8 a1_11, .int .u8 a1_12, .int .u8 a1_13, .int .u8 a1_14, .int .u8 a1_15, .int .u8 a1_16, .int .i64 a1_17] [] rfl 0 rfl rfl Tryd.underlying34 rfl (by kernel_rfl) ?_; (case hg => rfl)) | ((with_reducible refine gate_dst (N := 53) rfl ?_); (try (refine gate_guard (by rfl) ?_; dsimp only)); refine load_box ?hg 24 (.tmp 52) rfl BK144.out [] [.bool a0_0, .int .u8 a0_1, .int .u8 a0_2, .int .u8 a0_3, .int .u8 a0_4, .int .u8 a0_5, .int .u8 a0_6, .int .u8 a0_7, .int .u8 a0_8, .int .u8 a0_9, .int .u8 a0_10, .int .u8 a0_11, .int .u8 a0_12, .int .u8 a0_13, .int .u8 a0_14, .int .u8 a0_15, .int .u8 a0_16] [.int .i64 a0_17] rfl 0 rfl rfl Tryd.underlying24 rfl (by kernel_rfl) ?_; (case hg => rfl)) | (go_at_call 16; (with_reducible refine (lanternref06_Has.calls kj5 a1_0 a1_1 a1_2 a1_3 a1_4 a1_5 a1_6 a1_7 a1_8 a1_9 a1_10 a1_11 a1_12 a1_13 a1_14 a1_15 a1_16 a1_17 a0_0 a0_1 a0_2 a0_3 a0_4 a0_5 a0_6 a0_7 a0_8 a0_9 a0_10 a0_11 a0_12 a0_13 a0_14 a0_15 a0_16 t154 _ ?side1 A57.out).mono ?_); (case side1 => exact lg_); rintro e w63 ⟨rfl, hb⟩; have n0_ := Aside0.mk (bb_ BK144 hb); have n1_ := Aside0.mk (bb_ BK145 hb); have n2_ := Aside0.mk (bb_ BK146 hb); have n3_ := Aside0.mk (below_step bg_ hb); clear BK144; clear BK145; clear BK146; clear HB; have BK144 := n0_; have BK145 := n1_; have BK146 := n2_; have HB := n3_; clear n0_ n1_ n2_ n3_; (try clear hb); (try clear hb2); (try clear hk); (try clear hi)))
         go_meet
         case rel => exact ⟨_, (t154), sq_, H', ⟨by have := HJ5.out; first | omega | exact Nat.le_refl _⟩, ⟨by (with_reducible repeat (first | refine blk_drewN ?_ _ | refine blk_drew ?_ | refine blk_alloc ?_ _)); exact BK144.out⟩, ⟨by (with_reducible repeat (first | refine blk_drewN ?_ _ | refine blk_drew ?_ | refine blk_alloc ?_ _)); exact BK145.out⟩, ⟨by (with_reducible repeat (first | refine blk_drewN ?_ _ | refine blk_drew ?_ | refine blk_alloc ?_ _)); exact BK146.out⟩, ⟨bg_⟩⟩
        ·rw [if_neg c56] at H
         have c56b0 : decide (a1_17 ≤ a0_17) = false := decide_eq_false c56
         clear c56
         have H' := Aside0.mk H
         clear H
         have hnb64 := NB144_145.out
         have hnc64 := NB145_144.out
         have hnb65 := NB144_146.out
         have hnc65 := NB146_144.out
         have hcz66_0 := cz_ BK144 0 (.bool a0_0)
         have hcz66_17 := cz_ BK144 17 (.int .i64 a0_17)
         have hfz66_0 := bf_ BK144 0
         have hfz66_17 := bf_ BK144 17
         have hnb67 := NB145_146.out
         have hnc67 := NB146_145.out
         have hcz68_0 := cz_ BK145 0 (.bool a1_0)
         have hcz68_17 := cz_ BK145 17 (.int .i64 a1_17)
         have hfz68_0 := bf_ BK145 0
         have hfz68_17 := bf_ BK145 17
         go_wp2
         go_meet
         case rel => exact ⟨_, (false), sq_, H', ⟨by have := HJ5.out; first | omega | exact Nat.le_refl _⟩, ⟨by (with_reducible repeat (first | refine blk_drewN ?_ _ | refine blk_drew ?_ | refine blk_alloc ?_ _)); exact BK144.out⟩, ⟨by (with_reducible repeat (first | refine blk_drewN ?_ _ | refine blk_drew ?_ | refine blk_alloc ?_ _)); exact BK145.out⟩, ⟨by (with_reducible repeat (first | refine blk_drewN ?_ _ | refine blk_drew ?_ | refine blk_alloc ?_ _)); exact BK146.out⟩, ⟨bg_⟩⟩
      ·replace c27 := Bool.eq_false_iff.mpr c27
       subst c27
       replace H := ifF_ H
       have H' := Aside0.mk H
       clear H
       go_wp2
       go_meet
       case rel => exact ⟨_, (false), sq_, H', ⟨by have := HJ5.out; first | omega | exact Nat.le_refl _⟩, ⟨by (with_reducible repeat (first | refine blk_drewN ?_ _ | refine blk_drew ?_ | refine blk_alloc ?_ _)); exact BK144.out⟩, ⟨by (with_reducible repeat (first | refine blk_drewN ?_ _ | refine blk_drew ?_ | refine blk_alloc ?_ _)); exact BK145.out⟩, ⟨by (with_reducible repeat (first | refine blk_drewN ?_ _ | refine blk_drew ?_ | refine blk_alloc ?_ _)); exact BK146.out⟩, ⟨bg_⟩⟩
     ·replace c26 := Bool.eq_false_iff.mpr c26
      subst c26
      replace H := ifF_ H
      have H' := Aside0.mk H
      clear H
      go_wp2
      go_meet
      case rel => exact ⟨_, (false), sq_, H', ⟨by have := HJ5.out; first | omega | exact Nat.le_refl _⟩, ⟨by (with_reducible repeat (first | refine blk_drewN ?_ _ | refine blk_drew ?_ | refine blk_alloc ?_ _)); exact BK144.out⟩, ⟨by (with_reducible repeat (first | refine blk_drewN ?_ _ | refine blk_drew ?_ | refine blk_alloc ?_ _)); exact BK145.out⟩, ⟨by (with_reducible repeat (first | refine blk_drewN ?_ _ | refine blk_drew ?_ | refine blk_alloc ?_ _)); exact BK146.out⟩, ⟨bg_⟩⟩
    case rest =>
     clear HC25
     try clear c1
     try clear c2
     try clear p2
     try clear c3
     try clear c4
     try clear c5
     try clear c6
     try clear c12
     try clear c14
     try clear c16
     try clear c24
     try clear c26
     try clear c27
     try clear c28
     try clear c28b0
     try clear c30
     try clear c31
     try clear c32
     try clear c34
     try clear c37
     try clear c37b0
     try clear c39
     try clear c40
     try clear c42
     try clear c48
     try clear c49
     try clear c51
     try clear c56
     try clear c56b0
     try clear c58
     try clear c59
     try clear c61
     try clear c64
     try clear c65
     try clear c67
     try clear hcz33_0
     try clear hcz33_1
     try clear hcz33_10
     try clear hcz33_11
     try clear hcz33_12
     try clear hcz33_13
     try clear hcz33_14
     try clear hcz33_15
     try clear hcz33_16
     try clear hcz33_17
     try clear hcz33_2
     try clear hcz33_3
     try clear hcz33_4
     try clear hcz33_5
     try clear hcz33_6
     try clear hcz33_7
     try clear hcz33_8
     try clear hcz33_9
     try clear hcz35_0
     try clear hcz35_1
     try clear hcz35_10
     try clear hcz35_11
     try clear hcz35_12
     try clear hcz35_13
     try clear hcz35_14
     try clear hcz35_15
     try clear hcz35_16
     try clear hcz35_17
     try clear hcz35_2
     try clear hcz35_3
     try clear hcz35_4
     try clear hcz35_5
     try clear hcz35_6
     try clear hcz35_7
     try clear hcz35_8
     try clear hcz35_9
     try clear hcz41_0
     try clear hcz41_1
     try clear hcz41_10
     try clear hcz41_11
     try clear hcz41_12
     try clear hcz41_13
     try clear hcz41_14
     try clear hcz41_15
     try clear hcz41_16
     try clear hcz41_17
     try clear hcz41_2
     try clear hcz41_3
     try clear hcz41_4
     try clear hcz41_5
     try clear hcz41_6
     try clear hcz41_7
     try clear hcz41_8
     try clear hcz41_9
     try clear hcz43_0
     try clear hcz43_1
     try clear hcz43_10
     try clear hcz43_11
     try clear hcz43_12
     try clear hcz43_13
     try clear hcz43_14
     try clear hcz43_15
     try clear hcz43_16
     try clear hcz43_17
     try clear hcz43_2
     try clear hcz43_3
     try clear hcz43_4
     try clear hcz43_5
     try clear hcz43_6
     try clear hcz43_7
     try clear hcz43_8
     try clear hcz43_9
     try clear hcz45_0
     try clear hcz45_1
     try clear hcz45_10
     try clear hcz45_11
     try clear hcz45_12
     try clear hcz45_13
     try clear hcz45_14
     try clear hcz45_15
     try clear hcz45_16
     try clear hcz45_17
     try clear hcz45_2
     try clear hcz45_3
     try clear hcz45_4
     try clear hcz45_5
     try clear hcz45_6
     try clear hcz45_7
     try clear hcz45_8
     try clear hcz45_9
     try clear hcz46_0
     try clear hcz46_1
     try clear hcz46_10
     try clear hcz46_11
     try clear hcz46_12
     try clear hcz46_13
     try clear hcz46_14
     try clear hcz46_15
     try clear hcz46_16
     try clear hcz46_17
     try clear hcz46_2
     try clear hcz46_3
     try clear hcz46_4
     try clear hcz46_5
     try clear hcz46_6
     try clear hcz46_7
     try clear hcz46_8
     try clear hcz46_9
     try clear hcz50_0
     try clear hcz50_1
     try clear hcz50_10
     try clear hcz50_11
     try clear hcz50_12
     try clear hcz50_13
     try clear hcz50_14
     try clear hcz50_15
     try clear hcz50_16
     try clear hcz50_17
     try clear hcz50_2
     try clear hcz50_3
     try clear hcz50_4
     try clear hcz50_5
     try clear hcz50_6
     try clear hcz50_7
     try clear hcz50_8
     try clear hcz50_9
     try clear hcz52_0
     try clear hcz52_1
     try clear hcz52_10
     try clear hcz52_11
     try clear hcz52_12
     try clear hcz52_13
     try clear hcz52_14
     try clear hcz52_15
     try clear hcz52_16
     try clear hcz52_17
     try clear hcz52_2
     try clear hcz52_3
     try clear hcz52_4
     try clear hcz52_5
     try clear hcz52_6
     try clear hcz52_7
     try clear hcz52_8
     try clear hcz52_9
     try clear hcz54_0
     try clear hcz54_1
     try clear hcz54_10
     try clear hcz54_11
     try clear hcz54_12
     try clear hcz54_13
     try clear hcz54_14
     try clear hcz54_15
     try clear hcz54_16
     try clear hcz54_17
     try clear hcz54_2
     try clear hcz54_3
     try clear hcz54_4
     try clear hcz54_5
     try clear hcz54_6
     try clear hcz54_7
     try clear hcz54_8
     try clear hcz54_9
     try clear hcz55_0
     try clear hcz55_1
     try clear hcz55_10
     try clear hcz55_11
     try clear hcz55_12
     try clear hcz55_13
     try clear hcz55_14
     try clear hcz55_15
     try clear hcz55_16
     try clear hcz55_17
     try clear hcz55_2
     try clear hcz55_3
     try clear hcz55_4
     try clear hcz55_5
     try clear hcz55_6
     try clear hcz55_7
     try clear hcz55_8
     try clear hcz55_9
     try clear hcz60_0
     try clear hcz60_1
     try clear hcz60_10
     try clear hcz60_11
     try clear hcz60_12
     try clear hcz60_13
     try clear hcz60_14
     try clear hcz60_15
     try clear hcz60_16
     try clear hcz60_17
     try clear hcz60_2
     try clear hcz60_3
     try clear hcz60_4
     try clear hcz60_5
     try clear hcz60_6
     try clear hcz60_7
     try clear hcz60_8
     try clear hcz60_9
     try clear hcz62_0
     try clear hcz62_1
     try clear hcz62_10
     try clear hcz62_11
     try clear hcz62_12
     try clear hcz62_13
     try clear hcz62_14
     try clear hcz62_15
     try clear hcz62_16
     try clear hcz62_17
     try clear hcz62_2
     try clear hcz62_3
     try clear hcz62_4
     try clear hcz62_5
     try clear hcz62_6
     try clear hcz62_7
     try clear hcz62_8
     try clear hcz62_9
     try clear hcz66_0
     try clear hcz66_1
     try clear hcz66_10
     try clear hcz66_11
     try clear hcz66_12
     try clear hcz66_13
     try clear hcz66_14
     try clear hcz66_15
     try clear hcz66_16
     try clear hcz66_17
     try clear hcz66_2
     try clear hcz66_3
     try clear hcz66_4
     try clear hcz66_5
     try clear hcz66_6
     try clear hcz66_7
     try clear hcz66_8
     try clear hcz66_9
     try clear hcz68_0
     try clear hcz68_1
     try clear hcz68_10
     try clear hcz68_11
     try clear hcz68_12
     try clear hcz68_13
     try clear hcz68_14
     try clear hcz68_15
     try clear hcz68_16
     try clear hcz68_17
     try clear hcz68_2
     try clear hcz68_3
     try clear hcz68_4
     try clear hcz68_5
     try clear hcz68_6
     try clear hcz68_7
     try clear hcz68_8
     try clear hcz68_9
     try clear hfz33_0
     try clear hfz33_1
     try clear hfz33_10
     try clear hfz33_11
     try clear hfz33_12
     try clear hfz33_13
     try clear hfz33_14
     try clear hfz33_15
     try clear hfz33_16
     try clear hfz33_17
     try clear hfz33_2
     try clear hfz33_3
     try clear hfz33_4
     try clear hfz33_5
     try clear hfz33_6
     try clear hfz33_7
     try clear hfz33_8
     try clear hfz33_9
     try clear hfz35_0
     try clear hfz35_1
     try clear hfz35_10
     try clear hfz35_11
     try clear hfz35_12
     try clear hfz35_13
     try clear hfz35_14
     try clear hfz35_15
     try clear hfz35_16
     try clear hfz35_17
     try clear hfz35_2
     try clear hfz35_3
     try clear hfz35_4
     try clear hfz35_5
     try clear hfz35_6
     try clear hfz35_7
     try clear hfz35_8
     try clear hfz35_9
     try clear hfz41_0
     try clear hfz41_1
     try clear hfz41_10
     try clear hfz41_11
     try clear hfz41_12
     try clear hfz41_13
     try clear hfz41_14
     try clear hfz41_15
     try clear hfz41_16
     try clear hfz41_17
     try clear hfz41_2
     try clear hfz41_3
     try clear hfz41_4
     try clear hfz41_5
     try clear hfz41_6
     try clear hfz41_7
     try clear hfz41_8
     try clear hfz41_9
     try clear hfz43_0
     try clear hfz43_1
     try clear hfz43_10
     try clear hfz43_11
     try clear hfz43_12
     try clear hfz43_13
     try clear hfz43_14
     try clear hfz43_15
     try clear hfz43_16
     try clear hfz43_17
     try clear hfz43_2
     try clear hfz43_3
     try clear hfz43_4
     try clear hfz43_5
     try clear hfz43_6
     try clear hfz43_7
     try clear hfz43_8
     try clear hfz43_9
     try clear hfz45_0
     try clear hfz45_1
     try clear hfz45_10
     try clear hfz45_11
     try clear hfz45_12
     try clear hfz45_13
     try clear hfz45_14
     try clear hfz45_15
     try clear hfz45_16
     try clear hfz45_17
     try clear hfz45_2
     try clear hfz45_3
     try clear hfz45_4
     try clear hfz45_5
     try clear hfz45_6
     try clear hfz45_7
     try clear hfz45_8
     try clear hfz45_9
     try clear hfz46_0
     try clear hfz46_1
     try clear hfz46_10
     try clear hfz46_11
     try clear hfz46_12
     try clear hfz46_13
     try clear hfz46_14
     try clear hfz46_15
     try clear hfz46_16
     try clear hfz46_17
     try clear hfz46_2
     try clear hfz46_3
     try clear hfz46_4
     try clear hfz46_5
     try clear hfz46_6
     try clear hfz46_7
     try clear hfz46_8
     try clear hfz46_9
     try clear hfz50_0
     try clear hfz50_1
     try clear hfz50_10
     try clear hfz50_11
     try clear hfz50_12
     try clear hfz50_13
     try clear hfz50_14
     try clear hfz50_15
     try clear hfz50_16
     try clear hfz50_17
     try clear hfz50_2
     try clear hfz50_3
     try clear hfz50_4
     try clear hfz50_5
     try clear hfz50_6
     try clear hfz50_7
     try clear hfz50_8
     try clear hfz50_9
     try clear hfz52_0
     try clear hfz52_1
     try clear hfz52_10
     try clear hfz52_11
     try clear hfz52_12
     try clear hfz52_13
     try clear hfz52_14
     try clear hfz52_15
     try clear hfz52_16
     try clear hfz52_17
     try clear hfz52_2
     try clear hfz52_3
     try clear hfz52_4
     try clear hfz52_5
     try clear hfz52_6
     try clear hfz52_7
     try clear hfz52_8
     try clear hfz52_9
     try clear hfz54_0
     try clear hfz54_1
     try clear hfz54_10
     try clear hfz54_11
     try clear hfz54_12
     try clear hfz54_13
     try clear hfz54_14
     try clear hfz54_15
     try clear hfz54_16
     try clear hfz54_17
     try clear hfz54_2
     try clear hfz54_3
     try clear hfz54_4
     try clear hfz54_5
     try clear hfz54_6
     try clear hfz54_7
     try clear hfz54_8
     try clear hfz54_9
     try clear hfz55_0
     try clear hfz55_1
     try clear hfz55_10
     try clear hfz55_11
     try clear hfz55_12
     try clear hfz55_13
     try clear hfz55_14
     try clear hfz55_15
     try clear hfz55_16
     try clear hfz55_17
     try clear hfz55_2
     try clear hfz55_3
     try clear hfz55_4
     try clear hfz55_5
     try clear hfz55_6
     try clear hfz55_7
     try clear hfz55_8
     try clear hfz55_9
     try clear hfz60_0
     try clear hfz60_1
     try clear hfz60_10
     try clear hfz60_11
     try clear hfz60_12
     try clear hfz60_13
     try clear hfz60_14
     try clear hfz60_15
     try clear hfz60_16
     try clear hfz60_17
     try clear hfz60_2
     try clear hfz60_3
     try clear hfz60_4
     try clear hfz60_5
     try clear hfz60_6
     try clear hfz60_7
     try clear hfz60_8
     try clear hfz60_9
     try clear hfz62_0
     try clear hfz62_1
     try clear hfz62_10
     try clear hfz62_11
     try clear hfz62_12
     try clear hfz62_13
     try clear hfz62_14
     try clear hfz62_15
     try clear hfz62_16
     try clear hfz62_17
     try clear hfz62_2
     try clear hfz62_3
     try clear hfz62_4
     try clear hfz62_5
     try clear hfz62_6
     try clear hfz62_7
     try clear hfz62_8
     try clear hfz62_9
     try clear hfz66_0
     try clear hfz66_1
     try clear hfz66_10
     try clear hfz66_11
     try clear hfz66_12
     try clear hfz66_13
     try clear hfz66_14
     try clear hfz66_15
     try clear hfz66_16
     try clear hfz66_17
     try clear hfz66_2
     try clear hfz66_3
     try clear hfz66_4
     try clear hfz66_5
     try clear hfz66_6
     try clear hfz66_7
     try clear hfz66_8
     try clear hfz66_9
     try clear hfz68_0
     try clear hfz68_1
     try clear hfz68_10
     try clear hfz68_11
     try clear hfz68_12
     try clear hfz68_13
     try clear hfz68_14
     try clear hfz68_15
     try clear hfz68_16
     try clear hfz68_17
     try clear hfz68_2
     try clear hfz68_3
     try clear hfz68_4
     try clear hfz68_5
     try clear hfz68_6
     try clear hfz68_7
     try clear hfz68_8
     try clear hfz68_9
     try clear p2
     obtain ⟨kq, x9_24, rfl, HA, HJ24, BK144, BK145, BK146, HB⟩ := hcut
     cases kq with
     | zero => exact absurd HA.out (by simp [lanternlaw06_CidrHas.j1])
     | succ kj24 =>
      have H := HA.out
      clear HA
      simp only [lanternlaw06_CidrHas.j1] at H
      replace H := Option.bind_eq_some_iff.mp H
      obtain ⟨t155, A690, H⟩ := H
      (try dsimp only at H)
      have A69 := Aside0.mk A690
      clear A690
      by_cases c70 : (t155 != x9_24) = true
      ·rw [if_pos c70] at H
       exact absurd H (by simp)
      ·rw [if_neg c70] at H
       have c70b0 : (t155 != x9_24) = false := by simpa using c70
       (try (have c70b1 : decide (t155 = x9_24) = true := by simpa using c70))
       (try (have c70b2 : (t155 == x9_24) = true := by simpa using c70))
       clear c70
       replace H := Option.bind_eq_some_iff.mp H
       obtain ⟨t156, A710, H⟩ := H
       (try dsimp only at H)
       have A71 := Aside0.mk A710
       clear A710
       by_cases c72 : (t156 != x9_24) = true
       ·rw [if_pos c72] at H
        have c72b0 : (t156 != x9_24) = true := c72
        (try (have c72b1 : decide (t156 = x9_24) = false := by simpa using c72))
        (try (have c72b2 : (t156 == x9_24) = false := by simpa using c72))
        (try (have c72b3 : ¬ (t156 = x9_24) := by simpa using c72))
        clear c72
        obtain rfl := Option.some.inj H
        go_wp2_with (first | ((with_reducible refine gate_dst (N := 58) rfl ?_); (try (refine gate_guard (by rfl) ?_; dsimp only)); refine load_box ?hg 34 (.tmp 3) rfl BK144.out [] [.bool a0_0, .int .u8 a0_1, .int .u8 a0_2, .int .u8 a0_3, .int .u8 a0_4, .int .u8 a0_5, .int .u8 a0_6, .int .u8 a0_7, .int .u8 a0_8, .int .u8 a0_9, .int .u8 a0_10, .int .u8 a0_11, .int .u8 a0_12, .int .u8 a0_13, .int .u8 a0_14, .int .u8 a0_15, .int .u8 a0_16, .int .i64 a0_17] [] rfl 0 rfl rfl Tryd.underlying34 rfl (by kernel_rfl) ?_; (case hg => rfl)) | ((with_reducible refine gate_dst (N := 59) rfl ?_); (try (refine gate_guard (by rfl) ?_; dsimp only)); refine load_box ?hg 34 (.tmp 4) rfl BK145.out [] [.bool a1_0, .int .u8 a1_1, .int .u8 a1_2, .int .u8 a1_3, .int .u8 a1_4, .int .u8 a1_5, .int .u8 a1_6, .int .u8 a1_7, .int .u8 a1_8, .int .u8 a1_9, .int .u8 a1_10, .int .u8 a1_11, .int .u8 a1_12, .int .u8 a1_13, .int .u8 a1_14, .int .u8 a1_15, .int .u8 a1_16, .int .i64 a1_17] [] rfl 0 rfl rfl Tryd.underlying34 rfl (by kernel_rfl) ?_; (case hg => rfl)) | ((with_reducible refine gate_callee (f := 17) rfl ?_); refine goesL_ (some 60) rfl rfl Tryd.func17 (by kernel_rfl) rfl #[.agg #[.bool a0_0, .int .u8 a0_1, .int .u8 a0_2, .int .u8 a0_3, .int .u8 a0_4, .int .u8 a0_5, .int .u8 a0_6, .int .u8 a0_7, .int .u8 a0_8, .int .u8 a0_9, .int .u8 a0_10, .int .u8 a0_11, .int .u8 a0_12, .int .u8 a0_13, .int .u8 a0_14, .int .u8 a0_15, .int .u8 a0_16, .int .i64 a0_17], .agg #[.bool a1_0, .int .u8 a1_1, .int .u8 a1_2, .int .u8 a1_3, .int .u8 a1_4, .int .u8 a1_5, .int .u8 a1_6, .int .u8 a1_7, .int .u8 a1_8, .int .u8 a1_9, .int .u8 a1_10, .int .u8 a1_11, .int .u8 a1_12, .int .u8 a1_13, .int .u8 a1_14, .int .u8 a1_15, .int .u8 a1_16, .int .i64 a1_17]] rfl lq_ ?_; (with_reducible refine (cidr_Meet.calls a0_0 a0_1 a0_2 a0_3 a0_4 a0_5 a0_6 a0_7 a0_8 a0_9 a0_10 a0_11 a0_12 a0_13 a0_14 a0_15 a0_16 a0_17 a1_0 a1_1 a1_2 a1_3 a1_4 a1_5 a1_6 a1_7 a1_8 a1_9 a1_10 a1_11 a1_12 a1_13 a1_14 a1_15 a1_16 a1_17 t155 _ ?side1 A69.out).mono ?_); (case side1 => exact lg_); rintro e w73 ⟨rfl, hb⟩; refine ⟨_, rfl, ?_⟩; have n0_ := Aside0.mk (bb_ BK144 hb); have n1_ := Aside0.mk (bb_ BK145 hb); have n2_ := Aside0.mk (bb_ BK146 hb); have n3_ := Aside0.mk (below_step bg_ hb); clear BK144; clear BK145; clear BK146; clear HB; have BK144 := n0_; have BK145 := n1_; have BK146 := n2_; have HB := n3_; clear n0_ n1_ n2_ n3_; (try clear hb); (try clear hb2); (try clear hk); (try clear hi)) | ((with_reducible refine gate_dst (N := 64) rfl ?_); (try (refine gate_guard (by rfl) ?_; dsimp only)); refine load_box ?hg 34 (.tmp 4) rfl BK145.out [] [.bool a1_0, .int .u8 a1_1, .int .u8 a1_2, .int .u8 a1_3, .int .u8 a1_4, .int .u8 a1_5, .int .u8 a1_6, .int .u8 a1_7, .int .u8 a1_8, .int .u8 a1_9, .int .u8 a1_10, .int .u8 a1_11, .int .u8 a1_12, .int .u8 a1_13, .int .u8 a1_14, .int .u8 a1_15, .int .u8 a1_16, .int .i64 a1_17] [] rfl 0 rfl rfl Tryd.underlying34 rfl (by kernel_rfl) ?_; (case hg => rfl)) | ((with_reducible refine gate_dst (N := 65) rfl ?_); (try (refine gate_guard (by rfl) ?_; dsimp only)); refine load_box ?hg 34 (.tmp 3) rfl BK144.out [] [.bool a0_0, .int .u8 a0_1, .int .u8 a0_2, .int .u8 a0_3, .int .u8 a0_4, .int .u8 a0_5, .int .u8 a0_6, .int .u8 a0_7, .int .u8 a0_8, .int .u8 a0_9, .int .u8 a0_10, .int .u8 a0_11, .int .u8 a0_12, .int .u8 a0_13, .int .u8 a0_14, .int .u8 a0_15, .int .u8 a0_16, .int .i64 a0_17] [] rfl 0 rfl rfl Tryd.underlying34 rfl (by kernel_rfl) ?_; (case hg => rfl)) | (go_at_call 17; (with_reducible refine (cidr_Meet.calls a1_0 a1_1 a1_2 a1_3 a1_4 a1_5 a1_6 a1_7 a1_8 a1_9 a1_10 a1_11 a1_12 a1_13 a1_14 a1_15 a1_16 a1_17 a0_0 a0_1 a0_2 a0_3 a0_4 a0_5 a0_6 a0_7 a0_8 a0_9 a0_10 a0_11 a0_12 a0_13 a0_14 a0_15 a0_16 a0_17 t156 _ ?side1 A71.out).mono ?_); (case side1 => exact lg_); rintro e w74 ⟨rfl, hb⟩; have n0_ := Aside0.mk (bb_ BK144 hb); have n1_ := Aside0.mk (bb_ BK145 hb); have n2_ := Aside0.mk (bb_ BK146 hb); have n3_ := Aside0.mk (below_step bg_ hb); clear BK144; clear BK145; clear BK146; clear HB; have BK144 := n0_; have BK145 := n1_; have BK146 := n2_; have HB := n3_; clear n0_ n1_ n2_ n3_; (try clear hb); (try clear hb2); (try clear hk); (try clear hi)))
        go_ret
        exact ⟨rq_, bg_⟩
       ·rw [if_neg c72] at H
        have c72b0 : (t156 != x9_24) = false := by simpa using c72
        (try (have c72b1 : decide (t156 = x9_24) = true := by simpa using c72))
        (try (have c72b2 : (t156 == x9_24) = true := by simpa using c72))
        clear c72
        replace H := Option.bind_eq_some_iff.mp H
        obtain ⟨t157, A750, H⟩ := H
        (try dsimp only at H)
        have A75 := Aside0.mk A750
        clear A750
        by_cases c76 : t157 = true
        ·subst c76
         replace H := ifT_ H
         replace H := Option.bind_eq_some_iff.mp H
         obtain ⟨t158, A770, H⟩ := H
         (try dsimp only at H)
         have A77 := Aside0.mk A770
         clear A770
         by_cases c78 : t158 = true
         ·subst c78
          replace H := ifT_ H
          by_cases c79 : x9_24 = true
          ·subst c79
           replace H := ifT_ H
           replace H := Option.bind_eq_some_iff.mp H
           obtain ⟨t159, A800, H⟩ := H
           (try dsimp only at H)
           have A80 := Aside0.mk A800
           clear A800
           obtain rfl := Option.some.inj H
           go_wp2_with (first | ((with_reducible refine gate_dst (N := 58) rfl ?_); (try (refine gate_guard (by rfl) ?_; dsimp only)); refine load_box ?hg 34 (.tmp 3) rfl BK144.out [] [.bool a0_0, .int .u8 a0_1, .int .u8 a0_2, .int .u8 a0_3, .int .u8 a0_4, .int .u8 a0_5, .int .u8 a0_6, .int .u8 a0_7, .int .u8 a0_8, .int .u8 a0_9, .int .u8 a0_10, .int .u8 a0_11, .int .u8 a0_12, .int .u8 a0_13, .int .u8 a0_14, .int .u8 a0_15, .int .u8 a0_16, .int .i64 a0_17] [] rfl 0 rfl rfl Tryd.underlying34 rfl (by kernel_rfl) ?_; (case hg => rfl)) | ((with_reducible refine gate_dst (N := 59) rfl ?_); (try (refine gate_guard (by rfl) ?_; dsimp only)); refine load_box ?hg 34 (.tmp 4) rfl BK145.out [] [.bool a1_0, .int .u8 a1_1, .int .u8 a1_2, .int .u8 a1_3, .int .u8 a1_4, .int .u8 a1_5, .int .u8 a1_6, .int .u8 a1_7, .int .u8 a1_8, .int .u8 a1_9, .int .u8 a1_10, .int .u8 a1_11, .int .u8 a1_12, .int .u8 a1_13, .int .u8 a1_14, .int .u8 a1_15, .int .u8 a1_16, .int .i64 a1_17] [] rfl 0 rfl rfl Tryd.underlying34 rfl (by kernel_rfl) ?_; (case hg => rfl)) | ((with_reducible refine gate_callee (f := 17) rfl ?_); refine goesL_ (some 60) rfl rfl Tryd.func17 (by kernel_rfl) rfl #[.agg #[.bool a0_0, .int .u8 a0_1, .int .u8 a0_2, .int .u8 a0_3, .int .u8 a0_4, .int .u8 a0_5, .int .u8 a0_6, .int .u8 a0_7, .int .u8 a0_8, .int .u8 a0_9, .int .u8 a0_10, .int .u8 a0_11, .int .u8 a0_12, .int .u8 a0_13, .int .u8 a0_14, .int .u8 a0_15, .int .u8 a0_16, .int .i64 a0_17], .agg #[.bool a1_0, .int .u8 a1_1, .int .u8 a1_2, .int .u8 a1_3, .int .u8 a1_4, .int .u8 a1_5, .int .u8 a1_6, .int .u8 a1_7, .int .u8 a1_8, .int .u8 a1_9, .int .u8 a1_10, .int .u8 a1_11, .int .u8 a1_12, .int .u8 a1_13, .int .u8 a1_14, .int .u8 a1_15, .int .u8 a1_16, .int .i64 a1_17]] rfl lq_ ?_; (with_reducible refine (cidr_Meet.calls a0_0 a0_1 a0_2 a0_3 a0_4 a0_5 a0_6 a0_7 a0_8 a0_9 a0_10 a0_11 a0_12 a0_13 a0_14 a0_15 a0_16 a0_17 a1_0 a1_1 a1_2 a1_3 a1_4 a1_5 a1_6 a1_7 a1_8 a1_9 a1_10 a1_11 a1_12 a1_13 a1_14 a1_15 a1_16 a1_17 t155 _ ?side1 A69.out).mono ?_); (case side1 => exact lg_); rintro e w81 ⟨rfl, hb⟩; refine ⟨_, rfl, ?_⟩; have n0_ := Aside0.mk (bb_ BK144 hb); have n1_ := Aside0.mk (bb_ BK145 hb); have n2_ := Aside0.mk (bb_ BK146 hb); have n3_ := Aside0.mk (below_step bg_ hb); clear BK144; clear BK145; clear BK146; clear HB; have BK144 := n0_; have BK145 := n1_; have BK146 := n2_; have HB := n3_; clear n0_ n1_ n2_ n3_; (try clear hb); (try clear hb2); (try clear hk); (try clear hi)) | ((with_reducible refine gate_dst (N := 64) rfl ?_); (try (refine gate_guard (by rfl) ?_; dsimp only)); refine load_box ?hg 34 (.tmp 4) rfl BK145.out [] [.bool a1_0, .int .u8 a1_1, .int .u8 a1_2, .int .u8 a1_3, .int .u8 a1_4, .int .u8 a1_5, .int .u8 a1_6, .int .u8 a1_7, .int .u8 a1_8, .int .u8 a1_9, .int .u8 a1_10, .int .u8 a1_11, .int .u8 a1_12, .int .u8 a1_13, .int .u8 a1_14, .int .u8 a1_15, .int .u8 a1_16, .int .i64 a1_17] [] rfl 0 rfl rfl Tryd.underlying34 rfl (by kernel_rfl) ?_; (case hg => rfl)) | ((with_reducible refine gate_dst (N := 65) rfl ?_); (try (refine gate_guard (by rfl) ?_; dsimp only)); refine load_box ?hg 34 (.tmp 3) rfl BK144.out [] [.bool a0_0, .int .u8 a0_1, .int .u8 a0_2, .int .u8 a0_3, .int .u8 a0_4, .int .u8 a0_5, .int .u8 a0_6, .int .u8 a0_7, .int .u8 a0_8, .int .u8 a0_9, .int .u8 a0_10, .int .u8 a0_11, .int .u8 a0_12, .int .u8 a0_13, .int .u8 a0_14, .int .u8 a0_15, .int .u8 a0_16, .int .i64 a0_17] [] rfl 0 rfl rfl Tryd.underlying34 rfl (by kernel_rfl) ?_; (case hg => rfl)) | (go_at_call 17; (with_reducible refine (cidr_Meet.calls a1_0 a1_1 a1_2 a1_3 a1_4 a1_5 a1_6 a1_7 a1_8 a1_9 a1_10 a1_11 a1_12 a1_13 a1_14 a1_15 a1_16 a1_17 a0_0 a0_1 a0_2 a0_3 a0_4 a0_5 a0_6 a0_7 a0_8 a0_9 a0_10 a0_11 a0_12 a0_13 a0_14 a0_15 a0_16 a0_17 t156 _ ?side1 A71.out).mono ?_); (case side1 => exact lg_); rintro e w82 ⟨rfl, hb⟩; have n0_ := Aside0.mk (bb_ BK144 hb); have n1_ := Aside0.mk (bb_ BK145 hb); have n2_ := Aside0.mk (bb_ BK146 hb); have n3_ := Aside0.mk (below_step bg_ hb); clear BK144; clear BK145; clear BK146; clear HB; have BK144 := n0_; have BK145 := n1_; have BK146 := n2_; have HB := n3_; clear n0_ n1_ n2_ n3_; (try clear hb); (try clear hb2); (try clear hk); (try clear hi)) | ((with_reducible refine gate_dst (N := 70) rfl ?_); (try (refine gate_guard (by rfl) ?_; dsimp only)); refine load_box ?hg 34 (.tmp 3) rfl BK144.out [] [.bool a0_0, .int .u8 a0_1, .int .u8 a0_2, .int .u8 a0_3, .int .u8 a0_4, .int .u8 a0_5, .int .u8 a0_6, .int .u8 a0_7, .int .u8 a0_8, .int .u8 a0_9, .int .u8 a0_10, .int .u8 a0_11, .int .u8 a0_12, .int .u8 a0_13, .int .u8 a0_14, .int .u8 a0_15, .int .u8 a0_16, .int .i64 a0_17] [] rfl 0 rfl rfl Tryd.underlying34 rfl (by kernel_rfl) ?_; (case hg => rfl)) | ((with_reducible refine gate_dst (N := 71) rfl ?_); (try (refine gate_guard (by rfl) ?_; dsimp only)); refine load_box ?hg 24 (.tmp 5) rfl BK146.out [] [.bool a2_0, .int .u8 a2_1, .int .u8 a2_2, .int .u8 a2_3, .int .u8 a2_4, .int .u8 a2_5, .int .u8 a2_6, .int .u8 a2_7, .int .u8 a2_8, .int .u8 a2_9, .int .u8 a2_10, .int .u8 a2_11, .int .u8 a2_12, .int .u8 a2_13, .int .u8 a2_14, .int .u8 a2_15, .int .u8 a2_16] [] rfl 0 rfl rfl Tryd.underlying24 rfl (by kernel_rfl) ?_; (case hg => rfl)) | ((with_reducible refine gate_callee (f := 12) rfl ?_); refine goesL_ (some 72) rfl rfl Tryd.func12 (by kernel_rfl) rfl #[.agg #[.bool a0_0, .int .u8 a0_1, .int .u8 a0_2, .int .u8 a0_3, .int .u8 a0_4, .int .u8 a0_5, .int .u8 a0_6, .int .u8 a0_7, .int .u8 a0_8, .int .u8 a0_9, .int .u8 a0_10, .int .u8 a0_11, .int .u8 a0_12, .int .u8 a0_13, .int .u8 a0_14, .int .u8 a0_15, .int .u8 a0_16, .int .i64 a0_17], .agg #[.bool a2_0, .int .u8 a2_1, .int .u8 a2_2, .int .u8 a2_3, .int .u8 a2_4, .int .u8 a2_5, .int .u8 a2_6, .int .u8 a2_7, .int .u8 a2_8, .int .u8 a2_9, .int .u8 a2_10, .int .u8 a2_11, .int .u8 a2_12, .int .u8 a2_13, .int .u8 a2_14, .int .u8 a2_15, .int .u8 a2_16]] rfl lq_ ?_; (with_reducible refine (cidr_Has.calls a0_0 a0_1 a0_2 a0_3 a0_4 a0_5 a0_6 a0_7 a0_8 a0_9 a0_10 a0_11 a0_12 a0_13 a0_14 a0_15 a0_16 a0_17 a2_0 a2_1 a2_2 a2_3 a2_4 a2_5 a2_6 a2_7 a2_8 a2_9 a2_10 a2_11 a2_12 a2_13 a2_14 a2_15 a2_16 true _ ?side1 A75.out).mono ?_); (case side1 => exact lg_); rintro e w83 ⟨rfl, hb⟩; refine ⟨_, rfl, ?_⟩; have n0_ := Aside0.mk (bb_ BK144 hb); have n1_ := Aside0.mk (bb_ BK145 hb); have n2_ := Aside0.mk (bb_ BK146 hb); have n3_ := Aside0.mk (below_step bg_ hb); clear BK144; clear BK145; clear BK146; clear HB; have BK144 := n0_; have BK145 := n1_; have BK146 := n2_; have HB := n3_; clear n0_ n1_ n2_ n3_; (try clear hb); (try clear hb2); (try clear hk); (try clear hi)) | ((with_reducible refine gate_dst (N := 75) rfl ?_); (try (refine gate_guard (by rfl) ?_; dsimp only)); refine load_box ?hg 34 (.tmp 4) rfl BK145.out [] [.bool a1_0, .int .u8 a1_1, .int .u8 a1_2, .int .u8 a1_3, .int .u8 a1_4, .int .u8 a1_5, .int .u8 a1_6, .int .u8 a1_7, .int .u8 a1_8, .int .u8 a1_9, .int .u8 a1_10, .int .u8 a1_11, .int .u8 a1_12, .int .u8 a1_13, .int .u8 a1_14, .int .u8 a1_15, .int .u8 a1_16, .int .i64 a1_17] [] rfl 0 rfl rfl Tryd.underlying34 rfl (by kernel_rfl) ?_; (case hg => rfl)) | ((with_reducible refine gate_dst (N := 76) rfl ?_); (try (refine gate_guard (by rfl) ?_; dsimp only)); refine load_box ?hg 24 (.tmp 5) rfl BK146.out [] [.bool a2_0, .int .u8 a2_1, .int .u8 a2_2, .int .u8 a2_3, .int .u8 a2_4, .int .u8 a2_5, .int .u8 a2_6, .int .u8 a2_7, .int .u8 a2_8, .int .u8 a2_9, .int .u8 a2_10, .int .u8 a2_11, .int .u8 a2_12, .int .u8 a2_13, .int .u8 a2_14, .int .u8 a2_15, .int .u8 a2_16] [] rfl 0 rfl rfl Tryd.underlying24 rfl (by kernel_rfl) ?_; (case hg => rfl)) | (go_at_call 12; (with_reducible refine (cidr_Has.calls a1_0 a1_1 a1_2 a1_3 a1_4 a1_5 a1_6 a1_7 a1_8 a1_9 a1_10 a1_11 a1_12 a1_13 a1_14 a1_15 a1_16 a1_17 a2_0 a2_1 a2_2 a2_3 a2_4 a2_5 a2_6 a2_7 a2_8 a2_9 a2_10 a2_11 a2_12 a2_13 a2_14 a2_15 a2_16 true _ ?side1 A77.out).mono ?_); (case side1 => exact lg_); rintro e w84 ⟨rfl, hb⟩; have n0_ := Aside0.mk (bb_ BK144 hb); have n1_ := Aside0.mk (bb_ BK145 hb); have n2_ := Aside0.mk (bb_ BK146 hb); have n3_ := Aside0.mk (below_step bg_ hb); clear BK144; clear BK145; clear BK146; clear HB; have BK144 := n0_; have BK145 := n1_; have BK146 := n2_; have HB := n3_; clear n0_ n1_ n2_ n3_; (try clear hb); (try clear hb2); (try clear hk); (try clear hi)) | (go_at_call 6; (with_reducible refine (lanternlaw06_awake.calls kj24  t159 _ ?side1 A80.out).mono ?_); (case side1 => exact lg_); rintro e w85 ⟨rfl, hb⟩; have n0_ := Aside0.mk (bb_ BK144 hb); have n1_ := Aside0.mk (bb_ BK145 hb); have n2_ := Aside0.mk (bb_ BK146 hb); have n3_ := Aside0.mk (below_step bg_ hb); clear BK144; clear BK145; clear BK146; clear HB; have BK144 := n0_; have BK145 := n1_; have BK146 := n2_; have HB := n3_; clear n0_ n1_ n2_ n3_; (try clear hb); (try clear hb2); (try clear hk); (try clear hi)))
           go_ret
           exact ⟨rq_, bg_⟩
          ·replace c79 := Bool.eq_false_iff.mpr c79
           subst c79
           replace H := ifF_ H
           exact absurd H (by simp)
         ·replace c78 := Bool.eq_false_iff.mpr c78
          subst c78
          replace H := ifF_ H
          replace H := Option.bind_eq_some_iff.mp H
          obtain ⟨t160, A860, H⟩ := H
          (try dsimp only at H)
          have A86 := Aside0.mk A860
          clear A860
          obtain rfl := Option.some.inj H
          go_wp2_with (first | ((with_reducible refine gate_dst (N := 58) rfl ?_); (try (refine gate_guard (by rfl) ?_; dsimp only)); refine load_box ?hg 34 (.tmp 3) rfl BK144.out [] [.bool a0_0, .int .u8 a0_1, .int .u8 a0_2, .int .u8 a0_3, .int .u8 a0_4, .int .u8 a0_5, .int .u8 a0_6, .int .u8 a0_7, .int .u8 a0_8, .int .u8 a0_9, .int .u8 a0_10, .int .u8 a0_11, .int .u8 a0_12, .int .u8 a0_13, .int .u8 a0_14, .int .u8 a0_15, .int .u8 a0_16, .int .i64 a0_17] [] rfl 0 rfl rfl Tryd.underlying34 rfl (by kernel_rfl) ?_; (case hg => rfl)) | ((with_reducible refine gate_dst (N := 59) rfl ?_); (try (refine gate_guard (by rfl) ?_; dsimp only)); refine load_box ?hg 34 (.tmp 4) rfl BK145.out [] [.bool a1_0, .int .u8 a1_1, .int .u8 a1_2, .int .u8 a1_3, .int .u8 a1_4, .int .u8 a1_5, .int .u8 a1_6, .int .u8 a1_7, .int .u8 a1_8, .int .u8 a1_9, .int .u8 a1_10, .int .u8 a1_11, .int .u8 a1_12, .int .u8 a1_13, .int .u8 a1_14, .int .u8 a1_15, .int .u8 a1_16, .int .i64 a1_17] [] rfl 0 rfl rfl Tryd.underlying34 rfl (by kernel_rfl) ?_; (case hg => rfl)) | ((with_reducible refine gate_callee (f := 17) rfl ?_); refine goesL_ (some 60) rfl rfl Tryd.func17 (by kernel_rfl) rfl #[.agg #[.bool a0_0, .int .u8 a0_1, .int .u8 a0_2, .int .u8 a0_3, .int .u8 a0_4, .int .u8 a0_5, .int .u8 a0_6, .int .u8 a0_7, .int .u8 a0_8, .int .u8 a0_9, .int .u8 a0_10, .int .u8 a0_11, .int .u8 a0_12, .int .u8 a0_13, .int .u8 a0_14, .int .u8 a0_15, .int .u8 a0_16, .int .i64 a0_17], .agg #[.bool a1_0, .int .u8 a1_1, .int .u8 a1_2, .int .u8 a1_3, .int .u8 a1_4, .int .u8 a1_5, .int .u8 a1_6, .int .u8 a1_7, .int .u8 a1_8, .int .u8 a1_9, .int .u8 a1_10, .int .u8 a1_11, .int .u8 a1_12, .int .u8 a1_13, .int .u8 a1_14, .int .u8 a1_15, .int .u8 a1_16, .int .i64 a1_17]] rfl lq_ ?_; (with_reducible refine (cidr_Meet.calls a0_0 a0_1 a0_2 a0_3 a0_4 a0_5 a0_6 a0_7 a0_8 a0_9 a0_10 a0_11 a0_12 a0_13 a0_14 a0_15 a0_16 a0_17 a1_0 a1_1 a1_2 a1_3 a1_4 a1_5 a1_6 a1_7 a1_8 a1_9 a1_10 a1_11 a1_12 a1_13 a1_14 a1_15 a1_16 a1_17 t155 _ ?side1 A69.out).mono ?_); (case side1 => exact lg_); rintro e w87 ⟨rfl, hb⟩; refine ⟨_, rfl, ?_⟩; have n0_ := Aside0.mk (bb_ BK144 hb); have n1_ := Aside0.mk (bb_ BK145 hb); have n2_ := Aside0.mk (bb_ BK146 hb); have n3_ := Aside0.mk (below_step bg_ hb); clear BK144; clear BK145; clear BK146; clear HB; have BK144 := n0_; have BK145 := n1_; have BK146 := n2_; have HB := n3_; clear n0_ n1_ n2_ n3_; (try clear hb); (try clear hb2); (try clear hk); (try clear hi)) | ((with_reducible refine gate_dst (N := 64) rfl ?_); (try (refine gate_guard (by rfl) ?_; dsimp only)); refine load_box ?hg 34 (.tmp 4) rfl BK145.out [] [.bool a1_0, .int .u8 a1_1, .int .u8 a1_2, .int .u8 a1_3, .int .u8 a1_4, .int .u8 a1_5, .int .u8 a1_6, .int .u8 a1_7, .int .u8 a1_8, .int .u8 a1_9, .int .u8 a1_10, .int .u8 a1_11, .int .u8 a1_12, .int .u8 a1_13, .int .u8 a1_14, .int .u8 a1_15, .int .u8 a1_16, .int .i64 a1_17] [] rfl 0 rfl rfl Tryd.underlying34 rfl (by kernel_rfl) ?_; (case hg => rfl)) | ((with_reducible refine gate_dst (N := 65) rfl ?_); (try (refine gate_guard (by rfl) ?_; dsimp only)); refine load_box ?hg 34 (.tmp 3) rfl BK144.out [] [.bool a0_0, .int .u8 a0_1, .int .u8 a0_2, .int .u8 a0_3, .int .u8 a0_4, .int .u8 a0_5, .int .u8 a0_6, .int .u8 a0_7, .int .u8 a0_8, .int .u8 a0_9, .int .u8 a0_10, .int .u8 a0_11, .int .u8 a0_12, .int .u8 a0_13, .int .u8 a0_14, .int .u8 a0_15, .int .u8 a0_16, .int .i64 a0_17] [] rfl 0 rfl rfl Tryd.underlying34 rfl (by kernel_rfl) ?_; (case hg => rfl)) | (go_at_call 17; (with_reducible refine (cidr_Meet.calls a1_0 a1_1 a1_2 a1_3 a1_4 a1_5 a1_6 a1_7 a1_8 a1_9 a1_10 a1_11 a1_12 a1_13 a1_14 a1_15 a1_16 a1_17 a0_0 a0_1 a0_2 a0_3 a0_4 a0_5 a0_6 a0_7 a0_8 a0_9 a0_10 a0_11 a0_12 a0_13 a0_14 a0_15 a0_16 a0_17 t156 _ ?side1 A71.out).mono ?_); (case side1 => exact lg_); rintro e w88 ⟨rfl, hb⟩; have n0_ := Aside0.mk (bb_ BK144 hb); have n1_ := Aside0.mk (bb_ BK145 hb); have n2_ := Aside0.mk (bb_ BK146 hb); have n3_ := Aside0.mk (below_step bg_ hb); clear BK144; clear BK145; clear BK146; clear HB; have BK144 := n0_; have BK145 := n1_; have BK146 := n2_; have HB := n3_; clear n0_ n1_ n2_ n3_; (try clear hb); (try clear hb2); (try clear hk); (try clear hi)) | ((with_reducible refine gate_dst (N := 70) rfl ?_); (try (refine gate_guard (by rfl) ?_; dsimp only)); refine load_box ?hg 34 (.tmp 3) rfl BK144.out [] [.bool a0_0, .int .u8 a0_1, .int .u8 a0_2, .int .u8 a0_3, .int .u8 a0_4, .int .u8 a0_5, .int .u8 a0_6, .int .u8 a0_7, .int .u8 a0_8, .int .u8 a0_9, .int .u8 a0_10, .int .u8 a0_11, .int .u8 a0_12, .int .u8 a0_13, .int .u8 a0_14, .int .u8 a0_15, .int .u8 a0_16, .int .i64 a0_17] [] rfl 0 rfl rfl Tryd.underlying34 rfl (by kernel_rfl) ?_; (case hg => rfl)) | ((with_reducible refine gate_dst (N := 71) rfl ?_); (try (refine gate_guard (by rfl) ?_; dsimp only)); refine load_box ?hg 24 (.tmp 5) rfl BK146.out [] [.bool a2_0, .int .u8 a2_1, .int .u8 a2_2, .int .u8 a2_3, .int .u8 a2_4, .int .u8 a2_5, .int .u8 a2_6, .int .u8 a2_7, .int .u8 a2_8, .int .u8 a2_9, .int .u8 a2_10, .int .u8 a2_11, .int .u8 a2_12, .int .u8 a2_13, .int .u8 a2_14, .int .u8 a2_15, .int .u8 a2_16] [] rfl 0 rfl rfl Tryd.underlying24 rfl (by kernel_rfl) ?_; (case hg => rfl)) | ((with_reducible refine gate_callee (f := 12) rfl ?_); refine goesL_ (some 72) rfl rfl Tryd.func12 (by kernel_rfl) rfl #[.agg #[.bool a0_0, .int .u8 a0_1, .int .u8 a0_2, .int .u8 a0_3, .int .u8 a0_4, .int .u8 a0_5, .int .u8 a0_6, .int .u8 a0_7, .int .u8 a0_8, .int .u8 a0_9, .int .u8 a0_10, .int .u8 a0_11, .int .u8 a0_12, .int .u8 a0_13, .int .u8 a0_14, .int .u8 a0_15, .int .u8 a0_16, .int .i64 a0_17], .agg #[.bool a2_0, .int .u8 a2_1, .int .u8 a2_2, .int .u8 a2_3, .int .u8 a2_4, .int .u8 a2_5, .int .u8 a2_6, .int .u8 a2_7, .int .u8 a2_8, .int .u8 a2_9, .int .u8 a2_10, .int .u8 a2_11, .int .u8 a2_12, .int .u8 a2_13, .int .u8 a2_14, .int .u8 a2_15, .int .u8 a2_16]] rfl lq_ ?_; (with_reducible refine (cidr_Has.calls a0_0 a0_1 a0_2 a0_3 a0_4 a0_5 a0_6 a0_7 a0_8 a0_9 a0_10 a0_11 a0_12 a0_13 a0_14 a0_15 a0_16 a0_17 a2_0 a2_1 a2_2 a2_3 a2_4 a2_5 a2_6 a2_7 a2_8 a2_9 a2_10 a2_11 a2_12 a2_13 a2_14 a2_15 a2_16 true _ ?side1 A75.out).mono ?_); (case side1 => exact lg_); rintro e w89 ⟨rfl, hb⟩; refine ⟨_, rfl, ?_⟩; have n0_ := Aside0.mk (bb_ BK144 hb); have n1_ := Aside0.mk (bb_ BK145 hb); have n2_ := Aside0.mk (bb_ BK146 hb); have n3_ := Aside0.mk (below_step bg_ hb); clear BK144; clear BK145; clear BK146; clear HB; have BK144 := n0_; have BK145 := n1_; have BK146 := n2_; have HB := n3_; clear n0_ n1_ n2_ n3_; (try clear hb); (try clear hb2); (try clear hk); (try clear hi)) | ((with_reducible refine gate_dst (N := 75) rfl ?_); (try (refine gate_guard (by rfl) ?_; dsimp only)); refine load_box ?hg 34 (.tmp 4) rfl BK145.out [] [.bool a1_0, .int .u8 a1_1, .int .u8 a1_2, .int .u8 a1_3, .int .u8 a1_4, .int .u8 a1_5, .int .u8 a1_6, .int .u8 a1_7, .int .u8 a1_8, .int .u8 a1_9, .int .u8 a1_10, .int .u8 a1_11, .int .u8 a1_12, .int .u8 a1_13, .int .u8 a1_14, .int .u8 a1_15, .int .u8 a1_16, .int .i64 a1_17] [] rfl 0 rfl rfl Tryd.underlying34 rfl (by kernel_rfl) ?_; (case hg => rfl)) | ((with_reducible refine gate_dst (N := 76) rfl ?_); (try (refine gate_guard (by rfl) ?_; dsimp only)); refine load_box ?hg 24 (.tmp 5) rfl BK146.out [] [.bool a2_0, .int .u8 a2_1, .int .u8 a2_2, .int .u8 a2_3, .int .u8 a2_4, .int .u8 a2_5, .int .u8 a2_6, .int .u8 a2_7, .int .u8 a2_8, .int .u8 a2_9, .int .u8 a2_10, .int .u8 a2_11, .int .u8 a2_12, .int .u8 a2_13, .int .u8 a2_14, .int .u8 a2_15, .int .u8 a2_16] [] rfl 0 rfl rfl Tryd.underlying24 rfl (by kernel_rfl) ?_; (case hg => rfl)) | (go_at_call 12; (with_reducible refine (cidr_Has.calls a1_0 a1_1 a1_2 a1_3 a1_4 a1_5 a1_6 a1_7 a1_8 a1_9 a1_10 a1_11 a1_12 a1_13 a1_14 a1_15 a1_16 a1_17 a2_0 a2_1 a2_2 a2_3 a2_4 a2_5 a2_6 a2_7 a2_8 a2_9 a2_10 a2_11 a2_12 a2_13 a2_14 a2_15 a2_16 false _ ?side1 A77.out).mono ?_); (case side1 => exact lg_); rintro e w90 ⟨rfl, hb⟩; have n0_ := Aside0.mk (bb_ BK144 hb); have n1_ := Aside0.mk (bb_ BK145 hb); have n2_ := Aside0.mk (bb_ BK146 hb); have n3_ := Aside0.mk (below_step bg_ hb); clear BK144; clear BK145; clear BK146; clear HB; have BK144 := n0_; have BK145 := n1_; have BK146 := n2_; have HB := n3_; clear n0_ n1_ n2_ n3_; (try clear hb); (try clear hb2); (try clear hk); (try clear hi)) | (go_at_call 6; (with_reducible refine (lanternlaw06_awake.calls kj24  t160 _ ?side1 A86.out).mono ?_); (case side1 => exact lg_); rintro e w91 ⟨rfl, hb⟩; have n0_ := Aside0.mk (bb_ BK144 hb); have n1_ := Aside0.mk (bb_ BK145 hb); have n2_ := Aside0.mk (bb_ BK146 hb); have n3_ := Aside0.mk (below_step bg_ hb); clear BK144; clear BK145; clear BK146; clear HB; have BK144 := n0_; have BK145 := n1_; have BK146 := n2_; have HB := n3_; clear n0_ n1_ n2_ n3_; (try clear hb); (try clear hb2); (try clear hk); (try clear hi)))
          go_ret
          exact ⟨rq_, bg_⟩
        ·replace c76 := Bool.eq_false_iff.mpr c76
         subst c76
         replace H := ifF_ H
         replace H := Option.bind_eq_some_iff.mp H
         obtain ⟨t161, A920, H⟩ := H
         (try dsimp only at H)
         have A92 := Aside0.mk A920
         clear A920
         obtain rfl := Option.some.inj H
         go_wp2_with (first | ((with_reducible refine gate_dst (N := 58) rfl ?_); (try (refine gate_guard (by rfl) ?_; dsimp only)); refine load_box ?hg 34 (.tmp 3) rfl BK144.out [] [.bool a0_0, .int .u8 a0_1, .int .u8 a0_2, .int .u8 a0_3, .int .u8 a0_4, .int .u8 a0_5, .int .u8 a0_6, .int .u8 a0_7, .int .u8 a0_8, .int .u8 a0_9, .int .u8 a0_10, .int .u8 a0_11, .int .u8 a0_12, .int .u8 a0_13, .int .u8 a0_14, .int .u8 a0_15, .int .u8 a0_16, .int .i64 a0_17] [] rfl 0 rfl rfl Tryd.underlying34 rfl (by kernel_rfl) ?_; (case hg => rfl)) | ((with_reducible refine gate_dst (N := 59) rfl ?_); (try (refine gate_guard (by rfl) ?_; dsimp only)); refine load_box ?hg 34 (.tmp 4) rfl BK145.out [] [.bool a1_0, .int .u8 a1_1, .int .u8 a1_2, .int .u8 a1_3, .int .u8 a1_4, .int .u8 a1_5, .int .u8 a1_6, .int .u8 a1_7, .int .u8 a1_8, .int .u8 a1_9, .int .u8 a1_10, .int .u8 a1_11, .int .u8 a1_12, .int .u8 a1_13, .int .u8 a1_14, .int .u8 a1_15, .int .u8 a1_16, .int .i64 a1_17] [] rfl 0 rfl rfl Tryd.underlying34 rfl (by kernel_rfl) ?_; (case hg => rfl)) | ((with_reducible refine gate_callee (f := 17) rfl ?_); refine goesL_ (some 60) rfl rfl Tryd.func17 (by kernel_rfl) rfl #[.agg #[.bool a0_0, .int .u8 a0_1, .int .u8 a0_2, .int .u8 a0_3, .int .u8 a0_4, .int .u8 a0_5, .int .u8 a0_6, .int .u8 a0_7, .int .u8 a0_8, .int .u8 a0_9, .int .u8 a0_10, .int .u8 a0_11, .int .u8 a0_12, .int .u8 a0_13, .int .u8 a0_14, .int .u8 a0_15, .int .u8 a0_16, .int .i64 a0_17], .agg #[.bool a1_0, .int .u8 a1_1, .int .u8 a1_2, .int .u8 a1_3, .int .u8 a1_4, .int .u8 a1_5, .int .u8 a1_6, .int .u8 a1_7, .int .u8 a1_8, .int .u8 a1_9, .int .u8 a1_10, .int .u8 a1_11, .int .u8 a1_12, .int .u8 a1_13, .int .u8 a1_14, .int .u8 a1_15, .int .u8 a1_16, .int .i64 a1_17]] rfl lq_ ?_; (with_reducible refine (cidr_Meet.calls a0_0 a0_1 a0_2 a0_3 a0_4 a0_5 a0_6 a0_7 a0_8 a0_9 a0_10 a0_11 a0_12 a0_13 a0_14 a0_15 a0_16 a0_17 a1_0 a1_1 a1_2 a1_3 a1_4 a1_5 a1_6 a1_7 a1_8 a1_9 a1_10 a1_11 a1_12 a1_13 a1_14 a1_15 a1_16 a1_17 t155 _ ?side1 A69.out).mono ?_); (case side1 => exact lg_); rintro e w93 ⟨rfl, hb⟩; refine ⟨_, rfl, ?_⟩; have n0_ := Aside0.mk (bb_ BK144 hb); have n1_ := Aside0.mk (bb_ BK145 hb); have n2_ := Aside0.mk (bb_ BK146 hb); have n3_ := Aside0.mk (below_step bg_ hb); clear BK144; clear BK145; clear BK146; clear HB; have BK144 := n0_; have BK145 := n1_; have BK146 := n2_; have HB := n3_; clear n0_ n1_ n2_ n3_; (try clear hb); (try clear hb2); (try clear hk); (try clear hi)) | ((with_reducible refine gate_dst (N := 64) rfl ?_); (try (refine gate_guard (by rfl) ?_; dsimp only)); refine load_box ?hg 34 (.tmp 4) rfl BK145.out [] [.bool a1_0, .int .u8 a1_1, .int .u8 a1_2, .int .u8 a1_3, .int .u8 a1_4, .int .u8 a1_5, .int .u8 a1_6, .int .u8 a1_7, .int .u8 a1_8, .int .u8 a1_9, .int .u8 a1_10, .int .u8 a1_11, .int .u8 a1_12, .int .u8 a1_13, .int .u8 a1_14, .int .u8 a1_15, .int .u8 a1_16, .int .i64 a1_17] [] rfl 0 rfl rfl Tryd.underlying34 rfl (by kernel_rfl) ?_; (case hg => rfl)) | ((with_reducible refine gate_dst (N := 65) rfl ?_); (try (refine gate_guard (by rfl) ?_; dsimp only)); refine load_box ?hg 34 (.tmp 3) rfl BK144.out [] [.bool a0_0, .int .u8 a0_1, .int .u8 a0_2, .int .u8 a0_3, .int .u8 a0_4, .int .u8 a0_5, .int .u8 a0_6, .int .u8 a0_7, .int .u8 a0_8, .int .u8 a0_9, .int .u8 a0_10, .int .u8 a0_11, .int .u8 a0_12, .int .u8 a0_13, .int .u8 a0_14, .int .u8 a0_15, .int .u8 a0_16, .int .i64 a0_17] [] rfl 0 rfl rfl Tryd.underlying34 rfl (by kernel_rfl) ?_; (case hg => rfl)) | (go_at_call 17; (with_reducible refine (cidr_Meet.calls a1_0 a1_1 a1_2 a1_3 a1_4 a1_5 a1_6 a1_7 a1_8 a1_9 a1_10 a1_11 a1_12 a1_13 a1_14 a1_15 a1_16 a1_17 a0_0 a0_1 a0_2 a0_3 a0_4 a0_5 a0_6 a0_7 a0_8 a0_9 a0_10 a0_11 a0_12 a0_13 a0_14 a0_15 a0_16 a0_17 t156 _ ?side1 A71.out).mono ?_); (case side1 => exact lg_); rintro e w94 ⟨rfl, hb⟩; have n0_ := Aside0.mk (bb_ BK144 hb); have n1_ := Aside0.mk (bb_ BK145 hb); have n2_ := Aside0.mk (bb_ BK146 hb); have n3_ := Aside0.mk (below_step bg_ hb); clear BK144; clear BK145; clear BK146; clear HB; have BK144 := n0_; have BK145 := n1_; have BK146 := n2_; have HB := n3_; clear n0_ n1_ n2_ n3_; (try clear hb); (try clear hb2); (try clear hk); (try clear hi)) | ((with_reducible refine gate_dst (N := 70) rfl ?_); (try (refine gate_guard (by rfl) ?_; dsimp only)); refine load_box ?hg 34 (.tmp 3) rfl BK144.out [] [.bool a0_0, .int .u8 a0_1, .int .u8 a0_2, .int .u8 a0_3, .int .u8 a0_4, .int .u8 a0_5, .int .u8 a0_6, .int .u8 a0_7, .int .u8 a0_8, .int .u8 a0_9, .int .u8 a0_10, .int .u8 a0_11, .int .u8 a0_12, .int .u8 a0_13, .int .u8 a0_14, .int .u8 a0_15, .int .u8 a0_16, .int .i64 a0_17] [] rfl 0 rfl rfl Tryd.underlying34 rfl (by kernel_rfl) ?_; (case hg => rfl)) | ((with_reducible refine gate_dst (N := 71) rfl ?_); (try (refine gate_guard (by rfl) ?_; dsimp only)); refine load_box ?hg 24 (.tmp 5) rfl BK146.out [] [.bool a2_0, .int .u8 a2_1, .int .u8 a2_2, .int .u8 a2_3, .int .u8 a2_4, .int .u8 a2_5, .int .u8 a2_6, .int .u8 a2_7, .int .u8 a2_8, .int .u8 a2_9, .int .u8 a2_10, .int .u8 a2_11, .int .u8 a2_12, .int .u8 a2_13, .int .u8 a2_14, .int .u8 a2_15, .int .u8 a2_16] [] rfl 0 rfl rfl Tryd.underlying24 rfl (by kernel_rfl) ?_; (case hg => rfl)) | ((with_reducible refine gate_callee (f := 12) rfl ?_); refine goesL_ (some 72) rfl rfl Tryd.func12 (by kernel_rfl) rfl #[.agg #[.bool a0_0, .int .u8 a0_1, .int .u8 a0_2, .int .u8 a0_3, .int .u8 a0_4, .int .u8 a0_5, .int .u8 a0_6, .int .u8 a0_7, .int .u8 a0_8, .int .u8 a0_9, .int .u8 a0_10, .int .u8 a0_11, .int .u8 a0_12, .int .u8 a0_13, .int .u8 a0_14, .int .u8 a0_15, .int .u8 a0_16, .int .i64 a0_17], .agg #[.bool a2_0, .int .u8 a2_1, .int .u8 a2_2, .int .u8 a2_3, .int .u8 a2_4, .int .u8 a2_5, .int .u8 a2_6, .int .u8 a2_7, .int .u8 a2_8, .int .u8 a2_9, .int .u8 a2_10, .int .u8 a2_11, .int .u8 a2_12, .int .u8 a2_13, .int .u8 a2_14, .int .u8 a2_15, .int .u8 a2_16]] rfl lq_ ?_; (with_reducible refine (cidr_Has.calls a0_0 a0_1 a0_2 a0_3 a0_4 a0_5 a0_6 a0_7 a0_8 a0_9 a0_10 a0_11 a0_12 a0_13 a0_14 a0_15 a0_16 a0_17 a2_0 a2_1 a2_2 a2_3 a2_4 a2_5 a2_6 a2_7 a2_8 a2_9 a2_10 a2_11 a2_12 a2_13 a2_14 a2_15 a2_16 false _ ?side1 A75.out).mono ?_); (case side1 => exact lg_); rintro e w95 ⟨rfl, hb⟩; refine ⟨_, rfl, ?_⟩; have n0_ := Aside0.mk (bb_ BK144 hb); have n1_ := Aside0.mk (bb_ BK145 hb); have n2_ := Aside0.mk (bb_ BK146 hb); have n3_ := Aside0.mk (below_step bg_ hb); clear BK144; clear BK145; clear BK146; clear HB; have BK144 := n0_; have BK145 := n1_; have BK146 := n2_; have HB := n3_; clear n0_ n1_ n2_ n3_; (try clear hb); (try clear hb2); (try clear hk); (try clear hi)) | (go_at_call 6; (with_reducible refine (lanternlaw06_awake.calls kj24  t161 _ ?side1 A92.out).mono ?_); (case side1 => exact lg_); rintro e w96 ⟨rfl, hb⟩; have n0_ := Aside0.mk (bb_ BK144 hb); have n1_ := Aside0.mk (bb_ BK145 hb); have n2_ := Aside0.mk (bb_ BK146 hb); have n3_ := Aside0.mk (below_step bg_ hb); clear BK144; clear BK145; clear BK146; clear HB; have BK144 := n0_; have BK145 := n1_; have BK146 := n2_; have HB := n3_; clear n0_ n1_ n2_ n3_; (try clear hb); (try clear hb2); (try clear hk); (try clear hi)))
         go_ret
         exact ⟨rq_, bg_⟩

end Go.Proofs.YtdopafhppaalfaaDoor.L
