import Derived.Test.YtipleegkonhfcaaGreatDoorZ
import Derived.Test.YtipleegkonhfcaaGreatDoorWGuard
namespace Go.Proofs.YtipleegkonhfcaaGreatDoor.I
open Go.Proofs.YtipleegkonhfcaaGreatDoor.E Go.Proofs.YtipleegkonhfcaaGreatDoorV
open Go.RowKit Go.Proofs.YtipleegkonhfcaaGreatDoorW.PrintWords Go.Proofs.YtipleegkonhfcaaGreatDoorW.PrintLast Go.Proofs.YtipleegkonhfcaaGreatDoorW.PrintMore Go.Proofs.YtipleegkonhfcaaGreatDoorZ
attribute [local go_sem] max2_int min2_int max_two min_two max_three min_three max_four min_four   -- for this text's walks alone
set_option linter.unusedVariables false
set_option linter.unusedSimpArgs false

def errW : Option Int → Value
 | none => .nilIface
 | some c => .iface 134 (.int .i64 c)
theorem errW_none : errW none = .nilIface := rfl
theorem errW_some (c : Int) : errW (some c) = .iface 134 (.int .i64 c) := rfl

-- the values' own types

end Go.Proofs.YtipleegkonhfcaaGreatDoor.I
namespace Go.Proofs.YtipleegkonhfcaaGreatDoor.I
open Go.Proofs.YtipleegkonhfcaaGreatDoor.E Go.Proofs.YtipleegkonhfcaaGreatDoorV
open Go.RowKit Go.Proofs.YtipleegkonhfcaaGreatDoorW.PrintWords Go.Proofs.YtipleegkonhfcaaGreatDoorW.PrintLast Go.Proofs.YtipleegkonhfcaaGreatDoorW.PrintMore Go.Proofs.YtipleegkonhfcaaGreatDoorZ
attribute [local go_sem] max2_int min2_int max_two min_two max_three min_three max_four min_four   -- for this text's walks alone
set_option linter.unusedVariables false
set_option linter.unusedSimpArgs false

def strconv_lower.f (a0 : Int) : Option (Int) := some (Go.bits .or .u8 a0 32)
set_option maxHeartbeats 8000000 in
set_option maxRecDepth 100000 in
theorem strconv_lower.calls (a0 : Int) (r : Int) (w : World) (hLW : LW w) (h : strconv_lower.f a0 = some r) :
  Calls Tryz.prog 145 #[.int .u8 a0] w fun e w' => e = .returned (.int .u8 r) ∧ Drawn0 w w' := by
 have HLW := Aside0.mk hLW
 clear hLW
 have H := h
 unfold strconv_lower.f at H
 clear h
 obtain rfl := Option.some.inj H
 go_enter Tryz.func145, Tryz.ntmps145
 go_wp2
 go_ret
 exact ⟨sq_, dd_⟩

end Go.Proofs.YtipleegkonhfcaaGreatDoor.I
namespace Go.Proofs.YtipleegkonhfcaaGreatDoor.I
open Go.Proofs.YtipleegkonhfcaaGreatDoor.E Go.Proofs.YtipleegkonhfcaaGreatDoorV
open Go.RowKit Go.Proofs.YtipleegkonhfcaaGreatDoorW.PrintWords Go.Proofs.YtipleegkonhfcaaGreatDoorW.PrintLast Go.Proofs.YtipleegkonhfcaaGreatDoorW.PrintMore Go.Proofs.YtipleegkonhfcaaGreatDoorZ
attribute [local go_sem] max2_int min2_int max_two min_two max_three min_three max_four min_four   -- for this text's walks alone
set_option linter.unusedVariables false
set_option linter.unusedSimpArgs false

mutual
def strconv_ParseUint.j3 : Nat → ByteArray → Int → Int → Bool → ByteArray → Option (Int × Option Int)
 | 0, _, _, _, _, _ => none
 | k + 1, x0, x1, x2, x8, x9 => if x2 = 0 then (strconv_ParseUint.j4 k x0 x1 64 x8 x9) else (if x2 < 0 then (some (0, some 4)) else (if x2 > 64 then (some (0, some 4)) else (strconv_ParseUint.j4 k x0 x1 x2 x8 x9)))
def strconv_ParseUint.j4 : Nat → ByteArray → Int → Int → Bool → ByteArray → Option (Int × Option Int)
 | 0, _, _, _, _, _ => none
 | k + 1, x0, x1, x2, x8, x9 => if x1 = 10 then (strconv_ParseUint.j5 k x0 x1 x2 x8 x9 1844674407370955162) else (if x1 = 16 then (strconv_ParseUint.j5 k x0 x1 x2 x8 x9 1152921504606846976) else (if (IntKind.u64.wrap (x1)) = 0 then (none) else (strconv_ParseUint.j5 k x0 x1 x2 x8 x9 (IntKind.u64.wrap ((IntKind.u64.wrap ((18446744073709551615 : Int) / (IntKind.u64.wrap (x1)))) + 1)))))
def strconv_ParseUint.j5 : Nat → ByteArray → Int → Int → Bool → ByteArray → Int → Option (Int × Option Int)
 | 0, _, _, _, _, _, _ => none
 | k + 1, x0, x1, x2, x8, x9, x10 => if 0 ≤ (IntKind.u64.wrap (x2)) then (if x0.size ≤ 9223372036854775807 then ((some (bytesOf x0 : List Int)).bind fun y104 => (strconv_ParseUint.l0 k x1 x8 x9 x10 (IntKind.u64.wrap ((shl .u64 1 (IntKind.u64.wrap (x2))) - 1)) false 0 y104 (y104.length : Int) 0)) else (none)) else (none)
def strconv_ParseUint.l0 : Nat → Int → Bool → ByteArray → Int → Int → Bool → Int → List Int → Int → Int → Option (Int × Option Int)
 | 0, _, _, _, _, _, _, _, _, _, _ => none
 | k + 1, x1, x8, x9, x10, x11, x12, x13, x99, x100, x101 => if x101 < x100 then (if 0 ≤ x101 then (if x101 < (x99.length : Int) then (if (rd x99 x101) = 95 then (strconv_ParseUint.j7 k x1 x8 x9 x10 x11 x12 x13 (rd x99 x101) x99 x100 x101 x8) else (strconv_ParseUint.j7 k x1 x8 x9 x10 x11 x12 x13 (rd x99 x101) x99 x100 x101 false)) else (none)) else (none)) else (if x12 = true then ((strconv_underscoreOK.f x9).bind fun t107 => (if t107 = true then (some (x13, none)) else (some (0, some 2)))) else (some (x13, none)))
def strconv_ParseUint.j9 : Nat → Int → Bool → ByteArray → Int → Int → Bool → Int → Int → List Int → Int → Int → Option (Int × Option Int)
 | 0, _, _, _, _, _, _, _, _, _, _, _ => none
 | k + 1, x1, x8, x9, x10, x11, x12, x13, x16, x99, x100, x101 => if x16 ≥ ((x1) % 256) then (some (0, some 2)) else (if x13 ≥ x10 then (some (x11, some 1)) else (if (IntKind.u64.wrap ((IntKind.u64.wrap (x13 * (IntKind.u64.wrap (x1)))) + (IntKind.u64.wrap (x16)))) < (IntKind.u64.wrap (x13 * (IntKind.u64.wrap (x1)))) then (some (x11, some 1)) else (if (IntKind.u64.wrap ((IntKind.u64.wrap (x13 * (IntKind.u64.wrap (x1)))) + (IntKind.u64.wrap (x16)))) > x11 then (some (x11, some 1)) else (strconv_ParseUint.l0 k x1 x8 x9 x10 x11 x12 (IntKind.u64.wrap ((IntKind.u64.wrap (x13 * (IntKind.u64.wrap (x1)))) + (IntKind.u64.wrap (x16)))) x99 x100 (wrap64 (x101 + 1))))))
def strconv_ParseUint.j7 : Nat → Int → Bool → ByteArray → Int → Int → Bool → Int → Int → List Int → Int → Int → Bool → Option (Int × Option Int)
 | 0, _, _, _, _, _, _, _, _, _, _, _, _ => none
 | k + 1, x1, x8, x9, x10, x11, x12, x13, x15, x99, x100, x101, x106 => if x106 = true then (strconv_ParseUint.l0 k x1 x8 x9 x10 x11 true x13 x99 x100 (wrap64 (x101 + 1))) else (if 48 ≤ x15 then (strconv_ParseUint.j8 k x1 x8 x9 x10 x11 x12 x13 x15 x99 x100 x101 (decide (x15 ≤ 57))) else (strconv_ParseUint.j8 k x1 x8 x9 x10 x11 x12 x13 x15 x99 x100 x101 false))
def strconv_ParseUint.j8 : Nat → Int → Bool → ByteArray → Int → Int → Bool → Int → Int → List Int → Int → Int → Bool → Option (Int × Option Int)
 | 0, _, _, _, _, _, _, _, _, _, _, _, _ => none
 | k + 1, x1, x8, x9, x10, x11, x12, x13, x15, x99, x100, x101, x112 => if x112 = true then (strconv_ParseUint.j9 k x1 x8 x9 x10 x11 x12 x13 ((x15 - 48) % 256) x99 x100 x101) else ((strconv_lower.f x15).bind fun t109 => (if 97 ≤ t109 then ((strconv_lower.f x15).bind fun t110 => (if t110 ≤ 122 then ((strconv_lower.f x15).bind fun t111 => (strconv_ParseUint.j9 k x1 x8 x9 x10 x11 x12 x13 ((((t111 - 97) % 256) + 10) % 256) x99 x100 x101)) else (some (0, some 2)))) else (some (0, some 2))))
def strconv_ParseUint.j0 : Nat → ByteArray → Int → Int → Bool → ByteArray → Bool → Option (Int × Option Int)
 | 0, _, _, _, _, _, _ => none
 | k + 1, x0, x1, x2, x8, x9, x25 => if x25 = true then (strconv_ParseUint.j3 k x0 x1 x2 x8 x9) else (if x1 = 0 then (none) else (some (0, some 3)))
def strconv_ParseUint.j1 : Nat → ByteArray → Int → Bool → ByteArray → Bool → Option (Int × Option Int)
 | 0, _, _, _, _, _ => none
 | k + 1, x0, x2, x8, x9, x40 => if x40 = true then (if 2 ≤ (x0.size : Int) then (strconv_ParseUint.j3 k (x0.extract 2 x0.size) 2 x2 x8 x9) else (none)) else (if (x0.size : Int) ≥ 3 then (if 1 < (x0.size : Int) then ((strconv_lower.f (bt x0 1)).bind fun t102 => (strconv_ParseUint.j2 k x0 x2 x8 x9 (t102 == 111))) else (none)) else (strconv_ParseUint.j2 k x0 x2 x8 x9 false))
def strconv_ParseUint.j2 : Nat → ByteArray → Int → Bool → ByteArray → Bool → Option (Int × Option Int)
 | 0, _, _, _, _, _ => none
 | k + 1, x0, x2, x8, x9, x52 => if x52 = true then (if 2 ≤ (x0.size : Int) then (strconv_ParseUint.j3 k (x0.extract 2 x0.size) 8 x2 x8 x9) else (none)) else (if (x0.size : Int) ≥ 3 then (if 1 < (x0.size : Int) then ((strconv_lower.f (bt x0 1)).bind fun t103 => (if t103 = 120 then (if 2 ≤ (x0.size : Int) then (strconv_ParseUint.j3 k (x0.extract 2 x0.size) 16 x2 x8 x9) else (none)) else (if 1 ≤ (x0.size : Int) then (strconv_ParseUint.j3 k (x0.extract 1 x0.size) 8 x2 x8 x9) else (none)))) else (none)) else (if 1 ≤ (x0.size : Int) then (strconv_ParseUint.j3 k (x0.extract 1 x0.size) 8 x2 x8 x9) else (none)))
end
def strconv_ParseUint.f (k : Nat) (a0 : ByteArray) (a1 : Int) (a2 : Int) : Option (Int × Option Int) := if a0.toList = ([] : List UInt8) then (some (0, some 2)) else (if 2 ≤ a1 then (strconv_ParseUint.j0 k a0 a1 a2 (a1 == 0) a0 (decide (a1 ≤ 36))) else (strconv_ParseUint.j0 k a0 a1 a2 (a1 == 0) a0 false))
theorem strconv_ParseUint.mono_l : ∀ k, (∀ y0 y1 y2 y3 y4, LeO (strconv_ParseUint.j3 k y0 y1 y2 y3 y4) (strconv_ParseUint.j3 (k + 1) y0 y1 y2 y3 y4)) ∧ (∀ y0 y1 y2 y3 y4, LeO (strconv_ParseUint.j4 k y0 y1 y2 y3 y4) (strconv_ParseUint.j4 (k + 1) y0 y1 y2 y3 y4)) ∧ (∀ y0 y1 y2 y3 y4 y5, LeO (strconv_ParseUint.j5 k y0 y1 y2 y3 y4 y5) (strconv_ParseUint.j5 (k + 1) y0 y1 y2 y3 y4 y5)) ∧ (∀ y0 y1 y2 y3 y4 y5 y6 y7 y8 y9, LeO (strconv_ParseUint.l0 k y0 y1 y2 y3 y4 y5 y6 y7 y8 y9) (strconv_ParseUint.l0 (k + 1) y0 y1 y2 y3 y4 y5 y6 y7 y8 y9)) ∧ (∀ y0 y1 y2 y3 y4 y5 y6 y7 y8 y9 y10, LeO (strconv_ParseUint.j9 k y0 y1 y2 y3 y4 y5 y6 y7 y8 y9 y10) (strconv_ParseUint.j9 (k + 1) y0 y1 y2 y3 y4 y5 y6 y7 y8 y9 y10)) ∧ (∀ y0 y1 y2 y3 y4 y5 y6 y7 y8 y9 y10 y11, LeO (strconv_ParseUint.j7 k y0 y1 y2 y3 y4 y5 y6 y7 y8 y9 y10 y11) (strconv_ParseUint.j7 (k + 1) y0 y1 y2 y3 y4 y5 y6 y7 y8 y9 y10 y11)) ∧ (∀ y0 y1 y2 y3 y4 y5 y6 y7 y8 y9 y10 y11, LeO (strconv_ParseUint.j8 k y0 y1 y2 y3 y4 y5 y6 y7 y8 y9 y10 y11) (strconv_ParseUint.j8 (k + 1) y0 y1 y2 y3 y4 y5 y6 y7 y8 y9 y10 y11)) ∧ (∀ y0 y1 y2 y3 y4 y5, LeO (strconv_ParseUint.j0 k y0 y1 y2 y3 y4 y5) (strconv_ParseUint.j0 (k + 1) y0 y1 y2 y3 y4 y5)) ∧ (∀ y0 y1 y2 y3 y4, LeO (strconv_ParseUint.j1 k y0 y1 y2 y3 y4) (strconv_ParseUint.j1 (k + 1) y0 y1 y2 y3 y4)) ∧ (∀ y0 y1 y2 y3 y4, LeO (strconv_ParseUint.j2 k y0 y1 y2 y3 y4) (strconv_ParseUint.j2 (k + 1) y0 y1 y2 y3 y4))
 | 0 => ⟨fun _ _ _ _ _ r h => by simp [strconv_ParseUint.j3] at h, fun _ _ _ _ _ r h => by simp [strconv_ParseUint.j4] at h, fun _ _ _ _ _ _ r h => by simp [strconv_ParseUint.j5] at h, fun _ _ _ _ _ _ _ _ _ _ r h => by simp [strconv_ParseUint.l0] at h, fun _ _ _ _ _ _ _ _ _ _ _ r h => by simp [strconv_ParseUint.j9] at h, fun _ _ _ _ _ _ _ _ _ _ _ _ r h => by simp [strconv_ParseUint.j7] at h, fun _ _ _ _ _ _ _ _ _ _ _ _ r h => by simp [strconv_ParseUint.j8] at h, fun _ _ _ _ _ _ r h => by simp [strconv_ParseUint.j0] at h, fun _ _ _ _ _ r h => by simp [strconv_ParseUint.j1] at h, fun _ _ _ _ _ r h => by simp [strconv_ParseUint.j2] at h⟩
 | k + 1 => by
  obtain ⟨ih0, ih1, ih2, ih3, ih4, ih5, ih6, ih7, ih8, ih9⟩ := strconv_ParseUint.mono_l k
  refine ⟨?_, ?_, ?_, ?_, ?_, ?_, ?_, ?_, ?_, ?_⟩
  ·intro y0 y1 y2 y3 y4
   unfold strconv_ParseUint.j3
   repeat' first | (with_reducible first | exact ih0 _ _ _ _ _ | exact ih1 _ _ _ _ _ | exact ih2 _ _ _ _ _ _ | exact ih3 _ _ _ _ _ _ _ _ _ _ | exact ih4 _ _ _ _ _ _ _ _ _ _ _ | exact ih5 _ _ _ _ _ _ _ _ _ _ _ _ | exact ih6 _ _ _ _ _ _ _ _ _ _ _ _ | exact ih7 _ _ _ _ _ _ | exact ih8 _ _ _ _ _ | exact ih9 _ _ _ _ _ | exact LeO.refl _ | exact LeO.none _ | refine LeO.ite ?_ ?_ | refine LeO.bind ?_ (fun _ => ?_))
  ·intro y0 y1 y2 y3 y4
   unfold strconv_ParseUint.j4
   repeat' first | (with_reducible first | exact ih0 _ _ _ _ _ | exact ih1 _ _ _ _ _ | exact ih2 _ _ _ _ _ _ | exact ih3 _ _ _ _ _ _ _ _ _ _ | exact ih4 _ _ _ _ _ _ _ _ _ _ _ | exact ih5 _ _ _ _ _ _ _ _ _ _ _ _ | exact ih6 _ _ _ _ _ _ _ _ _ _ _ _ | exact ih7 _ _ _ _ _ _ | exact ih8 _ _ _ _ _ | exact ih9 _ _ _ _ _ | exact LeO.refl _ | exact LeO.none _ | refine LeO.ite ?_ ?_ | refine LeO.bind ?_ (fun _ => ?_))
  ·intro y0 y1 y2 y3 y4 y5
   unfold strconv_ParseUint.j5
   repeat' first | (with_reducible first | exact ih0 _ _ _ _ _ | exact ih1 _ _ _ _ _ | exact ih2 _ _ _ _ _ _ | exact ih3 _ _ _ _ _ _ _ _ _ _ | exact ih4 _ _ _ _ _ _ _ _ _ _ _ | exact ih5 _ _ _ _ _ _ _ _ _ _ _ _ | exact ih6 _ _ _ _ _ _ _ _ _ _ _ _ | exact ih7 _ _ _ _ _ _ | exact ih8 _ _ _ _ _ | exact ih9 _ _ _ _ _ | exact LeO.refl _ | exact LeO.none _ | refine LeO.ite ?_ ?_ | refine LeO.bind ?_ (fun _ => ?_))
  ·intro y0 y1 y2 y3 y4 y5 y6 y7 y8 y9
   unfold strconv_ParseUint.l0
   repeat' first | (with_reducible first | exact ih0 _ _ _ _ _ | exact ih1 _ _ _ _ _ | exact ih2 _ _ _ _ _ _ | exact ih3 _ _ _ _ _ _ _ _ _ _ | exact ih4 _ _ _ _ _ _ _ _ _ _ _ | exact ih5 _ _ _ _ _ _ _ _ _ _ _ _ | exact ih6 _ _ _ _ _ _ _ _ _ _ _ _ | exact ih7 _ _ _ _ _ _ | exact ih8 _ _ _ _ _ | exact ih9 _ _ _ _ _ | exact LeO.refl _ | exact LeO.none _ | refine LeO.ite ?_ ?_ | refine LeO.bind ?_ (fun _ => ?_))
  ·intro y0 y1 y2 y3 y4 y5 y6 y7 y8 y9 y10
   unfold strconv_ParseUint.j9
   repeat' first | (with_reducible first | exact ih0 _ _ _ _ _ | exact ih1 _ _ _ _ _ | exact ih2 _ _ _ _ _ _ | exact ih3 _ _ _ _ _ _ _ _ _ _ | exact ih4 _ _ _ _ _ _ _ _ _ _ _ | exact ih5 _ _ _ _ _ _ _ _ _ _ _ _ | exact ih6 _ _ _ _ _ _ _ _ _ _ _ _ | exact ih7 _ _ _ _ _ _ | exact ih8 _ _ _ _ _ | exact ih9 _ _ _ _ _ | exact LeO.refl _ | exact LeO.none _ | refine LeO.ite ?_ ?_ | refine LeO.bind ?_ (fun _ => ?_))
  ·intro y0 y1 y2 y3 y4 y5 y6 y7 y8 y9 y10 y11
   unfold strconv_ParseUint.j7
   repeat' first | (with_reducible first | exact ih0 _ _ _ _ _ | exact ih1 _ _ _ _ _ | exact ih2 _ _ _ _ _ _ | exact ih3 _ _ _ _ _ _ _ _ _ _ | exact ih4 _ _ _ _ _ _ _ _ _ _ _ | exact ih5 _ _ _ _ _ _ _ _ _ _ _ _ | exact ih6 _ _ _ _ _ _ _ _ _ _ _ _ | exact ih7 _ _ _ _ _ _ | exact ih8 _ _ _ _ _ | exact ih9 _ _ _ _ _ | exact LeO.refl _ | exact LeO.none _ | refine LeO.ite ?_ ?_ | refine LeO.bind ?_ (fun _ => ?_))
  ·intro y0 y1 y2 y3 y4 y5 y6 y7 y8 y9 y10 y11
   unfold strconv_ParseUint.j8
   repeat' first | (with_reducible first | exact ih0 _ _ _ _ _ | exact ih1 _ _ _ _ _ | exact ih2 _ _ _ _ _ _ | exact ih3 _ _ _ _ _ _ _ _ _ _ | exact ih4 _ _ _ _ _ _ _ _ _ _ _ | exact ih5 _ _ _ _ _ _ _ _ _ _ _ _ | exact ih6 _ _ _ _ _ _ _ _ _ _ _ _ | exact ih7 _ _ _ _ _ _ | exact ih8 _ _ _ _ _ | exact ih9 _ _ _ _ _ | exact LeO.refl _ | exact LeO.none _ | refine LeO.ite ?_ ?_ | refine LeO.bind ?_ (fun _ => ?_))
  ·intro y0 y1 y2 y3 y4 y5
   unfold strconv_ParseUint.j0
   repeat' first | (with_reducible first | exact ih0 _ _ _ _ _ | exact ih1 _ _ _ _ _ | exact ih2 _ _ _ _ _ _ | exact ih3 _ _ _ _ _ _ _ _ _ _ | exact ih4 _ _ _ _ _ _ _ _ _ _ _ | exact ih5 _ _ _ _ _ _ _ _ _ _ _ _ | exact ih6 _ _ _ _ _ _ _ _ _ _ _ _ | exact ih7 _ _ _ _ _ _ | exact ih8 _ _ _ _ _ | exact ih9 _ _ _ _ _ | exact LeO.refl _ | exact LeO.none _ | refine LeO.ite ?_ ?_ | refine LeO.bind ?_ (fun _ => ?_))
  ·intro y0 y1 y2 y3 y4
   unfold strconv_ParseUint.j1
   repeat' first | (with_reducible first | exact ih0 _ _ _ _ _ | exact ih1 _ _ _ _ _ | exact ih2 _ _ _ _ _ _ | exact ih3 _ _ _ _ _ _ _ _ _ _ | exact ih4 _ _ _ _ _ _ _ _ _ _ _ | exact ih5 _ _ _ _ _ _ _ _ _ _ _ _ | exact ih6 _ _ _ _ _ _ _ _ _ _ _ _ | exact ih7 _ _ _ _ _ _ | exact ih8 _ _ _ _ _ | exact ih9 _ _ _ _ _ | exact LeO.refl _ | exact LeO.none _ | refine LeO.ite ?_ ?_ | refine LeO.bind ?_ (fun _ => ?_))
  ·intro y0 y1 y2 y3 y4
   unfold strconv_ParseUint.j2
   repeat' first | (with_reducible first | exact ih0 _ _ _ _ _ | exact ih1 _ _ _ _ _ | exact ih2 _ _ _ _ _ _ | exact ih3 _ _ _ _ _ _ _ _ _ _ | exact ih4 _ _ _ _ _ _ _ _ _ _ _ | exact ih5 _ _ _ _ _ _ _ _ _ _ _ _ | exact ih6 _ _ _ _ _ _ _ _ _ _ _ _ | exact ih7 _ _ _ _ _ _ | exact ih8 _ _ _ _ _ | exact ih9 _ _ _ _ _ | exact LeO.refl _ | exact LeO.none _ | refine LeO.ite ?_ ?_ | refine LeO.bind ?_ (fun _ => ?_))
theorem strconv_ParseUint.mono : ∀ a0 a1 a2 k, LeO (strconv_ParseUint.f k a0 a1 a2) (strconv_ParseUint.f (k + 1) a0 a1 a2) := by
 intro a0 a1 a2 k
 obtain ⟨ih0, ih1, ih2, ih3, ih4, ih5, ih6, ih7, ih8, ih9⟩ := strconv_ParseUint.mono_l k
 unfold strconv_ParseUint.f
 repeat' first | (with_reducible first | exact ih0 _ _ _ _ _ | exact ih1 _ _ _ _ _ | exact ih2 _ _ _ _ _ _ | exact ih3 _ _ _ _ _ _ _ _ _ _ | exact ih4 _ _ _ _ _ _ _ _ _ _ _ | exact ih5 _ _ _ _ _ _ _ _ _ _ _ _ | exact ih6 _ _ _ _ _ _ _ _ _ _ _ _ | exact ih7 _ _ _ _ _ _ | exact ih8 _ _ _ _ _ | exact ih9 _ _ _ _ _ | exact LeO.refl _ | exact LeO.none _ | refine LeO.ite ?_ ?_ | refine LeO.bind ?_ (fun _ => ?_))
set_option maxHeartbeats 8000000 in
set_option maxRecDepth 100000 in
theorem strconv_ParseUint.calls (k : Nat) (a0 : ByteArray) (a1 : Int) (a2 : Int) (r1 : Int) (r2 : Option Int) (w : World) (hLW : LW w) (h : strconv_ParseUint.f k a0 a1 a2 = some (r1, r2)) :
  Calls Tryz.prog 131 #[.string a0, .int .i64 a1, .int .i64 a2] w fun e w' => e = .returned (.tuple #[.int .u64 r1, errW r2]) ∧ Below w.heap.size w w' := by
 have hu92 := Tryz.underlying92
 have hu134 := Tryz.underlying134
 have HLW := Aside0.mk hLW
 clear hLW
 have HB := Aside0.mk (Below.refl w.heap.size w)
 have H := h
 unfold strconv_ParseUint.f at H
 clear h
 by_cases c4 : a0.toList = ([] : List UInt8)
 ·rw [if_pos c4] at H
  have c4b0 := beq_iff_eq.mpr c4
  have c4b1 := bne_eq_false_iff_eq.mpr c4
  clear c4
  simp only [Option.some.injEq, Prod.mk.injEq] at H
  obtain ⟨rfl, rfl⟩ := H
  go_enter Tryz.func131, Tryz.ntmps131
  go_wp2
  go_ret2
  exact ⟨rq_, bg_⟩
 ·rw [if_neg c4] at H
  have c4b0 := beq_eq_false_iff_ne.mpr c4
  have c4b1 := bne_iff_ne.mpr c4
  have HC5 := Aside0.mk H
  clear H
  go_enter Tryz.func131, Tryz.ntmps131
  go_upto_block 0 with (fail)
  go_cut [0, 1] (fun v0 v1 wc => ∃ (kq : Nat) (x0_4 : ByteArray) (x1_4 : Int), v0 = .string x0_4 ∧ v1 = .int .i64 x1_4 ∧ Aside0 (strconv_ParseUint.j3 kq x0_4 x1_4 a2 (a1 == 0) a0 = some (r1, r2)) ∧ Aside0 (kq ≤ k) ∧ Aside0 (Below w.heap.size w wc))
  case first =>
   have H := HC5.out
   clear HC5
   have HC6 := Aside0.mk H
   clear H
   go_upto_region 6 with (fail)
   go_cut [25] (fun v25 wc => ∃ (kq : Nat) (x25_5 : Bool), v25 = .bool x25_5 ∧ Aside0 (strconv_ParseUint.j0 kq a0 a1 a2 (a1 == 0) a0 x25_5 = some (r1, r2)) ∧ Aside0 (kq ≤ k) ∧ Aside0 (Below w.heap.size w wc))
   case first =>
    have H := HC6.out
    clear HC6
    by_cases c7 : 2 ≤ a1
    ·rw [if_pos c7] at H
     have c7b0 := decide_eq_true c7
     clear c7
     (first | rw [c7b0] | (simp only [i64_w, i32_w]; rw [c7b0]) | skip)
     have H' := Aside0.mk H
     clear H
     go_wp2
     go_meet
     case rel => exact ⟨_, (decide (a1 ≤ 36)), sq_, H', ⟨by first | omega | exact Nat.le_refl _⟩, ⟨bq_⟩⟩
    ·rw [if_neg c7] at H
     have c7b0 := decide_eq_false c7
     clear c7
     (first | rw [c7b0] | (simp only [i64_w, i32_w]; rw [c7b0]) | skip)
     have H' := Aside0.mk H
     clear H
     go_wp2
     go_meet
     case rel => exact ⟨_, (false), sq_, H', ⟨by first | omega | exact Nat.le_refl _⟩, ⟨bq_⟩⟩
   case rest =>
    clear HC6
    obtain ⟨kq, x25_5, rfl, HA, HJ5, HB⟩ := hcut
    cases kq with
    | zero => exact absurd HA.out (by simp [strconv_ParseUint.j0])
    | succ kj5 =>
     have H := HA.out
     clear HA
     simp only [strconv_ParseUint.j0] at H
     by_cases c8 : x25_5 = true
     ·subst c8
      replace H := ifT_ H
      have H' := Aside0.mk H
      clear H
      go_wp2
      go_meet
      case rel => exact ⟨_, (a0), (a1), sq_, sq_, H', ⟨by have := HJ5.out; first | omega | exact Nat.le_refl _⟩, ⟨bq_⟩⟩
     ·replace c8 := Bool.eq_false_iff.mpr c8
      subst c8
      replace H := ifF_ H
      by_cases c9 : a1 = 0
      ·rw [if_pos c9] at H
       exact absurd H (by simp)
      ·rw [if_neg c9] at H
       have c9b0 := beq_eq_false_iff_ne.mpr c9
       have c9b1 := bne_iff_ne.mpr c9
       simp only [Option.some.injEq, Prod.mk.injEq] at H
       obtain ⟨rfl, rfl⟩ := H
       go_wp2
       go_ret2
       exact ⟨rq_, bg_⟩
  case rest =>
   clear HC5
   obtain ⟨kq, x0_4, x1_4, rfl, rfl, HA, HJ4, HB⟩ := hcut
   cases kq with
   | zero => exact absurd HA.out (by simp [strconv_ParseUint.j3])
   | succ kj4 =>
    have H := HA.out
    clear HA
    simp only [strconv_ParseUint.j3] at H
    have HC35 := Aside0.mk H
    clear H
    go_upto_if 77 with (fail)
    go_cut [2] (fun v2 wc => ∃ (kq : Nat) (x2_34 : Int), v2 = .int .i64 x2_34 ∧ Aside0 (strconv_ParseUint.j4 kq x0_4 x1_4 x2_34 (a1 == 0) a0 = some (r1, r2)) ∧ Aside0 (kq ≤ kj4) ∧ Aside0 (Below w.heap.size w wc))
    case first =>
     have H := HC35.out
     clear HC35
     by_cases c36 : a2 = 0
     ·rw [if_pos c36] at H
      have c36b0 := beq_iff_eq.mpr c36
      have c36b1 := bne_eq_false_iff_eq.mpr c36
      clear c36
      (first | rw [c36b0] | (simp only [i64_w, i32_w]; rw [c36b0]) | skip)
      have H' := Aside0.mk H
      clear H
      go_wp2
      go_meet
      case rel => exact ⟨_, (64), sq_, H', ⟨by have := HJ4.out; first | omega | exact Nat.le_refl _⟩, ⟨bq_⟩⟩
     ·rw [if_neg c36] at H
      have c36b0 := beq_eq_false_iff_ne.mpr c36
      have c36b1 := bne_iff_ne.mpr c36
      (first | rw [c36b0] | (simp only [i64_w, i32_w]; rw [c36b0]) | skip)
      by_cases c37 : a2 < 0
      ·rw [if_pos c37] at H
       have c37b0 := decide_eq_true c37
       clear c37
       simp only [Option.some.injEq, Prod.mk.injEq] at H
       obtain ⟨rfl, rfl⟩ := H
       go_wp2
       go_ret2
       exact ⟨rq_, bg_⟩
      ·rw [if_neg c37] at H
       have c37b0 := decide_eq_false c37
       clear c37
       by_cases c38 : a2 > 64
       ·rw [if_pos c38] at H
        have c38b0 := decide_eq_true c38
        clear c38
        simp only [Option.some.injEq, Prod.mk.injEq] at H
        obtain ⟨rfl, rfl⟩ := H
        go_wp2
        go_ret2
        exact ⟨rq_, bg_⟩
       ·rw [if_neg c38] at H
        have c38b0 := decide_eq_false c38
        clear c38
        have H' := Aside0.mk H
        clear H
        go_wp2
        go_meet
        case rel => exact ⟨_, (a2), sq_, H', ⟨by have := HJ4.out; first | omega | exact Nat.le_refl _⟩, ⟨bq_⟩⟩
    case rest =>
     clear HC35
     obtain ⟨kq, x2_34, rfl, HA, HJ34, HB⟩ := hcut
     cases kq with
     | zero => exact absurd HA.out (by simp [strconv_ParseUint.j4])
     | succ kj34 =>
      have H := HA.out
      clear HA
      simp only [strconv_ParseUint.j4] at H
      have HC39 := Aside0.mk H
      clear H
      go_upto_block 2 with (fail)
      go_cut [10] (fun v10 wc => ∃ (kq : Nat) (x10_38 : Int), v10 = .int .u64 x10_38 ∧ Aside0 (strconv_ParseUint.j5 kq x0_4 x1_4 x2_34 (a1 == 0) a0 x10_38 = some (r1, r2)) ∧ Aside0 (kq ≤ kj34) ∧ Aside0 (Below w.heap.size w wc))
      case first =>
       have H := HC39.out
       clear HC39
       by_cases c40 : x1_4 = 10
       ·rw [if_pos c40] at H
        have c40b0 := beq_iff_eq.mpr c40
        have c40b1 := bne_eq_false_iff_eq.mpr c40
        clear c40
        (first | rw [c40b0] | (simp only [i64_w, i32_w]; rw [c40b0]) | skip)
        have H' := Aside0.mk H
        clear H
        go_wp2
        go_meet
        case rel => exact ⟨_, (1844674407370955162), sq_, H', ⟨by have := HJ4.out; have := HJ34.out; first | omega | exact Nat.le_refl _⟩, ⟨bq_⟩⟩
       ·rw [if_neg c40] at H
        have c40b0 := beq_eq_false_iff_ne.mpr c40
        have c40b1 := bne_iff_ne.mpr c40
        (first | rw [c40b0] | (simp only [i64_w, i32_w]; rw [c40b0]) | skip)
        by_cases c41 : x1_4 = 16
        ·rw [if_pos c41] at H
         have c41b0 := beq_iff_eq.mpr c41
         have c41b1 := bne_eq_false_iff_eq.mpr c41
         clear c41
         have H' := Aside0.mk H
         clear H
         go_wp2
         go_meet
         case rel => exact ⟨_, (1152921504606846976), sq_, H', ⟨by have := HJ4.out; have := HJ34.out; first | omega | exact Nat.le_refl _⟩, ⟨bq_⟩⟩
        ·rw [if_neg c41] at H
         have c41b0 := beq_eq_false_iff_ne.mpr c41
         have c41b1 := bne_iff_ne.mpr c41
         by_cases c42 : (IntKind.u64.wrap (x1_4)) = 0
         ·rw [if_pos c42] at H
          exact absurd H (by simp)
         ·rw [if_neg c42] at H
          have c42b0 := beq_eq_false_iff_ne.mpr c42
          have c42b1 := bne_iff_ne.mpr c42
          have H' := Aside0.mk H
          clear H
          go_wp2
          go_meet
          case rel => exact ⟨_, (IntKind.u64.wrap ((IntKind.u64.wrap ((18446744073709551615 : Int) / (IntKind.u64.wrap (x1_4)))) + 1)), (by first | (rw [Int.tdiv_eq_ediv_of_nonneg (by decide)]; done) | (simp [Int.tdiv_eq_ediv_of_nonneg]; done) | rfl | (simp; done) | (simp [*]; done) | (simp; exact isEmpty_bne _) | (simp; exact isEmpty_beq _)), H', ⟨by have := HJ4.out; have := HJ34.out; first | omega | exact Nat.le_refl _⟩, ⟨bq_⟩⟩
      case rest =>
       clear HC39
       obtain ⟨kq, x10_38, rfl, HA, HJ38, HB⟩ := hcut
       cases kq with
       | zero => exact absurd HA.out (by simp [strconv_ParseUint.j5])
       | succ kj38 =>
        have H := HA.out
        clear HA
        simp only [strconv_ParseUint.j5] at H
        obtain ⟨ji43, hji43⟩ : ∃ j_ : Int, (IntKind.u64.wrap (x2_34)) = j_ := ⟨_, rfl⟩
        replace H : (if 0 ≤ (ji43) then (if x0_4.size ≤ 9223372036854775807 then ((some (bytesOf x0_4 : List Int)).bind fun y104 => (strconv_ParseUint.l0 kj38 x1_4 (a1 == 0) a0 x10_38 (IntKind.u64.wrap ((shl .u64 1 (ji43)) - 1)) false 0 y104 (y104.length : Int) 0)) else (none)) else (none)) = some (r1, r2) := by first | (rw [hji43] at H; exact H) | (simp only [hji43] at H ⊢; exact H)
        by_cases c44 : 0 ≤ (ji43)
        ·rw [if_pos c44] at H
         have c44b0 := eq_true c44
         have c44b1 := decide_eq_true c44
         clear c44
         obtain ⟨ji45, hji45⟩ : ∃ j_ : Int, (shl .u64 1 (ji43)) = j_ := ⟨_, rfl⟩
         replace H : (if x0_4.size ≤ 9223372036854775807 then ((some (bytesOf x0_4 : List Int)).bind fun y104 => (strconv_ParseUint.l0 kj38 x1_4 (a1 == 0) a0 x10_38 (IntKind.u64.wrap ((ji45) - 1)) false 0 y104 (y104.length : Int) 0)) else (none)) = some (r1, r2) := by first | (rw [hji45] at H; exact H) | (simp only [hji45] at H ⊢; exact H)
         have hji45_ : (IntKind.u64.wrap (1 * 2 ^ min (ji43).toNat 64)) = ji45 := hji45
         have hji45z : (ji43) ≤ 64 → (IntKind.u64.wrap (1 * 2 ^ (ji43).toNat)) = ji45 := shl_small hji45
         have hji45u : (IntKind.u64.wrap (2 ^ min (ji43).toNat 64)) = ji45 := by have h_ := hji45_; rw [Int.one_mul] at h_; exact h_
         have hji45v : (ji43) ≤ 64 → (IntKind.u64.wrap (2 ^ (ji43).toNat)) = ji45 := fun hle_ => by have h_ := hji45z hle_; rw [Int.one_mul] at h_; exact h_
         by_cases c46 : x0_4.size ≤ 9223372036854775807
         ·rw [if_pos c46] at H
          have c46b0 := eq_true c46
          have c46b1 := decide_eq_true c46
          try have c46b2 : (9223372036854775807 < x0_4.size) = False := eq_false (Nat.not_lt.2 c46)
          clear c46
          obtain ⟨y104, hy104⟩ : ∃ y_ : List Int, y_ = (bytesOf x0_4) := ⟨_, rfl⟩
          replace H : (strconv_ParseUint.l0 kj38 x1_4 (a1 == 0) a0 x10_38 (IntKind.u64.wrap ((ji45) - 1)) false 0 y104 (y104.length : Int) 0) = some (r1, r2) := by first | (rw [hy104]; with_reducible exact H) | (have H2_ := (Option.bind_some _ _).symm.trans H; rw [hy104]; with_reducible exact H2_) | (have H2_ := (Option.bind_some _ _).symm.trans H; with_reducible exact H2_) | with_reducible exact H | (rw [hy104]; exact H) | exact H
          have Ny104 := Aside0.mk hy104
          clear hy104
          have H' := Aside0.mk H
          clear H
          go_wp2_with (first | ((with_reducible refine gate_dst (N := 99) rfl ?_); refine conv_str ?hg (N := 99) ?hd 9 22 5 x0_4 Tryz.underlying9 Tryz.underlying22 Tryz.underlying5 ?hm ?hr ?_; (case hd => rfl); (case hg => rfl); (case hm => first | decide | exact of_decide_eq_true as_); (case hr => first | rfl | (go_simp; done) | (go_simp; rfl)); intro A104 c104 w47 hr_ hc_ hb; rw [← Ny104.out] at hr_ hc_; rw [← Ny104.out]; have HR104 := Aside0.mk (hr_); have HC104 := Aside0.mk (hc_); replace HB := Aside0.mk (below_step bq_ hb); clear hb hr_ hc_))
          go_loopg [12, 13, 101] kj38 (fun kq v12 v13 v101 w' => ∃ (x12_4 : Bool) (x13_4 : Int) (x101_4 : Int), v12 = .bool x12_4 ∧ v13 = .int .u64 x13_4 ∧ v101 = .int .i64 x101_4 ∧ Aside0 (strconv_ParseUint.l0 kq x1_4 (a1 == 0) a0 x10_38 (IntKind.u64.wrap ((ji45) - 1)) x12_4 x13_4 y104 (y104.length : Int) x101_4 = some (r1, r2)) ∧ Aside0 (kq ≤ kj38) ∧ Aside0 (Kd.C (Kd.int .u8) w' A104 y104.length y104) ∧ Aside0 (Below w.heap.size w w'))
          case atStart => exact ⟨(false), (0), (0), sq_, sq_, sq_, H', ⟨Nat.le_refl _⟩, ⟨by repeat (first | (with_reducible exact HR104.out) | (with_reducible refine Kd.C_alloc ?_ _) | (with_reducible refine Kd.C_drewN ?_ _) | (with_reducible refine Kd.C_drew ?_) | exact HR104.out)⟩, ⟨bq_⟩⟩
          case round =>
           clear H'
           obtain ⟨x12_4, x13_4, x101_4, rfl, rfl, rfl, HA, HK4, HR104, HB⟩ := hrel
           cases gk with
           | zero => exact absurd HA.out (by simp [strconv_ParseUint.l0])
           | succ k4 =>
            have H := HA.out
            clear HA
            simp only [strconv_ParseUint.l0] at H
            by_cases c48 : x101_4 < (y104.length : Int)
            ·rw [if_pos c48] at H
             have c48b0 := decide_eq_true c48
             clear c48
             by_cases c49 : 0 ≤ x101_4
             ·rw [if_pos c49] at H
              have c49b0 := decide_eq_true c49
              clear c49
              by_cases c50 : x101_4 < (y104.length : Int)
              ·rw [if_pos c50] at H
               have c50b0 := decide_eq_true c50
               clear c50
               have HC51 := Aside0.mk H
               clear H
               have p108 : 0 ≤ (x101_4 : Int) := of_decide_eq_true as_
               have q108 : x101_4 < (y104.length : Int) := of_decide_eq_true as_
               obtain ⟨ad108, e108, hx108_0⟩ := Kd.at_int (by repeat (first | (with_reducible exact HR104.out) | (with_reducible refine Kd.C_alloc ?_ _) | (with_reducible refine Kd.C_drewN ?_ _) | (with_reducible refine Kd.C_drew ?_) | exact HR104.out)) x101_4 p108 q108
               cases e108
               replace p108 := eq_true p108
               replace q108 := eq_true q108
               go_upto_block 5 with (fail)
               go_cut [12, 16] (fun v12 v16 wc => ∃ (kq : Nat) (x12_50 : Bool) (x16_50 : Int), v12 = .bool x12_50 ∧ v16 = .int .u8 x16_50 ∧ Aside0 (strconv_ParseUint.j9 kq x1_4 (a1 == 0) a0 x10_38 (IntKind.u64.wrap ((ji45) - 1)) x12_50 x13_4 x16_50 y104 (y104.length : Int) x101_4 = some (r1, r2)) ∧ Aside0 (kq ≤ k4) ∧ Aside0 (Kd.C (Kd.int .u8) wc (some ad108) y104.length y104) ∧ Aside0 (Below w.heap.size w wc))
               case first =>
                have H := HC51.out
                clear HC51
                have HC52 := Aside0.mk H
                clear H
                go_upto_region 40 with (fail)
                go_cut [106] (fun v106 wc => ∃ (kq : Nat) (x106_51 : Bool), v106 = .bool x106_51 ∧ Aside0 (strconv_ParseUint.j7 kq x1_4 (a1 == 0) a0 x10_38 (IntKind.u64.wrap ((ji45) - 1)) x12_4 x13_4 (rd y104 x101_4) y104 (y104.length : Int) x101_4 x106_51 = some (r1, r2)) ∧ Aside0 (kq ≤ k4) ∧ Aside0 (Kd.C (Kd.int .u8) wc (some ad108) y104.length y104) ∧ Aside0 (Below w.heap.size w wc))
                case first =>
                 have H := HC52.out
                 clear HC52
                 by_cases c53 : (rd y104 x101_4) = 95
                 ·rw [if_pos c53] at H
                  have c53b0 := beq_iff_eq.mpr c53
                  have c53b1 := bne_eq_false_iff_eq.mpr c53
                  clear c53
                  (first | rw [c53b0] | (simp only [i64_w, i32_w]; rw [c53b0]) | skip)
                  have H' := Aside0.mk H
                  clear H
                  go_wp2
                  go_meet
                  case rel => exact ⟨_, ((a1 == 0)), sq_, H', ⟨by have := HJ4.out; have := HJ34.out; have := HJ38.out; have := HK4.out; first | omega | exact Nat.le_refl _⟩, ⟨by repeat (first | (with_reducible exact HR104.out) | (with_reducible refine Kd.C_alloc ?_ _) | (with_reducible refine Kd.C_drewN ?_ _) | (with_reducible refine Kd.C_drew ?_) | exact HR104.out)⟩, ⟨bq_⟩⟩
                 ·rw [if_neg c53] at H
                  have c53b0 := beq_eq_false_iff_ne.mpr c53
                  have c53b1 := bne_iff_ne.mpr c53
                  (first | rw [c53b0] | (simp only [i64_w, i32_w]; rw [c53b0]) | skip)
                  have H' := Aside0.mk H
                  clear H
                  go_wp2
                  go_meet
                  case rel => exact ⟨_, (false), sq_, H', ⟨by have := HJ4.out; have := HJ34.out; have := HJ38.out; have := HK4.out; first | omega | exact Nat.le_refl _⟩, ⟨by repeat (first | (with_reducible exact HR104.out) | (with_reducible refine Kd.C_alloc ?_ _) | (with_reducible refine Kd.C_drewN ?_ _) | (with_reducible refine Kd.C_drew ?_) | exact HR104.out)⟩, ⟨bq_⟩⟩
                case rest =>
                 clear HC52
                 obtain ⟨kq, x106_51, rfl, HA, HJ51, HR104, HB⟩ := hcut
                 cases kq with
                 | zero => exact absurd HA.out (by simp [strconv_ParseUint.j7])
                 | succ kj51 =>
                  have H := HA.out
                  clear HA
                  simp only [strconv_ParseUint.j7] at H
                  by_cases c54 : x106_51 = true
                  ·subst c54
                   replace H := ifT_ H
                   have H' := Aside0.mk H
                   clear H
                   go_wp2
                   go_roundg kj51
                   case measure => have := HJ4.out; have := HJ34.out; have := HJ38.out; have := HK4.out; have := HJ51.out; omega
                   case rel => exact ⟨(true), (x13_4), (wrap64 (x101_4 + 1)), sq_, sq_, sq_, H', ⟨by have := HJ4.out; have := HJ34.out; have := HJ38.out; have := HK4.out; have := HJ51.out; omega⟩, ⟨by repeat (first | (with_reducible exact HR104.out) | (with_reducible refine Kd.C_alloc ?_ _) | (with_reducible refine Kd.C_drewN ?_ _) | (with_reducible refine Kd.C_drew ?_) | exact HR104.out)⟩, ⟨bq_⟩⟩
                  ·replace c54 := Bool.eq_false_iff.mpr c54
                   subst c54
                   replace H := ifF_ H
                   have HC55 := Aside0.mk H
                   clear H
                   go_upto_region 42 with (fail)
                   go_cut [112] (fun v112 wc => ∃ (kq : Nat) (x112_54 : Bool), v112 = .bool x112_54 ∧ Aside0 (strconv_ParseUint.j8 kq x1_4 (a1 == 0) a0 x10_38 (IntKind.u64.wrap ((ji45) - 1)) x12_4 x13_4 (rd y104 x101_4) y104 (y104.length : Int) x101_4 x112_54 = some (r1, r2)) ∧ Aside0 (kq ≤ kj51) ∧ Aside0 (Kd.C (Kd.int .u8) wc (some ad108) y104.length y104) ∧ Aside0 (Below w.heap.size w wc))
                   case first =>
                    have H := HC55.out
                    clear HC55
                    by_cases c56 : 48 ≤ (rd y104 x101_4)
                    ·rw [if_pos c56] at H
                     have c56b0 := decide_eq_true c56
                     clear c56
                     (first | rw [c56b0] | (simp only [i64_w, i32_w]; rw [c56b0]) | skip)
                     have H' := Aside0.mk H
                     clear H
                     go_wp2
                     go_meet
                     case rel => exact ⟨_, (decide ((rd y104 x101_4) ≤ 57)), sq_, H', ⟨by have := HJ4.out; have := HJ34.out; have := HJ38.out; have := HK4.out; have := HJ51.out; first | omega | exact Nat.le_refl _⟩, ⟨by repeat (first | (with_reducible exact HR104.out) | (with_reducible refine Kd.C_alloc ?_ _) | (with_reducible refine Kd.C_drewN ?_ _) | (with_reducible refine Kd.C_drew ?_) | exact HR104.out)⟩, ⟨bq_⟩⟩
                    ·rw [if_neg c56] at H
                     have c56b0 := decide_eq_false c56
                     clear c56
                     (first | rw [c56b0] | (simp only [i64_w, i32_w]; rw [c56b0]) | skip)
                     have H' := Aside0.mk H
                     clear H
                     go_wp2
                     go_meet
                     case rel => exact ⟨_, (false), sq_, H', ⟨by have := HJ4.out; have := HJ34.out; have := HJ38.out; have := HK4.out; have := HJ51.out; first | omega | exact Nat.le_refl _⟩, ⟨by repeat (first | (with_reducible exact HR104.out) | (with_reducible refine Kd.C_alloc ?_ _) | (with_reducible refine Kd.C_drewN ?_ _) | (with_reducible refine Kd.C_drew ?_) | exact HR104.out)⟩, ⟨bq_⟩⟩
                   case rest =>
                    clear HC55
                    obtain ⟨kq, x112_54, rfl, HA, HJ54, HR104, HB⟩ := hcut
                    cases kq with
                    | zero => exact absurd HA.out (by simp [strconv_ParseUint.j8])
                    | succ kj54 =>
                     have H := HA.out
                     clear HA
                     simp only [strconv_ParseUint.j8] at H
                     by_cases c57 : x112_54 = true
                     ·subst c57
                      replace H := ifT_ H
                      have H' := Aside0.mk H
                      clear H
                      go_wp2
                      go_meet
                      case rel => exact ⟨_, (x12_4), (((rd y104 x101_4) - 48) % 256), sq_, sq_, H', ⟨by have := HJ4.out; have := HJ34.out; have := HJ38.out; have := HK4.out; have := HJ51.out; have := HJ54.out; first | omega | exact Nat.le_refl _⟩, ⟨by repeat (first | (with_reducible exact HR104.out) | (with_reducible refine Kd.C_alloc ?_ _) | (with_reducible refine Kd.C_drewN ?_ _) | (with_reducible refine Kd.C_drew ?_) | exact HR104.out)⟩, ⟨bq_⟩⟩
                     ·replace c57 := Bool.eq_false_iff.mpr c57
                      subst c57
                      replace H := ifF_ H
                      replace H := Option.bind_eq_some_iff.mp H
                      obtain ⟨t109, A580, H⟩ := H
                      (try dsimp only at H)
                      have A58 := Aside0.mk A580
                      clear A580
                      by_cases c59 : 97 ≤ t109
                      ·rw [if_pos c59] at H
                       have c59b0 := decide_eq_true c59
                       clear c59
                       replace H := Option.bind_eq_some_iff.mp H
                       obtain ⟨t110, A600, H⟩ := H
                       (try dsimp only at H)
                       have A60 := Aside0.mk A600
                       clear A600
                       by_cases c61 : t110 ≤ 122
                       ·rw [if_pos c61] at H
                        have c61b0 := decide_eq_true c61
                        clear c61
                        replace H := Option.bind_eq_some_iff.mp H
                        obtain ⟨t111, A620, H⟩ := H
                        (try dsimp only at H)
                        have A62 := Aside0.mk A620
                        clear A620
                        have H' := Aside0.mk H
                        clear H
                        go_wp2_with (first | ((with_reducible refine gate_callee (f := 145) rfl ?_); refine goesL_ (some 123) rfl rfl Tryz.func145 (by kernel_rfl) rfl #[.int .u8 (rd y104 x101_4)] rfl lq_ ?_; (with_reducible refine (strconv_lower.calls (rd y104 x101_4) t109 _ ?side1 A58.out).mono ?_); (case side1 => exact lw_); rintro e w' ⟨rfl, ⟨nd, rfl⟩⟩; refine ⟨_, rfl, ?_⟩) | (go_at_call 145; (with_reducible refine (strconv_lower.calls (rd y104 x101_4) t110 _ ?side1 A60.out).mono ?_); (case side1 => exact lw_); rintro e w' ⟨rfl, ⟨nd, rfl⟩⟩) | ((with_reducible refine gate_callee (f := 145) rfl ?_); refine goesL_ (some 131) rfl rfl Tryz.func145 (by kernel_rfl) rfl #[.int .u8 (rd y104 x101_4)] rfl lq_ ?_; (with_reducible refine (strconv_lower.calls (rd y104 x101_4) t111 _ ?side1 A62.out).mono ?_); (case side1 => exact lw_); rintro e w' ⟨rfl, ⟨nd, rfl⟩⟩; refine ⟨_, rfl, ?_⟩))
                        go_meet
                        case rel => exact ⟨_, (x12_4), ((((t111 - 97) % 256) + 10) % 256), sq_, sq_, H', ⟨by have := HJ4.out; have := HJ34.out; have := HJ38.out; have := HK4.out; have := HJ51.out; have := HJ54.out; first | omega | exact Nat.le_refl _⟩, ⟨by repeat (first | (with_reducible exact HR104.out) | (with_reducible refine Kd.C_alloc ?_ _) | (with_reducible refine Kd.C_drewN ?_ _) | (with_reducible refine Kd.C_drew ?_) | exact HR104.out)⟩, ⟨bq_⟩⟩
                       ·rw [if_neg c61] at H
                        have c61b0 := decide_eq_false c61
                        clear c61
                        simp only [Option.some.injEq, Prod.mk.injEq] at H
                        obtain ⟨rfl, rfl⟩ := H
                        go_wp2_with (first | ((with_reducible refine gate_callee (f := 145) rfl ?_); refine goesL_ (some 123) rfl rfl Tryz.func145 (by kernel_rfl) rfl #[.int .u8 (rd y104 x101_4)] rfl lq_ ?_; (with_reducible refine (strconv_lower.calls (rd y104 x101_4) t109 _ ?side1 A58.out).mono ?_); (case side1 => exact lw_); rintro e w' ⟨rfl, ⟨nd, rfl⟩⟩; refine ⟨_, rfl, ?_⟩) | (go_at_call 145; (with_reducible refine (strconv_lower.calls (rd y104 x101_4) t110 _ ?side1 A60.out).mono ?_); (case side1 => exact lw_); rintro e w' ⟨rfl, ⟨nd, rfl⟩⟩))
                        go_ret2
                        exact ⟨by first | rfl | (simp [errW_none, errW_some] <;> rfl) | (simp only [← hji43, ← hji45]; first | rfl | (simp [errW_none, errW_some] <;> rfl)) | (simp [*, errW_none, errW_some] <;> rfl) | (simp [errW_none, errW_some]; first | exact isEmpty_bne _ | exact isEmpty_beq _ | exact (isEmpty_bne _).symm), bq_⟩
                      ·rw [if_neg c59] at H
                       have c59b0 := decide_eq_false c59
                       clear c59
                       simp only [Option.some.injEq, Prod.mk.injEq] at H
                       obtain ⟨rfl, rfl⟩ := H
                       go_wp2_with (first | ((with_reducible refine gate_callee (f := 145) rfl ?_); refine goesL_ (some 123) rfl rfl Tryz.func145 (by kernel_rfl) rfl #[.int .u8 (rd y104 x101_4)] rfl lq_ ?_; (with_reducible refine (strconv_lower.calls (rd y104 x101_4) t109 _ ?side1 A58.out).mono ?_); (case side1 => exact lw_); rintro e w' ⟨rfl, ⟨nd, rfl⟩⟩; refine ⟨_, rfl, ?_⟩))
                       go_ret2
                       exact ⟨by first | rfl | (simp [errW_none, errW_some] <;> rfl) | (simp only [← hji43, ← hji45]; first | rfl | (simp [errW_none, errW_some] <;> rfl)) | (simp [*, errW_none, errW_some] <;> rfl) | (simp [errW_none, errW_some]; first | exact isEmpty_bne _ | exact isEmpty_beq _ | exact (isEmpty_bne _).symm), bq_⟩
               case rest =>
                clear HC51
                obtain ⟨kq, x12_50, x16_50, rfl, rfl, HA, HJ50, HR104, HB⟩ := hcut
                cases kq with
                | zero => exact absurd HA.out (by simp [strconv_ParseUint.j9])
                | succ kj50 =>
                 have H := HA.out
                 clear HA
                 simp only [strconv_ParseUint.j9] at H
                 by_cases c63 : x16_50 ≥ ((x1_4) % 256)
                 ·rw [if_pos c63] at H
                  have c63b0 := decide_eq_true c63
                  clear c63
                  simp only [Option.some.injEq, Prod.mk.injEq] at H
                  obtain ⟨rfl, rfl⟩ := H
                  go_wp2
                  go_ret2
                  exact ⟨by first | rfl | (simp [errW_none, errW_some] <;> rfl) | (simp only [← hji43, ← hji45]; first | rfl | (simp [errW_none, errW_some] <;> rfl)) | (simp [*, errW_none, errW_some] <;> rfl) | (simp [errW_none, errW_some]; first | exact isEmpty_bne _ | exact isEmpty_beq _ | exact (isEmpty_bne _).symm), bq_⟩
                 ·rw [if_neg c63] at H
                  have c63b0 := decide_eq_false c63
                  clear c63
                  by_cases c64 : x13_4 ≥ x10_38
                  ·rw [if_pos c64] at H
                   have c64b0 := decide_eq_true c64
                   clear c64
                   simp only [Option.some.injEq, Prod.mk.injEq] at H
                   obtain ⟨rfl, rfl⟩ := H
                   go_wp2
                   go_ret2
                   exact ⟨by first | rfl | (simp [errW_none, errW_some] <;> rfl) | (simp only [← hji43, ← hji45]; first | rfl | (simp [errW_none, errW_some] <;> rfl)) | (simp [*, errW_none, errW_some] <;> rfl) | (simp [errW_none, errW_some]; first | exact isEmpty_bne _ | exact isEmpty_beq _ | exact (isEmpty_bne _).symm), bq_⟩
                  ·rw [if_neg c64] at H
                   have c64b0 := decide_eq_false c64
                   clear c64
                   by_cases c65 : (IntKind.u64.wrap ((IntKind.u64.wrap (x13_4 * (IntKind.u64.wrap (x1_4)))) + (IntKind.u64.wrap (x16_50)))) < (IntKind.u64.wrap (x13_4 * (IntKind.u64.wrap (x1_4))))
                   ·rw [if_pos c65] at H
                    have c65b0 := decide_eq_true c65
                    clear c65
                    simp only [Option.some.injEq, Prod.mk.injEq] at H
                    obtain ⟨rfl, rfl⟩ := H
                    go_wp2
                    go_ret2
                    exact ⟨by first | rfl | (simp [errW_none, errW_some] <;> rfl) | (simp only [← hji43, ← hji45]; first | rfl | (simp [errW_none, errW_some] <;> rfl)) | (simp [*, errW_none, errW_some] <;> rfl) | (simp [errW_none, errW_some]; first | exact isEmpty_bne _ | exact isEmpty_beq _ | exact (isEmpty_bne _).symm), bq_⟩
                   ·rw [if_neg c65] at H
                    have c65b0 := decide_eq_false c65
                    clear c65
                    by_cases c66 : (IntKind.u64.wrap ((IntKind.u64.wrap (x13_4 * (IntKind.u64.wrap (x1_4)))) + (IntKind.u64.wrap (x16_50)))) > (IntKind.u64.wrap ((ji45) - 1))
                    ·rw [if_pos c66] at H
                     have c66b0 := decide_eq_true c66
                     clear c66
                     simp only [Option.some.injEq, Prod.mk.injEq] at H
                     obtain ⟨rfl, rfl⟩ := H
                     go_wp2
                     go_ret2
                     exact ⟨by first | rfl | (simp [errW_none, errW_some] <;> rfl) | (simp only [← hji43, ← hji45]; first | rfl | (simp [errW_none, errW_some] <;> rfl)) | (simp [*, errW_none, errW_some] <;> rfl) | (simp [errW_none, errW_some]; first | exact isEmpty_bne _ | exact isEmpty_beq _ | exact (isEmpty_bne _).symm), bq_⟩
                    ·rw [if_neg c66] at H
                     have c66b0 := decide_eq_false c66
                     clear c66
                     have H' := Aside0.mk H
                     clear H
                     go_wp2
                     go_roundg kj50
                     case measure => have := HJ4.out; have := HJ34.out; have := HJ38.out; have := HK4.out; have := HJ50.out; omega
                     case rel => exact ⟨(x12_50), (IntKind.u64.wrap ((IntKind.u64.wrap (x13_4 * (IntKind.u64.wrap (x1_4)))) + (IntKind.u64.wrap (x16_50)))), (wrap64 (x101_4 + 1)), sq_, sq_, sq_, H', ⟨by have := HJ4.out; have := HJ34.out; have := HJ38.out; have := HK4.out; have := HJ50.out; omega⟩, ⟨by repeat (first | (with_reducible exact HR104.out) | (with_reducible refine Kd.C_alloc ?_ _) | (with_reducible refine Kd.C_drewN ?_ _) | (with_reducible refine Kd.C_drew ?_) | exact HR104.out)⟩, ⟨bq_⟩⟩
              ·rw [if_neg c50] at H
               exact absurd H (by simp)
             ·rw [if_neg c49] at H
              exact absurd H (by simp)
            ·rw [if_neg c48] at H
             have c48b0 := decide_eq_false c48
             clear c48
             by_cases c67 : x12_4 = true
             ·subst c67
              replace H := ifT_ H
              replace H := Option.bind_eq_some_iff.mp H
              obtain ⟨t107, A680, H⟩ := H
              (try dsimp only at H)
              have A68 := Aside0.mk A680
              clear A680
              by_cases c69 : t107 = true
              ·subst c69
               replace H := ifT_ H
               simp only [Option.some.injEq, Prod.mk.injEq] at H
               obtain ⟨rfl, rfl⟩ := H
               go_wp2_with (first | (go_at_call 146; (with_reducible refine (strconv_underscoreOK.calls a0 true _ ?side1 A68.out).mono ?_); (case side1 => exact lw_); rintro e w70 ⟨rfl, hb⟩; replace HR104 := Aside0.mk (Kd.C_below (by repeat (first | (with_reducible exact HR104.out) | (with_reducible refine Kd.C_alloc ?_ _) | (with_reducible refine Kd.C_drewN ?_ _) | (with_reducible refine Kd.C_drew ?_) | exact HR104.out)) hb); replace HB := Aside0.mk (below_step bq_ hb)))
               go_ret2
               exact ⟨by first | rfl | (simp [errW_none, errW_some] <;> rfl) | (simp only [← hji43, ← hji45]; first | rfl | (simp [errW_none, errW_some] <;> rfl)) | (simp [*, errW_none, errW_some] <;> rfl) | (simp [errW_none, errW_some]; first | exact isEmpty_bne _ | exact isEmpty_beq _ | exact (isEmpty_bne _).symm), bq_⟩
              ·replace c69 := Bool.eq_false_iff.mpr c69
               subst c69
               replace H := ifF_ H
               simp only [Option.some.injEq, Prod.mk.injEq] at H
               obtain ⟨rfl, rfl⟩ := H
               go_wp2_with (first | (go_at_call 146; (with_reducible refine (strconv_underscoreOK.calls a0 false _ ?side1 A68.out).mono ?_); (case side1 => exact lw_); rintro e w71 ⟨rfl, hb⟩; replace HR104 := Aside0.mk (Kd.C_below (by repeat (first | (with_reducible exact HR104.out) | (with_reducible refine Kd.C_alloc ?_ _) | (with_reducible refine Kd.C_drewN ?_ _) | (with_reducible refine Kd.C_drew ?_) | exact HR104.out)) hb); replace HB := Aside0.mk (below_step bq_ hb)))
               go_ret2
               exact ⟨by first | rfl | (simp [errW_none, errW_some] <;> rfl) | (simp only [← hji43, ← hji45]; first | rfl | (simp [errW_none, errW_some] <;> rfl)) | (simp [*, errW_none, errW_some] <;> rfl) | (simp [errW_none, errW_some]; first | exact isEmpty_bne _ | exact isEmpty_beq _ | exact (isEmpty_bne _).symm), bq_⟩
             ·replace c67 := Bool.eq_false_iff.mpr c67
              subst c67
              replace H := ifF_ H
              simp only [Option.some.injEq, Prod.mk.injEq] at H
              obtain ⟨rfl, rfl⟩ := H
              go_wp2
              go_ret2
              exact ⟨by first | rfl | (simp [errW_none, errW_some] <;> rfl) | (simp only [← hji43, ← hji45]; first | rfl | (simp [errW_none, errW_some] <;> rfl)) | (simp [*, errW_none, errW_some] <;> rfl) | (simp [errW_none, errW_some]; first | exact isEmpty_bne _ | exact isEmpty_beq _ | exact (isEmpty_bne _).symm), bq_⟩
         ·rw [if_neg c46] at H
          exact absurd H (by simp)
        ·rw [if_neg c44] at H
         exact absurd H (by simp)

end Go.Proofs.YtipleegkonhfcaaGreatDoor.I
set_option linter.unusedVariables false
set_option linter.unusedSimpArgs false
namespace Go.Proofs.YtipleegkonhfcaaGreatDoor.E
open Go Go.RowKit Go.Shelf Go.Lib Go.Proofs.YtipleegkonhfcaaGreatDoorW.PrintWords Go.Proofs.YtipleegkonhfcaaGreatDoorW.PrintLast Go.Proofs.YtipleegkonhfcaaGreatDoorW.PrintMore

def strconv_ParseUint.f (k : Nat) (a0 : ByteArray) (a1 a2 : Int) : Option (Int × Option Int) := (I.strconv_ParseUint.f k a0 a1 a2).bind fun r => if r.2 = none then some (r.1, none) else none
theorem strconv_ParseUint.mono : ∀ a0 a1 a2 k, LeO (strconv_ParseUint.f k a0 a1 a2) (strconv_ParseUint.f (k + 1) a0 a1 a2) := by
  intro a0 a1 a2 k
  unfold strconv_ParseUint.f
  exact LeO.bind (I.strconv_ParseUint.mono a0 a1 a2 k) (fun _ => LeO.refl _)
set_option maxHeartbeats 4000000 in
set_option maxRecDepth 100000 in
theorem strconv_ParseUint.plain (k : Nat) (a0 : ByteArray) (a1 a2 : Int) (r1 : Int) (r2 : Option Int) (w : World) (hLW : LW w) (h : strconv_ParseUint.f k a0 a1 a2 = some (r1, r2)) :
    r2 = none ∧ Calls Tryz.prog 111 #[.string a0, .int .i64 a1, .int .i64 a2] w fun e w' => e = .returned (.tuple #[.int .u64 r1, .nilIface]) ∧ Below w.heap.size w w' := by
  obtain ⟨⟨n, er⟩, hp, h⟩ := Option.bind_eq_some_iff.mp h
  have HLW := Aside0.mk hLW
  clear hLW
  cases er with
  | some c =>
    dsimp only at h
    rw [if_neg (by simp)] at h
    cases h
  | none =>
    rw [if_pos rfl] at h
    simp only [Option.some.injEq, Prod.mk.injEq] at h
    obtain ⟨rfl, rfl⟩ := h
    refine ⟨rfl, ?_⟩
    have HC : ∀ W, LW W → Calls Tryz.prog 131 #[.string a0, .int .i64 a1, .int .i64 a2] W fun e w' => e = .returned (.tuple #[.int .u64 n, .nilIface]) ∧ Below W.heap.size W w' := fun W hl => I.strconv_ParseUint.calls k a0 a1 a2 n none W hl hp
    clear hp
    go_enter Tryz.func111, Tryz.ntmps111
    go_wp2_with (go_at_call 131; refine (HC _ HLW.out).mono ?_; rintro e w1 ⟨rfl, hb1⟩)
    go_ret2
    exact ⟨rfl, hb1⟩
theorem strconv_ParseUint.calls (k : Nat) (a0 : ByteArray) (a1 a2 : Int) (r1 : Int) (r2 : Option Int) (w : World) (hLW : LW w) (h : strconv_ParseUint.f k a0 a1 a2 = some (r1, r2)) :
    Calls Tryz.prog 111 #[.string a0, .int .i64 a1, .int .i64 a2] w fun e w' => e = .returned (.tuple #[.int .u64 r1, match r2 with | none => .nilIface | some c => .iface 134 (.int .i64 c)]) ∧ Below w.heap.size w w' := by
  obtain ⟨rfl, hc⟩ := strconv_ParseUint.plain k a0 a1 a2 r1 r2 w hLW h
  exact hc
end Go.Proofs.YtipleegkonhfcaaGreatDoor.E
