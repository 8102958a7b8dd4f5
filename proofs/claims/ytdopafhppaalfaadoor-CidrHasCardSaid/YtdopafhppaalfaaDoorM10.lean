/- The law CidrHas, plainly: the law. -/
import Derived.Test.YtdopafhppaalfaaDoorM9
import Derived.Test.YtdopafhppaalfaaDoorSP
import Derived.Test.YtdopafhppaalfaaDoorL2
set_option linter.unusedSimpArgs false
set_option linter.unusedVariables false
set_option maxRecDepth 10000
namespace Go.Proofs.YtdopafhppaalfaaDoor.Q
open Go Go.RowKit Go.Lib Go.Proofs.YtdopafhppaalfaaDoorW.PrintWords Go.Proofs.YtdopafhppaalfaaDoorW.PrintMore Go.Proofs.YtdopafhppaalfaaDoorB Go.Proofs.YtdopafhppaalfaaDoor.E Go.Proofs.YtdopafhppaalfaaDoorV Go.Proofs.YtdopafhppaalfaaDoor.P Go.Proofs.YtdopafhppaalfaaDoor.G Go.Proofs.YtdopafhppaalfaaDoor.L

theorem up_to {α : Type} {f : Nat → Option α} (hm : ∀ k, LeO (f k) (f (k + 1))) {k0 : Nat} {r : α} (h : f k0 = some r) : ∀ k, k0 ≤ k → f k = some r := by
 intro k hk
 induction k with
 | zero => rw [show k0 = 0 by omega] at h; exact h
 | succ k ih =>
  by_cases e : k0 = k + 1
  ·rw [← e]; exact h
  ·exact hm k r (ih (by omega))
def knownB : ByteArray := ⟨#[48, 46, 48, 46, 48, 46, 48, 47, 56, 32, 49, 48, 46, 48, 46, 48, 46, 48, 47, 56, 32, 49, 48, 48, 46, 54, 52, 46, 48, 46, 48, 47, 49, 48, 32, 49, 50, 55, 46, 48, 46, 48, 46, 48, 47, 56, 32, 49, 54, 57, 46, 50, 53, 52, 46, 48, 46, 48, 47, 49, 54, 32, 49, 55, 50, 46, 49, 54, 46, 48, 46, 48, 47, 49, 50, 32, 49, 57, 50, 46, 48, 46, 48, 46, 48, 47, 50, 52, 32, 49, 57, 50, 46, 48, 46, 50, 46, 48, 47, 50, 52, 32, 49, 57, 50, 46, 56, 56, 46, 57, 57, 46, 48, 47, 50, 52, 32, 49, 57, 50, 46, 49, 54, 56, 46, 48, 46, 48, 47, 49, 54, 32, 49, 57, 56, 46, 49, 56, 46, 48, 46, 48, 47, 49, 53, 32, 49, 57, 56, 46, 53, 49, 46, 49, 48, 48, 46, 48, 47, 50, 52, 32, 50, 48, 51, 46, 48, 46, 49, 49, 51, 46, 48, 47, 50, 52, 32, 50, 50, 52, 46, 48, 46, 48, 46, 48, 47, 52, 32, 50, 52, 48, 46, 48, 46, 48, 46, 48, 47, 52, 32, 58, 58, 47, 49, 50, 56, 32, 58, 58, 49, 47, 49, 50, 56, 32, 54, 52, 58, 102, 102, 57, 98, 58, 49, 58, 58, 47, 52, 56, 32, 49, 48, 48, 58, 58, 47, 54, 52, 32, 50, 48, 48, 49, 58, 58, 47, 50, 51, 32, 50, 48, 48, 49, 58, 100, 98, 56, 58, 58, 47, 51, 50, 32, 51, 102, 102, 102, 58, 58, 47, 50, 48, 32, 53, 102, 48, 48, 58, 58, 47, 49, 54, 32, 102, 99, 48, 48, 58, 58, 47, 55, 32, 102, 101, 56, 48, 58, 58, 47, 49, 48, 32, 102, 102, 48, 48, 58, 58, 47, 56]⟩
def pieceL : List ByteArray := [⟨#[48, 46, 48, 46, 48, 46, 48, 47, 56]⟩,
 ⟨#[49, 48, 46, 48, 46, 48, 46, 48, 47, 56]⟩,
 ⟨#[49, 48, 48, 46, 54, 52, 46, 48, 46, 48, 47, 49, 48]⟩,
 ⟨#[49, 50, 55, 46, 48, 46, 48, 46, 48, 47, 56]⟩,
 ⟨#[49, 54, 57, 46, 50, 53, 52, 46, 48, 46, 48, 47, 49, 54]⟩,
 ⟨#[49, 55, 50, 46, 49, 54, 46, 48, 46, 48, 47, 49, 50]⟩,
 ⟨#[49, 57, 50, 46, 48, 46, 48, 46, 48, 47, 50, 52]⟩,
 ⟨#[49, 57, 50, 46, 48, 46, 50, 46, 48, 47, 50, 52]⟩,
 ⟨#[49, 57, 50, 46, 56, 56, 46, 57, 57, 46, 48, 47, 50, 52]⟩,
 ⟨#[49, 57, 50, 46, 49, 54, 56, 46, 48, 46, 48, 47, 49, 54]⟩,
 ⟨#[49, 57, 56, 46, 49, 56, 46, 48, 46, 48, 47, 49, 53]⟩,
 ⟨#[49, 57, 56, 46, 53, 49, 46, 49, 48, 48, 46, 48, 47, 50, 52]⟩,
 ⟨#[50, 48, 51, 46, 48, 46, 49, 49, 51, 46, 48, 47, 50, 52]⟩,
 ⟨#[50, 50, 52, 46, 48, 46, 48, 46, 48, 47, 52]⟩,
 ⟨#[50, 52, 48, 46, 48, 46, 48, 46, 48, 47, 52]⟩,
 ⟨#[58, 58, 47, 49, 50, 56]⟩,
 ⟨#[58, 58, 49, 47, 49, 50, 56]⟩,
 ⟨#[54, 52, 58, 102, 102, 57, 98, 58, 49, 58, 58, 47, 52, 56]⟩,
 ⟨#[49, 48, 48, 58, 58, 47, 54, 52]⟩,
 ⟨#[50, 48, 48, 49, 58, 58, 47, 50, 51]⟩,
 ⟨#[50, 48, 48, 49, 58, 100, 98, 56, 58, 58, 47, 51, 50]⟩,
 ⟨#[51, 102, 102, 102, 58, 58, 47, 50, 48]⟩,
 ⟨#[53, 102, 48, 48, 58, 58, 47, 49, 54]⟩,
 ⟨#[102, 99, 48, 48, 58, 58, 47, 55]⟩,
 ⟨#[102, 101, 56, 48, 58, 58, 47, 49, 48]⟩,
 ⟨#[102, 102, 48, 48, 58, 58, 47, 56]⟩]
def FL : List S34 := [⟨⟨false, ⟨0, 0, 0, 0, 0, 0, 0, 0, 0, 0, 0, 0, 0, 0, 0, 0⟩⟩, 8⟩,
 ⟨⟨false, ⟨0, 0, 0, 0, 0, 0, 0, 0, 0, 0, 0, 0, 10, 0, 0, 0⟩⟩, 8⟩,
 ⟨⟨false, ⟨0, 0, 0, 0, 0, 0, 0, 0, 0, 0, 0, 0, 100, 64, 0, 0⟩⟩, 10⟩,
 ⟨⟨false, ⟨0, 0, 0, 0, 0, 0, 0, 0, 0, 0, 0, 0, 127, 0, 0, 0⟩⟩, 8⟩,
 ⟨⟨false, ⟨0, 0, 0, 0, 0, 0, 0, 0, 0, 0, 0, 0, 169, 254, 0, 0⟩⟩, 16⟩,
 ⟨⟨false, ⟨0, 0, 0, 0, 0, 0, 0, 0, 0, 0, 0, 0, 172, 16, 0, 0⟩⟩, 12⟩,
 ⟨⟨false, ⟨0, 0, 0, 0, 0, 0, 0, 0, 0, 0, 0, 0, 192, 0, 0, 0⟩⟩, 24⟩,
 ⟨⟨false, ⟨0, 0, 0, 0, 0, 0, 0, 0, 0, 0, 0, 0, 192, 0, 2, 0⟩⟩, 24⟩,
 ⟨⟨false, ⟨0, 0, 0, 0, 0, 0, 0, 0, 0, 0, 0, 0, 192, 88, 99, 0⟩⟩, 24⟩,
 ⟨⟨false, ⟨0, 0, 0, 0, 0, 0, 0, 0, 0, 0, 0, 0, 192, 168, 0, 0⟩⟩, 16⟩,
 ⟨⟨false, ⟨0, 0, 0, 0, 0, 0, 0, 0, 0, 0, 0, 0, 198, 18, 0, 0⟩⟩, 15⟩,
 ⟨⟨false, ⟨0, 0, 0, 0, 0, 0, 0, 0, 0, 0, 0, 0, 198, 51, 100, 0⟩⟩, 24⟩,
 ⟨⟨false, ⟨0, 0, 0, 0, 0, 0, 0, 0, 0, 0, 0, 0, 203, 0, 113, 0⟩⟩, 24⟩,
 ⟨⟨false, ⟨0, 0, 0, 0, 0, 0, 0, 0, 0, 0, 0, 0, 224, 0, 0, 0⟩⟩, 4⟩,
 ⟨⟨false, ⟨0, 0, 0, 0, 0, 0, 0, 0, 0, 0, 0, 0, 240, 0, 0, 0⟩⟩, 4⟩,
 ⟨⟨true, ⟨0, 0, 0, 0, 0, 0, 0, 0, 0, 0, 0, 0, 0, 0, 0, 0⟩⟩, 128⟩,
 ⟨⟨true, ⟨0, 0, 0, 0, 0, 0, 0, 0, 0, 0, 0, 0, 0, 0, 0, 1⟩⟩, 128⟩,
 ⟨⟨true, ⟨0, 100, 255, 155, 0, 1, 0, 0, 0, 0, 0, 0, 0, 0, 0, 0⟩⟩, 48⟩,
 ⟨⟨true, ⟨1, 0, 0, 0, 0, 0, 0, 0, 0, 0, 0, 0, 0, 0, 0, 0⟩⟩, 64⟩,
 ⟨⟨true, ⟨32, 1, 0, 0, 0, 0, 0, 0, 0, 0, 0, 0, 0, 0, 0, 0⟩⟩, 23⟩,
 ⟨⟨true, ⟨32, 1, 13, 184, 0, 0, 0, 0, 0, 0, 0, 0, 0, 0, 0, 0⟩⟩, 32⟩,
 ⟨⟨true, ⟨63, 255, 0, 0, 0, 0, 0, 0, 0, 0, 0, 0, 0, 0, 0, 0⟩⟩, 20⟩,
 ⟨⟨true, ⟨95, 0, 0, 0, 0, 0, 0, 0, 0, 0, 0, 0, 0, 0, 0, 0⟩⟩, 16⟩,
 ⟨⟨true, ⟨252, 0, 0, 0, 0, 0, 0, 0, 0, 0, 0, 0, 0, 0, 0, 0⟩⟩, 7⟩,
 ⟨⟨true, ⟨254, 128, 0, 0, 0, 0, 0, 0, 0, 0, 0, 0, 0, 0, 0, 0⟩⟩, 10⟩,
 ⟨⟨true, ⟨255, 0, 0, 0, 0, 0, 0, 0, 0, 0, 0, 0, 0, 0, 0, 0⟩⟩, 8⟩]
theorem pieces : (splitS 32 (L knownB)).map B = pieceL := by kernel_rfl
theorem forb_l : cidr_Forbidden.l0 60 [] pieceL 26 0 = some FL := by kernel_rfl
theorem forb60 : cidr_Forbidden.f 60 = some FL := by
 show ((strings_Split.f knownB ⟨#[32]⟩).bind fun t => cidr_Forbidden.l0 60 ([] : List S34) t (t.length : Int) 0) = some FL
 rw [split_f 32 knownB (by decide), Option.bind_some, pieces]
 exact forb_l
theorem par6 : lanternref05_Parse.f 60 (⟨#[58, 58, 102, 102, 102, 102, 58, 49, 48, 46, 48, 46, 48, 46, 49]⟩ : ByteArray) = some (true, 0, 0, 0, 0, 0, 0, 0, 0, 0, 0, 255, 255, 10, 0, 0, 1, true) := by kernel_rfl
theorem par4 : lanternref05_Parse.f 60 (⟨#[56, 46, 56, 46, 56, 46, 56]⟩ : ByteArray) = some (false, 0, 0, 0, 0, 0, 0, 0, 0, 0, 0, 0, 0, 8, 8, 8, 8, true) := by kernel_rfl
theorem al6 : cidr_Allow.f 60 true 0 0 0 0 0 0 0 0 0 0 255 255 10 0 0 1 [] = some 8 := by
 rw [cidr_Allow.f, forb60]
 decide +kernel
theorem al4 : cidr_Allow.f 60 false 0 0 0 0 0 0 0 0 0 0 0 0 8 8 8 8 [] = some 0 := by
 rw [cidr_Allow.f, forb60]
 decide +kernel
theorem aw60 : lanternlaw06_awake.f 60 = some true := by
 rw [lanternlaw06_awake.f, par6, Option.bind_some, par4, Option.bind_some]
 dsimp only
 rw [if_pos rfl, if_pos rfl, al6, Option.bind_some, if_pos rfl, al4, Option.bind_some, if_pos rfl, forb60, Option.bind_some]
 kernel_rfl
theorem awake_f (k : Nat) (hk : 60 ≤ k) : lanternlaw06_awake.f k = some true := up_to lanternlaw06_awake.mono aw60 k hk
theorem allE_trans (l m x : List Int) (j c d : Nat) (hcd : c ≤ d) (h1 : allE l x j c = true) (h2 : allE m x j d = true) : allE l m j c = true := by
 rw [allE_iff] at h1 h2 ⊢
 intro t h3 h4
 rw [h1 t h3 h4, h2 t h3 (by omega)]
def meetB (v : Bool) (l : List Int) (n : Int) (u : Bool) (m : List Int) (q : Int) : Bool := netB v l n && (netB u m q && ((decide (n ≤ q) && hasB v l n u m) || (decide (q ≤ n) && hasB u m q v l)))
theorem meet_comm (v : Bool) (l : List Int) (n : Int) (u : Bool) (m : List Int) (q : Int) : meetB u m q v l n = meetB v l n u m q := by
 unfold meetB
 cases netB v l n <;> cases netB u m q <;> simp only [Bool.false_and, Bool.true_and, Bool.and_false]
 rw [Bool.or_comm]
theorem both_meet (v : Bool) (l : List Int) (n : Int) (u : Bool) (m : List Int) (q : Int) (w : Bool) (x : List Int) (h1 : hasB v l n w x = true) (h2 : hasB u m q w x = true) : meetB v l n u m q = true := by
 simp only [hasB, Bool.and_eq_true, beq_iff_eq] at h1 h2
 obtain ⟨a1, a2, rfl, a4⟩ := h1
 obtain ⟨b1, b2, rfl, b4⟩ := h2
 obtain ⟨c1, c2, c3, c4⟩ := netB_range a1
 obtain ⟨d1, d2, d3, d4⟩ := netB_range b1
 rw [meetB, a1, b1, Bool.true_and, Bool.true_and]
 by_cases h : n ≤ q
 ·rw [decide_eq_true h, Bool.true_and, hasB, a1, d1, beq_self_eq_true, allE_trans l m x (frN u) n.toNat q.toNat (by omega) a4 b4]; rfl
 ·have e : hasB u m q u l = true := by rw [hasB, b1, c1, beq_self_eq_true, allE_trans m l x (frN u) q.toNat n.toNat (by omega) b4 a4]; rfl
  rw [decide_eq_true (p := q ≤ n) (by omega), Bool.true_and, e]
  exact Bool.or_true _
set_option maxHeartbeats 8000000 in
theorem CidrHas_law (v : Bool) (a1 a2 a3 a4 a5 a6 a7 a8 a9 a10 a11 a12 a13 a14 a15 a16 n : Int) (u : Bool) (x1 x2 x3 x4 x5 x6 x7 x8 x9 x10 x11 x12 x13 x14 x15 x16 q : Int) (w : Bool) (y1 y2 y3 y4 y5 y6 y7 y8 y9 y10 y11 y12 y13 y14 y15 y16 : Int) (ha : byteL [a1, a2, a3, a4, a5, a6, a7, a8, a9, a10, a11, a12, a13, a14, a15, a16]) (hx : byteL [x1, x2, x3, x4, x5, x6, x7, x8, x9, x10, x11, x12, x13, x14, x15, x16]) (hy : byteL [y1, y2, y3, y4, y5, y6, y7, y8, y9, y10, y11, y12, y13, y14, y15, y16]) : ∃ k, lanternlaw06_CidrHas.f k v a1 a2 a3 a4 a5 a6 a7 a8 a9 a10 a11 a12 a13 a14 a15 a16 n u x1 x2 x3 x4 x5 x6 x7 x8 x9 x10 x11 x12 x13 x14 x15 x16 q w y1 y2 y3 y4 y5 y6 y7 y8 y9 y10 y11 y12 y13 y14 y15 y16 = some true := by
 refine ⟨300, ?_⟩
 have haw := awake_f 298 (by decide)
 rw [lanternlaw06_CidrHas.f, refMay_f 300 (by decide) v a1 a2 a3 a4 a5 a6 a7 a8 a9 a10 a11 a12 a13 a14 a15 a16 n ha, Option.bind_some, refMay_f 300 (by decide) u x1 x2 x3 x4 x5 x6 x7 x8 x9 x10 x11 x12 x13 x14 x15 x16 q hx, Option.bind_some, has_f v a1 a2 a3 a4 a5 a6 a7 a8 a9 a10 a11 a12 a13 a14 a15 a16 n w y1 y2 y3 y4 y5 y6 y7 y8 y9 y10 y11 y12 y13 y14 y15 y16 ha hy, Option.bind_some]
 have tail : lanternlaw06_CidrHas.j1 299 (meetB v [a1, a2, a3, a4, a5, a6, a7, a8, a9, a10, a11, a12, a13, a14, a15, a16] n u [x1, x2, x3, x4, x5, x6, x7, x8, x9, x10, x11, x12, x13, x14, x15, x16] q) v a1 a2 a3 a4 a5 a6 a7 a8 a9 a10 a11 a12 a13 a14 a15 a16 n u x1 x2 x3 x4 x5 x6 x7 x8 x9 x10 x11 x12 x13 x14 x15 x16 q w y1 y2 y3 y4 y5 y6 y7 y8 y9 y10 y11 y12 y13 y14 y15 y16 = some true := by
  rw [lanternlaw06_CidrHas.j1, meet_f v a1 a2 a3 a4 a5 a6 a7 a8 a9 a10 a11 a12 a13 a14 a15 a16 n u x1 x2 x3 x4 x5 x6 x7 x8 x9 x10 x11 x12 x13 x14 x15 x16 q ha hx, Option.bind_some, if_neg (by rw [← meetB]; simp), meet_f u x1 x2 x3 x4 x5 x6 x7 x8 x9 x10 x11 x12 x13 x14 x15 x16 q v a1 a2 a3 a4 a5 a6 a7 a8 a9 a10 a11 a12 a13 a14 a15 a16 n hx ha, Option.bind_some, if_neg (by rw [← meetB, meet_comm]; simp), has_f v a1 a2 a3 a4 a5 a6 a7 a8 a9 a10 a11 a12 a13 a14 a15 a16 n w y1 y2 y3 y4 y5 y6 y7 y8 y9 y10 y11 y12 y13 y14 y15 y16 ha hy, Option.bind_some]
  by_cases h1 : hasB v [a1, a2, a3, a4, a5, a6, a7, a8, a9, a10, a11, a12, a13, a14, a15, a16] n w [y1, y2, y3, y4, y5, y6, y7, y8, y9, y10, y11, y12, y13, y14, y15, y16] = true
  ·rw [if_pos h1, has_f u x1 x2 x3 x4 x5 x6 x7 x8 x9 x10 x11 x12 x13 x14 x15 x16 q w y1 y2 y3 y4 y5 y6 y7 y8 y9 y10 y11 y12 y13 y14 y15 y16 hx hy, Option.bind_some]
   by_cases h2 : hasB u [x1, x2, x3, x4, x5, x6, x7, x8, x9, x10, x11, x12, x13, x14, x15, x16] q w [y1, y2, y3, y4, y5, y6, y7, y8, y9, y10, y11, y12, y13, y14, y15, y16] = true
   ·rw [if_pos h2, if_pos (both_meet _ _ _ _ _ _ _ _ h1 h2), awake_f 298 (by decide), Option.bind_some]
   ·rw [if_neg h2, awake_f 298 (by decide), Option.bind_some]
  ·rw [if_neg h1, awake_f 298 (by decide), Option.bind_some]
 have mid : lanternlaw06_CidrHas.j0 300 (netB v [a1, a2, a3, a4, a5, a6, a7, a8, a9, a10, a11, a12, a13, a14, a15, a16] n) (netB u [x1, x2, x3, x4, x5, x6, x7, x8, x9, x10, x11, x12, x13, x14, x15, x16] q) false v a1 a2 a3 a4 a5 a6 a7 a8 a9 a10 a11 a12 a13 a14 a15 a16 n u x1 x2 x3 x4 x5 x6 x7 x8 x9 x10 x11 x12 x13 x14 x15 x16 q w y1 y2 y3 y4 y5 y6 y7 y8 y9 y10 y11 y12 y13 y14 y15 y16 = some true := by
  rw [lanternlaw06_CidrHas.j0, if_neg (by decide)]
  by_cases p1 : netB v [a1, a2, a3, a4, a5, a6, a7, a8, a9, a10, a11, a12, a13, a14, a15, a16] n = true
  ·obtain ⟨ga1, ga2, ga3, ga4⟩ := netB_range p1
   rw [if_pos p1]
   by_cases p2 : netB u [x1, x2, x3, x4, x5, x6, x7, x8, x9, x10, x11, x12, x13, x14, x15, x16] q = true
   ·obtain ⟨gb1, gb2, gb3, gb4⟩ := netB_range p2
    rw [if_pos p2, refHas_f 299 (by decide) v a1 a2 a3 a4 a5 a6 a7 a8 a9 a10 a11 a12 a13 a14 a15 a16 n u x1 x2 x3 x4 x5 x6 x7 x8 x9 x10 x11 x12 x13 x14 x15 x16 ha hx ga2 ga3, Option.bind_some, refHas_f 299 (by decide) u x1 x2 x3 x4 x5 x6 x7 x8 x9 x10 x11 x12 x13 x14 x15 x16 q v a1 a2 a3 a4 a5 a6 a7 a8 a9 a10 a11 a12 a13 a14 a15 a16 hx ha gb2 gb3, Option.bind_some]
    have e1 : hasB v [a1, a2, a3, a4, a5, a6, a7, a8, a9, a10, a11, a12, a13, a14, a15, a16] n u [x1, x2, x3, x4, x5, x6, x7, x8, x9, x10, x11, x12, x13, x14, x15, x16] = (v == u && allE [a1, a2, a3, a4, a5, a6, a7, a8, a9, a10, a11, a12, a13, a14, a15, a16] [x1, x2, x3, x4, x5, x6, x7, x8, x9, x10, x11, x12, x13, x14, x15, x16] (frN v) n.toNat) := by rw [hasB, p1, gb1, Bool.true_and, Bool.true_and]
    have e2 : hasB u [x1, x2, x3, x4, x5, x6, x7, x8, x9, x10, x11, x12, x13, x14, x15, x16] q v [a1, a2, a3, a4, a5, a6, a7, a8, a9, a10, a11, a12, a13, a14, a15, a16] = (u == v && allE [x1, x2, x3, x4, x5, x6, x7, x8, x9, x10, x11, x12, x13, x14, x15, x16] [a1, a2, a3, a4, a5, a6, a7, a8, a9, a10, a11, a12, a13, a14, a15, a16] (frN u) q.toNat) := by rw [hasB, p2, ga1, Bool.true_and, Bool.true_and]
    rw [← e1, ← e2]
    have e3 : meetB v [a1, a2, a3, a4, a5, a6, a7, a8, a9, a10, a11, a12, a13, a14, a15, a16] n u [x1, x2, x3, x4, x5, x6, x7, x8, x9, x10, x11, x12, x13, x14, x15, x16] q = ((decide (n ≤ q) && hasB v [a1, a2, a3, a4, a5, a6, a7, a8, a9, a10, a11, a12, a13, a14, a15, a16] n u [x1, x2, x3, x4, x5, x6, x7, x8, x9, x10, x11, x12, x13, x14, x15, x16]) || (decide (q ≤ n) && hasB u [x1, x2, x3, x4, x5, x6, x7, x8, x9, x10, x11, x12, x13, x14, x15, x16] q v [a1, a2, a3, a4, a5, a6, a7, a8, a9, a10, a11, a12, a13, a14, a15, a16])) := by rw [meetB, p1, p2, Bool.true_and, Bool.true_and]
    by_cases h3 : n ≤ q
    ·rw [decide_eq_true h3, Bool.true_and] at e3
     rw [if_pos h3]
     by_cases h4 : hasB v [a1, a2, a3, a4, a5, a6, a7, a8, a9, a10, a11, a12, a13, a14, a15, a16] n u [x1, x2, x3, x4, x5, x6, x7, x8, x9, x10, x11, x12, x13, x14, x15, x16] = true
     ·rw [h4, Bool.true_or] at e3
      rw [if_pos h4]; rw [e3] at tail; exact tail
     ·rw [Bool.eq_false_iff.2 h4, Bool.false_or] at e3
      rw [if_neg h4]
      by_cases h5 : q ≤ n
      ·rw [decide_eq_true h5, Bool.true_and] at e3
       rw [if_pos h5]; rw [e3] at tail; exact tail
      ·rw [decide_eq_false h5, Bool.false_and] at e3
       rw [if_neg h5]; rw [e3] at tail; exact tail
    ·rw [decide_eq_false h3, Bool.false_and, Bool.false_or] at e3
     rw [if_neg h3]
     by_cases h5 : q ≤ n
     ·rw [decide_eq_true h5, Bool.true_and] at e3
      rw [if_pos h5]; rw [e3] at tail; exact tail
     ·rw [decide_eq_false h5, Bool.false_and] at e3
      rw [if_neg h5]; rw [e3] at tail; exact tail
   ·have e3 : meetB v [a1, a2, a3, a4, a5, a6, a7, a8, a9, a10, a11, a12, a13, a14, a15, a16] n u [x1, x2, x3, x4, x5, x6, x7, x8, x9, x10, x11, x12, x13, x14, x15, x16] q = false := by rw [meetB, Bool.eq_false_iff.2 p2, Bool.false_and, Bool.and_false]
    rw [if_neg p2]; rw [e3] at tail; exact tail
  ·have e3 : meetB v [a1, a2, a3, a4, a5, a6, a7, a8, a9, a10, a11, a12, a13, a14, a15, a16] n u [x1, x2, x3, x4, x5, x6, x7, x8, x9, x10, x11, x12, x13, x14, x15, x16] q = false := by rw [meetB, Bool.eq_false_iff.2 p1, Bool.false_and]
   rw [if_neg p1]; rw [e3] at tail; exact tail
 by_cases p1 : netB v [a1, a2, a3, a4, a5, a6, a7, a8, a9, a10, a11, a12, a13, a14, a15, a16] n = true
 ·obtain ⟨ga1, ga2, ga3, ga4⟩ := netB_range p1
  rw [if_pos p1, May_f 300 (by decide), Option.bind_some, ← zL_mk y1 y2 y3 y4 y5 y6 y7 y8 y9 y10 y11 y12 y13 y14 y15 y16, ← mayB]
  by_cases p3 : mayB w [y1, y2, y3, y4, y5, y6, y7, y8, y9, y10, y11, y12, y13, y14, y15, y16] = true
  ·rw [if_pos p3, refHas_f 300 (by decide) v a1 a2 a3 a4 a5 a6 a7 a8 a9 a10 a11 a12 a13 a14 a15 a16 n w y1 y2 y3 y4 y5 y6 y7 y8 y9 y10 y11 y12 y13 y14 y15 y16 ha hy ga2 ga3, Option.bind_some]
   have e1 : hasB v [a1, a2, a3, a4, a5, a6, a7, a8, a9, a10, a11, a12, a13, a14, a15, a16] n w [y1, y2, y3, y4, y5, y6, y7, y8, y9, y10, y11, y12, y13, y14, y15, y16] = (v == w && allE [a1, a2, a3, a4, a5, a6, a7, a8, a9, a10, a11, a12, a13, a14, a15, a16] [y1, y2, y3, y4, y5, y6, y7, y8, y9, y10, y11, y12, y13, y14, y15, y16] (frN v) n.toNat) := by rw [hasB, p1, p3, Bool.true_and, Bool.true_and]
   rw [← e1, bne_self_eq_false]; exact mid
  ·have e1 : hasB v [a1, a2, a3, a4, a5, a6, a7, a8, a9, a10, a11, a12, a13, a14, a15, a16] n w [y1, y2, y3, y4, y5, y6, y7, y8, y9, y10, y11, y12, y13, y14, y15, y16] = false := by rw [hasB, Bool.eq_false_iff.2 p3, Bool.false_and, Bool.and_false]
   rw [if_neg p3, e1, bne_self_eq_false]; exact mid
 ·have e1 : hasB v [a1, a2, a3, a4, a5, a6, a7, a8, a9, a10, a11, a12, a13, a14, a15, a16] n w [y1, y2, y3, y4, y5, y6, y7, y8, y9, y10, y11, y12, y13, y14, y15, y16] = false := by rw [hasB, Bool.eq_false_iff.2 p1, Bool.false_and]
  rw [if_neg p1, e1, bne_self_eq_false]; exact mid
theorem wr_u8 {x : Int} (h : (Lit.int .u8 x).wf = true) : 0 ≤ x ∧ x < 256 := by
 simp [Lit.wf, IntKind.min, IntKind.max, IntKind.signed, IntKind.bits] at h
 omega
theorem byteL_mk (x1 x2 x3 x4 x5 x6 x7 x8 x9 x10 x11 x12 x13 x14 x15 x16 : Int) (h1 : (Lit.int .u8 x1).wf = true) (h2 : (Lit.int .u8 x2).wf = true) (h3 : (Lit.int .u8 x3).wf = true) (h4 : (Lit.int .u8 x4).wf = true) (h5 : (Lit.int .u8 x5).wf = true) (h6 : (Lit.int .u8 x6).wf = true) (h7 : (Lit.int .u8 x7).wf = true) (h8 : (Lit.int .u8 x8).wf = true) (h9 : (Lit.int .u8 x9).wf = true) (h10 : (Lit.int .u8 x10).wf = true) (h11 : (Lit.int .u8 x11).wf = true) (h12 : (Lit.int .u8 x12).wf = true) (h13 : (Lit.int .u8 x13).wf = true) (h14 : (Lit.int .u8 x14).wf = true) (h15 : (Lit.int .u8 x15).wf = true) (h16 : (Lit.int .u8 x16).wf = true) : byteL [x1, x2, x3, x4, x5, x6, x7, x8, x9, x10, x11, x12, x13, x14, x15, x16] := by
 refine ⟨rfl, fun b hb => ?_⟩
 simp only [List.mem_cons, List.not_mem_nil, or_false] at hb
 rcases hb with rfl | rfl | rfl | rfl | rfl | rfl | rfl | rfl | rfl | rfl | rfl | rfl | rfl | rfl | rfl | rfl
 ·exact wr_u8 h1
 ·exact wr_u8 h2
 ·exact wr_u8 h3
 ·exact wr_u8 h4
 ·exact wr_u8 h5
 ·exact wr_u8 h6
 ·exact wr_u8 h7
 ·exact wr_u8 h8
 ·exact wr_u8 h9
 ·exact wr_u8 h10
 ·exact wr_u8 h11
 ·exact wr_u8 h12
 ·exact wr_u8 h13
 ·exact wr_u8 h14
 ·exact wr_u8 h15
 ·exact wr_u8 h16
theorem CidrHas_wf (v : Bool) (a1 a2 a3 a4 a5 a6 a7 a8 a9 a10 a11 a12 a13 a14 a15 a16 n : Int) (u : Bool) (x1 x2 x3 x4 x5 x6 x7 x8 x9 x10 x11 x12 x13 x14 x15 x16 q : Int) (w : Bool) (y1 y2 y3 y4 y5 y6 y7 y8 y9 y10 y11 y12 y13 y14 y15 y16 : Int) (ha1 : (Lit.int .u8 a1).wf = true) (ha2 : (Lit.int .u8 a2).wf = true) (ha3 : (Lit.int .u8 a3).wf = true) (ha4 : (Lit.int .u8 a4).wf = true) (ha5 : (Lit.int .u8 a5).wf = true) (ha6 : (Lit.int .u8 a6).wf = true) (ha7 : (Lit.int .u8 a7).wf = true) (ha8 : (Lit.int .u8 a8).wf = true) (ha9 : (Lit.int .u8 a9).wf = true) (ha10 : (Lit.int .u8 a10).wf = true) (ha11 : (Lit.int .u8 a11).wf = true) (ha12 : (Lit.int .u8 a12).wf = true) (ha13 : (Lit.int .u8 a13).wf = true) (ha14 : (Lit.int .u8 a14).wf = true) (ha15 : (Lit.int .u8 a15).wf = true) (ha16 : (Lit.int .u8 a16).wf = true) (_ : (Lit.int .i64 n).wf = true) (hx1 : (Lit.int .u8 x1).wf = true) (hx2 : (Lit.int .u8 x2).wf = true) (hx3 : (Lit.int .u8 x3).wf = true) (hx4 : (Lit.int .u8 x4).wf = true) (hx5 : (Lit.int .u8 x5).wf = true) (hx6 : (Lit.int .u8 x6).wf = true) (hx7 : (Lit.int .u8 x7).wf = true) (hx8 : (Lit.int .u8 x8).wf = true) (hx9 : (Lit.int .u8 x9).wf = true) (hx10 : (Lit.int .u8 x10).wf = true) (hx11 : (Lit.int .u8 x11).wf = true) (hx12 : (Lit.int .u8 x12).wf = true) (hx13 : (Lit.int .u8 x13).wf = true) (hx14 : (Lit.int .u8 x14).wf = true) (hx15 : (Lit.int .u8 x15).wf = true) (hx16 : (Lit.int .u8 x16).wf = true) (_ : (Lit.int .i64 q).wf = true) (hy1 : (Lit.int .u8 y1).wf = true) (hy2 : (Lit.int .u8 y2).wf = true) (hy3 : (Lit.int .u8 y3).wf = true) (hy4 : (Lit.int .u8 y4).wf = true) (hy5 : (Lit.int .u8 y5).wf = true) (hy6 : (Lit.int .u8 y6).wf = true) (hy7 : (Lit.int .u8 y7).wf = true) (hy8 : (Lit.int .u8 y8).wf = true) (hy9 : (Lit.int .u8 y9).wf = true) (hy10 : (Lit.int .u8 y10).wf = true) (hy11 : (Lit.int .u8 y11).wf = true) (hy12 : (Lit.int .u8 y12).wf = true) (hy13 : (Lit.int .u8 y13).wf = true) (hy14 : (Lit.int .u8 y14).wf = true) (hy15 : (Lit.int .u8 y15).wf = true) (hy16 : (Lit.int .u8 y16).wf = true) : ∃ k, lanternlaw06_CidrHas.f k v a1 a2 a3 a4 a5 a6 a7 a8 a9 a10 a11 a12 a13 a14 a15 a16 n u x1 x2 x3 x4 x5 x6 x7 x8 x9 x10 x11 x12 x13 x14 x15 x16 q w y1 y2 y3 y4 y5 y6 y7 y8 y9 y10 y11 y12 y13 y14 y15 y16 = some true :=
 CidrHas_law v a1 a2 a3 a4 a5 a6 a7 a8 a9 a10 a11 a12 a13 a14 a15 a16 n u x1 x2 x3 x4 x5 x6 x7 x8 x9 x10 x11 x12 x13 x14 x15 x16 q w y1 y2 y3 y4 y5 y6 y7 y8 y9 y10 y11 y12 y13 y14 y15 y16 (byteL_mk a1 a2 a3 a4 a5 a6 a7 a8 a9 a10 a11 a12 a13 a14 a15 a16 ha1 ha2 ha3 ha4 ha5 ha6 ha7 ha8 ha9 ha10 ha11 ha12 ha13 ha14 ha15 ha16) (byteL_mk x1 x2 x3 x4 x5 x6 x7 x8 x9 x10 x11 x12 x13 x14 x15 x16 hx1 hx2 hx3 hx4 hx5 hx6 hx7 hx8 hx9 hx10 hx11 hx12 hx13 hx14 hx15 hx16) (byteL_mk y1 y2 y3 y4 y5 y6 y7 y8 y9 y10 y11 y12 y13 y14 y15 y16 hy1 hy2 hy3 hy4 hy5 hy6 hy7 hy8 hy9 hy10 hy11 hy12 hy13 hy14 hy15 hy16)
end Go.Proofs.YtdopafhppaalfaaDoor.Q
