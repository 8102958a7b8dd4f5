/- awake, and the reference's Embeds, plainly. -/
import Derived.Test.YtdopafhppaalfaaDoorS1
import Derived.Test.YtdopafhppaalfaaDoorL1
import Derived.Test.YtdopafhppaalfaaDoorP10
import Derived.Test.YtdopafhppaalfaaDoorSJ
import Derived.Test.YtdopafhppaalfaaDoorSM
import Derived.Test.YtdopafhppaalfaaDoorK4
import Derived.Test.YtdopafhppaalfaaDoorK5
import Derived.Test.YtdopafhppaalfaaDoorK8
import Derived.Deep.Slices
import Derived.Deep.SlicePairs
import Derived.SizedLaws
import Derived.ChangeArms
set_option linter.unusedSimpArgs false
set_option linter.unusedVariables false
set_option maxRecDepth 10000
namespace Go.Proofs.YtdopafhppaalfaaDoor.Q
open Go Go.RowKit Go.Lib Go.Proofs.YtdopafhppaalfaaDoorW.PrintWords Go.Proofs.YtdopafhppaalfaaDoorW.PrintMore Go.Proofs.YtdopafhppaalfaaDoorB Go.Proofs.YtdopafhppaalfaaDoor.E Go.Proofs.YtdopafhppaalfaaDoorV Go.Proofs.YtdopafhppaalfaaDoor.P Go.Proofs.YtdopafhppaalfaaDoor.G Go.Proofs.YtdopafhppaalfaaDoor.L

theorem par6 : lanternref05_Parse.f 60 (⟨#[58, 58, 102, 102, 102, 102, 58, 49, 48, 46, 48, 46, 48, 46, 49]⟩ : ByteArray) = some (true, 0, 0, 0, 0, 0, 0, 0, 0, 0, 0, 255, 255, 10, 0, 0, 1, true) := by kernel_rfl
theorem par4 : lanternref05_Parse.f 60 (⟨#[56, 46, 56, 46, 56, 46, 56]⟩ : ByteArray) = some (false, 0, 0, 0, 0, 0, 0, 0, 0, 0, 0, 0, 0, 8, 8, 8, 8, true) := by kernel_rfl
theorem al6 : cidr_Allow.f 60 true 0 0 0 0 0 0 0 0 0 0 255 255 10 0 0 1 [] = some 8 := by
  rw [cidr_Allow.f, forb60]
  decide +kernel
theorem al4 : cidr_Allow.f 60 false 0 0 0 0 0 0 0 0 0 0 0 0 8 8 8 8 [] = some 0 := by
  rw [cidr_Allow.f, forb60]
  decide +kernel
theorem aw60 : lanternlaw06_awake.f 60 = some true := by
  rw [lanternlaw06_awake.f, par6, Option.bind_some, par4, Option.bind_some]
  dsimp only
  rw [if_pos rfl, if_pos rfl, al6, Option.bind_some, if_pos rfl, al4, Option.bind_some, if_pos rfl, forb60, Option.bind_some]
  kernel_rfl
theorem awake_f (k : Nat) (hk : 60 ≤ k) : lanternlaw06_awake.f k = some true := up_to lanternlaw06_awake.mono aw60 k hk
def embT (a : S24) : Bool × Int × Int × Int × Int × Int × Int × Int × Int × Int × Int × Int × Int × Int × Int × Int × Int × Bool := if a.f0 = true then embV a.f1.f0 a.f1.f1 a.f1.f2 a.f1.f3 a.f1.f4 a.f1.f5 a.f1.f6 a.f1.f7 a.f1.f8 a.f1.f9 a.f1.f10 a.f1.f11 a.f1.f12 a.f1.f13 a.f1.f14 a.f1.f15 else T18b zT false
theorem embS_T (a : S24) : embS a = toSB (embT a) := rfl
theorem refEmb_S (k : Nat) (hk : 60 ≤ k) (a : S24) (ha : okS a) : lanternref05_Embeds.f k a.f0 a.f1.f0 a.f1.f1 a.f1.f2 a.f1.f3 a.f1.f4 a.f1.f5 a.f1.f6 a.f1.f7 a.f1.f8 a.f1.f9 a.f1.f10 a.f1.f11 a.f1.f12 a.f1.f13 a.f1.f14 a.f1.f15 = some (embT a) := by
  have h0 : 0 ≤ a.f1.f0 ∧ a.f1.f0 < 256 := ha.2 _ (by simp [bL])
  have h1 : 0 ≤ a.f1.f1 ∧ a.f1.f1 < 256 := ha.2 _ (by simp [bL])
  have h2 : 0 ≤ a.f1.f2 ∧ a.f1.f2 < 256 := ha.2 _ (by simp [bL])
  have h3 : 0 ≤ a.f1.f3 ∧ a.f1.f3 < 256 := ha.2 _ (by simp [bL])
  have h4 : 0 ≤ a.f1.f4 ∧ a.f1.f4 < 256 := ha.2 _ (by simp [bL])
  have h5 : 0 ≤ a.f1.f5 ∧ a.f1.f5 < 256 := ha.2 _ (by simp [bL])
  have h6 : 0 ≤ a.f1.f6 ∧ a.f1.f6 < 256 := ha.2 _ (by simp [bL])
  have h7 : 0 ≤ a.f1.f7 ∧ a.f1.f7 < 256 := ha.2 _ (by simp [bL])
  have h8 : 0 ≤ a.f1.f8 ∧ a.f1.f8 < 256 := ha.2 _ (by simp [bL])
  have h9 : 0 ≤ a.f1.f9 ∧ a.f1.f9 < 256 := ha.2 _ (by simp [bL])
  have h10 : 0 ≤ a.f1.f10 ∧ a.f1.f10 < 256 := ha.2 _ (by simp [bL])
  have h11 : 0 ≤ a.f1.f11 ∧ a.f1.f11 < 256 := ha.2 _ (by simp [bL])
  have h12 : 0 ≤ a.f1.f12 ∧ a.f1.f12 < 256 := ha.2 _ (by simp [bL])
  have h13 : 0 ≤ a.f1.f13 ∧ a.f1.f13 < 256 := ha.2 _ (by simp [bL])
  have h14 : 0 ≤ a.f1.f14 ∧ a.f1.f14 < 256 := ha.2 _ (by simp [bL])
  have h15 : 0 ≤ a.f1.f15 ∧ a.f1.f15 < 256 := ha.2 _ (by simp [bL])
  exact refEmbeds_f k hk a.f0 a.f1.f0 a.f1.f1 a.f1.f2 a.f1.f3 a.f1.f4 a.f1.f5 a.f1.f6 a.f1.f7 a.f1.f8 a.f1.f9 a.f1.f10 a.f1.f11 a.f1.f12 a.f1.f13 a.f1.f14 a.f1.f15 h0 h1 h2 h3 h4 h5 h6 h7 h8 h9 h10 h11 h12 h13 h14 h15
theorem wr_u8 {x : Int} (h : (Lit.int .u8 x).wf = true) : 0 ≤ x ∧ x < 256 := by
  simp [Lit.wf, IntKind.min, IntKind.max, IntKind.signed, IntKind.bits] at h
  omega
end Go.Proofs.YtdopafhppaalfaaDoor.Q
set_option linter.unusedSimpArgs false
set_option linter.unusedVariables false
set_option maxRecDepth 10000
namespace Go.Proofs.YtdopafhppaalfaaDoor.Q
open Go Go.RowKit Go.Lib Go.Proofs.YtdopafhppaalfaaDoorW.PrintWords Go.Proofs.YtdopafhppaalfaaDoorW.PrintMore Go.Proofs.YtdopafhppaalfaaDoorB Go.Proofs.YtdopafhppaalfaaDoor.E Go.Proofs.YtdopafhppaalfaaDoorV Go.Proofs.YtdopafhppaalfaaDoor.P Go.Proofs.YtdopafhppaalfaaDoor.G Go.Proofs.YtdopafhppaalfaaDoor.K

theorem iteF_b (x c : Int) (r : Bool) : (if x = c then some r else some false) = some ((x == c) && r) := by
  by_cases h : x = c
  · subst h; simp
  · rw [if_neg h, beq_eq_false_iff_ne.mpr h]; rfl
theorem wm0 : wrap64 (0 + 1) = 1 := by rw [wrap_id (by decide) (by decide)]; rfl
theorem my0 (k : Nat) (b1 b2 b3 b4 b5 b6 b7 b8 b9 b10 b11 b12 b13 b14 b15 b16 : Int) : lanternref05_May.l0 (k + 2) 0 false b1 b2 b3 b4 b5 b6 b7 b8 b9 b10 b11 b12 b13 b14 b15 b16 = if b1 = 0 then lanternref05_May.l0 k 1 false b1 b2 b3 b4 b5 b6 b7 b8 b9 b10 b11 b12 b13 b14 b15 b16 else some false := by
  rw [lanternref05_May.l0, if_pos (by decide), Bool.not_false, lanternref05_May.j1, if_pos rfl, if_pos (by decide), if_pos (by decide), wm0]
  rfl
theorem wm1 : wrap64 (1 + 1) = 2 := by rw [wrap_id (by decide) (by decide)]; rfl
theorem my1 (k : Nat) (b1 b2 b3 b4 b5 b6 b7 b8 b9 b10 b11 b12 b13 b14 b15 b16 : Int) : lanternref05_May.l0 (k + 2) 1 false b1 b2 b3 b4 b5 b6 b7 b8 b9 b10 b11 b12 b13 b14 b15 b16 = if b2 = 0 then lanternref05_May.l0 k 2 false b1 b2 b3 b4 b5 b6 b7 b8 b9 b10 b11 b12 b13 b14 b15 b16 else some false := by
  rw [lanternref05_May.l0, if_pos (by decide), Bool.not_false, lanternref05_May.j1, if_pos rfl, if_pos (by decide), if_pos (by decide), wm1]
  rfl
theorem wm2 : wrap64 (2 + 1) = 3 := by rw [wrap_id (by decide) (by decide)]; rfl
theorem my2 (k : Nat) (b1 b2 b3 b4 b5 b6 b7 b8 b9 b10 b11 b12 b13 b14 b15 b16 : Int) : lanternref05_May.l0 (k + 2) 2 false b1 b2 b3 b4 b5 b6 b7 b8 b9 b10 b11 b12 b13 b14 b15 b16 = if b3 = 0 then lanternref05_May.l0 k 3 false b1 b2 b3 b4 b5 b6 b7 b8 b9 b10 b11 b12 b13 b14 b15 b16 else some false := by
  rw [lanternref05_May.l0, if_pos (by decide), Bool.not_false, lanternref05_May.j1, if_pos rfl, if_pos (by decide), if_pos (by decide), wm2]
  rfl
theorem wm3 : wrap64 (3 + 1) = 4 := by rw [wrap_id (by decide) (by decide)]; rfl
theorem my3 (k : Nat) (b1 b2 b3 b4 b5 b6 b7 b8 b9 b10 b11 b12 b13 b14 b15 b16 : Int) : lanternref05_May.l0 (k + 2) 3 false b1 b2 b3 b4 b5 b6 b7 b8 b9 b10 b11 b12 b13 b14 b15 b16 = if b4 = 0 then lanternref05_May.l0 k 4 false b1 b2 b3 b4 b5 b6 b7 b8 b9 b10 b11 b12 b13 b14 b15 b16 else some false := by
  rw [lanternref05_May.l0, if_pos (by decide), Bool.not_false, lanternref05_May.j1, if_pos rfl, if_pos (by decide), if_pos (by decide), wm3]
  rfl
theorem wm4 : wrap64 (4 + 1) = 5 := by rw [wrap_id (by decide) (by decide)]; rfl
theorem my4 (k : Nat) (b1 b2 b3 b4 b5 b6 b7 b8 b9 b10 b11 b12 b13 b14 b15 b16 : Int) : lanternref05_May.l0 (k + 2) 4 false b1 b2 b3 b4 b5 b6 b7 b8 b9 b10 b11 b12 b13 b14 b15 b16 = if b5 = 0 then lanternref05_May.l0 k 5 false b1 b2 b3 b4 b5 b6 b7 b8 b9 b10 b11 b12 b13 b14 b15 b16 else some false := by
  rw [lanternref05_May.l0, if_pos (by decide), Bool.not_false, lanternref05_May.j1, if_pos rfl, if_pos (by decide), if_pos (by decide), wm4]
  rfl
theorem wm5 : wrap64 (5 + 1) = 6 := by rw [wrap_id (by decide) (by decide)]; rfl
theorem my5 (k : Nat) (b1 b2 b3 b4 b5 b6 b7 b8 b9 b10 b11 b12 b13 b14 b15 b16 : Int) : lanternref05_May.l0 (k + 2) 5 false b1 b2 b3 b4 b5 b6 b7 b8 b9 b10 b11 b12 b13 b14 b15 b16 = if b6 = 0 then lanternref05_May.l0 k 6 false b1 b2 b3 b4 b5 b6 b7 b8 b9 b10 b11 b12 b13 b14 b15 b16 else some false := by
  rw [lanternref05_May.l0, if_pos (by decide), Bool.not_false, lanternref05_May.j1, if_pos rfl, if_pos (by decide), if_pos (by decide), wm5]
  rfl
theorem wm6 : wrap64 (6 + 1) = 7 := by rw [wrap_id (by decide) (by decide)]; rfl
theorem my6 (k : Nat) (b1 b2 b3 b4 b5 b6 b7 b8 b9 b10 b11 b12 b13 b14 b15 b16 : Int) : lanternref05_May.l0 (k + 2) 6 false b1 b2 b3 b4 b5 b6 b7 b8 b9 b10 b11 b12 b13 b14 b15 b16 = if b7 = 0 then lanternref05_May.l0 k 7 false b1 b2 b3 b4 b5 b6 b7 b8 b9 b10 b11 b12 b13 b14 b15 b16 else some false := by
  rw [lanternref05_May.l0, if_pos (by decide), Bool.not_false, lanternref05_May.j1, if_pos rfl, if_pos (by decide), if_pos (by decide), wm6]
  rfl
theorem wm7 : wrap64 (7 + 1) = 8 := by rw [wrap_id (by decide) (by decide)]; rfl
theorem my7 (k : Nat) (b1 b2 b3 b4 b5 b6 b7 b8 b9 b10 b11 b12 b13 b14 b15 b16 : Int) : lanternref05_May.l0 (k + 2) 7 false b1 b2 b3 b4 b5 b6 b7 b8 b9 b10 b11 b12 b13 b14 b15 b16 = if b8 = 0 then lanternref05_May.l0 k 8 false b1 b2 b3 b4 b5 b6 b7 b8 b9 b10 b11 b12 b13 b14 b15 b16 else some false := by
  rw [lanternref05_May.l0, if_pos (by decide), Bool.not_false, lanternref05_May.j1, if_pos rfl, if_pos (by decide), if_pos (by decide), wm7]
  rfl
theorem wm8 : wrap64 (8 + 1) = 9 := by rw [wrap_id (by decide) (by decide)]; rfl
theorem my8 (k : Nat) (b1 b2 b3 b4 b5 b6 b7 b8 b9 b10 b11 b12 b13 b14 b15 b16 : Int) : lanternref05_May.l0 (k + 2) 8 false b1 b2 b3 b4 b5 b6 b7 b8 b9 b10 b11 b12 b13 b14 b15 b16 = if b9 = 0 then lanternref05_May.l0 k 9 false b1 b2 b3 b4 b5 b6 b7 b8 b9 b10 b11 b12 b13 b14 b15 b16 else some false := by
  rw [lanternref05_May.l0, if_pos (by decide), Bool.not_false, lanternref05_May.j1, if_pos rfl, if_pos (by decide), if_pos (by decide), wm8]
  rfl
theorem wm9 : wrap64 (9 + 1) = 10 := by rw [wrap_id (by decide) (by decide)]; rfl
theorem my9 (k : Nat) (b1 b2 b3 b4 b5 b6 b7 b8 b9 b10 b11 b12 b13 b14 b15 b16 : Int) : lanternref05_May.l0 (k + 2) 9 false b1 b2 b3 b4 b5 b6 b7 b8 b9 b10 b11 b12 b13 b14 b15 b16 = if b10 = 0 then lanternref05_May.l0 k 10 false b1 b2 b3 b4 b5 b6 b7 b8 b9 b10 b11 b12 b13 b14 b15 b16 else some false := by
  rw [lanternref05_May.l0, if_pos (by decide), Bool.not_false, lanternref05_May.j1, if_pos rfl, if_pos (by decide), if_pos (by decide), wm9]
  rfl
theorem wm10 : wrap64 (10 + 1) = 11 := by rw [wrap_id (by decide) (by decide)]; rfl
theorem my10 (k : Nat) (b1 b2 b3 b4 b5 b6 b7 b8 b9 b10 b11 b12 b13 b14 b15 b16 : Int) : lanternref05_May.l0 (k + 2) 10 false b1 b2 b3 b4 b5 b6 b7 b8 b9 b10 b11 b12 b13 b14 b15 b16 = if b11 = 0 then lanternref05_May.l0 k 11 false b1 b2 b3 b4 b5 b6 b7 b8 b9 b10 b11 b12 b13 b14 b15 b16 else some false := by
  rw [lanternref05_May.l0, if_pos (by decide), Bool.not_false, lanternref05_May.j1, if_pos rfl, if_pos (by decide), if_pos (by decide), wm10]
  rfl
theorem wm11 : wrap64 (11 + 1) = 12 := by rw [wrap_id (by decide) (by decide)]; rfl
theorem my11 (k : Nat) (b1 b2 b3 b4 b5 b6 b7 b8 b9 b10 b11 b12 b13 b14 b15 b16 : Int) : lanternref05_May.l0 (k + 2) 11 false b1 b2 b3 b4 b5 b6 b7 b8 b9 b10 b11 b12 b13 b14 b15 b16 = if b12 = 0 then lanternref05_May.l0 k 12 false b1 b2 b3 b4 b5 b6 b7 b8 b9 b10 b11 b12 b13 b14 b15 b16 else some false := by
  rw [lanternref05_May.l0, if_pos (by decide), Bool.not_false, lanternref05_May.j1, if_pos rfl, if_pos (by decide), if_pos (by decide), wm11]
  rfl
theorem May_f (k : Nat) (hk : 40 ≤ k) (b : Bool) (b1 b2 b3 b4 b5 b6 b7 b8 b9 b10 b11 b12 b13 b14 b15 b16 : Int) : lanternref05_May.f k b b1 b2 b3 b4 b5 b6 b7 b8 b9 b10 b11 b12 b13 b14 b15 b16 = some (b || zB b1 b2 b3 b4 b5 b6 b7 b8 b9 b10 b11 b12) := by
  obtain ⟨k, rfl⟩ : ∃ j, k = j + 26 := ⟨k - 26, by omega⟩
  rw [lanternref05_May.f]
  cases b
  · have e : lanternref05_May.l0 (k + 2) 12 false b1 b2 b3 b4 b5 b6 b7 b8 b9 b10 b11 b12 b13 b14 b15 b16 = some true := by rw [lanternref05_May.l0, if_neg (by decide), lanternref05_May.j1, if_neg (by decide)]
    rw [my0, my1, my2, my3, my4, my5, my6, my7, my8, my9, my10, my11, e]
    simp only [iteF_b, zB, Bool.and_true, Bool.false_or]
  · rw [show k + 26 = (k + 24) + 2 from rfl, lanternref05_May.l0, if_pos (by decide), Bool.not_true, lanternref05_May.j1, if_neg (by decide), Bool.true_or]
theorem bit_core (l : List Int) (hl : byteL l) (j : Nat) (hj : j < 128) :
    (if 0 ≤ (wrap64 (Int.tdiv (j : Int) 8)) then (if (wrap64 (Int.tdiv (j : Int) 8)) < 16 then (if 0 ≤ (IntKind.u64.wrap (wrap64 (7 - (Int.tmod (j : Int) 8)))) then (some (Int.tmod (shr .i64 (wrap64 (rd l (wrap64 (Int.tdiv (j : Int) 8)))) (IntKind.u64.wrap (wrap64 (7 - (Int.tmod (j : Int) 8))))) 2)) else (none)) else (none)) else (none)) = some (bitN l j) := by
  have e1 : Int.tdiv (j : Int) 8 = ((j / 8 : Nat) : Int) := rfl
  have e2 : Int.tmod (j : Int) 8 = ((j % 8 : Nat) : Int) := rfl
  have e3 : wrap64 ((j / 8 : Nat) : Int) = ((j / 8 : Nat) : Int) := wrap_id (by omega) (by omega)
  have e4 : (7 : Int) - ((j % 8 : Nat) : Int) = ((7 - j % 8 : Nat) : Int) := by omega
  have e5 : wrap64 ((7 - j % 8 : Nat) : Int) = ((7 - j % 8 : Nat) : Int) := wrap_id (by omega) (by omega)
  have e6 : IntKind.u64.wrap ((7 - j % 8 : Nat) : Int) = ((7 - j % 8 : Nat) : Int) := by rw [IntKind.wrap_u64]; omega
  rw [e1, e2, e3, e4, e5, e6, if_pos (by omega), if_pos (by omega), if_pos (by omega)]
  have g := getD_byte l hl (j / 8) (by omega)
  have e7 : rd l ((j / 8 : Nat) : Int) = l.getD (j / 8) 0 := rfl
  rw [e7, wrap_id (x := l.getD (j / 8) 0) (by omega) (by omega), shr]
  rw [show min ((7 - j % 8 : Nat) : Int).toNat IntKind.i64.bits = 7 - j % 8 from Nat.min_eq_left (by show ((7 - j % 8 : Nat) : Int).toNat ≤ 64; omega)]
  rw [Int.tmod_eq_emod_of_nonneg (Int.ediv_nonneg g.1 (Int.pow_nonneg (by decide)))]
  rfl
theorem bit_f (v : Bool) (x1 x2 x3 x4 x5 x6 x7 x8 x9 x10 x11 x12 x13 x14 x15 x16 : Int) (hx : byteL [x1, x2, x3, x4, x5, x6, x7, x8, x9, x10, x11, x12, x13, x14, x15, x16]) (i : Int) (h0 : 0 ≤ i) (h1 : i + (frN v : Int) < 128) : lanternref06_bit.f v x1 x2 x3 x4 x5 x6 x7 x8 x9 x10 x11 x12 x13 x14 x15 x16 i = some (bitN [x1, x2, x3, x4, x5, x6, x7, x8, x9, x10, x11, x12, x13, x14, x15, x16] (frN v + i.toNat)) := by
  obtain ⟨n, rfl⟩ := Int.eq_ofNat_of_zero_le h0
  rw [lanternref06_bit.f]
  cases v
  · have e : wrap64 ((n : Int) + 96) = ((96 + n : Nat) : Int) := by
      have h2 : (n : Int) + 96 < 128 := h1
      rw [wrap_id (by omega) (by omega)]; omega
    rw [if_neg (by decide), e]
    exact bit_core _ hx (96 + n) (by have h2 : (n : Int) + 96 < 128 := h1; omega)
  · rw [if_pos rfl, show frN true + ((n : Nat) : Int).toNat = n by show 0 + n = n; omega]
    exact bit_core _ hx n (by have h2 : (n : Int) + 0 < 128 := h1; omega)
theorem bits_f (v : Bool) (x1 x2 x3 x4 x5 x6 x7 x8 x9 x10 x11 x12 x13 x14 x15 x16 : Int) : lanternref06_bits.f v x1 x2 x3 x4 x5 x6 x7 x8 x9 x10 x11 x12 x13 x14 x15 x16 = some (btI v) := by cases v <;> rfl
theorem refMay_l (v : Bool) (x1 x2 x3 x4 x5 x6 x7 x8 x9 x10 x11 x12 x13 x14 x15 x16 n : Int) (hx : byteL [x1, x2, x3, x4, x5, x6, x7, x8, x9, x10, x11, x12, x13, x14, x15, x16]) : ∀ (c k : Nat) (i : Int), c < k → 0 ≤ i → i + (c : Int) = btI v → lanternref06_May.l0 k i v x1 x2 x3 x4 x5 x6 x7 x8 x9 x10 x11 x12 x13 x14 x15 x16 n = some (allZ [x1, x2, x3, x4, x5, x6, x7, x8, x9, x10, x11, x12, x13, x14, x15, x16] (frN v + i.toNat) c)
  | _, 0, _, h, _, _ => absurd h (Nat.not_lt_zero _)
  | 0, k + 1, i, _, h0, h1 => by
    rw [lanternref06_May.l0, bits_f, Option.bind_some, if_neg (by omega)]; rfl
  | c + 1, k + 1, i, hk, h0, h1 => by
    have hb := bt_le v
    rw [lanternref06_May.l0, bits_f, Option.bind_some, if_pos (by omega), bit_f v x1 x2 x3 x4 x5 x6 x7 x8 x9 x10 x11 x12 x13 x14 x15 x16 hx i h0 (by omega), Option.bind_some, allZ]
    by_cases h : bitN [x1, x2, x3, x4, x5, x6, x7, x8, x9, x10, x11, x12, x13, x14, x15, x16] (frN v + i.toNat) = 0
    · rw [if_pos h, if_pos h, wrap_id (by omega) (by omega), refMay_l v x1 x2 x3 x4 x5 x6 x7 x8 x9 x10 x11 x12 x13 x14 x15 x16 n hx c k (i + 1) (by omega) (by omega) (by omega), show frN v + (i + 1).toNat = frN v + i.toNat + 1 by omega]
    · rw [if_neg h, if_neg h]
theorem refMay_f (k : Nat) (hk : 200 ≤ k) (v : Bool) (x1 x2 x3 x4 x5 x6 x7 x8 x9 x10 x11 x12 x13 x14 x15 x16 n : Int) (hx : byteL [x1, x2, x3, x4, x5, x6, x7, x8, x9, x10, x11, x12, x13, x14, x15, x16]) : lanternref06_May.f k v x1 x2 x3 x4 x5 x6 x7 x8 x9 x10 x11 x12 x13 x14 x15 x16 n = some (netB v [x1, x2, x3, x4, x5, x6, x7, x8, x9, x10, x11, x12, x13, x14, x15, x16] n) := by
  obtain ⟨k, rfl⟩ : ∃ j, k = j + 1 := ⟨k - 1, by omega⟩
  have hb := bt_le v
  rw [lanternref06_May.f, May_f _ (by omega), Option.bind_some, netB, mayB, zL_mk]
  by_cases h : (v || zB x1 x2 x3 x4 x5 x6 x7 x8 x9 x10 x11 x12) = true
  · rw [if_pos h, h, Bool.true_and]
    by_cases h2 : n < 0
    · rw [if_pos h2, lanternref06_May.j0, if_pos rfl, decide_eq_false (by omega), Bool.false_and]
    · rw [if_neg h2, bits_f, Option.bind_some, decide_eq_true (p := 0 ≤ n) (by omega), Bool.true_and, lanternref06_May.j0]
      by_cases h3 : n > btI v
      · rw [decide_eq_true h3, if_pos rfl, decide_eq_false (by omega), Bool.false_and]
      · rw [decide_eq_false h3, if_neg (by decide), decide_eq_true (by omega), Bool.true_and, refMay_l v x1 x2 x3 x4 x5 x6 x7 x8 x9 x10 x11 x12 x13 x14 x15 x16 n hx (btI v - n).toNat k n (by omega) (by omega) (by omega)]
  · rw [if_neg h, lanternref06_May.j0, if_pos rfl, Bool.eq_false_iff.2 h, Bool.false_and]
theorem refHas_l (v : Bool) (a1 a2 a3 a4 a5 a6 a7 a8 a9 a10 a11 a12 a13 a14 a15 a16 n : Int) (x1 x2 x3 x4 x5 x6 x7 x8 x9 x10 x11 x12 x13 x14 x15 x16 : Int) (ha : byteL [a1, a2, a3, a4, a5, a6, a7, a8, a9, a10, a11, a12, a13, a14, a15, a16]) (hx : byteL [x1, x2, x3, x4, x5, x6, x7, x8, x9, x10, x11, x12, x13, x14, x15, x16]) (hn : n ≤ btI v) : ∀ (c k : Nat) (i : Int), c < k → 0 ≤ i → i + (c : Int) = n → lanternref06_Has.l0 k i v a1 a2 a3 a4 a5 a6 a7 a8 a9 a10 a11 a12 a13 a14 a15 a16 n v x1 x2 x3 x4 x5 x6 x7 x8 x9 x10 x11 x12 x13 x14 x15 x16 = some (allE [a1, a2, a3, a4, a5, a6, a7, a8, a9, a10, a11, a12, a13, a14, a15, a16] [x1, x2, x3, x4, x5, x6, x7, x8, x9, x10, x11, x12, x13, x14, x15, x16] (frN v + i.toNat) c)
  | _, 0, _, h, _, _ => absurd h (Nat.not_lt_zero _)
  | 0, k + 1, i, _, h0, h1 => by
    rw [lanternref06_Has.l0, if_neg (by omega)]; rfl
  | c + 1, k + 1, i, hk, h0, h1 => by
    have hb := bt_le v
    rw [lanternref06_Has.l0, if_pos (by omega), bit_f v a1 a2 a3 a4 a5 a6 a7 a8 a9 a10 a11 a12 a13 a14 a15 a16 ha i h0 (by omega), Option.bind_some, bit_f v x1 x2 x3 x4 x5 x6 x7 x8 x9 x10 x11 x12 x13 x14 x15 x16 hx i h0 (by omega), Option.bind_some, allE]
    by_cases h : bitN [a1, a2, a3, a4, a5, a6, a7, a8, a9, a10, a11, a12, a13, a14, a15, a16] (frN v + i.toNat) = bitN [x1, x2, x3, x4, x5, x6, x7, x8, x9, x10, x11, x12, x13, x14, x15, x16] (frN v + i.toNat)
    · rw [if_pos h, if_pos h, wrap_id (by omega) (by omega), refHas_l v a1 a2 a3 a4 a5 a6 a7 a8 a9 a10 a11 a12 a13 a14 a15 a16 n x1 x2 x3 x4 x5 x6 x7 x8 x9 x10 x11 x12 x13 x14 x15 x16 ha hx hn c k (i + 1) (by omega) (by omega) (by omega), show frN v + (i + 1).toNat = frN v + i.toNat + 1 by omega]
    · rw [if_neg h, if_neg h]
theorem refHas_f (k : Nat) (hk : 200 ≤ k) (v : Bool) (a1 a2 a3 a4 a5 a6 a7 a8 a9 a10 a11 a12 a13 a14 a15 a16 n : Int) (u : Bool) (x1 x2 x3 x4 x5 x6 x7 x8 x9 x10 x11 x12 x13 x14 x15 x16 : Int) (ha : byteL [a1, a2, a3, a4, a5, a6, a7, a8, a9, a10, a11, a12, a13, a14, a15, a16]) (hx : byteL [x1, x2, x3, x4, x5, x6, x7, x8, x9, x10, x11, x12, x13, x14, x15, x16]) (h0 : 0 ≤ n) (hn : n ≤ btI v) : lanternref06_Has.f k v a1 a2 a3 a4 a5 a6 a7 a8 a9 a10 a11 a12 a13 a14 a15 a16 n u x1 x2 x3 x4 x5 x6 x7 x8 x9 x10 x11 x12 x13 x14 x15 x16 = some (v == u && allE [a1, a2, a3, a4, a5, a6, a7, a8, a9, a10, a11, a12, a13, a14, a15, a16] [x1, x2, x3, x4, x5, x6, x7, x8, x9, x10, x11, x12, x13, x14, x15, x16] (frN v) n.toNat) := by
  have hb := bt_le v
  rw [lanternref06_Has.f]
  by_cases h : v = u
  · subst h
    rw [if_neg (by simp), refHas_l v a1 a2 a3 a4 a5 a6 a7 a8 a9 a10 a11 a12 a13 a14 a15 a16 n x1 x2 x3 x4 x5 x6 x7 x8 x9 x10 x11 x12 x13 x14 x15 x16 ha hx hn n.toNat k 0 (by omega) (by omega) (by omega), beq_self_eq_true, Bool.true_and]
    rfl
  · rw [if_pos (by simpa using h), beq_eq_false_iff_ne.2 h, Bool.false_and]
end Go.Proofs.YtdopafhppaalfaaDoor.Q
set_option linter.unusedSimpArgs false
set_option linter.unusedVariables false
set_option maxRecDepth 10000
namespace Go.Proofs.YtdopafhppaalfaaDoor.Q
open Go Go.RowKit Go.Lib Go.Proofs.YtdopafhppaalfaaDoorW.PrintWords Go.Proofs.YtdopafhppaalfaaDoorW.PrintMore Go.Proofs.YtdopafhppaalfaaDoorB Go.Proofs.YtdopafhppaalfaaDoor.E Go.Proofs.YtdopafhppaalfaaDoorV Go.Proofs.YtdopafhppaalfaaDoor.P Go.Proofs.YtdopafhppaalfaaDoor.G Go.Proofs.YtdopafhppaalfaaDoor.L Go.Proofs.YtdopafhppaalfaaDoor.K

def netS (x : S34) : Bool := netB x.f0.f0 (bL x.f0) x.f1
theorem chkO_S (x : S34) (hx : okS x.f0) : chkO x = some (if netS x = true then 0 else 1) := netCheck_f x.f0.f0 x.f0.f1.f0 x.f0.f1.f1 x.f0.f1.f2 x.f0.f1.f3 x.f0.f1.f4 x.f0.f1.f5 x.f0.f1.f6 x.f0.f1.f7 x.f0.f1.f8 x.f0.f1.f9 x.f0.f1.f10 x.f0.f1.f11 x.f0.f1.f12 x.f0.f1.f13 x.f0.f1.f14 x.f0.f1.f15 x.f1 hx
theorem badO_S (x : S34) (hx : okS x.f0) : badO x = some (!netS x) := by
  unfold badO
  rw [chkO_S x hx]
  cases netS x <;> rfl
def allowB (a : S24) (l : List S34) : Int := if mayS a = true then (if (l.any fun n => !netS n) = true then 1 else letS (FL ++ l) a) else 1
theorem allow_L (k : Nat) (hk : 100 ≤ k) (a : S24) (ha : okS a) (l : List S34) (hl : ∀ n ∈ l, okS n.f0) (hn : l.length ≤ 100) : cidr_Allow.f k a.f0 a.f1.f0 a.f1.f1 a.f1.f2 a.f1.f3 a.f1.f4 a.f1.f5 a.f1.f6 a.f1.f7 a.f1.f8 a.f1.f9 a.f1.f10 a.f1.f11 a.f1.f12 a.f1.f13 a.f1.f14 a.f1.f15 l = some (allowB a l) := by
  rw [cidr_Allow.f, Check_f, Option.bind_some, allowB]
  by_cases h : mayS a = true
  · rw [if_pos h, if_pos (show (a.f0 || zB a.f1.f0 a.f1.f1 a.f1.f2 a.f1.f3 a.f1.f4 a.f1.f5 a.f1.f6 a.f1.f7 a.f1.f8 a.f1.f9 a.f1.f10 a.f1.f11) = true from h), if_pos rfl, anyO_all badO (fun n => !netS n) l (fun n hn => badO_S n (hl n hn)), Option.bind_some]
    by_cases hb : (l.any fun n => !netS n) = true
    · rw [if_pos hb, if_pos hb]
    · rw [if_neg hb, if_neg hb, up_to cidr_Forbidden.mono forb60 k (by omega), Option.bind_some, if_pos (by rw [show FL.length = 26 from rfl]; omega)]
      obtain ⟨m, rfl⟩ : ∃ m, k = m + 4 := ⟨k - 4, by omega⟩
      refine l0_S m (FL ++ l) a (fun n hn => ?_) ha
      rcases List.mem_append.1 hn with h1 | h1
      · exact FL_ok n h1
      · exact hl n h1
  · rw [if_neg h, if_neg (show ¬ (a.f0 || zB a.f1.f0 a.f1.f1 a.f1.f2 a.f1.f3 a.f1.f4 a.f1.f5 a.f1.f6 a.f1.f7 a.f1.f8 a.f1.f9 a.f1.f10 a.f1.f11) = true from h), if_neg (by decide)]
/-! The reference. -/
theorem refMay_A (k : Nat) (hk : 40 ≤ k) (a : S24) : lanternref05_May.f k a.f0 a.f1.f0 a.f1.f1 a.f1.f2 a.f1.f3 a.f1.f4 a.f1.f5 a.f1.f6 a.f1.f7 a.f1.f8 a.f1.f9 a.f1.f10 a.f1.f11 a.f1.f12 a.f1.f13 a.f1.f14 a.f1.f15 = some (mayS a) := May_f k hk a.f0 a.f1.f0 a.f1.f1 a.f1.f2 a.f1.f3 a.f1.f4 a.f1.f5 a.f1.f6 a.f1.f7 a.f1.f8 a.f1.f9 a.f1.f10 a.f1.f11 a.f1.f12 a.f1.f13 a.f1.f14 a.f1.f15
theorem refMay_N (k : Nat) (hk : 200 ≤ k) (x : S34) (hx : okS x.f0) : lanternref06_May.f k x.f0.f0 x.f0.f1.f0 x.f0.f1.f1 x.f0.f1.f2 x.f0.f1.f3 x.f0.f1.f4 x.f0.f1.f5 x.f0.f1.f6 x.f0.f1.f7 x.f0.f1.f8 x.f0.f1.f9 x.f0.f1.f10 x.f0.f1.f11 x.f0.f1.f12 x.f0.f1.f13 x.f0.f1.f14 x.f0.f1.f15 x.f1 = some (netS x) := refMay_f k hk x.f0.f0 x.f0.f1.f0 x.f0.f1.f1 x.f0.f1.f2 x.f0.f1.f3 x.f0.f1.f4 x.f0.f1.f5 x.f0.f1.f6 x.f0.f1.f7 x.f0.f1.f8 x.f0.f1.f9 x.f0.f1.f10 x.f0.f1.f11 x.f0.f1.f12 x.f0.f1.f13 x.f0.f1.f14 x.f0.f1.f15 x.f1 hx
theorem refHas_S (k : Nat) (hk : 200 ≤ k) (n : S34) (a : S24) (hn : okS n.f0) (ha : okS a) (hN : netS n = true) (hA : mayS a = true) : lanternref06_Has.f k n.f0.f0 n.f0.f1.f0 n.f0.f1.f1 n.f0.f1.f2 n.f0.f1.f3 n.f0.f1.f4 n.f0.f1.f5 n.f0.f1.f6 n.f0.f1.f7 n.f0.f1.f8 n.f0.f1.f9 n.f0.f1.f10 n.f0.f1.f11 n.f0.f1.f12 n.f0.f1.f13 n.f0.f1.f14 n.f0.f1.f15 n.f1 a.f0 a.f1.f0 a.f1.f1 a.f1.f2 a.f1.f3 a.f1.f4 a.f1.f5 a.f1.f6 a.f1.f7 a.f1.f8 a.f1.f9 a.f1.f10 a.f1.f11 a.f1.f12 a.f1.f13 a.f1.f14 a.f1.f15 = some (hasS n a) := by
  obtain ⟨_, h0, h1, _⟩ := netB_range hN
  rw [refHas_f k hk n.f0.f0 n.f0.f1.f0 n.f0.f1.f1 n.f0.f1.f2 n.f0.f1.f3 n.f0.f1.f4 n.f0.f1.f5 n.f0.f1.f6 n.f0.f1.f7 n.f0.f1.f8 n.f0.f1.f9 n.f0.f1.f10 n.f0.f1.f11 n.f0.f1.f12 n.f0.f1.f13 n.f0.f1.f14 n.f0.f1.f15 n.f1 a.f0 a.f1.f0 a.f1.f1 a.f1.f2 a.f1.f3 a.f1.f4 a.f1.f5 a.f1.f6 a.f1.f7 a.f1.f8 a.f1.f9 a.f1.f10 a.f1.f11 a.f1.f12 a.f1.f13 a.f1.f14 a.f1.f15 hn ha h0 h1]
  unfold hasS hasB
  rw [show netB n.f0.f0 (bL n.f0) n.f1 = true from hN, show mayB a.f0 (bL a) = true from hA, Bool.true_and, Bool.true_and]
  rfl
theorem rd34 (l : List S34) (i : Nat) (h : i < l.length) : rd_T34 l (i : Int) = l[i] := by
  show l.getD (i : Int).toNat _ = _
  rw [Int.toNat_natCast, List.getD_eq_getElem?_getD, List.getElem?_eq_getElem h, Option.getD_some]
theorem wr1 (i : Nat) (h : i < 1000) : wrap64 ((i : Int) + 1) = ((i + 1 : Nat) : Int) := by rw [wrap_id (by omega) (by omega)]; omega
theorem in_l (l : List S34) (a : S24) (hl : ∀ n ∈ l, okS n.f0) (hN : ∀ n ∈ l, netS n = true) (ha : okS a) (hA : mayS a = true) (hlen : l.length ≤ 150) : ∀ (c k i : Nat), i + c = l.length → lanternref06_in.l0 (k + 200 + c + 1) l (i : Int) a.f0 a.f1.f0 a.f1.f1 a.f1.f2 a.f1.f3 a.f1.f4 a.f1.f5 a.f1.f6 a.f1.f7 a.f1.f8 a.f1.f9 a.f1.f10 a.f1.f11 a.f1.f12 a.f1.f13 a.f1.f14 a.f1.f15 = some ((l.drop i).any fun n => hasS n a)
  | 0, k, i, hi => by
    rw [lanternref06_in.l0, if_neg (by omega), List.drop_of_length_le (by omega)]; rfl
  | c + 1, k, i, hi => by
    have hlt : i < l.length := by omega
    have hm := List.getElem_mem hlt
    rw [lanternref06_in.l0, if_pos (by omega), if_pos (by omega), rd34 l i hlt, refHas_S _ (by omega) _ a (hl _ hm) ha (hN _ hm) hA, Option.bind_some, List.drop_eq_getElem_cons hlt, List.any_cons]
    by_cases hh : hasS l[i] a = true
    · rw [if_pos hh, hh, Bool.true_or]
    · rw [if_neg hh, Bool.eq_false_iff.2 hh, Bool.false_or, wr1 i (by omega)]
      exact in_l l a hl hN ha hA hlen c k (i + 1) (by omega)
theorem in_S (k : Nat) (hk : 400 ≤ k) (l : List S34) (a : S24) (hl : ∀ n ∈ l, okS n.f0) (hN : ∀ n ∈ l, netS n = true) (ha : okS a) (hA : mayS a = true) (hlen : l.length ≤ 150) : lanternref06_in.f k l a.f0 a.f1.f0 a.f1.f1 a.f1.f2 a.f1.f3 a.f1.f4 a.f1.f5 a.f1.f6 a.f1.f7 a.f1.f8 a.f1.f9 a.f1.f10 a.f1.f11 a.f1.f12 a.f1.f13 a.f1.f14 a.f1.f15 = some (l.any fun n => hasS n a) := by
  obtain ⟨m, rfl⟩ : ∃ m, k = m + 200 + l.length + 1 := ⟨k - 200 - l.length - 1, by omega⟩
  have h := in_l l a hl hN ha hA hlen l.length m 0 (by omega)
  rw [List.drop_zero] at h
  exact h
theorem FL_net : ∀ n ∈ FL, netS n = true := List.all_eq_true.1 (show FL.all netS = true by decide +kernel)
theorem rforb200 : lanternref06_Forbidden.f 200 = some FL := by kernel_rfl
theorem rforb (k : Nat) (hk : 200 ≤ k) : lanternref06_Forbidden.f k = some FL := up_to lanternref06_Forbidden.mono rforb200 k hk
theorem rsame : lanternref06_Same.f 100 FL FL = some true := by kernel_rfl
theorem allow_E (k : Nat) (t : Bool × Int × Int × Int × Int × Int × Int × Int × Int × Int × Int × Int × Int × Int × Int × Int × Int × Bool) (l : List S34) (r : Option Int) (h : lanternref06_Allow.f k (toSB t).1.f0 (toSB t).1.f1.f0 (toSB t).1.f1.f1 (toSB t).1.f1.f2 (toSB t).1.f1.f3 (toSB t).1.f1.f4 (toSB t).1.f1.f5 (toSB t).1.f1.f6 (toSB t).1.f1.f7 (toSB t).1.f1.f8 (toSB t).1.f1.f9 (toSB t).1.f1.f10 (toSB t).1.f1.f11 (toSB t).1.f1.f12 (toSB t).1.f1.f13 (toSB t).1.f1.f14 (toSB t).1.f1.f15 l = r) : lanternref06_Allow.f k t.1 t.2.1 t.2.2.1 t.2.2.2.1 t.2.2.2.2.1 t.2.2.2.2.2.1 t.2.2.2.2.2.2.1 t.2.2.2.2.2.2.2.1 t.2.2.2.2.2.2.2.2.1 t.2.2.2.2.2.2.2.2.2.1 t.2.2.2.2.2.2.2.2.2.2.1 t.2.2.2.2.2.2.2.2.2.2.2.1 t.2.2.2.2.2.2.2.2.2.2.2.2.1 t.2.2.2.2.2.2.2.2.2.2.2.2.2.1 t.2.2.2.2.2.2.2.2.2.2.2.2.2.2.1 t.2.2.2.2.2.2.2.2.2.2.2.2.2.2.2.1 t.2.2.2.2.2.2.2.2.2.2.2.2.2.2.2.2.1 l = r := h
/-- Behind the unmapping. -/
theorem j1_S (m : Nat) (l : List S34) (a : S24) (hl : ∀ n ∈ l, okS n.f0) (hN : ∀ n ∈ l, netS n = true) (ha : okS a) (hA : mayS a = true) (hlen : l.length ≤ 100) (r : Int)
    (hr : (embS a).2 = true → lanternref06_Allow.f (m + 600) (embS a).1.f0 (embS a).1.f1.f0 (embS a).1.f1.f1 (embS a).1.f1.f2 (embS a).1.f1.f3 (embS a).1.f1.f4 (embS a).1.f1.f5 (embS a).1.f1.f6 (embS a).1.f1.f7 (embS a).1.f1.f8 (embS a).1.f1.f9 (embS a).1.f1.f10 (embS a).1.f1.f11 (embS a).1.f1.f12 (embS a).1.f1.f13 (embS a).1.f1.f14 (embS a).1.f1.f15 l = some r) :
    lanternref06_Allow.j1 (m + 602) l a.f0 a.f1.f0 a.f1.f1 a.f1.f2 a.f1.f3 a.f1.f4 a.f1.f5 a.f1.f6 a.f1.f7 a.f1.f8 a.f1.f9 a.f1.f10 a.f1.f11 a.f1.f12 a.f1.f13 a.f1.f14 a.f1.f15 = some (if ((FL ++ l).any fun n => hasS n a) = true then 8 else if (embS a).2 = true then r else 0) := by
  rw [lanternref06_Allow.j1, rforb _ (by omega), Option.bind_some, in_S _ (by omega) FL a FL_ok FL_net ha hA (by decide), Option.bind_some, List.any_append]
  have tail : lanternref06_Allow.j2 (m + 601) l (l.any fun n => hasS n a) a.f0 a.f1.f0 a.f1.f1 a.f1.f2 a.f1.f3 a.f1.f4 a.f1.f5 a.f1.f6 a.f1.f7 a.f1.f8 a.f1.f9 a.f1.f10 a.f1.f11 a.f1.f12 a.f1.f13 a.f1.f14 a.f1.f15 = some (if (l.any fun n => hasS n a) = true then 8 else if (embS a).2 = true then r else 0) := by
    rw [lanternref06_Allow.j2]
    by_cases h : (l.any fun n => hasS n a) = true
    · rw [if_pos h, if_pos h]
    · rw [if_neg h, if_neg h, refEmb_S _ (by omega) a ha, Option.bind_some]
      rw [embS_T] at hr ⊢
      by_cases ho : (toSB (embT a)).2 = true
      · rw [if_pos ho]
        refine (if_pos (show _ = true from ho)).trans ?_
        rw [allow_E _ (embT a) l _ (hr ho)]
        rfl
      · rw [if_neg ho]
        exact if_neg ho
  by_cases h : (FL.any fun n => hasS n a) = true
  · rw [if_pos h, h, Bool.true_or, if_pos rfl, lanternref06_Allow.j2, if_pos rfl]
  · rw [if_neg h, Bool.eq_false_iff.2 h, Bool.false_or, in_S _ (by omega) l a hl hN ha hA (by omega), Option.bind_some]
    exact tail
theorem al_l (l : List S34) (a : S24) (hl : ∀ n ∈ l, okS n.f0) (hlen : l.length ≤ 100) : ∀ (c k i : Nat), i + c = l.length → lanternref06_Allow.l0 (k + 300 + c) l (i : Int) a.f0 a.f1.f0 a.f1.f1 a.f1.f2 a.f1.f3 a.f1.f4 a.f1.f5 a.f1.f6 a.f1.f7 a.f1.f8 a.f1.f9 a.f1.f10 a.f1.f11 a.f1.f12 a.f1.f13 a.f1.f14 a.f1.f15 = if ((l.drop i).any fun n => !netS n) = true then some 1 else lanternref06_Allow.l0 (k + 300) l (l.length : Int) a.f0 a.f1.f0 a.f1.f1 a.f1.f2 a.f1.f3 a.f1.f4 a.f1.f5 a.f1.f6 a.f1.f7 a.f1.f8 a.f1.f9 a.f1.f10 a.f1.f11 a.f1.f12 a.f1.f13 a.f1.f14 a.f1.f15
  | 0, k, i, hi => by
    rw [List.drop_of_length_le (by omega), show i = l.length by omega]
    exact (if_neg (by decide)).symm
  | c + 1, k, i, hi => by
    have hlt : i < l.length := by omega
    have hm := List.getElem_mem hlt
    rw [show k + 300 + (c + 1) = (k + 300 + c) + 1 from rfl, lanternref06_Allow.l0, if_pos (by omega), if_pos (by omega), rd34 l i hlt, refMay_N _ (by omega) _ (hl _ hm), Option.bind_some, List.drop_eq_getElem_cons hlt, List.any_cons]
    by_cases hh : netS l[i] = true
    · rw [if_pos hh, hh, Bool.not_true, Bool.false_or, wr1 i (by omega)]
      exact al_l l a hl hlen c k (i + 1) (by omega)
    · rw [if_neg hh, Bool.eq_false_iff.2 hh, Bool.not_false, Bool.true_or, if_pos rfl]
theorem mayS_v4 (x y z w : Int) : mayS (v4S x y z w) = true := rfl
theorem mayS_unm (a : S24) (h : mayS a = true) : mayS (unmS a) = true := by
  unfold unmS
  split
  · exact mayS_v4 _ _ _ _
  · exact h
theorem mayS_emb (a : S24) (ha : okS a) : mayS (embS a).1 = true := by
  unfold embS
  by_cases h : a.f0 = true
  · rw [if_pos h]
    obtain ⟨x, y, z, w, o, e, _⟩ := embV_v4 a ha
    rw [e]; exact mayS_v4 _ _ _ _
  · rw [if_neg h]; rfl
/-- The end of the loop: the unmapping. -/
theorem al_end (k : Nat) (hk : 20 ≤ k) (l : List S34) (a : S24) (ha : okS a) : lanternref06_Allow.l0 (k + 1) l (l.length : Int) a.f0 a.f1.f0 a.f1.f1 a.f1.f2 a.f1.f3 a.f1.f4 a.f1.f5 a.f1.f6 a.f1.f7 a.f1.f8 a.f1.f9 a.f1.f10 a.f1.f11 a.f1.f12 a.f1.f13 a.f1.f14 a.f1.f15 = lanternref06_Allow.j1 k l (unmS a).f0 (unmS a).f1.f0 (unmS a).f1.f1 (unmS a).f1.f2 (unmS a).f1.f3 (unmS a).f1.f4 (unmS a).f1.f5 (unmS a).f1.f6 (unmS a).f1.f7 (unmS a).f1.f8 (unmS a).f1.f9 (unmS a).f1.f10 (unmS a).f1.f11 (unmS a).f1.f12 (unmS a).f1.f13 (unmS a).f1.f14 (unmS a).f1.f15 := by
  have h0 : 0 ≤ a.f1.f0 ∧ a.f1.f0 < 256 := ha.2 _ (by simp [bL])
  have h1 : 0 ≤ a.f1.f1 ∧ a.f1.f1 < 256 := ha.2 _ (by simp [bL])
  have h2 : 0 ≤ a.f1.f2 ∧ a.f1.f2 < 256 := ha.2 _ (by simp [bL])
  have h3 : 0 ≤ a.f1.f3 ∧ a.f1.f3 < 256 := ha.2 _ (by simp [bL])
  have h4 : 0 ≤ a.f1.f4 ∧ a.f1.f4 < 256 := ha.2 _ (by simp [bL])
  have h5 : 0 ≤ a.f1.f5 ∧ a.f1.f5 < 256 := ha.2 _ (by simp [bL])
  have h6 : 0 ≤ a.f1.f6 ∧ a.f1.f6 < 256 := ha.2 _ (by simp [bL])
  have h7 : 0 ≤ a.f1.f7 ∧ a.f1.f7 < 256 := ha.2 _ (by simp [bL])
  have h8 : 0 ≤ a.f1.f8 ∧ a.f1.f8 < 256 := ha.2 _ (by simp [bL])
  have h9 : 0 ≤ a.f1.f9 ∧ a.f1.f9 < 256 := ha.2 _ (by simp [bL])
  have h10 : 0 ≤ a.f1.f10 ∧ a.f1.f10 < 256 := ha.2 _ (by simp [bL])
  have h11 : 0 ≤ a.f1.f11 ∧ a.f1.f11 < 256 := ha.2 _ (by simp [bL])
  have h12 : 0 ≤ a.f1.f12 ∧ a.f1.f12 < 256 := ha.2 _ (by simp [bL])
  have h13 : 0 ≤ a.f1.f13 ∧ a.f1.f13 < 256 := ha.2 _ (by simp [bL])
  have h14 : 0 ≤ a.f1.f14 ∧ a.f1.f14 < 256 := ha.2 _ (by simp [bL])
  have h15 : 0 ≤ a.f1.f15 ∧ a.f1.f15 < 256 := ha.2 _ (by simp [bL])
  rw [lanternref06_Allow.l0, if_neg (by omega), refMapped_f k hk a.f0 a.f1.f0 a.f1.f1 a.f1.f2 a.f1.f3 a.f1.f4 a.f1.f5 a.f1.f6 a.f1.f7 a.f1.f8 a.f1.f9 a.f1.f10 a.f1.f11 a.f1.f12 a.f1.f13 a.f1.f14 a.f1.f15, Option.bind_some]
  unfold unmS
  by_cases h : mapS a = true
  · rw [if_pos h, if_pos (show (mapB a.f1.f0 a.f1.f1 a.f1.f2 a.f1.f3 a.f1.f4 a.f1.f5 a.f1.f6 a.f1.f7 a.f1.f8 a.f1.f9 a.f1.f10 a.f1.f11 && a.f0) = true by rw [Bool.and_comm]; exact h), tail12_f k hk a.f0 a.f1.f0 a.f1.f1 a.f1.f2 a.f1.f3 a.f1.f4 a.f1.f5 a.f1.f6 a.f1.f7 a.f1.f8 a.f1.f9 a.f1.f10 a.f1.f11 a.f1.f12 a.f1.f13 a.f1.f14 a.f1.f15 h0 h1 h2 h3 h4 h5 h6 h7 h8 h9 h10 h11 h12 h13 h14 h15, Option.bind_some]
    rfl
  · rw [if_neg h, if_neg (show ¬ (mapB a.f1.f0 a.f1.f1 a.f1.f2 a.f1.f3 a.f1.f4 a.f1.f5 a.f1.f6 a.f1.f7 a.f1.f8 a.f1.f9 a.f1.f10 a.f1.f11 && a.f0) = true by rw [Bool.and_comm]; exact h)]
theorem netall {l : List S34} (hb : ¬ (l.any fun n => !netS n) = true) : ∀ n ∈ l, netS n = true := fun n hn => by
  have := any_false hb n hn
  simpa using this
/-- What the reference answers of an IPv4. -/
theorem ra2 (k : Nat) (hk : 1200 ≤ k) (a : S24) (ha : okS a) (h0 : a.f0 = false) (hA : mayS a = true) (l : List S34) (hl : ∀ n ∈ l, okS n.f0) (hN : ∀ n ∈ l, netS n = true) (hlen : l.length ≤ 100) : lanternref06_Allow.f k a.f0 a.f1.f0 a.f1.f1 a.f1.f2 a.f1.f3 a.f1.f4 a.f1.f5 a.f1.f6 a.f1.f7 a.f1.f8 a.f1.f9 a.f1.f10 a.f1.f11 a.f1.f12 a.f1.f13 a.f1.f14 a.f1.f15 l = some (if ((FL ++ l).any fun n => hasS n a) = true then 8 else 0) := by
  obtain ⟨m, rfl⟩ : ∃ m, k = (m + 303 + 300 + l.length) + 1 := ⟨k - 604 - l.length, by omega⟩
  rw [lanternref06_Allow.f, refMay_A _ (by omega) a, Option.bind_some, if_pos hA]
  have h1 := al_l l a hl hlen l.length (m + 303) 0 (by omega)
  rw [List.drop_zero, if_neg (by
    intro h
    obtain ⟨n, hn, h2⟩ := List.any_eq_true.1 h
    rw [hN n hn] at h2
    exact absurd h2 (by decide))] at h1
  refine h1.trans ?_
  rw [show m + 303 + 300 = (m + 602) + 1 by omega, al_end (m + 602) (by omega) l a ha, unmS_no a h0, j1_S m l a hl hN ha hA hlen 0 (fun h => by rw [embS_no a h0] at h; exact absurd h (by decide)), embS_no a h0]
  rfl
theorem ra1 (k : Nat) (hk : 3000 ≤ k) (a : S24) (ha : okS a) (l : List S34) (hl : ∀ n ∈ l, okS n.f0) (hlen : l.length ≤ 100) : lanternref06_Allow.f k a.f0 a.f1.f0 a.f1.f1 a.f1.f2 a.f1.f3 a.f1.f4 a.f1.f5 a.f1.f6 a.f1.f7 a.f1.f8 a.f1.f9 a.f1.f10 a.f1.f11 a.f1.f12 a.f1.f13 a.f1.f14 a.f1.f15 l = some (allowB a l) := by
  obtain ⟨m, rfl⟩ : ∃ m, k = (m + 303 + 300 + l.length) + 1 := ⟨k - 604 - l.length, by omega⟩
  rw [lanternref06_Allow.f, refMay_A _ (by omega) a, Option.bind_some, allowB]
  by_cases hA : mayS a = true
  · rw [if_pos hA, if_pos hA]
    have h1 := al_l l a hl hlen l.length (m + 303) 0 (by omega)
    rw [List.drop_zero] at h1
    refine h1.trans ?_
    by_cases hb : (l.any fun n => !netS n) = true
    · rw [if_pos hb, if_pos hb]
    · rw [if_neg hb, if_neg hb]
      have hN := netall hb
      have hu := okS_unm a ha
      have hv := embS_v4 _ hu
      rw [show m + 303 + 300 = (m + 602) + 1 by omega, al_end (m + 602) (by omega) l a ha, j1_S m l (unmS a) hl hN hu (mayS_unm a hA) hlen _ (fun h => ra2 (m + 600) (by omega) (embS (unmS a)).1 hv.2 hv.1 (mayS_emb _ hu) l hl hN hlen)]
      rfl
  · rw [if_neg hA, if_neg hA]
theorem CidrAllows_law (a : S24) (ha : okS a) (l : List S34) (hl : ∀ n ∈ l, okS n.f0) : ∃ k, Go.Proofs.YtdopafhppaalfaaDoor.K.lanternlaw06_CidrAllows.f k a.f0 a.f1.f0 a.f1.f1 a.f1.f2 a.f1.f3 a.f1.f4 a.f1.f5 a.f1.f6 a.f1.f7 a.f1.f8 a.f1.f9 a.f1.f10 a.f1.f11 a.f1.f12 a.f1.f13 a.f1.f14 a.f1.f15 l = some true := by
  refine ⟨4000, ?_⟩
  rw [Go.Proofs.YtdopafhppaalfaaDoor.K.lanternlaw06_CidrAllows.f]
  by_cases hn : (l.length : Int) > 100
  · rw [if_pos hn, awake_f 4000 (by decide), Option.bind_some]
  · rw [if_neg hn, Option.bind_some, if_pos (by simp only [List.length_nil]; omega), List.nil_append, allow_L 4000 (by decide) a ha l hl (by omega), Option.bind_some, ra1 4000 (by decide) a ha l hl (by omega), Option.bind_some, if_pos rfl, up_to cidr_Forbidden.mono forb60 4000 (by decide), Option.bind_some, rforb 4000 (by decide), Option.bind_some, up_to (fun k => lanternref06_Same.mono FL FL k) rsame 4000 (by decide), Option.bind_some, if_pos rfl, awake_f 4000 (by decide), Option.bind_some]
end Go.Proofs.YtdopafhppaalfaaDoor.Q
set_option linter.unusedSimpArgs false
set_option linter.unusedVariables false
namespace Go.Proofs.YtdopafhppaalfaaDoor.Q
open Go Go.RowKit Go.ChangeShapes Go.WideShapes Go.Proofs.YtdopafhppaalfaaDoorW.PrintWords Go.Proofs.YtdopafhppaalfaaDoorB Go.Proofs.YtdopafhppaalfaaDoor.P Go.Proofs.YtdopafhppaalfaaDoor.G Go.Proofs.YtdopafhppaalfaaDoor.E
set_option maxRecDepth 100000
theorem list16 {α : Type} {l : List α} (h : l.length = 16) : ∃ c1 c2 c3 c4 c5 c6 c7 c8 c9 c10 c11 c12 c13 c14 c15 c16, l = [c1, c2, c3, c4, c5, c6, c7, c8, c9, c10, c11, c12, c13, c14, c15, c16] := by
  match l, h with
  | [c1, c2, c3, c4, c5, c6, c7, c8, c9, c10, c11, c12, c13, c14, c15, c16], _ => exact ⟨c1, c2, c3, c4, c5, c6, c7, c8, c9, c10, c11, c12, c13, c14, c15, c16, rfl⟩
theorem list18 {α : Type} {l : List α} (h : l.length = 18) : ∃ c0 c1 c2 c3 c4 c5 c6 c7 c8 c9 c10 c11 c12 c13 c14 c15 c16 c17, l = [c0, c1, c2, c3, c4, c5, c6, c7, c8, c9, c10, c11, c12, c13, c14, c15, c16, c17] := by
  match l, h with
  | [c0, c1, c2, c3, c4, c5, c6, c7, c8, c9, c10, c11, c12, c13, c14, c15, c16, c17], _ => exact ⟨c0, c1, c2, c3, c4, c5, c6, c7, c8, c9, c10, c11, c12, c13, c14, c15, c16, c17, rfl⟩
section
variable {H : Type} {enc : TypeId × Value → H} {w : World} {base : Nat} {spare : Nat → Bool} {held : Bool}
theorem cb : Tryd.prog.cellsOf 4 = 1 := by kernel_rfl
theorem ca : Tryd.prog.cellsOf 22 = 16 := by kernel_rfl
theorem ce : Tryd.prog.cellsOf 5 = 1 := by kernel_rfl
theorem ct : Tryd.prog.cellsOf 24 = 17 := by kernel_rfl
theorem cn : Tryd.prog.cellsOf 34 = 18 := by kernel_rfl
theorem ci : Tryd.prog.cellsOf 3 = 1 := by kernel_rfl
theorem open_addrL {fuel : Nat} {c0 c1 c2 c3 c4 c5 c6 c7 c8 c9 c10 c11 c12 c13 c14 c15 c16 : Value} {y : DataW H × List MemPlace} (hf : DataW.trod enc Tryd.prog w base spare held fuel 24 [c0, c1, c2, c3, c4, c5, c6, c7, c8, c9, c10, c11, c12, c13, c14, c15, c16] = some y) :
    ∃ (b : Bool) (x1 x2 x3 x4 x5 x6 x7 x8 x9 x10 x11 x12 x13 x14 x15 x16 : Int), c0 = .bool b ∧ c1 = .int .u8 x1 ∧ c2 = .int .u8 x2 ∧ c3 = .int .u8 x3 ∧ c4 = .int .u8 x4 ∧ c5 = .int .u8 x5 ∧ c6 = .int .u8 x6 ∧ c7 = .int .u8 x7 ∧ c8 = .int .u8 x8 ∧ c9 = .int .u8 x9 ∧ c10 = .int .u8 x10 ∧ c11 = .int .u8 x11 ∧ c12 = .int .u8 x12 ∧ c13 = .int .u8 x13 ∧ c14 = .int .u8 x14 ∧ c15 = .int .u8 x15 ∧ c16 = .int .u8 x16 ∧ y = (.agg [.lit (.bool b), .agg [.lit (.int .u8 x1), .lit (.int .u8 x2), .lit (.int .u8 x3), .lit (.int .u8 x4), .lit (.int .u8 x5), .lit (.int .u8 x6), .lit (.int .u8 x7), .lit (.int .u8 x8), .lit (.int .u8 x9), .lit (.int .u8 x10), .lit (.int .u8 x11), .lit (.int .u8 x12), .lit (.int .u8 x13), .lit (.int .u8 x14), .lit (.int .u8 x15), .lit (.int .u8 x16)]], []) ∧ (Lit.int .u8 x1).wf = true ∧ (Lit.int .u8 x2).wf = true ∧ (Lit.int .u8 x3).wf = true ∧ (Lit.int .u8 x4).wf = true ∧ (Lit.int .u8 x5).wf = true ∧ (Lit.int .u8 x6).wf = true ∧ (Lit.int .u8 x7).wf = true ∧ (Lit.int .u8 x8).wf = true ∧ (Lit.int .u8 x9).wf = true ∧ (Lit.int .u8 x10).wf = true ∧ (Lit.int .u8 x11).wf = true ∧ (Lit.int .u8 x12).wf = true ∧ (Lit.int .u8 x13).wf = true ∧ (Lit.int .u8 x14).wf = true ∧ (Lit.int .u8 x15).wf = true ∧ (Lit.int .u8 x16).wf = true := by
  obtain ⟨y0, y1, n, hx, _, h0, h1⟩ := trod_struct2 Tryd.underlying24 hf
  have g0 : DataW.trod enc Tryd.prog w base spare held n 4 [c0] = some y0 := by simpa [Value.cells, cb] using h0
  have g1 : DataW.trod enc Tryd.prog w base spare held n 22 [c1, c2, c3, c4, c5, c6, c7, c8, c9, c10, c11, c12, c13, c14, c15, c16] = some y1 := by simpa [Value.cells, ca] using h1
  obtain ⟨b, e0, rfl⟩ := DataW.trod_bool Tryd.underlying4 g0
  obtain ⟨xs, m, _, rfl, _, hl, hel⟩ := DataW.trod_array Tryd.underlying22 g1
  obtain ⟨z1, z2, z3, z4, z5, z6, z7, z8, z9, z10, z11, z12, z13, z14, z15, z16, rfl⟩ := list16 hl
  have k1 : DataW.trod enc Tryd.prog w base spare held m 5 [c1] = some z1 := by simpa [ce] using hel 0 (by decide)
  obtain ⟨x1, e1, rfl, w1⟩ := DataW.trod_int Tryd.underlying5 k1
  have k2 : DataW.trod enc Tryd.prog w base spare held m 5 [c2] = some z2 := by simpa [ce] using hel 1 (by decide)
  obtain ⟨x2, e2, rfl, w2⟩ := DataW.trod_int Tryd.underlying5 k2
  have k3 : DataW.trod enc Tryd.prog w base spare held m 5 [c3] = some z3 := by simpa [ce] using hel 2 (by decide)
  obtain ⟨x3, e3, rfl, w3⟩ := DataW.trod_int Tryd.underlying5 k3
  have k4 : DataW.trod enc Tryd.prog w base spare held m 5 [c4] = some z4 := by simpa [ce] using hel 3 (by decide)
  obtain ⟨x4, e4, rfl, w4⟩ := DataW.trod_int Tryd.underlying5 k4
  have k5 : DataW.trod enc Tryd.prog w base spare held m 5 [c5] = some z5 := by simpa [ce] using hel 4 (by decide)
  obtain ⟨x5, e5, rfl, w5⟩ := DataW.trod_int Tryd.underlying5 k5
  have k6 : DataW.trod enc Tryd.prog w base spare held m 5 [c6] = some z6 := by simpa [ce] using hel 5 (by decide)
  obtain ⟨x6, e6, rfl, w6⟩ := DataW.trod_int Tryd.underlying5 k6
  have k7 : DataW.trod enc Tryd.prog w base spare held m 5 [c7] = some z7 := by simpa [ce] using hel 6 (by decide)
  obtain ⟨x7, e7, rfl, w7⟩ := DataW.trod_int Tryd.underlying5 k7
  have k8 : DataW.trod enc Tryd.prog w base spare held m 5 [c8] = some z8 := by simpa [ce] using hel 7 (by decide)
  obtain ⟨x8, e8, rfl, w8⟩ := DataW.trod_int Tryd.underlying5 k8
  have k9 : DataW.trod enc Tryd.prog w base spare held m 5 [c9] = some z9 := by simpa [ce] using hel 8 (by decide)
  obtain ⟨x9, e9, rfl, w9⟩ := DataW.trod_int Tryd.underlying5 k9
  have k10 : DataW.trod enc Tryd.prog w base spare held m 5 [c10] = some z10 := by simpa [ce] using hel 9 (by decide)
  obtain ⟨x10, e10, rfl, w10⟩ := DataW.trod_int Tryd.underlying5 k10
  have k11 : DataW.trod enc Tryd.prog w base spare held m 5 [c11] = some z11 := by simpa [ce] using hel 10 (by decide)
  obtain ⟨x11, e11, rfl, w11⟩ := DataW.trod_int Tryd.underlying5 k11
  have k12 : DataW.trod enc Tryd.prog w base spare held m 5 [c12] = some z12 := by simpa [ce] using hel 11 (by decide)
  obtain ⟨x12, e12, rfl, w12⟩ := DataW.trod_int Tryd.underlying5 k12
  have k13 : DataW.trod enc Tryd.prog w base spare held m 5 [c13] = some z13 := by simpa [ce] using hel 12 (by decide)
  obtain ⟨x13, e13, rfl, w13⟩ := DataW.trod_int Tryd.underlying5 k13
  have k14 : DataW.trod enc Tryd.prog w base spare held m 5 [c14] = some z14 := by simpa [ce] using hel 13 (by decide)
  obtain ⟨x14, e14, rfl, w14⟩ := DataW.trod_int Tryd.underlying5 k14
  have k15 : DataW.trod enc Tryd.prog w base spare held m 5 [c15] = some z15 := by simpa [ce] using hel 14 (by decide)
  obtain ⟨x15, e15, rfl, w15⟩ := DataW.trod_int Tryd.underlying5 k15
  have k16 : DataW.trod enc Tryd.prog w base spare held m 5 [c16] = some z16 := by simpa [ce] using hel 15 (by decide)
  obtain ⟨x16, e16, rfl, w16⟩ := DataW.trod_int Tryd.underlying5 k16
  simp at e0 e1 e2 e3 e4 e5 e6 e7 e8 e9 e10 e11 e12 e13 e14 e15 e16
  exact ⟨b, x1, x2, x3, x4, x5, x6, x7, x8, x9, x10, x11, x12, x13, x14, x15, x16, e0, e1, e2, e3, e4, e5, e6, e7, e8, e9, e10, e11, e12, e13, e14, e15, e16, by simpa using hx, w1, w2, w3, w4, w5, w6, w7, w8, w9, w10, w11, w12, w13, w14, w15, w16⟩
theorem okS_mk (b : Bool) (x1 x2 x3 x4 x5 x6 x7 x8 x9 x10 x11 x12 x13 x14 x15 x16 : Int) (w1 : (Lit.int .u8 x1).wf = true) (w2 : (Lit.int .u8 x2).wf = true) (w3 : (Lit.int .u8 x3).wf = true) (w4 : (Lit.int .u8 x4).wf = true) (w5 : (Lit.int .u8 x5).wf = true) (w6 : (Lit.int .u8 x6).wf = true) (w7 : (Lit.int .u8 x7).wf = true) (w8 : (Lit.int .u8 x8).wf = true) (w9 : (Lit.int .u8 x9).wf = true) (w10 : (Lit.int .u8 x10).wf = true) (w11 : (Lit.int .u8 x11).wf = true) (w12 : (Lit.int .u8 x12).wf = true) (w13 : (Lit.int .u8 x13).wf = true) (w14 : (Lit.int .u8 x14).wf = true) (w15 : (Lit.int .u8 x15).wf = true) (w16 : (Lit.int .u8 x16).wf = true) : okS ⟨b, ⟨x1, x2, x3, x4, x5, x6, x7, x8, x9, x10, x11, x12, x13, x14, x15, x16⟩⟩ := by
  refine ⟨rfl, fun x hx => ?_⟩
  simp only [bL, List.mem_cons, List.not_mem_nil, or_false] at hx
  rcases hx with rfl | rfl | rfl | rfl | rfl | rfl | rfl | rfl | rfl | rfl | rfl | rfl | rfl | rfl | rfl | rfl <;> (apply wr_u8; assumption)
theorem open_net1 {fuel : Nat} {cs : List Value} {y : DataW H × List MemPlace} (hl : cs.length = 18) (hf : DataW.trod enc Tryd.prog w base spare held fuel 34 cs = some y) : ∃ s : S34, cs = encN s ∧ okS s.f0 := by
  obtain ⟨c0, c1, c2, c3, c4, c5, c6, c7, c8, c9, c10, c11, c12, c13, c14, c15, c16, c17, rfl⟩ := list18 hl
  obtain ⟨y0, y1, n, hx, _, h0, h1⟩ := trod_struct2 Tryd.underlying34 hf
  have g0 : DataW.trod enc Tryd.prog w base spare held n 24 [c0, c1, c2, c3, c4, c5, c6, c7, c8, c9, c10, c11, c12, c13, c14, c15, c16] = some y0 := by simpa [Value.cells, ct] using h0
  have g1 : DataW.trod enc Tryd.prog w base spare held n 3 [c17] = some y1 := by simpa [Value.cells, ci] using h1
  obtain ⟨b, x1, x2, x3, x4, x5, x6, x7, x8, x9, x10, x11, x12, x13, x14, x15, x16, e0, e1, e2, e3, e4, e5, e6, e7, e8, e9, e10, e11, e12, e13, e14, e15, e16, _, w1, w2, w3, w4, w5, w6, w7, w8, w9, w10, w11, w12, w13, w14, w15, w16⟩ := open_addrL g0
  obtain ⟨x17, e17, _, w17⟩ := DataW.trod_int Tryd.underlying3 g1
  simp at e17
  subst e0 e1 e2 e3 e4 e5 e6 e7 e8 e9 e10 e11 e12 e13 e14 e15 e16 e17
  exact ⟨⟨⟨b, ⟨x1, x2, x3, x4, x5, x6, x7, x8, x9, x10, x11, x12, x13, x14, x15, x16⟩⟩, x17⟩, rfl, okS_mk b x1 x2 x3 x4 x5 x6 x7 x8 x9 x10 x11 x12 x13 x14 x15 x16 w1 w2 w3 w4 w5 w6 w7 w8 w9 w10 w11 w12 w13 w14 w15 w16⟩
end
def OkL (l : List S34) : Prop := ∀ n ∈ l, okS n.f0
theorem open_nets {H : Type} {enc : TypeId × Value → H} {W : World} {a : Option Addr} {len cap : Nat} {d : DataW H} {p : List MemPlace}
    (h : DataW.Trod enc Tryd.prog W 0 (fun _ => true) true 25 (.slice a len cap) d p) {ts : List TypeId} {ds : List (DataW H)} {j : Nat}
    (hsz : (DataW.weightsEach Tryd.prog ts ds).all (· ≤ reachBytes) = true) (ht : ts[j]? = some 25) (hd : ds[j]? = some d) :
    ∃ l : List S34, len = l.length ∧ Kd.C k34 W a l.length l ∧ l.length ≤ cap ∧ OkL l := by
  obtain ⟨fuel, hf⟩ := h
  rcases Go.Deep.open_slice Tryd.underlying25 hf with ⟨hcs, _⟩ | ⟨ad, ln, cp, m, n, D, Pl, hcs, _, hl, hm, hmm, _, hel⟩
  · simp [Value.cells] at hcs
    obtain ⟨rfl, rfl, rfl⟩ := hcs
    exact ⟨[], rfl, ⟨rfl, by simp, fun h0 => absurd h0 (by simp)⟩, Nat.le_refl _, fun x hx => by simp at hx⟩
  · simp [Value.cells] at hcs
    obtain ⟨rfl, rfl, rfl⟩ := hcs
    have hmc : m = cap := by simpa using hmm
    subst hmc
    have each : ∀ i, i < m → ∃ s : S34, okS s.f0 ∧ ∀ k u, (encN s)[k]? = some u → W.cell? (ad.add (i * 18 + k)) = some u := fun i hi => by
      obtain ⟨cs', h1, h2⟩ := hel i hi
      rw [cn] at h1
      obtain ⟨_, hlen, hcell⟩ := World.cells?_some h1
      obtain ⟨s, e, hs⟩ := open_net1 hlen h2
      refine ⟨s, hs, fun k u hu => ?_⟩
      have hk : k < 18 := by
        have := (List.getElem?_eq_some_iff.1 hu).1
        exact this
      have h3 := hcell k hk
      rw [add_two] at h3
      rw [h3, e]; exact hu
    obtain ⟨q, hq⟩ := Go.Deep.choose_lt each
    refine ⟨(List.range len).map q, by simp, ⟨by simp, by simp; unfold maxLen at hm; omega, fun _ => ⟨ad, rfl, fun i x hi => ?_⟩⟩, by simpa using hl, fun x hx => ?_⟩
    · rw [List.getElem?_map] at hi
      obtain ⟨i', hi', rfl⟩ := Option.map_eq_some_iff.1 hi
      obtain ⟨hlt, rfl⟩ := List.getElem?_eq_some_iff.1 hi'
      rw [List.length_range] at hlt
      rw [List.getElem_range]
      exact ⟨encN (q i), rfl, k34_mk _ _, fun k u hu => (hq i (by omega)).2 k u hu⟩
    · obtain ⟨i, hi, rfl⟩ := List.mem_map.1 hx
      exact (hq i (by have := List.mem_range.1 hi; omega)).1
theorem CidrAllows_row (b : Bool) (b1 b2 b3 b4 b5 b6 b7 b8 b9 b10 b11 b12 b13 b14 b15 b16 : Int) (l : List S34) (hw : OkL l) (h1 : (Lit.int .u8 b1).wf = true) (h2 : (Lit.int .u8 b2).wf = true) (h3 : (Lit.int .u8 b3).wf = true) (h4 : (Lit.int .u8 b4).wf = true) (h5 : (Lit.int .u8 b5).wf = true) (h6 : (Lit.int .u8 b6).wf = true) (h7 : (Lit.int .u8 b7).wf = true) (h8 : (Lit.int .u8 b8).wf = true) (h9 : (Lit.int .u8 b9).wf = true) (h10 : (Lit.int .u8 b10).wf = true) (h11 : (Lit.int .u8 b11).wf = true) (h12 : (Lit.int .u8 b12).wf = true) (h13 : (Lit.int .u8 b13).wf = true) (h14 : (Lit.int .u8 b14).wf = true) (h15 : (Lit.int .u8 b15).wf = true) (h16 : (Lit.int .u8 b16).wf = true) : ∃ k, Go.Proofs.YtdopafhppaalfaaDoor.K.lanternlaw06_CidrAllows.f k b b1 b2 b3 b4 b5 b6 b7 b8 b9 b10 b11 b12 b13 b14 b15 b16 l = some true :=
  CidrAllows_law ⟨b, ⟨b1, b2, b3, b4, b5, b6, b7, b8, b9, b10, b11, b12, b13, b14, b15, b16⟩⟩ (okS_mk b b1 b2 b3 b4 b5 b6 b7 b8 b9 b10 b11 b12 b13 b14 b15 b16 h1 h2 h3 h4 h5 h6 h7 h8 h9 h10 h11 h12 h13 h14 h15 h16) l hw
end Go.Proofs.YtdopafhppaalfaaDoor.Q
