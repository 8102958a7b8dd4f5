/- What the law needs of elder texts. (Put together by wip/gen/pick.py.) -/
import Derived.Test.YtdopafhppaalfaaDoorB
import Derived.Test.YtdopafhppaalfaaDoorP5
import Derived.Test.YtdopafhppaalfaaDoorP10
import Derived.Lib.Bytes
set_option linter.unusedSimpArgs false
set_option linter.unusedVariables false
set_option maxRecDepth 10000
namespace Go.Proofs.YtdopafhppaalfaaDoor.Q
open Go Go.RowKit Go.Lib Go.Proofs.YtdopafhppaalfaaDoorW.PrintWords Go.Proofs.YtdopafhppaalfaaDoorW.PrintMore Go.Proofs.YtdopafhppaalfaaDoorB Go.Proofs.YtdopafhppaalfaaDoor.E Go.Proofs.YtdopafhppaalfaaDoorV Go.Proofs.YtdopafhppaalfaaDoor.P

abbrev Tup := Bool × Int × Int × Int × Int × Int × Int × Int × Int × Int × Int × Int × Int × Int × Int × Int × Int
theorem up_to {α : Type} {f : Nat → Option α} (hm : ∀ k, LeO (f k) (f (k + 1))) {k0 : Nat} {r : α} (h : f k0 = some r) : ∀ k, k0 ≤ k → f k = some r := by
  intro k hk
  obtain ⟨j, rfl⟩ : ∃ j, k = k0 + j := ⟨k - k0, by omega⟩
  clear hk
  induction j with
  | zero => exact h
  | succ j ih => exact hm (k0 + j) _ ih
def V4T (a b c d : Int) : Bool × Int × Int × Int × Int × Int × Int × Int × Int × Int × Int × Int × Int × Int × Int × Int × Int := (false, 0, 0, 0, 0, 0, 0, 0, 0, 0, 0, 0, 0, a, b, c, d)
def V4N (n : Nat) : Bool × Int × Int × Int × Int × Int × Int × Int × Int × Int × Int × Int × Int × Int × Int × Int × Int := V4T ((n / 16777216 % 256 : Nat) : Int) ((n / 65536 % 256 : Nat) : Int) ((n / 256 % 256 : Nat) : Int) ((n % 256 : Nat) : Int)
theorem tm (n : Nat) : Int.tmod (n : Int) 256 % 256 = ((n % 256 : Nat) : Int) := by
  rw [Int.tmod_eq_emod_of_nonneg (by omega)]; omega
theorem td (n : Nat) (h : n < 4294967296) : IntKind.u64.wrap (Int.tdiv (n : Int) 256) = ((n / 256 : Nat) : Int) := by
  rw [Int.tdiv_eq_ediv_of_nonneg (by omega), IntKind.wrap_u64]; omega
theorem refV4_f (n : Nat) (h : n < 4294967296) (k : Nat) (hk : 5 ≤ k) : lanternref05_V4.f k (n : Int) = some (V4N n) := by
  obtain ⟨k, rfl⟩ : ∃ m, k = m + 5 := ⟨k - 5, by omega⟩
  have w15 : wrap64 (15 - 1) = 14 := by rw [wrap_id (by decide) (by decide)]; rfl
  have w14 : wrap64 (14 - 1) = 13 := by rw [wrap_id (by decide) (by decide)]; rfl
  have w13 : wrap64 (13 - 1) = 12 := by rw [wrap_id (by decide) (by decide)]; rfl
  have w12 : wrap64 (12 - 1) = 11 := by rw [wrap_id (by decide) (by decide)]; rfl
  have h1 : n / 256 < 4294967296 := by omega
  have h2 : n / 256 / 256 < 4294967296 := by omega
  have h3 : n / 256 / 256 / 256 < 4294967296 := by omega
  rw [lanternref05_V4.f, lanternref05_V4.l0, if_pos (by decide), if_pos (by decide), if_pos (by decide), td n h, tm n, w15,
    lanternref05_V4.l0, if_pos (by decide), if_pos (by decide), if_pos (by decide), td _ h1, tm, w14,
    lanternref05_V4.l0, if_pos (by decide), if_pos (by decide), if_pos (by decide), td _ h2, tm, w13,
    lanternref05_V4.l0, if_pos (by decide), if_pos (by decide), if_pos (by decide), td _ h3, tm, w12, lanternref05_V4.l0, if_neg (by decide)]
  have e2 : n / 256 / 256 = n / 65536 := by omega
  have e3 : n / 256 / 256 / 256 = n / 16777216 := by omega
  rw [e3, e2]
  rfl
def zT : Tup := (false, 0, 0, 0, 0, 0, 0, 0, 0, 0, 0, 0, 0, 0, 0, 0, 0)
def T18b (a : Tup) (e : Bool) : Bool × Int × Int × Int × Int × Int × Int × Int × Int × Int × Int × Int × Int × Int × Int × Int × Int × Bool :=
  (a.1, a.2.1, a.2.2.1, a.2.2.2.1, a.2.2.2.2.1, a.2.2.2.2.2.1, a.2.2.2.2.2.2.1, a.2.2.2.2.2.2.2.1, a.2.2.2.2.2.2.2.2.1, a.2.2.2.2.2.2.2.2.2.1, a.2.2.2.2.2.2.2.2.2.2.1, a.2.2.2.2.2.2.2.2.2.2.2.1, a.2.2.2.2.2.2.2.2.2.2.2.2.1, a.2.2.2.2.2.2.2.2.2.2.2.2.2.1, a.2.2.2.2.2.2.2.2.2.2.2.2.2.2.1, a.2.2.2.2.2.2.2.2.2.2.2.2.2.2.2.1, a.2.2.2.2.2.2.2.2.2.2.2.2.2.2.2.2, e)
theorem V4_bytes (a b c d : Nat) (ha : a < 256) (hb : b < 256) (hc : c < 256) (hd : d < 256) : V4N (a * 16777216 + b * 65536 + c * 256 + d) = V4T a b c d := by
  unfold V4N
  rw [show (a * 16777216 + b * 65536 + c * 256 + d) / 16777216 % 256 = a from by omega, show (a * 16777216 + b * 65536 + c * 256 + d) / 65536 % 256 = b from by omega, show (a * 16777216 + b * 65536 + c * 256 + d) / 256 % 256 = c from by omega, show (a * 16777216 + b * 65536 + c * 256 + d) % 256 = d from by omega]
theorem wl0 : wrap64 (0 + 1) = 1 := by rw [wrap_id (by decide) (by decide)]; rfl
theorem wl1 : wrap64 (1 + 1) = 2 := by rw [wrap_id (by decide) (by decide)]; rfl
theorem wl2 : wrap64 (2 + 1) = 3 := by rw [wrap_id (by decide) (by decide)]; rfl
theorem wl3 : wrap64 (3 + 1) = 4 := by rw [wrap_id (by decide) (by decide)]; rfl
theorem wl4 : wrap64 (4 + 1) = 5 := by rw [wrap_id (by decide) (by decide)]; rfl
theorem wl5 : wrap64 (5 + 1) = 6 := by rw [wrap_id (by decide) (by decide)]; rfl
theorem wl6 : wrap64 (6 + 1) = 7 := by rw [wrap_id (by decide) (by decide)]; rfl
theorem wl7 : wrap64 (7 + 1) = 8 := by rw [wrap_id (by decide) (by decide)]; rfl
theorem wl8 : wrap64 (8 + 1) = 9 := by rw [wrap_id (by decide) (by decide)]; rfl
theorem wl9 : wrap64 (9 + 1) = 10 := by rw [wrap_id (by decide) (by decide)]; rfl
theorem wl10 : wrap64 (10 + 1) = 11 := by rw [wrap_id (by decide) (by decide)]; rfl
theorem wl11 : wrap64 (11 + 1) = 12 := by rw [wrap_id (by decide) (by decide)]; rfl
theorem ite_b (x c : Int) (r : Bool) : (if x = c then some r else some false) = some ((x == c) && r) := by
  by_cases h : x = c
  · subst h; simp
  · rw [if_neg h, beq_eq_false_iff_ne.mpr h]; rfl
def mapB (b1 b2 b3 b4 b5 b6 b7 b8 b9 b10 b11 b12 : Int) : Bool := ((b1 == 0) && ((b2 == 0) && ((b3 == 0) && ((b4 == 0) && ((b5 == 0) && ((b6 == 0) && ((b7 == 0) && ((b8 == 0) && ((b9 == 0) && ((b10 == 0) && ((b11 == 255) && (b12 == 255))))))))))))
theorem rm0 (k : Nat) (b : Bool) (b1 b2 b3 b4 b5 b6 b7 b8 b9 b10 b11 b12 b13 b14 b15 b16 : Int) : lanternref05_Mapped.l0 (k + 1) 0 b b1 b2 b3 b4 b5 b6 b7 b8 b9 b10 b11 b12 b13 b14 b15 b16 = if b1 = 0 then lanternref05_Mapped.l0 k 1 b b1 b2 b3 b4 b5 b6 b7 b8 b9 b10 b11 b12 b13 b14 b15 b16 else some false := by
  rw [lanternref05_Mapped.l0, if_pos (by decide), if_pos (by decide), if_pos (by decide), if_pos (by decide), wl0, if_neg (by decide : ¬ ((0 : Int) ≥ 10))]
  rfl
theorem rm1 (k : Nat) (b : Bool) (b1 b2 b3 b4 b5 b6 b7 b8 b9 b10 b11 b12 b13 b14 b15 b16 : Int) : lanternref05_Mapped.l0 (k + 1) 1 b b1 b2 b3 b4 b5 b6 b7 b8 b9 b10 b11 b12 b13 b14 b15 b16 = if b2 = 0 then lanternref05_Mapped.l0 k 2 b b1 b2 b3 b4 b5 b6 b7 b8 b9 b10 b11 b12 b13 b14 b15 b16 else some false := by
  rw [lanternref05_Mapped.l0, if_pos (by decide), if_pos (by decide), if_pos (by decide), if_pos (by decide), wl1, if_neg (by decide : ¬ ((1 : Int) ≥ 10))]
  rfl
theorem rm2 (k : Nat) (b : Bool) (b1 b2 b3 b4 b5 b6 b7 b8 b9 b10 b11 b12 b13 b14 b15 b16 : Int) : lanternref05_Mapped.l0 (k + 1) 2 b b1 b2 b3 b4 b5 b6 b7 b8 b9 b10 b11 b12 b13 b14 b15 b16 = if b3 = 0 then lanternref05_Mapped.l0 k 3 b b1 b2 b3 b4 b5 b6 b7 b8 b9 b10 b11 b12 b13 b14 b15 b16 else some false := by
  rw [lanternref05_Mapped.l0, if_pos (by decide), if_pos (by decide), if_pos (by decide), if_pos (by decide), wl2, if_neg (by decide : ¬ ((2 : Int) ≥ 10))]
  rfl
theorem rm3 (k : Nat) (b : Bool) (b1 b2 b3 b4 b5 b6 b7 b8 b9 b10 b11 b12 b13 b14 b15 b16 : Int) : lanternref05_Mapped.l0 (k + 1) 3 b b1 b2 b3 b4 b5 b6 b7 b8 b9 b10 b11 b12 b13 b14 b15 b16 = if b4 = 0 then lanternref05_Mapped.l0 k 4 b b1 b2 b3 b4 b5 b6 b7 b8 b9 b10 b11 b12 b13 b14 b15 b16 else some false := by
  rw [lanternref05_Mapped.l0, if_pos (by decide), if_pos (by decide), if_pos (by decide), if_pos (by decide), wl3, if_neg (by decide : ¬ ((3 : Int) ≥ 10))]
  rfl
theorem rm4 (k : Nat) (b : Bool) (b1 b2 b3 b4 b5 b6 b7 b8 b9 b10 b11 b12 b13 b14 b15 b16 : Int) : lanternref05_Mapped.l0 (k + 1) 4 b b1 b2 b3 b4 b5 b6 b7 b8 b9 b10 b11 b12 b13 b14 b15 b16 = if b5 = 0 then lanternref05_Mapped.l0 k 5 b b1 b2 b3 b4 b5 b6 b7 b8 b9 b10 b11 b12 b13 b14 b15 b16 else some false := by
  rw [lanternref05_Mapped.l0, if_pos (by decide), if_pos (by decide), if_pos (by decide), if_pos (by decide), wl4, if_neg (by decide : ¬ ((4 : Int) ≥ 10))]
  rfl
theorem rm5 (k : Nat) (b : Bool) (b1 b2 b3 b4 b5 b6 b7 b8 b9 b10 b11 b12 b13 b14 b15 b16 : Int) : lanternref05_Mapped.l0 (k + 1) 5 b b1 b2 b3 b4 b5 b6 b7 b8 b9 b10 b11 b12 b13 b14 b15 b16 = if b6 = 0 then lanternref05_Mapped.l0 k 6 b b1 b2 b3 b4 b5 b6 b7 b8 b9 b10 b11 b12 b13 b14 b15 b16 else some false := by
  rw [lanternref05_Mapped.l0, if_pos (by decide), if_pos (by decide), if_pos (by decide), if_pos (by decide), wl5, if_neg (by decide : ¬ ((5 : Int) ≥ 10))]
  rfl
theorem rm6 (k : Nat) (b : Bool) (b1 b2 b3 b4 b5 b6 b7 b8 b9 b10 b11 b12 b13 b14 b15 b16 : Int) : lanternref05_Mapped.l0 (k + 1) 6 b b1 b2 b3 b4 b5 b6 b7 b8 b9 b10 b11 b12 b13 b14 b15 b16 = if b7 = 0 then lanternref05_Mapped.l0 k 7 b b1 b2 b3 b4 b5 b6 b7 b8 b9 b10 b11 b12 b13 b14 b15 b16 else some false := by
  rw [lanternref05_Mapped.l0, if_pos (by decide), if_pos (by decide), if_pos (by decide), if_pos (by decide), wl6, if_neg (by decide : ¬ ((6 : Int) ≥ 10))]
  rfl
theorem rm7 (k : Nat) (b : Bool) (b1 b2 b3 b4 b5 b6 b7 b8 b9 b10 b11 b12 b13 b14 b15 b16 : Int) : lanternref05_Mapped.l0 (k + 1) 7 b b1 b2 b3 b4 b5 b6 b7 b8 b9 b10 b11 b12 b13 b14 b15 b16 = if b8 = 0 then lanternref05_Mapped.l0 k 8 b b1 b2 b3 b4 b5 b6 b7 b8 b9 b10 b11 b12 b13 b14 b15 b16 else some false := by
  rw [lanternref05_Mapped.l0, if_pos (by decide), if_pos (by decide), if_pos (by decide), if_pos (by decide), wl7, if_neg (by decide : ¬ ((7 : Int) ≥ 10))]
  rfl
theorem rm8 (k : Nat) (b : Bool) (b1 b2 b3 b4 b5 b6 b7 b8 b9 b10 b11 b12 b13 b14 b15 b16 : Int) : lanternref05_Mapped.l0 (k + 1) 8 b b1 b2 b3 b4 b5 b6 b7 b8 b9 b10 b11 b12 b13 b14 b15 b16 = if b9 = 0 then lanternref05_Mapped.l0 k 9 b b1 b2 b3 b4 b5 b6 b7 b8 b9 b10 b11 b12 b13 b14 b15 b16 else some false := by
  rw [lanternref05_Mapped.l0, if_pos (by decide), if_pos (by decide), if_pos (by decide), if_pos (by decide), wl8, if_neg (by decide : ¬ ((8 : Int) ≥ 10))]
  rfl
theorem rm9 (k : Nat) (b : Bool) (b1 b2 b3 b4 b5 b6 b7 b8 b9 b10 b11 b12 b13 b14 b15 b16 : Int) : lanternref05_Mapped.l0 (k + 1) 9 b b1 b2 b3 b4 b5 b6 b7 b8 b9 b10 b11 b12 b13 b14 b15 b16 = if b10 = 0 then lanternref05_Mapped.l0 k 10 b b1 b2 b3 b4 b5 b6 b7 b8 b9 b10 b11 b12 b13 b14 b15 b16 else some false := by
  rw [lanternref05_Mapped.l0, if_pos (by decide), if_pos (by decide), if_pos (by decide), if_pos (by decide), wl9, if_neg (by decide : ¬ ((9 : Int) ≥ 10))]
  rfl
theorem rm10 (k : Nat) (b : Bool) (b1 b2 b3 b4 b5 b6 b7 b8 b9 b10 b11 b12 b13 b14 b15 b16 : Int) : lanternref05_Mapped.l0 (k + 1) 10 b b1 b2 b3 b4 b5 b6 b7 b8 b9 b10 b11 b12 b13 b14 b15 b16 = if b11 = 255 then lanternref05_Mapped.l0 k 11 b b1 b2 b3 b4 b5 b6 b7 b8 b9 b10 b11 b12 b13 b14 b15 b16 else some false := by
  rw [lanternref05_Mapped.l0, if_pos (by decide), if_neg (by decide), if_pos (by decide), if_pos (by decide), wl10, if_pos (by decide)]
  rfl
theorem rm11 (k : Nat) (b : Bool) (b1 b2 b3 b4 b5 b6 b7 b8 b9 b10 b11 b12 b13 b14 b15 b16 : Int) : lanternref05_Mapped.l0 (k + 1) 11 b b1 b2 b3 b4 b5 b6 b7 b8 b9 b10 b11 b12 b13 b14 b15 b16 = if b12 = 255 then lanternref05_Mapped.l0 k 12 b b1 b2 b3 b4 b5 b6 b7 b8 b9 b10 b11 b12 b13 b14 b15 b16 else some false := by
  rw [lanternref05_Mapped.l0, if_pos (by decide), if_neg (by decide), if_pos (by decide), if_pos (by decide), wl11, if_pos (by decide)]
  rfl
theorem refMapped_f (k : Nat) (hk : 20 ≤ k) (b : Bool) (b1 b2 b3 b4 b5 b6 b7 b8 b9 b10 b11 b12 b13 b14 b15 b16 : Int) : lanternref05_Mapped.f k b b1 b2 b3 b4 b5 b6 b7 b8 b9 b10 b11 b12 b13 b14 b15 b16 = some (mapB b1 b2 b3 b4 b5 b6 b7 b8 b9 b10 b11 b12 && b) := by
  obtain ⟨k, rfl⟩ : ∃ j, k = j + 13 := ⟨k - 13, by omega⟩
  have e : lanternref05_Mapped.l0 (k + 1) 12 b b1 b2 b3 b4 b5 b6 b7 b8 b9 b10 b11 b12 b13 b14 b15 b16 = some b := by rw [lanternref05_Mapped.l0, if_neg (by decide)]
  rw [lanternref05_Mapped.f, rm0, rm1, rm2, rm3, rm4, rm5, rm6, rm7, rm8, rm9, rm10, rm11, e]
  simp only [ite_b, mapB, Bool.and_assoc]
theorem mapped_f (b : Bool) (b1 b2 b3 b4 b5 b6 b7 b8 b9 b10 b11 b12 b13 b14 b15 b16 : Int) : ip_mapped.f b b1 b2 b3 b4 b5 b6 b7 b8 b9 b10 b11 b12 b13 b14 b15 b16 = some (b && mapB b1 b2 b3 b4 b5 b6 b7 b8 b9 b10 b11 b12) := by
  rw [ip_mapped.f, Option.bind_some]
  cases b
  · rfl
  · rw [if_pos rfl]
    show some (((b1 == 0) && ((b2 == 0) && ((b3 == 0) && ((b4 == 0) && ((b5 == 0) && ((b6 == 0) && ((b7 == 0) && ((b8 == 0) && ((b9 == 0) && ((b10 == 0) && ((b11 == 255) && ((b12 == 255) && ((b13 == b13) && ((b14 == b14) && ((b15 == b15) && (b16 == b16))))))))))))))))) = _
    simp [mapB]
theorem tl_step (x b : Int) (hx : 0 ≤ x ∧ x < 16777216) (hb : 0 ≤ b ∧ b < 256) : IntKind.u64.wrap ((IntKind.u64.wrap (x * 256)) + (IntKind.u64.wrap b)) = x * 256 + b := by
  have e1 : IntKind.u64.wrap (x * 256) = x * 256 := by rw [IntKind.wrap_u64]; omega
  have e2 : IntKind.u64.wrap b = b := by rw [IntKind.wrap_u64]; omega
  rw [e1, e2, IntKind.wrap_u64]; omega
theorem tail12_f (k : Nat) (hk : 20 ≤ k) (b : Bool) (b1 b2 b3 b4 b5 b6 b7 b8 b9 b10 b11 b12 b13 b14 b15 b16 : Int) (h1 : 0 ≤ b1 ∧ b1 < 256) (h2 : 0 ≤ b2 ∧ b2 < 256) (h3 : 0 ≤ b3 ∧ b3 < 256) (h4 : 0 ≤ b4 ∧ b4 < 256) (h5 : 0 ≤ b5 ∧ b5 < 256) (h6 : 0 ≤ b6 ∧ b6 < 256) (h7 : 0 ≤ b7 ∧ b7 < 256) (h8 : 0 ≤ b8 ∧ b8 < 256) (h9 : 0 ≤ b9 ∧ b9 < 256) (h10 : 0 ≤ b10 ∧ b10 < 256) (h11 : 0 ≤ b11 ∧ b11 < 256) (h12 : 0 ≤ b12 ∧ b12 < 256) (h13 : 0 ≤ b13 ∧ b13 < 256) (h14 : 0 ≤ b14 ∧ b14 < 256) (h15 : 0 ≤ b15 ∧ b15 < 256) (h16 : 0 ≤ b16 ∧ b16 < 256) : lanternref05_Tail.f k b b1 b2 b3 b4 b5 b6 b7 b8 b9 b10 b11 b12 b13 b14 b15 b16 12 = some (V4T b13 b14 b15 b16) := by
  obtain ⟨k, rfl⟩ : ∃ j, k = j + 5 := ⟨k - 5, by omega⟩
  have g0 : wrap64 (12 + 0) = 12 := by rw [wrap_id (by decide) (by decide)]; rfl
  have g1 : wrap64 (12 + 1) = 13 := by rw [wrap_id (by decide) (by decide)]; rfl
  have g2 : wrap64 (12 + 2) = 14 := by rw [wrap_id (by decide) (by decide)]; rfl
  have g3 : wrap64 (12 + 3) = 15 := by rw [wrap_id (by decide) (by decide)]; rfl
  rw [lanternref05_Tail.f]
  rw [lanternref05_Tail.l0, if_pos (by decide), g0, if_pos (by decide), if_pos (by decide), wl0]
  rw [show IntKind.u64.wrap ((IntKind.u64.wrap ((0) * 256)) + (IntKind.u64.wrap (rd [b1, b2, b3, b4, b5, b6, b7, b8, b9, b10, b11, b12, b13, b14, b15, b16] 12))) = (0) * 256 + b13 from tl_step _ _ (by omega) h13]
  rw [lanternref05_Tail.l0, if_pos (by decide), g1, if_pos (by decide), if_pos (by decide), wl1]
  rw [show IntKind.u64.wrap ((IntKind.u64.wrap (((0) * 256 + b13) * 256)) + (IntKind.u64.wrap (rd [b1, b2, b3, b4, b5, b6, b7, b8, b9, b10, b11, b12, b13, b14, b15, b16] 13))) = ((0) * 256 + b13) * 256 + b14 from tl_step _ _ (by omega) h14]
  rw [lanternref05_Tail.l0, if_pos (by decide), g2, if_pos (by decide), if_pos (by decide), wl2]
  rw [show IntKind.u64.wrap ((IntKind.u64.wrap ((((0) * 256 + b13) * 256 + b14) * 256)) + (IntKind.u64.wrap (rd [b1, b2, b3, b4, b5, b6, b7, b8, b9, b10, b11, b12, b13, b14, b15, b16] 14))) = (((0) * 256 + b13) * 256 + b14) * 256 + b15 from tl_step _ _ (by omega) h15]
  rw [lanternref05_Tail.l0, if_pos (by decide), g3, if_pos (by decide), if_pos (by decide), wl3]
  rw [show IntKind.u64.wrap ((IntKind.u64.wrap (((((0) * 256 + b13) * 256 + b14) * 256 + b15) * 256)) + (IntKind.u64.wrap (rd [b1, b2, b3, b4, b5, b6, b7, b8, b9, b10, b11, b12, b13, b14, b15, b16] 15))) = ((((0) * 256 + b13) * 256 + b14) * 256 + b15) * 256 + b16 from tl_step _ _ (by omega) h16]
  obtain ⟨n0, e0⟩ := Int.eq_ofNat_of_zero_le h13.1
  obtain ⟨n1, e1⟩ := Int.eq_ofNat_of_zero_le h14.1
  obtain ⟨n2, e2⟩ := Int.eq_ofNat_of_zero_le h15.1
  obtain ⟨n3, e3⟩ := Int.eq_ofNat_of_zero_le h16.1
  have hn : ((((0) * 256 + b13) * 256 + b14) * 256 + b15) * 256 + b16 = ((n0 * 16777216 + n1 * 65536 + n2 * 256 + n3 : Nat) : Int) := by omega
  rw [lanternref05_Tail.l0, if_neg (by decide), hn, refV4_f _ (by omega) _ (by omega), V4_bytes n0 n1 n2 n3 (by omega) (by omega) (by omega) (by omega), Option.bind_some, e0, e1, e2, e3]
  try rfl
theorem tail2_f (k : Nat) (hk : 20 ≤ k) (b : Bool) (b1 b2 b3 b4 b5 b6 b7 b8 b9 b10 b11 b12 b13 b14 b15 b16 : Int) (h1 : 0 ≤ b1 ∧ b1 < 256) (h2 : 0 ≤ b2 ∧ b2 < 256) (h3 : 0 ≤ b3 ∧ b3 < 256) (h4 : 0 ≤ b4 ∧ b4 < 256) (h5 : 0 ≤ b5 ∧ b5 < 256) (h6 : 0 ≤ b6 ∧ b6 < 256) (h7 : 0 ≤ b7 ∧ b7 < 256) (h8 : 0 ≤ b8 ∧ b8 < 256) (h9 : 0 ≤ b9 ∧ b9 < 256) (h10 : 0 ≤ b10 ∧ b10 < 256) (h11 : 0 ≤ b11 ∧ b11 < 256) (h12 : 0 ≤ b12 ∧ b12 < 256) (h13 : 0 ≤ b13 ∧ b13 < 256) (h14 : 0 ≤ b14 ∧ b14 < 256) (h15 : 0 ≤ b15 ∧ b15 < 256) (h16 : 0 ≤ b16 ∧ b16 < 256) : lanternref05_Tail.f k b b1 b2 b3 b4 b5 b6 b7 b8 b9 b10 b11 b12 b13 b14 b15 b16 2 = some (V4T b3 b4 b5 b6) := by
  obtain ⟨k, rfl⟩ : ∃ j, k = j + 5 := ⟨k - 5, by omega⟩
  have g0 : wrap64 (2 + 0) = 2 := by rw [wrap_id (by decide) (by decide)]; rfl
  have g1 : wrap64 (2 + 1) = 3 := by rw [wrap_id (by decide) (by decide)]; rfl
  have g2 : wrap64 (2 + 2) = 4 := by rw [wrap_id (by decide) (by decide)]; rfl
  have g3 : wrap64 (2 + 3) = 5 := by rw [wrap_id (by decide) (by decide)]; rfl
  rw [lanternref05_Tail.f]
  rw [lanternref05_Tail.l0, if_pos (by decide), g0, if_pos (by decide), if_pos (by decide), wl0]
  rw [show IntKind.u64.wrap ((IntKind.u64.wrap ((0) * 256)) + (IntKind.u64.wrap (rd [b1, b2, b3, b4, b5, b6, b7, b8, b9, b10, b11, b12, b13, b14, b15, b16] 2))) = (0) * 256 + b3 from tl_step _ _ (by omega) h3]
  rw [lanternref05_Tail.l0, if_pos (by decide), g1, if_pos (by decide), if_pos (by decide), wl1]
  rw [show IntKind.u64.wrap ((IntKind.u64.wrap (((0) * 256 + b3) * 256)) + (IntKind.u64.wrap (rd [b1, b2, b3, b4, b5, b6, b7, b8, b9, b10, b11, b12, b13, b14, b15, b16] 3))) = ((0) * 256 + b3) * 256 + b4 from tl_step _ _ (by omega) h4]
  rw [lanternref05_Tail.l0, if_pos (by decide), g2, if_pos (by decide), if_pos (by decide), wl2]
  rw [show IntKind.u64.wrap ((IntKind.u64.wrap ((((0) * 256 + b3) * 256 + b4) * 256)) + (IntKind.u64.wrap (rd [b1, b2, b3, b4, b5, b6, b7, b8, b9, b10, b11, b12, b13, b14, b15, b16] 4))) = (((0) * 256 + b3) * 256 + b4) * 256 + b5 from tl_step _ _ (by omega) h5]
  rw [lanternref05_Tail.l0, if_pos (by decide), g3, if_pos (by decide), if_pos (by decide), wl3]
  rw [show IntKind.u64.wrap ((IntKind.u64.wrap (((((0) * 256 + b3) * 256 + b4) * 256 + b5) * 256)) + (IntKind.u64.wrap (rd [b1, b2, b3, b4, b5, b6, b7, b8, b9, b10, b11, b12, b13, b14, b15, b16] 5))) = ((((0) * 256 + b3) * 256 + b4) * 256 + b5) * 256 + b6 from tl_step _ _ (by omega) h6]
  obtain ⟨n0, e0⟩ := Int.eq_ofNat_of_zero_le h3.1
  obtain ⟨n1, e1⟩ := Int.eq_ofNat_of_zero_le h4.1
  obtain ⟨n2, e2⟩ := Int.eq_ofNat_of_zero_le h5.1
  obtain ⟨n3, e3⟩ := Int.eq_ofNat_of_zero_le h6.1
  have hn : ((((0) * 256 + b3) * 256 + b4) * 256 + b5) * 256 + b6 = ((n0 * 16777216 + n1 * 65536 + n2 * 256 + n3 : Nat) : Int) := by omega
  rw [lanternref05_Tail.l0, if_neg (by decide), hn, refV4_f _ (by omega) _ (by omega), V4_bytes n0 n1 n2 n3 (by omega) (by omega) (by omega) (by omega), Option.bind_some, e0, e1, e2, e3]
  try rfl
theorem last_f (a c d e : Int) : ip_last.f [a, c, d, e] = some (V4T a c d e) := by
  have hl : ([a, c, d, e] : List Int).length = 4 := rfl
  rw [ip_last.f, hl, if_pos (by decide), if_pos (by decide), if_pos (by decide), if_pos (by decide)]
  rfl
theorem rn4 (k : Nat) (x : Bool) (b : Bool) (b1 b2 b3 b4 b5 b6 b7 b8 b9 b10 b11 b12 b13 b14 b15 b16 : Int) : lanternref05_Embeds.l0 (k + 1) x 4 b b1 b2 b3 b4 b5 b6 b7 b8 b9 b10 b11 b12 b13 b14 b15 b16 = lanternref05_Embeds.l0 k (x && (b5 == 0)) 5 b b1 b2 b3 b4 b5 b6 b7 b8 b9 b10 b11 b12 b13 b14 b15 b16 := by
  rw [lanternref05_Embeds.l0, if_pos (by decide), wl4]
  cases x
  · rw [if_neg (by decide)]; rfl
  · rw [if_pos rfl, if_pos (by decide), if_pos (by decide)]; rfl
theorem rn5 (k : Nat) (x : Bool) (b : Bool) (b1 b2 b3 b4 b5 b6 b7 b8 b9 b10 b11 b12 b13 b14 b15 b16 : Int) : lanternref05_Embeds.l0 (k + 1) x 5 b b1 b2 b3 b4 b5 b6 b7 b8 b9 b10 b11 b12 b13 b14 b15 b16 = lanternref05_Embeds.l0 k (x && (b6 == 0)) 6 b b1 b2 b3 b4 b5 b6 b7 b8 b9 b10 b11 b12 b13 b14 b15 b16 := by
  rw [lanternref05_Embeds.l0, if_pos (by decide), wl5]
  cases x
  · rw [if_neg (by decide)]; rfl
  · rw [if_pos rfl, if_pos (by decide), if_pos (by decide)]; rfl
theorem rn6 (k : Nat) (x : Bool) (b : Bool) (b1 b2 b3 b4 b5 b6 b7 b8 b9 b10 b11 b12 b13 b14 b15 b16 : Int) : lanternref05_Embeds.l0 (k + 1) x 6 b b1 b2 b3 b4 b5 b6 b7 b8 b9 b10 b11 b12 b13 b14 b15 b16 = lanternref05_Embeds.l0 k (x && (b7 == 0)) 7 b b1 b2 b3 b4 b5 b6 b7 b8 b9 b10 b11 b12 b13 b14 b15 b16 := by
  rw [lanternref05_Embeds.l0, if_pos (by decide), wl6]
  cases x
  · rw [if_neg (by decide)]; rfl
  · rw [if_pos rfl, if_pos (by decide), if_pos (by decide)]; rfl
theorem rn7 (k : Nat) (x : Bool) (b : Bool) (b1 b2 b3 b4 b5 b6 b7 b8 b9 b10 b11 b12 b13 b14 b15 b16 : Int) : lanternref05_Embeds.l0 (k + 1) x 7 b b1 b2 b3 b4 b5 b6 b7 b8 b9 b10 b11 b12 b13 b14 b15 b16 = lanternref05_Embeds.l0 k (x && (b8 == 0)) 8 b b1 b2 b3 b4 b5 b6 b7 b8 b9 b10 b11 b12 b13 b14 b15 b16 := by
  rw [lanternref05_Embeds.l0, if_pos (by decide), wl7]
  cases x
  · rw [if_neg (by decide)]; rfl
  · rw [if_pos rfl, if_pos (by decide), if_pos (by decide)]; rfl
theorem rn8 (k : Nat) (x : Bool) (b : Bool) (b1 b2 b3 b4 b5 b6 b7 b8 b9 b10 b11 b12 b13 b14 b15 b16 : Int) : lanternref05_Embeds.l0 (k + 1) x 8 b b1 b2 b3 b4 b5 b6 b7 b8 b9 b10 b11 b12 b13 b14 b15 b16 = lanternref05_Embeds.l0 k (x && (b9 == 0)) 9 b b1 b2 b3 b4 b5 b6 b7 b8 b9 b10 b11 b12 b13 b14 b15 b16 := by
  rw [lanternref05_Embeds.l0, if_pos (by decide), wl8]
  cases x
  · rw [if_neg (by decide)]; rfl
  · rw [if_pos rfl, if_pos (by decide), if_pos (by decide)]; rfl
theorem rn9 (k : Nat) (x : Bool) (b : Bool) (b1 b2 b3 b4 b5 b6 b7 b8 b9 b10 b11 b12 b13 b14 b15 b16 : Int) : lanternref05_Embeds.l0 (k + 1) x 9 b b1 b2 b3 b4 b5 b6 b7 b8 b9 b10 b11 b12 b13 b14 b15 b16 = lanternref05_Embeds.l0 k (x && (b10 == 0)) 10 b b1 b2 b3 b4 b5 b6 b7 b8 b9 b10 b11 b12 b13 b14 b15 b16 := by
  rw [lanternref05_Embeds.l0, if_pos (by decide), wl9]
  cases x
  · rw [if_neg (by decide)]; rfl
  · rw [if_pos rfl, if_pos (by decide), if_pos (by decide)]; rfl
theorem rn10 (k : Nat) (x : Bool) (b : Bool) (b1 b2 b3 b4 b5 b6 b7 b8 b9 b10 b11 b12 b13 b14 b15 b16 : Int) : lanternref05_Embeds.l0 (k + 1) x 10 b b1 b2 b3 b4 b5 b6 b7 b8 b9 b10 b11 b12 b13 b14 b15 b16 = lanternref05_Embeds.l0 k (x && (b11 == 0)) 11 b b1 b2 b3 b4 b5 b6 b7 b8 b9 b10 b11 b12 b13 b14 b15 b16 := by
  rw [lanternref05_Embeds.l0, if_pos (by decide), wl10]
  cases x
  · rw [if_neg (by decide)]; rfl
  · rw [if_pos rfl, if_pos (by decide), if_pos (by decide)]; rfl
theorem rn11 (k : Nat) (x : Bool) (b : Bool) (b1 b2 b3 b4 b5 b6 b7 b8 b9 b10 b11 b12 b13 b14 b15 b16 : Int) : lanternref05_Embeds.l0 (k + 1) x 11 b b1 b2 b3 b4 b5 b6 b7 b8 b9 b10 b11 b12 b13 b14 b15 b16 = lanternref05_Embeds.l0 k (x && (b12 == 0)) 12 b b1 b2 b3 b4 b5 b6 b7 b8 b9 b10 b11 b12 b13 b14 b15 b16 := by
  rw [lanternref05_Embeds.l0, if_pos (by decide), wl11]
  cases x
  · rw [if_neg (by decide)]; rfl
  · rw [if_pos rfl, if_pos (by decide), if_pos (by decide)]; rfl
theorem u8n (b : Int) (h : 0 ≤ b ∧ b < 256) (c : Nat) (hc : c < 256) : UInt8.ofNat b.toNat = UInt8.ofNat c ↔ b = (c : Int) := by
  constructor
  · intro e
    have := congrArg UInt8.toNat e
    rw [UInt8.toNat_ofNat', UInt8.toNat_ofNat'] at this
    omega
  · rintro rfl; rw [Int.toNat_natCast]
theorem head1 (b1 b2 b3 b4 b5 b6 b7 b8 b9 b10 b11 b12 : Int) (h1 : 0 ≤ b1 ∧ b1 < 256) (h2 : 0 ≤ b2 ∧ b2 < 256) (h3 : 0 ≤ b3 ∧ b3 < 256) (h4 : 0 ≤ b4 ∧ b4 < 256) (h5 : 0 ≤ b5 ∧ b5 < 256) (h6 : 0 ≤ b6 ∧ b6 < 256) (h7 : 0 ≤ b7 ∧ b7 < 256) (h8 : 0 ≤ b8 ∧ b8 < 256) (h9 : 0 ≤ b9 ∧ b9 < 256) (h10 : 0 ≤ b10 ∧ b10 < 256) (h11 : 0 ≤ b11 ∧ b11 < 256) (h12 : 0 ≤ b12 ∧ b12 < 256) : ((strOfNums ([b1, b2, b3, b4, b5, b6, b7, b8, b9, b10, b11, b12] : List Int)).toList = ([0, 100, 255, 155, 0, 0, 0, 0, 0, 0, 0, 0] : List UInt8)) ↔ (b1 = 0 ∧ b2 = 100 ∧ b3 = 255 ∧ b4 = 155 ∧ b5 = 0 ∧ b6 = 0 ∧ b7 = 0 ∧ b8 = 0 ∧ b9 = 0 ∧ b10 = 0 ∧ b11 = 0 ∧ b12 = 0) := by
  rw [strOfNums_toList]
  show [UInt8.ofNat b1.toNat, UInt8.ofNat b2.toNat, UInt8.ofNat b3.toNat, UInt8.ofNat b4.toNat, UInt8.ofNat b5.toNat, UInt8.ofNat b6.toNat, UInt8.ofNat b7.toNat, UInt8.ofNat b8.toNat, UInt8.ofNat b9.toNat, UInt8.ofNat b10.toNat, UInt8.ofNat b11.toNat, UInt8.ofNat b12.toNat] = [UInt8.ofNat 0, UInt8.ofNat 100, UInt8.ofNat 255, UInt8.ofNat 155, UInt8.ofNat 0, UInt8.ofNat 0, UInt8.ofNat 0, UInt8.ofNat 0, UInt8.ofNat 0, UInt8.ofNat 0, UInt8.ofNat 0, UInt8.ofNat 0] ↔ _
  simp only [List.cons.injEq, and_true]
  rw [u8n b1 h1 0 (by decide), u8n b2 h2 100 (by decide), u8n b3 h3 255 (by decide), u8n b4 h4 155 (by decide), u8n b5 h5 0 (by decide), u8n b6 h6 0 (by decide), u8n b7 h7 0 (by decide), u8n b8 h8 0 (by decide), u8n b9 h9 0 (by decide), u8n b10 h10 0 (by decide), u8n b11 h11 0 (by decide), u8n b12 h12 0 (by decide)]
  constructor <;> (intro h; simpa using h)
theorem head0 (b1 b2 b3 b4 b5 b6 b7 b8 b9 b10 b11 b12 : Int) (h1 : 0 ≤ b1 ∧ b1 < 256) (h2 : 0 ≤ b2 ∧ b2 < 256) (h3 : 0 ≤ b3 ∧ b3 < 256) (h4 : 0 ≤ b4 ∧ b4 < 256) (h5 : 0 ≤ b5 ∧ b5 < 256) (h6 : 0 ≤ b6 ∧ b6 < 256) (h7 : 0 ≤ b7 ∧ b7 < 256) (h8 : 0 ≤ b8 ∧ b8 < 256) (h9 : 0 ≤ b9 ∧ b9 < 256) (h10 : 0 ≤ b10 ∧ b10 < 256) (h11 : 0 ≤ b11 ∧ b11 < 256) (h12 : 0 ≤ b12 ∧ b12 < 256) : ((strOfNums ([b1, b2, b3, b4, b5, b6, b7, b8, b9, b10, b11, b12] : List Int)).toList = ([0, 0, 0, 0, 0, 0, 0, 0, 0, 0, 0, 0] : List UInt8)) ↔ (b1 = 0 ∧ b2 = 0 ∧ b3 = 0 ∧ b4 = 0 ∧ b5 = 0 ∧ b6 = 0 ∧ b7 = 0 ∧ b8 = 0 ∧ b9 = 0 ∧ b10 = 0 ∧ b11 = 0 ∧ b12 = 0) := by
  rw [strOfNums_toList]
  show [UInt8.ofNat b1.toNat, UInt8.ofNat b2.toNat, UInt8.ofNat b3.toNat, UInt8.ofNat b4.toNat, UInt8.ofNat b5.toNat, UInt8.ofNat b6.toNat, UInt8.ofNat b7.toNat, UInt8.ofNat b8.toNat, UInt8.ofNat b9.toNat, UInt8.ofNat b10.toNat, UInt8.ofNat b11.toNat, UInt8.ofNat b12.toNat] = [UInt8.ofNat 0, UInt8.ofNat 0, UInt8.ofNat 0, UInt8.ofNat 0, UInt8.ofNat 0, UInt8.ofNat 0, UInt8.ofNat 0, UInt8.ofNat 0, UInt8.ofNat 0, UInt8.ofNat 0, UInt8.ofNat 0, UInt8.ofNat 0] ↔ _
  simp only [List.cons.injEq, and_true]
  rw [u8n b1 h1 0 (by decide), u8n b2 h2 0 (by decide), u8n b3 h3 0 (by decide), u8n b4 h4 0 (by decide), u8n b5 h5 0 (by decide), u8n b6 h6 0 (by decide), u8n b7 h7 0 (by decide), u8n b8 h8 0 (by decide), u8n b9 h9 0 (by decide), u8n b10 h10 0 (by decide), u8n b11 h11 0 (by decide), u8n b12 h12 0 (by decide)]
  constructor <;> (intro h; simpa using h)
theorem first_f (b1 b2 b3 b4 : Int) (h1 : 0 ≤ b1 ∧ b1 < 256) (h2 : 0 ≤ b2 ∧ b2 < 256) (h3 : 0 ≤ b3 ∧ b3 < 256) (h4 : 0 ≤ b4 ∧ b4 < 256) : wrap64 ((wrap64 ((wrap64 ((wrap64 ((wrap64 (b1)) * 16777216)) + (wrap64 ((wrap64 (b2)) * 65536)))) + (wrap64 ((wrap64 (b3)) * 256)))) + (wrap64 (b4))) = b1 * 16777216 + b2 * 65536 + b3 * 256 + b4 := by
  have w1 : wrap64 b1 = b1 := wrap_id (by omega) (by omega)
  have w2 : wrap64 b2 = b2 := wrap_id (by omega) (by omega)
  have w3 : wrap64 b3 = b3 := wrap_id (by omega) (by omega)
  have w4 : wrap64 b4 = b4 := wrap_id (by omega) (by omega)
  have v1 : wrap64 (b1 * 16777216) = b1 * 16777216 := wrap_id (by omega) (by omega)
  have v2 : wrap64 (b2 * 65536) = b2 * 65536 := wrap_id (by omega) (by omega)
  have v3 : wrap64 (b3 * 256) = b3 * 256 := wrap_id (by omega) (by omega)
  have s1 : wrap64 (b1 * 16777216 + b2 * 65536) = b1 * 16777216 + b2 * 65536 := wrap_id (by omega) (by omega)
  have s2 : wrap64 (b1 * 16777216 + b2 * 65536 + b3 * 256) = b1 * 16777216 + b2 * 65536 + b3 * 256 := wrap_id (by omega) (by omega)
  rw [w1, w2, w3, w4, v1, v2, v3, s1, s2]; exact wrap_id (by omega) (by omega)
/-- The IPv4 that an IPv6 carries. -/
def embV (b1 b2 b3 b4 b5 b6 b7 b8 b9 b10 b11 b12 b13 b14 b15 b16 : Int) : Bool × Int × Int × Int × Int × Int × Int × Int × Int × Int × Int × Int × Int × Int × Int × Int × Int × Bool :=
  if mapB b1 b2 b3 b4 b5 b6 b7 b8 b9 b10 b11 b12 = true then T18b (V4T b13 b14 b15 b16) true
  else if b1 = 0 ∧ b2 = 100 ∧ b3 = 255 ∧ b4 = 155 ∧ b5 = 0 ∧ b6 = 0 ∧ b7 = 0 ∧ b8 = 0 ∧ b9 = 0 ∧ b10 = 0 ∧ b11 = 0 ∧ b12 = 0 then T18b (V4T b13 b14 b15 b16) true
  else if b1 = 0 ∧ b2 = 0 ∧ b3 = 0 ∧ b4 = 0 ∧ b5 = 0 ∧ b6 = 0 ∧ b7 = 0 ∧ b8 = 0 ∧ b9 = 0 ∧ b10 = 0 ∧ b11 = 0 ∧ b12 = 0 then (if (b13 = 0 ∧ b14 = 0 ∧ b15 = 0 ∧ b16 = 0) ∨ (b13 = 0 ∧ b14 = 0 ∧ b15 = 0 ∧ b16 = 1) then T18b zT false else T18b (V4T b13 b14 b15 b16) true)
  else if b1 = 32 ∧ b2 = 2 then T18b (V4T b3 b4 b5 b6) true else T18b zT false
theorem embeds_f (k : Nat) (hk : 2 ≤ k) (b : Bool) (b1 b2 b3 b4 b5 b6 b7 b8 b9 b10 b11 b12 b13 b14 b15 b16 : Int) (h1 : 0 ≤ b1 ∧ b1 < 256) (h2 : 0 ≤ b2 ∧ b2 < 256) (h3 : 0 ≤ b3 ∧ b3 < 256) (h4 : 0 ≤ b4 ∧ b4 < 256) (h5 : 0 ≤ b5 ∧ b5 < 256) (h6 : 0 ≤ b6 ∧ b6 < 256) (h7 : 0 ≤ b7 ∧ b7 < 256) (h8 : 0 ≤ b8 ∧ b8 < 256) (h9 : 0 ≤ b9 ∧ b9 < 256) (h10 : 0 ≤ b10 ∧ b10 < 256) (h11 : 0 ≤ b11 ∧ b11 < 256) (h12 : 0 ≤ b12 ∧ b12 < 256) (h13 : 0 ≤ b13 ∧ b13 < 256) (h14 : 0 ≤ b14 ∧ b14 < 256) (h15 : 0 ≤ b15 ∧ b15 < 256) (h16 : 0 ≤ b16 ∧ b16 < 256) : ip_Embeds.f k b b1 b2 b3 b4 b5 b6 b7 b8 b9 b10 b11 b12 b13 b14 b15 b16 = some (if b = true then embV b1 b2 b3 b4 b5 b6 b7 b8 b9 b10 b11 b12 b13 b14 b15 b16 else T18b zT false) := by
  obtain ⟨k, rfl⟩ : ∃ j, k = j + 1 := ⟨k - 1, by omega⟩
  rw [ip_Embeds.f]
  cases b
  · rfl
  · rw [if_pos rfl, if_pos rfl, mapped_f, Option.bind_some, Bool.true_and]
    unfold embV
    by_cases hm : mapB b1 b2 b3 b4 b5 b6 b7 b8 b9 b10 b11 b12 = true
    · rw [if_pos hm, ip_Embeds.j0, if_pos hm, last_f, Option.bind_some, if_pos hm]; rfl
    · rw [if_neg hm, ip_Embeds.j0, if_neg hm]
      by_cases hd1 : (strOfNums ([b1, b2, b3, b4, b5, b6, b7, b8, b9, b10, b11, b12] : List Int)).toList = ([0, 100, 255, 155, 0, 0, 0, 0, 0, 0, 0, 0] : List UInt8)
      · rw [if_pos (beq_iff_eq.mpr hd1), last_f, Option.bind_some, if_pos ((head1 b1 b2 b3 b4 b5 b6 b7 b8 b9 b10 b11 b12 h1 h2 h3 h4 h5 h6 h7 h8 h9 h10 h11 h12).1 hd1)]; rfl
      · rw [if_neg (fun h => hd1 (beq_iff_eq.mp h)), if_neg (fun h => hd1 ((head1 b1 b2 b3 b4 b5 b6 b7 b8 b9 b10 b11 b12 h1 h2 h3 h4 h5 h6 h7 h8 h9 h10 h11 h12).2 h))]
        by_cases h0 : (strOfNums ([b1, b2, b3, b4, b5, b6, b7, b8, b9, b10, b11, b12] : List Int)).toList = ([0, 0, 0, 0, 0, 0, 0, 0, 0, 0, 0, 0] : List UInt8)
        · rw [if_pos h0, last_f, Option.bind_some, ip_V4.f, Option.bind_some, ip_V4.f, Option.bind_some, if_pos ((head0 b1 b2 b3 b4 b5 b6 b7 b8 b9 b10 b11 b12 h1 h2 h3 h4 h5 h6 h7 h8 h9 h10 h11 h12).1 h0)]
          dsimp only [V4T]
          simp only [beq_self_eq_true, Bool.true_and, Bool.and_eq_true, beq_iff_eq]
          by_cases ca : b13 = 0 ∧ b14 = 0 ∧ b15 = 0 ∧ b16 = 0
          · rw [if_pos ca, if_pos (Or.inl ca)]; rfl
          · rw [if_neg ca]
            by_cases cb : b13 = 0 ∧ b14 = 0 ∧ b15 = 0 ∧ b16 = 1
            · rw [if_pos cb, if_pos (Or.inr cb)]; rfl
            · rw [if_neg cb, if_neg (by rintro (h | h); exact ca h; exact cb h)]; rfl
        · rw [if_neg h0, if_neg (fun h => h0 ((head0 b1 b2 b3 b4 b5 b6 b7 b8 b9 b10 b11 b12 h1 h2 h3 h4 h5 h6 h7 h8 h9 h10 h11 h12).2 h))]
          by_cases c1 : b1 = 32
          · rw [if_pos c1]
            by_cases c2 : b2 = 2
            · rw [if_pos c2, last_f, Option.bind_some, if_pos ⟨c1, c2⟩]; rfl
            · rw [if_neg c2, if_neg (fun h => c2 h.2)]; rfl
          · rw [if_neg c1, if_neg (fun h => c1 h.1)]; rfl
theorem td16 (x : Int) (h : 0 ≤ x ∧ x < 4294967296) : wrap64 (Int.tdiv x 65536) = x / 65536 := by
  rw [Int.tdiv_eq_ediv_of_nonneg h.1]; exact wrap_id (by omega) (by omega)
theorem r05 (k : Nat) (hk : 5 ≤ k) : lanternref05_V4.f k 0 = some (V4T 0 0 0 0) := refV4_f 0 (by decide) k hk
theorem r15 (k : Nat) (hk : 5 ≤ k) : lanternref05_V4.f k 1 = some (V4T 0 0 0 1) := refV4_f 1 (by decide) k hk
theorem refend_f (k : Nat) (hk : 30 ≤ k) (x : Bool) (b : Bool) (b1 b2 b3 b4 b5 b6 b7 b8 b9 b10 b11 b12 b13 b14 b15 b16 : Int) (h1 : 0 ≤ b1 ∧ b1 < 256) (h2 : 0 ≤ b2 ∧ b2 < 256) (h3 : 0 ≤ b3 ∧ b3 < 256) (h4 : 0 ≤ b4 ∧ b4 < 256) (h5 : 0 ≤ b5 ∧ b5 < 256) (h6 : 0 ≤ b6 ∧ b6 < 256) (h7 : 0 ≤ b7 ∧ b7 < 256) (h8 : 0 ≤ b8 ∧ b8 < 256) (h9 : 0 ≤ b9 ∧ b9 < 256) (h10 : 0 ≤ b10 ∧ b10 < 256) (h11 : 0 ≤ b11 ∧ b11 < 256) (h12 : 0 ≤ b12 ∧ b12 < 256) (h13 : 0 ≤ b13 ∧ b13 < 256) (h14 : 0 ≤ b14 ∧ b14 < 256) (h15 : 0 ≤ b15 ∧ b15 < 256) (h16 : 0 ≤ b16 ∧ b16 < 256) (hf : x = true → (b1 * 16777216 + b2 * 65536 + b3 * 256 + b4) = 0 → False) : lanternref05_Embeds.j2 (k + 1) (b1 * 16777216 + b2 * 65536 + b3 * 256 + b4) (x && ((b1 * 16777216 + b2 * 65536 + b3 * 256 + b4) == 0)) b b1 b2 b3 b4 b5 b6 b7 b8 b9 b10 b11 b12 b13 b14 b15 b16 = some (if b1 = 32 ∧ b2 = 2 then T18b (V4T b3 b4 b5 b6) true else T18b zT false) := by
  have hx : (x && ((b1 * 16777216 + b2 * 65536 + b3 * 256 + b4) == 0)) = false := by
    cases x
    · rfl
    · rw [Bool.true_and]; exact beq_eq_false_iff_ne.mpr (hf rfl)
  rw [hx, lanternref05_Embeds.j2, if_neg (by decide), td16 _ (by omega)]
  by_cases c : b1 = 32 ∧ b2 = 2
  · rw [if_pos (by omega), tail2_f k (by omega) b b1 b2 b3 b4 b5 b6 b7 b8 b9 b10 b11 b12 b13 b14 b15 b16 h1 h2 h3 h4 h5 h6 h7 h8 h9 h10 h11 h12 h13 h14 h15 h16, Option.bind_some, if_pos c]; rfl
  · rw [if_neg (by omega), if_neg c]; rfl
def noB (b5 b6 b7 b8 b9 b10 b11 b12 : Int) : Bool := ((((((((true && (b5 == 0)) && (b6 == 0)) && (b7 == 0)) && (b8 == 0)) && (b9 == 0)) && (b10 == 0)) && (b11 == 0)) && (b12 == 0))
theorem noB_iff (b5 b6 b7 b8 b9 b10 b11 b12 : Int) : noB b5 b6 b7 b8 b9 b10 b11 b12 = true ↔ b5 = 0 ∧ b6 = 0 ∧ b7 = 0 ∧ b8 = 0 ∧ b9 = 0 ∧ b10 = 0 ∧ b11 = 0 ∧ b12 = 0 := by
  unfold noB
  simp only [Bool.true_and, Bool.and_eq_true, beq_iff_eq, and_assoc]
theorem refEmbeds_f (k : Nat) (hk : 60 ≤ k) (b : Bool) (b1 b2 b3 b4 b5 b6 b7 b8 b9 b10 b11 b12 b13 b14 b15 b16 : Int) (h1 : 0 ≤ b1 ∧ b1 < 256) (h2 : 0 ≤ b2 ∧ b2 < 256) (h3 : 0 ≤ b3 ∧ b3 < 256) (h4 : 0 ≤ b4 ∧ b4 < 256) (h5 : 0 ≤ b5 ∧ b5 < 256) (h6 : 0 ≤ b6 ∧ b6 < 256) (h7 : 0 ≤ b7 ∧ b7 < 256) (h8 : 0 ≤ b8 ∧ b8 < 256) (h9 : 0 ≤ b9 ∧ b9 < 256) (h10 : 0 ≤ b10 ∧ b10 < 256) (h11 : 0 ≤ b11 ∧ b11 < 256) (h12 : 0 ≤ b12 ∧ b12 < 256) (h13 : 0 ≤ b13 ∧ b13 < 256) (h14 : 0 ≤ b14 ∧ b14 < 256) (h15 : 0 ≤ b15 ∧ b15 < 256) (h16 : 0 ≤ b16 ∧ b16 < 256) : lanternref05_Embeds.f k b b1 b2 b3 b4 b5 b6 b7 b8 b9 b10 b11 b12 b13 b14 b15 b16 = some (if b = true then embV b1 b2 b3 b4 b5 b6 b7 b8 b9 b10 b11 b12 b13 b14 b15 b16 else T18b zT false) := by
  obtain ⟨k, rfl⟩ : ∃ j, k = j + 11 := ⟨k - 11, by omega⟩
  rw [lanternref05_Embeds.f]
  cases b
  · rfl
  · rw [if_pos rfl, if_pos rfl, rn4, rn5, rn6, rn7, rn8, rn9, rn10, rn11]
    show lanternref05_Embeds.l0 (k + 2 + 1) (noB b5 b6 b7 b8 b9 b10 b11 b12) 12 true b1 b2 b3 b4 b5 b6 b7 b8 b9 b10 b11 b12 b13 b14 b15 b16 = _
    rw [lanternref05_Embeds.l0, if_neg (by decide), refMapped_f _ (by omega), Option.bind_some, Bool.and_true, first_f b1 b2 b3 b4 h1 h2 h3 h4]
    unfold embV
    by_cases hm : mapB b1 b2 b3 b4 b5 b6 b7 b8 b9 b10 b11 b12 = true
    · rw [if_pos hm, tail12_f _ (by omega) true b1 b2 b3 b4 b5 b6 b7 b8 b9 b10 b11 b12 b13 b14 b15 b16 h1 h2 h3 h4 h5 h6 h7 h8 h9 h10 h11 h12 h13 h14 h15 h16, Option.bind_some, if_pos hm]; rfl
    · rw [if_neg hm, if_neg hm]
      by_cases hn : noB b5 b6 b7 b8 b9 b10 b11 b12 = true
      · have hz := (noB_iff b5 b6 b7 b8 b9 b10 b11 b12).1 hn
        obtain ⟨z5, z6, z7, z8, z9, z10, z11, z12⟩ := hz
        rw [if_pos hn, lanternref05_Embeds.j1]
        by_cases hf : (b1 * 16777216 + b2 * 65536 + b3 * 256 + b4) = 6619035
        · rw [if_pos (beq_iff_eq.mpr hf), tail12_f _ (by omega) true b1 b2 b3 b4 b5 b6 b7 b8 b9 b10 b11 b12 b13 b14 b15 b16 h1 h2 h3 h4 h5 h6 h7 h8 h9 h10 h11 h12 h13 h14 h15 h16, Option.bind_some, if_pos ⟨by omega, by omega, by omega, by omega, z5, z6, z7, z8, z9, z10, z11, z12⟩]; rfl
        · rw [if_neg (fun h => hf (beq_iff_eq.mp h)), if_pos hn, if_neg (by rintro ⟨y1, y2, y3, y4, _⟩; omega)]
          by_cases h0 : (b1 * 16777216 + b2 * 65536 + b3 * 256 + b4) = 0
          · rw [lanternref05_Embeds.j2, if_pos (beq_iff_eq.mpr h0), tail12_f _ (by omega) true b1 b2 b3 b4 b5 b6 b7 b8 b9 b10 b11 b12 b13 b14 b15 b16 h1 h2 h3 h4 h5 h6 h7 h8 h9 h10 h11 h12 h13 h14 h15 h16, Option.bind_some, r05 _ (by omega), Option.bind_some, r15 _ (by omega), Option.bind_some, if_pos (show b1 = 0 ∧ b2 = 0 ∧ b3 = 0 ∧ b4 = 0 ∧ b5 = 0 ∧ b6 = 0 ∧ b7 = 0 ∧ b8 = 0 ∧ b9 = 0 ∧ b10 = 0 ∧ b11 = 0 ∧ b12 = 0 from ⟨by omega, by omega, by omega, by omega, z5, z6, z7, z8, z9, z10, z11, z12⟩)]
            dsimp only [V4T]
            simp only [beq_self_eq_true, Bool.true_and, Bool.and_eq_true, beq_iff_eq]
            by_cases ca : b13 = 0 ∧ b14 = 0 ∧ b15 = 0 ∧ b16 = 0
            · rw [if_pos ca, if_pos (Or.inl ca)]; rfl
            · rw [if_neg ca]
              by_cases cb : b13 = 0 ∧ b14 = 0 ∧ b15 = 0 ∧ b16 = 1
              · rw [if_pos cb, if_pos (Or.inr cb)]; rfl
              · rw [if_neg cb, if_neg (by rintro (h | h); exact ca h; exact cb h)]; rfl
          · rw [if_neg (by rintro ⟨y1, y2, y3, y4, _⟩; omega)]
            exact refend_f k (by omega) true true b1 b2 b3 b4 b5 b6 b7 b8 b9 b10 b11 b12 b13 b14 b15 b16 h1 h2 h3 h4 h5 h6 h7 h8 h9 h10 h11 h12 h13 h14 h15 h16 (fun _ h => h0 h)
      · have hnf : noB b5 b6 b7 b8 b9 b10 b11 b12 = false := by simpa using hn
        rw [if_neg hn, lanternref05_Embeds.j1, if_neg (by decide), if_neg hn, if_neg (by rintro ⟨_, _, _, _, y⟩; exact hn ((noB_iff b5 b6 b7 b8 b9 b10 b11 b12).2 y)), if_neg (by rintro ⟨_, _, _, _, y⟩; exact hn ((noB_iff b5 b6 b7 b8 b9 b10 b11 b12).2 y))]
        exact refend_f k (by omega) false true b1 b2 b3 b4 b5 b6 b7 b8 b9 b10 b11 b12 b13 b14 b15 b16 h1 h2 h3 h4 h5 h6 h7 h8 h9 h10 h11 h12 h13 h14 h15 h16 (fun h => by cases h)
theorem unmap_f (b : Bool) (b1 b2 b3 b4 b5 b6 b7 b8 b9 b10 b11 b12 b13 b14 b15 b16 : Int) : ip_Unmap.f b b1 b2 b3 b4 b5 b6 b7 b8 b9 b10 b11 b12 b13 b14 b15 b16 = some (if (b && mapB b1 b2 b3 b4 b5 b6 b7 b8 b9 b10 b11 b12) = true then V4T b13 b14 b15 b16 else (b, b1, b2, b3, b4, b5, b6, b7, b8, b9, b10, b11, b12, b13, b14, b15, b16)) := by
  rw [ip_Unmap.f, mapped_f, Option.bind_some]
  by_cases h : (b && mapB b1 b2 b3 b4 b5 b6 b7 b8 b9 b10 b11 b12) = true
  · rw [if_pos h, if_pos h, last_f, Option.bind_some]; try rfl
  · rw [if_neg h, if_neg h]
end Go.Proofs.YtdopafhppaalfaaDoor.Q
