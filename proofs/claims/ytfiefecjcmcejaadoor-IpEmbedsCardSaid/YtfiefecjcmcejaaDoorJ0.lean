/- What the law IpEmbeds needs beside its own. (Put together by wip/gen/gen_j0.py.) -/
import Derived.Test.YtfiefecjcmcejaaDoorB
import Derived.Test.YtfiefecjcmcejaaDoorP9
set_option linter.unusedSimpArgs false
set_option linter.unusedVariables false
set_option maxRecDepth 10000
namespace Go.Proofs.YtfiefecjcmcejaaDoor.Q
open Go Go.RowKit Go.Lib Go.Proofs.YtfiefecjcmcejaaDoorW.PrintWords Go.Proofs.YtfiefecjcmcejaaDoorW.PrintMore Go.Proofs.YtfiefecjcmcejaaDoorB Go.Proofs.YtfiefecjcmcejaaDoor.E Go.Proofs.YtfiefecjcmcejaaDoorV Go.Proofs.YtfiefecjcmcejaaDoor.P

abbrev Tup := Bool × Int × Int × Int × Int × Int × Int × Int × Int × Int × Int × Int × Int × Int × Int × Int × Int
theorem up_to {α : Type} {f : Nat → Option α} (hm : ∀ k, LeO (f k) (f (k + 1))) {k0 : Nat} {r : α} (h : f k0 = some r) : ∀ k, k0 ≤ k → f k = some r := by
  intro k hk
  obtain ⟨j, rfl⟩ : ∃ j, k = k0 + j := ⟨k - k0, by omega⟩
  clear hk
  induction j with
  | zero => exact h
  | succ j ih => exact hm (k0 + j) _ ih
def V4T (a b c d : Int) : Bool × Int × Int × Int × Int × Int × Int × Int × Int × Int × Int × Int × Int × Int × Int × Int × Int := (false, 0, 0, 0, 0, 0, 0, 0, 0, 0, 0, 0, 0, a, b, c, d)
def V4N (n : Nat) : Bool × Int × Int × Int × Int × Int × Int × Int × Int × Int × Int × Int × Int × Int × Int × Int × Int := V4T ((n / 16777216 % 256 : Nat) : Int) ((n / 65536 % 256 : Nat) : Int) ((n / 256 % 256 : Nat) : Int) ((n % 256 : Nat) : Int)
theorem tm (n : Nat) : Int.tmod (n : Int) 256 % 256 = ((n % 256 : Nat) : Int) := by
  rw [Int.tmod_eq_emod_of_nonneg (by omega)]; omega
theorem td (n : Nat) (h : n < 4294967296) : IntKind.u64.wrap (Int.tdiv (n : Int) 256) = ((n / 256 : Nat) : Int) := by
  rw [Int.tdiv_eq_ediv_of_nonneg (by omega), IntKind.wrap_u64]; omega
theorem refV4_f (n : Nat) (h : n < 4294967296) (k : Nat) (hk : 5 ≤ k) : lanternref05_V4.f k (n : Int) = some (V4N n) := by
  obtain ⟨k, rfl⟩ : ∃ m, k = m + 5 := ⟨k - 5, by omega⟩
  have w15 : wrap64 (15 - 1) = 14 := by rw [wrap_id (by decide) (by decide)]; rfl
  have w14 : wrap64 (14 - 1) = 13 := by rw [wrap_id (by decide) (by decide)]; rfl
  have w13 : wrap64 (13 - 1) = 12 := by rw [wrap_id (by decide) (by decide)]; rfl
  have w12 : wrap64 (12 - 1) = 11 := by rw [wrap_id (by decide) (by decide)]; rfl
  have h1 : n / 256 < 4294967296 := by omega
  have h2 : n / 256 / 256 < 4294967296 := by omega
  have h3 : n / 256 / 256 / 256 < 4294967296 := by omega
  rw [lanternref05_V4.f, lanternref05_V4.l0, if_pos (by decide), if_pos (by decide), if_pos (by decide), td n h, tm n, w15,
    lanternref05_V4.l0, if_pos (by decide), if_pos (by decide), if_pos (by decide), td _ h1, tm, w14,
    lanternref05_V4.l0, if_pos (by decide), if_pos (by decide), if_pos (by decide), td _ h2, tm, w13,
    lanternref05_V4.l0, if_pos (by decide), if_pos (by decide), if_pos (by decide), td _ h3, tm, w12, lanternref05_V4.l0, if_neg (by decide)]
  have e2 : n / 256 / 256 = n / 65536 := by omega
  have e3 : n / 256 / 256 / 256 = n / 16777216 := by omega
  rw [e3, e2]
  rfl
def zT : Tup := (false, 0, 0, 0, 0, 0, 0, 0, 0, 0, 0, 0, 0, 0, 0, 0, 0)
def T18b (a : Tup) (e : Bool) : Bool × Int × Int × Int × Int × Int × Int × Int × Int × Int × Int × Int × Int × Int × Int × Int × Int × Bool :=
  (a.1, a.2.1, a.2.2.1, a.2.2.2.1, a.2.2.2.2.1, a.2.2.2.2.2.1, a.2.2.2.2.2.2.1, a.2.2.2.2.2.2.2.1, a.2.2.2.2.2.2.2.2.1, a.2.2.2.2.2.2.2.2.2.1, a.2.2.2.2.2.2.2.2.2.2.1, a.2.2.2.2.2.2.2.2.2.2.2.1, a.2.2.2.2.2.2.2.2.2.2.2.2.1, a.2.2.2.2.2.2.2.2.2.2.2.2.2.1, a.2.2.2.2.2.2.2.2.2.2.2.2.2.2.1, a.2.2.2.2.2.2.2.2.2.2.2.2.2.2.2.1, a.2.2.2.2.2.2.2.2.2.2.2.2.2.2.2.2, e)
theorem aw60 : lanternlaw05_awake.f 60 = some true := by decide +kernel
theorem awake_f (k : Nat) (hk : 60 ≤ k) : lanternlaw05_awake.f k = some true := up_to lanternlaw05_awake.mono aw60 k hk
theorem V4_bytes (a b c d : Nat) (ha : a < 256) (hb : b < 256) (hc : c < 256) (hd : d < 256) : V4N (a * 16777216 + b * 65536 + c * 256 + d) = V4T a b c d := by
  unfold V4N
  rw [show (a * 16777216 + b * 65536 + c * 256 + d) / 16777216 % 256 = a from by omega, show (a * 16777216 + b * 65536 + c * 256 + d) / 65536 % 256 = b from by omega, show (a * 16777216 + b * 65536 + c * 256 + d) / 256 % 256 = c from by omega, show (a * 16777216 + b * 65536 + c * 256 + d) % 256 = d from by omega]
end Go.Proofs.YtfiefecjcmcejaaDoor.Q
