/- The law IpPrints, plainly: groups out of bytes. -/
import Derived.Test.YtfiefecjcmcejaaDoorKB
set_option linter.unusedSimpArgs false
set_option linter.unusedVariables false
set_option maxRecDepth 10000
namespace Go.Proofs.YtfiefecjcmcejaaDoor.Q
open Go Go.RowKit Go.Lib Go.Proofs.YtfiefecjcmcejaaDoorW.PrintWords Go.Proofs.YtfiefecjcmcejaaDoorW.PrintMore Go.Proofs.YtfiefecjcmcejaaDoorB Go.Proofs.YtfiefecjcmcejaaDoor.E Go.Proofs.YtfiefecjcmcejaaDoorV Go.Proofs.YtfiefecjcmcejaaDoor.P

theorem grp (a b : Nat) (ha : a < 256) (hb : b < 256) : wrap64 ((wrap64 ((wrap64 (a : Int)) * 256)) + (wrap64 (b : Int))) = ((a * 256 + b : Nat) : Int) := by
  have e1 : wrap64 (a : Int) = (a : Int) := wrap_nat a rfl (by omega)
  have e2 : wrap64 (b : Int) = (b : Int) := wrap_nat b rfl (by omega)
  have e3 : wrap64 ((a : Int) * 256) = ((a * 256 : Nat) : Int) := wrap_nat (a * 256) (by omega) (by omega)
  rw [e1, e2, e3]
  exact wrap_nat (a * 256 + b) (by omega) (by omega)
theorem wd0 : wrap64 (2 * 0) = 0 := by rw [wrap_id (by decide) (by decide)]; rfl
theorem we0 : wrap64 (0 + 1) = 1 := by rw [wrap_id (by decide) (by decide)]; rfl
theorem wd1 : wrap64 (2 * 1) = 2 := by rw [wrap_id (by decide) (by decide)]; rfl
theorem we1 : wrap64 (2 + 1) = 3 := by rw [wrap_id (by decide) (by decide)]; rfl
theorem wf1 : wrap64 (1 + 1) = 2 := by rw [wrap_id (by decide) (by decide)]; rfl
theorem wd2 : wrap64 (2 * 2) = 4 := by rw [wrap_id (by decide) (by decide)]; rfl
theorem we2 : wrap64 (4 + 1) = 5 := by rw [wrap_id (by decide) (by decide)]; rfl
theorem wf2 : wrap64 (2 + 1) = 3 := by rw [wrap_id (by decide) (by decide)]; rfl
theorem wd3 : wrap64 (2 * 3) = 6 := by rw [wrap_id (by decide) (by decide)]; rfl
theorem we3 : wrap64 (6 + 1) = 7 := by rw [wrap_id (by decide) (by decide)]; rfl
theorem wf3 : wrap64 (3 + 1) = 4 := by rw [wrap_id (by decide) (by decide)]; rfl
theorem wd4 : wrap64 (2 * 4) = 8 := by rw [wrap_id (by decide) (by decide)]; rfl
theorem we4 : wrap64 (8 + 1) = 9 := by rw [wrap_id (by decide) (by decide)]; rfl
theorem wf4 : wrap64 (4 + 1) = 5 := by rw [wrap_id (by decide) (by decide)]; rfl
theorem wd5 : wrap64 (2 * 5) = 10 := by rw [wrap_id (by decide) (by decide)]; rfl
theorem we5 : wrap64 (10 + 1) = 11 := by rw [wrap_id (by decide) (by decide)]; rfl
theorem wf5 : wrap64 (5 + 1) = 6 := by rw [wrap_id (by decide) (by decide)]; rfl
theorem wd6 : wrap64 (2 * 6) = 12 := by rw [wrap_id (by decide) (by decide)]; rfl
theorem we6 : wrap64 (12 + 1) = 13 := by rw [wrap_id (by decide) (by decide)]; rfl
theorem wf6 : wrap64 (6 + 1) = 7 := by rw [wrap_id (by decide) (by decide)]; rfl
theorem wd7 : wrap64 (2 * 7) = 14 := by rw [wrap_id (by decide) (by decide)]; rfl
theorem we7 : wrap64 (14 + 1) = 15 := by rw [wrap_id (by decide) (by decide)]; rfl
theorem wf7 : wrap64 (7 + 1) = 8 := by rw [wrap_id (by decide) (by decide)]; rfl
theorem rg_groups (b : Bool) (m1 m2 m3 m4 m5 m6 m7 m8 m9 m10 m11 m12 m13 m14 m15 m16 : Nat) (h1 : m1 < 256) (h2 : m2 < 256) (h3 : m3 < 256) (h4 : m4 < 256) (h5 : m5 < 256) (h6 : m6 < 256) (h7 : m7 < 256) (h8 : m8 < 256) (h9 : m9 < 256) (h10 : m10 < 256) (h11 : m11 < 256) (h12 : m12 < 256) (h13 : m13 < 256) (h14 : m14 < 256) (h15 : m15 < 256) (h16 : m16 < 256) (k : Nat) : lanternref05_Print.l0 (k + 9) [] 0 b (m1 : Int) (m2 : Int) (m3 : Int) (m4 : Int) (m5 : Int) (m6 : Int) (m7 : Int) (m8 : Int) (m9 : Int) (m10 : Int) (m11 : Int) (m12 : Int) (m13 : Int) (m14 : Int) (m15 : Int) (m16 : Int) = lanternref05_Print.l1 k (ints [m1 * 256 + m2, m3 * 256 + m4, m5 * 256 + m6, m7 * 256 + m8, m9 * 256 + m10, m11 * 256 + m12, m13 * 256 + m14, m15 * 256 + m16]) 0 0 0 := by
  have q0 : rd [(m1 : Int), (m2 : Int), (m3 : Int), (m4 : Int), (m5 : Int), (m6 : Int), (m7 : Int), (m8 : Int), (m9 : Int), (m10 : Int), (m11 : Int), (m12 : Int), (m13 : Int), (m14 : Int), (m15 : Int), (m16 : Int)] 0 = (m1 : Int) := rfl
  have p0 : rd [(m1 : Int), (m2 : Int), (m3 : Int), (m4 : Int), (m5 : Int), (m6 : Int), (m7 : Int), (m8 : Int), (m9 : Int), (m10 : Int), (m11 : Int), (m12 : Int), (m13 : Int), (m14 : Int), (m15 : Int), (m16 : Int)] 1 = (m2 : Int) := rfl
  have q1 : rd [(m1 : Int), (m2 : Int), (m3 : Int), (m4 : Int), (m5 : Int), (m6 : Int), (m7 : Int), (m8 : Int), (m9 : Int), (m10 : Int), (m11 : Int), (m12 : Int), (m13 : Int), (m14 : Int), (m15 : Int), (m16 : Int)] 2 = (m3 : Int) := rfl
  have p1 : rd [(m1 : Int), (m2 : Int), (m3 : Int), (m4 : Int), (m5 : Int), (m6 : Int), (m7 : Int), (m8 : Int), (m9 : Int), (m10 : Int), (m11 : Int), (m12 : Int), (m13 : Int), (m14 : Int), (m15 : Int), (m16 : Int)] 3 = (m4 : Int) := rfl
  have q2 : rd [(m1 : Int), (m2 : Int), (m3 : Int), (m4 : Int), (m5 : Int), (m6 : Int), (m7 : Int), (m8 : Int), (m9 : Int), (m10 : Int), (m11 : Int), (m12 : Int), (m13 : Int), (m14 : Int), (m15 : Int), (m16 : Int)] 4 = (m5 : Int) := rfl
  have p2 : rd [(m1 : Int), (m2 : Int), (m3 : Int), (m4 : Int), (m5 : Int), (m6 : Int), (m7 : Int), (m8 : Int), (m9 : Int), (m10 : Int), (m11 : Int), (m12 : Int), (m13 : Int), (m14 : Int), (m15 : Int), (m16 : Int)] 5 = (m6 : Int) := rfl
  have q3 : rd [(m1 : Int), (m2 : Int), (m3 : Int), (m4 : Int), (m5 : Int), (m6 : Int), (m7 : Int), (m8 : Int), (m9 : Int), (m10 : Int), (m11 : Int), (m12 : Int), (m13 : Int), (m14 : Int), (m15 : Int), (m16 : Int)] 6 = (m7 : Int) := rfl
  have p3 : rd [(m1 : Int), (m2 : Int), (m3 : Int), (m4 : Int), (m5 : Int), (m6 : Int), (m7 : Int), (m8 : Int), (m9 : Int), (m10 : Int), (m11 : Int), (m12 : Int), (m13 : Int), (m14 : Int), (m15 : Int), (m16 : Int)] 7 = (m8 : Int) := rfl
  have q4 : rd [(m1 : Int), (m2 : Int), (m3 : Int), (m4 : Int), (m5 : Int), (m6 : Int), (m7 : Int), (m8 : Int), (m9 : Int), (m10 : Int), (m11 : Int), (m12 : Int), (m13 : Int), (m14 : Int), (m15 : Int), (m16 : Int)] 8 = (m9 : Int) := rfl
  have p4 : rd [(m1 : Int), (m2 : Int), (m3 : Int), (m4 : Int), (m5 : Int), (m6 : Int), (m7 : Int), (m8 : Int), (m9 : Int), (m10 : Int), (m11 : Int), (m12 : Int), (m13 : Int), (m14 : Int), (m15 : Int), (m16 : Int)] 9 = (m10 : Int) := rfl
  have q5 : rd [(m1 : Int), (m2 : Int), (m3 : Int), (m4 : Int), (m5 : Int), (m6 : Int), (m7 : Int), (m8 : Int), (m9 : Int), (m10 : Int), (m11 : Int), (m12 : Int), (m13 : Int), (m14 : Int), (m15 : Int), (m16 : Int)] 10 = (m11 : Int) := rfl
  have p5 : rd [(m1 : Int), (m2 : Int), (m3 : Int), (m4 : Int), (m5 : Int), (m6 : Int), (m7 : Int), (m8 : Int), (m9 : Int), (m10 : Int), (m11 : Int), (m12 : Int), (m13 : Int), (m14 : Int), (m15 : Int), (m16 : Int)] 11 = (m12 : Int) := rfl
  have q6 : rd [(m1 : Int), (m2 : Int), (m3 : Int), (m4 : Int), (m5 : Int), (m6 : Int), (m7 : Int), (m8 : Int), (m9 : Int), (m10 : Int), (m11 : Int), (m12 : Int), (m13 : Int), (m14 : Int), (m15 : Int), (m16 : Int)] 12 = (m13 : Int) := rfl
  have p6 : rd [(m1 : Int), (m2 : Int), (m3 : Int), (m4 : Int), (m5 : Int), (m6 : Int), (m7 : Int), (m8 : Int), (m9 : Int), (m10 : Int), (m11 : Int), (m12 : Int), (m13 : Int), (m14 : Int), (m15 : Int), (m16 : Int)] 13 = (m14 : Int) := rfl
  have q7 : rd [(m1 : Int), (m2 : Int), (m3 : Int), (m4 : Int), (m5 : Int), (m6 : Int), (m7 : Int), (m8 : Int), (m9 : Int), (m10 : Int), (m11 : Int), (m12 : Int), (m13 : Int), (m14 : Int), (m15 : Int), (m16 : Int)] 14 = (m15 : Int) := rfl
  have p7 : rd [(m1 : Int), (m2 : Int), (m3 : Int), (m4 : Int), (m5 : Int), (m6 : Int), (m7 : Int), (m8 : Int), (m9 : Int), (m10 : Int), (m11 : Int), (m12 : Int), (m13 : Int), (m14 : Int), (m15 : Int), (m16 : Int)] 15 = (m16 : Int) := rfl
  rw [lanternref05_Print.l0, if_pos (by decide), wd0, if_pos (by decide), if_pos (by decide), we0, if_pos (by decide), if_pos (by decide), if_pos (by simp), q0, p0, grp m1 m2 h1 h2]
  rw [lanternref05_Print.l0, if_pos (by decide), wd1, if_pos (by decide), if_pos (by decide), we1, if_pos (by decide), if_pos (by decide), if_pos (by simp), q1, p1, grp m3 m4 h3 h4, wf1]
  rw [lanternref05_Print.l0, if_pos (by decide), wd2, if_pos (by decide), if_pos (by decide), we2, if_pos (by decide), if_pos (by decide), if_pos (by simp), q2, p2, grp m5 m6 h5 h6, wf2]
  rw [lanternref05_Print.l0, if_pos (by decide), wd3, if_pos (by decide), if_pos (by decide), we3, if_pos (by decide), if_pos (by decide), if_pos (by simp), q3, p3, grp m7 m8 h7 h8, wf3]
  rw [lanternref05_Print.l0, if_pos (by decide), wd4, if_pos (by decide), if_pos (by decide), we4, if_pos (by decide), if_pos (by decide), if_pos (by simp), q4, p4, grp m9 m10 h9 h10, wf4]
  rw [lanternref05_Print.l0, if_pos (by decide), wd5, if_pos (by decide), if_pos (by decide), we5, if_pos (by decide), if_pos (by decide), if_pos (by simp), q5, p5, grp m11 m12 h11 h12, wf5]
  rw [lanternref05_Print.l0, if_pos (by decide), wd6, if_pos (by decide), if_pos (by decide), we6, if_pos (by decide), if_pos (by decide), if_pos (by simp), q6, p6, grp m13 m14 h13 h14, wf6]
  rw [lanternref05_Print.l0, if_pos (by decide), wd7, if_pos (by decide), if_pos (by decide), we7, if_pos (by decide), if_pos (by decide), if_pos (by simp), q7, p7, grp m15 m16 h15 h16, wf7]
  rw [lanternref05_Print.l0, if_neg (by decide)]
  rfl

theorem orI (a b : Nat) (ha : a < 256) (hb : b < 256) : Go.bits .or .i64 ((a * 256 : Nat) : Int) (b : Int) = ((a * 256 + b : Nat) : Int) := by
  have h := bits_or_u64_nat (a * 256) b (by omega) (by omega)
  have e : a * 256 ||| b = a * 256 + b := or8 a b hb
  rw [e] at h
  have hx : ∃ X : Nat, X < 18446744073709551616 ∧ Go.bits .or .u64 ((a * 256 : Nat) : Int) (b : Int) = IntKind.u64.wrap (X : Int) ∧ Go.bits .or .i64 ((a * 256 : Nat) : Int) (b : Int) = IntKind.i64.wrap (X : Int) := ⟨(BitVec.ofInt 64 ((a * 256 : Nat) : Int) ||| BitVec.ofInt 64 (b : Int)).toNat, BitVec.isLt _, rfl, rfl⟩
  obtain ⟨X, hlt, g1, g2⟩ := hx
  rw [g1, IntKind.wrap_u64] at h
  obtain rfl : X = a * 256 + b := by omega
  rw [g2]
  have g3 : IntKind.i64.wrap ((a * 256 + b : Nat) : Int) = wrap64 ((a * 256 + b : Nat) : Int) := by unfold Go.RowKit.wrap64; exact IntKind.wrap_i64 _
  rw [g3]
  exact wrap_nat (a * 256 + b) rfl (by omega)
theorem grpP (a b : Nat) (ha : a < 256) (hb : b < 256) : Go.bits .or .i64 (wrap64 ((wrap64 (a : Int)) * 256)) (wrap64 (b : Int)) = ((a * 256 + b : Nat) : Int) := by
  have e1 : wrap64 (a : Int) = (a : Int) := wrap_nat a rfl (by omega)
  have e2 : wrap64 (b : Int) = (b : Int) := wrap_nat b rfl (by omega)
  have e3 : wrap64 ((a : Int) * 256) = ((a * 256 : Nat) : Int) := wrap_nat (a * 256) (by omega) (by omega)
  rw [e1, e2, e3]
  exact orI a b ha hb
theorem wg0 : wrap64 (0 + 2) = 2 := by rw [wrap_id (by decide) (by decide)]; rfl
theorem wg1 : wrap64 (2 + 2) = 4 := by rw [wrap_id (by decide) (by decide)]; rfl
theorem wg2 : wrap64 (4 + 2) = 6 := by rw [wrap_id (by decide) (by decide)]; rfl
theorem wg3 : wrap64 (6 + 2) = 8 := by rw [wrap_id (by decide) (by decide)]; rfl
theorem wg4 : wrap64 (8 + 2) = 10 := by rw [wrap_id (by decide) (by decide)]; rfl
theorem wg5 : wrap64 (10 + 2) = 12 := by rw [wrap_id (by decide) (by decide)]; rfl
theorem wg6 : wrap64 (12 + 2) = 14 := by rw [wrap_id (by decide) (by decide)]; rfl
theorem wg7 : wrap64 (14 + 2) = 16 := by rw [wrap_id (by decide) (by decide)]; rfl
/-- What the program does with its groups. -/
def prT (k : Nat) (g : List Int) : Option (ByteArray × Int) := (ip_longest.f k g).bind fun t => (if t.2 < 2 then ((ip_hex.f k g).bind fun u => (some (u, 0))) else (if 0 ≤ t.1 then (if t.1 ≤ (g.length : Int) then ((ip_hex.f k (g.take (t.1 : Int).toNat)).bind fun u => (if u.size + 2 ≤ 9223372036854775807 then (if 0 ≤ (wrap64 (t.1 + t.2)) then (if (wrap64 (t.1 + t.2)) ≤ (g.length : Int) then ((ip_hex.f k (g.drop ((wrap64 (t.1 + t.2)) : Int).toNat)).bind fun v => (if (u ++ (⟨#[58, 58]⟩ : ByteArray)).size + v.size ≤ 9223372036854775807 then (some ((u ++ (⟨#[58, 58]⟩ : ByteArray)) ++ v, 0)) else (none))) else (none)) else (none)) else (none))) else (none)) else (none)))
theorem pg_groups (b : Bool) (m1 m2 m3 m4 m5 m6 m7 m8 m9 m10 m11 m12 m13 m14 m15 m16 : Nat) (h1 : m1 < 256) (h2 : m2 < 256) (h3 : m3 < 256) (h4 : m4 < 256) (h5 : m5 < 256) (h6 : m6 < 256) (h7 : m7 < 256) (h8 : m8 < 256) (h9 : m9 < 256) (h10 : m10 < 256) (h11 : m11 < 256) (h12 : m12 < 256) (h13 : m13 < 256) (h14 : m14 < 256) (h15 : m15 < 256) (h16 : m16 < 256) (k : Nat) : ip_Print.l0 (k + 9) [] 0 b (m1 : Int) (m2 : Int) (m3 : Int) (m4 : Int) (m5 : Int) (m6 : Int) (m7 : Int) (m8 : Int) (m9 : Int) (m10 : Int) (m11 : Int) (m12 : Int) (m13 : Int) (m14 : Int) (m15 : Int) (m16 : Int) = prT k (ints [m1 * 256 + m2, m3 * 256 + m4, m5 * 256 + m6, m7 * 256 + m8, m9 * 256 + m10, m11 * 256 + m12, m13 * 256 + m14, m15 * 256 + m16]) := by
  have q0 : rd [(m1 : Int), (m2 : Int), (m3 : Int), (m4 : Int), (m5 : Int), (m6 : Int), (m7 : Int), (m8 : Int), (m9 : Int), (m10 : Int), (m11 : Int), (m12 : Int), (m13 : Int), (m14 : Int), (m15 : Int), (m16 : Int)] 0 = (m1 : Int) := rfl
  have p0 : rd [(m1 : Int), (m2 : Int), (m3 : Int), (m4 : Int), (m5 : Int), (m6 : Int), (m7 : Int), (m8 : Int), (m9 : Int), (m10 : Int), (m11 : Int), (m12 : Int), (m13 : Int), (m14 : Int), (m15 : Int), (m16 : Int)] 1 = (m2 : Int) := rfl
  have q1 : rd [(m1 : Int), (m2 : Int), (m3 : Int), (m4 : Int), (m5 : Int), (m6 : Int), (m7 : Int), (m8 : Int), (m9 : Int), (m10 : Int), (m11 : Int), (m12 : Int), (m13 : Int), (m14 : Int), (m15 : Int), (m16 : Int)] 2 = (m3 : Int) := rfl
  have p1 : rd [(m1 : Int), (m2 : Int), (m3 : Int), (m4 : Int), (m5 : Int), (m6 : Int), (m7 : Int), (m8 : Int), (m9 : Int), (m10 : Int), (m11 : Int), (m12 : Int), (m13 : Int), (m14 : Int), (m15 : Int), (m16 : Int)] 3 = (m4 : Int) := rfl
  have q2 : rd [(m1 : Int), (m2 : Int), (m3 : Int), (m4 : Int), (m5 : Int), (m6 : Int), (m7 : Int), (m8 : Int), (m9 : Int), (m10 : Int), (m11 : Int), (m12 : Int), (m13 : Int), (m14 : Int), (m15 : Int), (m16 : Int)] 4 = (m5 : Int) := rfl
  have p2 : rd [(m1 : Int), (m2 : Int), (m3 : Int), (m4 : Int), (m5 : Int), (m6 : Int), (m7 : Int), (m8 : Int), (m9 : Int), (m10 : Int), (m11 : Int), (m12 : Int), (m13 : Int), (m14 : Int), (m15 : Int), (m16 : Int)] 5 = (m6 : Int) := rfl
  have q3 : rd [(m1 : Int), (m2 : Int), (m3 : Int), (m4 : Int), (m5 : Int), (m6 : Int), (m7 : Int), (m8 : Int), (m9 : Int), (m10 : Int), (m11 : Int), (m12 : Int), (m13 : Int), (m14 : Int), (m15 : Int), (m16 : Int)] 6 = (m7 : Int) := rfl
  have p3 : rd [(m1 : Int), (m2 : Int), (m3 : Int), (m4 : Int), (m5 : Int), (m6 : Int), (m7 : Int), (m8 : Int), (m9 : Int), (m10 : Int), (m11 : Int), (m12 : Int), (m13 : Int), (m14 : Int), (m15 : Int), (m16 : Int)] 7 = (m8 : Int) := rfl
  have q4 : rd [(m1 : Int), (m2 : Int), (m3 : Int), (m4 : Int), (m5 : Int), (m6 : Int), (m7 : Int), (m8 : Int), (m9 : Int), (m10 : Int), (m11 : Int), (m12 : Int), (m13 : Int), (m14 : Int), (m15 : Int), (m16 : Int)] 8 = (m9 : Int) := rfl
  have p4 : rd [(m1 : Int), (m2 : Int), (m3 : Int), (m4 : Int), (m5 : Int), (m6 : Int), (m7 : Int), (m8 : Int), (m9 : Int), (m10 : Int), (m11 : Int), (m12 : Int), (m13 : Int), (m14 : Int), (m15 : Int), (m16 : Int)] 9 = (m10 : Int) := rfl
  have q5 : rd [(m1 : Int), (m2 : Int), (m3 : Int), (m4 : Int), (m5 : Int), (m6 : Int), (m7 : Int), (m8 : Int), (m9 : Int), (m10 : Int), (m11 : Int), (m12 : Int), (m13 : Int), (m14 : Int), (m15 : Int), (m16 : Int)] 10 = (m11 : Int) := rfl
  have p5 : rd [(m1 : Int), (m2 : Int), (m3 : Int), (m4 : Int), (m5 : Int), (m6 : Int), (m7 : Int), (m8 : Int), (m9 : Int), (m10 : Int), (m11 : Int), (m12 : Int), (m13 : Int), (m14 : Int), (m15 : Int), (m16 : Int)] 11 = (m12 : Int) := rfl
  have q6 : rd [(m1 : Int), (m2 : Int), (m3 : Int), (m4 : Int), (m5 : Int), (m6 : Int), (m7 : Int), (m8 : Int), (m9 : Int), (m10 : Int), (m11 : Int), (m12 : Int), (m13 : Int), (m14 : Int), (m15 : Int), (m16 : Int)] 12 = (m13 : Int) := rfl
  have p6 : rd [(m1 : Int), (m2 : Int), (m3 : Int), (m4 : Int), (m5 : Int), (m6 : Int), (m7 : Int), (m8 : Int), (m9 : Int), (m10 : Int), (m11 : Int), (m12 : Int), (m13 : Int), (m14 : Int), (m15 : Int), (m16 : Int)] 13 = (m14 : Int) := rfl
  have q7 : rd [(m1 : Int), (m2 : Int), (m3 : Int), (m4 : Int), (m5 : Int), (m6 : Int), (m7 : Int), (m8 : Int), (m9 : Int), (m10 : Int), (m11 : Int), (m12 : Int), (m13 : Int), (m14 : Int), (m15 : Int), (m16 : Int)] 14 = (m15 : Int) := rfl
  have p7 : rd [(m1 : Int), (m2 : Int), (m3 : Int), (m4 : Int), (m5 : Int), (m6 : Int), (m7 : Int), (m8 : Int), (m9 : Int), (m10 : Int), (m11 : Int), (m12 : Int), (m13 : Int), (m14 : Int), (m15 : Int), (m16 : Int)] 15 = (m16 : Int) := rfl
  rw [ip_Print.l0, if_pos (by decide), if_pos (by decide), we0, if_pos (by decide), if_pos (by decide), if_pos (by simp), q0, p0, grpP m1 m2 h1 h2, wg0]
  rw [ip_Print.l0, if_pos (by decide), if_pos (by decide), we1, if_pos (by decide), if_pos (by decide), if_pos (by simp), q1, p1, grpP m3 m4 h3 h4, wg1]
  rw [ip_Print.l0, if_pos (by decide), if_pos (by decide), we2, if_pos (by decide), if_pos (by decide), if_pos (by simp), q2, p2, grpP m5 m6 h5 h6, wg2]
  rw [ip_Print.l0, if_pos (by decide), if_pos (by decide), we3, if_pos (by decide), if_pos (by decide), if_pos (by simp), q3, p3, grpP m7 m8 h7 h8, wg3]
  rw [ip_Print.l0, if_pos (by decide), if_pos (by decide), we4, if_pos (by decide), if_pos (by decide), if_pos (by simp), q4, p4, grpP m9 m10 h9 h10, wg4]
  rw [ip_Print.l0, if_pos (by decide), if_pos (by decide), we5, if_pos (by decide), if_pos (by decide), if_pos (by simp), q5, p5, grpP m11 m12 h11 h12, wg5]
  rw [ip_Print.l0, if_pos (by decide), if_pos (by decide), we6, if_pos (by decide), if_pos (by decide), if_pos (by simp), q6, p6, grpP m13 m14 h13 h14, wg6]
  rw [ip_Print.l0, if_pos (by decide), if_pos (by decide), we7, if_pos (by decide), if_pos (by decide), if_pos (by simp), q7, p7, grpP m15 m16 h15 h16, wg7]
  rw [ip_Print.l0, if_neg (by decide)]
  rfl

theorem run_le {p : List Int} {a n : Nat} (h : isRun p a n = true) : a + n ≤ 8 := by
  unfold isRun at h
  rw [Bool.and_eq_true] at h
  exact of_decide_eq_true h.1
theorem ints_take (ns : List Nat) (a : Nat) : (ints ns).take a = ints (ns.take a) := (List.map_take ..).symm
theorem ints_drop (ns : List Nat) (a : Nat) : (ints ns).drop a = ints (ns.drop a) := (List.map_drop ..).symm
theorem hexT_len (ns : List Nat) (h : ∀ n ∈ ns, n < 65536) (hl : ns.length ≤ 8) : (hexT ns).length ≤ 144 := by
  have := join_len (ns.map (digL 16)) 17 (by
    intro x hx
    obtain ⟨n, hn, rfl⟩ := List.mem_map.1 hx
    exact hd_len n (h n hn))
  rw [List.length_map] at this
  unfold hexT
  omega
/-- The program's text. -/
theorem prT_f (ns : List Nat) (h : ∀ x ∈ ns, x < 65536) (h8 : ns.length = 8) (a n k : Nat) (hk : 200 ≤ k) (hl : ip_longest.f k (ints ns) = some ((a : Int), (n : Int))) (hn : n < 2 ∨ a + n ≤ 8) : prT k (ints ns) = some (B (shortT a n ns), 0) := by
  have hli : (ints ns).length = 8 := (List.length_map _).trans h8
  unfold prT shortT
  rw [hl, Option.bind_some]
  dsimp only
  by_cases h2 : n < 2
  · rw [if_pos (show (n : Int) < 2 by omega), hex_f ns h (by omega) k (by omega), Option.bind_some, if_pos h2]
  · have han : a + n ≤ 8 := hn.resolve_left h2
    have hw : wrap64 ((a : Int) + (n : Int)) = ((a + n : Nat) : Int) := wrap_nat (a + n) (by omega) (by omega)
    have ht : ∀ x ∈ ns.take a, x < 65536 := fun x hx => h x (List.mem_of_mem_take hx)
    have hd : ∀ x ∈ ns.drop (a + n), x < 65536 := fun x hx => h x (List.mem_of_mem_drop hx)
    have l1 : (ns.take a).length ≤ 8 := by rw [List.length_take]; omega
    have l2 : (ns.drop (a + n)).length ≤ 8 := by rw [List.length_drop]; omega
    have t1 := hexT_len _ ht l1
    have t2 := hexT_len _ hd l2
    rw [if_neg (show ¬ (n : Int) < 2 by omega), if_neg h2, if_pos (by omega), hli, if_pos (by omega), Int.toNat_natCast, ints_take, hex_f _ ht l1 k (by omega), Option.bind_some, if_pos (by rw [size_B]; omega), hw, if_pos (by omega), if_pos (by omega), Int.toNat_natCast, ints_drop, hex_f _ hd l2 k (by omega), Option.bind_some, B_58', append_B, if_pos (by rw [size_B, size_B, List.length_append]; simp; omega), append_B]
    simp

theorem refP_f (d0 d1 d2 d3 d4 d5 d6 d7 : Nat) (h0 : d0 < 65536) (h1 : d1 < 65536) (h2 : d2 < 65536) (h3 : d3 < 65536) (h4 : d4 < 65536) (h5 : d5 < 65536) (h6 : d6 < 65536) (h7 : d7 < 65536) (a n d k : Nat) (hk : 71000 ≤ k) (hr : rl1 k (ints [d0, d1, d2, d3, d4, d5, d6, d7]) 0 0 0 = some ((a : Int), (n : Int), d + (k - 300))) (ha : a ≤ 8) (hn : n < 2 ∨ a + n ≤ 8) : lanternref05_Print.l1 k (ints [d0, d1, d2, d3, d4, d5, d6, d7]) 0 0 0 = some (B (shortT a n [d0, d1, d2, d3, d4, d5, d6, d7])) := by
  rw [(rl_eq _ k).1, hr, Option.bind_some]
  unfold toL4
  dsimp only
  rw [show d + (k - 300) = (d + (k - 333)) + 33 by omega, rp_text a n d0 d1 d2 d3 d4 d5 d6 d7 h0 h1 h2 h3 h4 h5 h6 h7 ha (by omega) _ (by omega)]
  by_cases h2 : n < 2
  · rw [allT_one a n d0 d1 d2 d3 d4 d5 d6 d7 h2]
    unfold shortT
    rw [if_pos h2]
  · obtain ⟨m, rfl⟩ : ∃ m, n = m + 2 := ⟨n - 2, by omega⟩
    rw [allT_two a m d0 d1 d2 d3 d4 d5 d6 d7 (by omega)]
/-- Both texts of eight groups. -/
theorem both_f (d0 d1 d2 d3 d4 d5 d6 d7 : Nat) (h0 : d0 < 65536) (h1 : d1 < 65536) (h2 : d2 < 65536) (h3 : d3 < 65536) (h4 : d4 < 65536) (h5 : d5 < 65536) (h6 : d6 < 65536) (h7 : d7 < 65536) (k : Nat) (hk : 71000 ≤ k) : ∃ a n : Nat, prT k (ints [d0, d1, d2, d3, d4, d5, d6, d7]) = some (B (shortT a n [d0, d1, d2, d3, d4, d5, d6, d7]), 0) ∧ lanternref05_Print.l1 k (ints [d0, d1, d2, d3, d4, d5, d6, d7]) 0 0 0 = some (B (shortT a n [d0, d1, d2, d3, d4, d5, d6, d7])) ∧ a ≤ 8 ∧ (n < 2 ∨ isRun (pat8 (d0 : Int) (d1 : Int) (d2 : Int) (d3 : Int) (d4 : Int) (d5 : Int) (d6 : Int) (d7 : Int)) a n = true) := by
  obtain ⟨a, n, d, r1, r2, ha, hc⟩ := run_of (d0 : Int) (d1 : Int) (d2 : Int) (d3 : Int) (d4 : Int) (d5 : Int) (d6 : Int) (d7 : Int)
  have hn : n < 2 ∨ a + n ≤ 8 := hc.imp id run_le
  have hm : ∀ x ∈ [d0, d1, d2, d3, d4, d5, d6, d7], x < 65536 := by
    intro x hx
    simp only [List.mem_cons, List.not_mem_nil, or_false] at hx
    rcases hx with rfl | rfl | rfl | rfl | rfl | rfl | rfl | rfl <;> assumption
  exact ⟨a, n, prT_f [d0, d1, d2, d3, d4, d5, d6, d7] hm rfl a n k (by omega) (r1 k (by omega)) hn, refP_f d0 d1 d2 d3 d4 d5 d6 d7 h0 h1 h2 h3 h4 h5 h6 h7 a n d k hk (r2 k (by omega)) ha hn, ha, hc⟩

theorem dot46 : (⟨#[46]⟩ : ByteArray) = B [46] := rfl
theorem digw (n k : Nat) (hn : n < 256) (hk : 300 ≤ k) : lanternref05_digits.f k (wrap64 (n : Int)) 10 = some (B (digL 10 n)) := by
  have e : wrap64 (n : Int) = (n : Int) := wrap_nat n rfl (by omega)
  rw [e]
  exact refdigits_f 10 (Or.inl rfl) n k (by omega) (by omega)
theorem refdots_f (b : Bool) (m1 m2 m3 m4 m5 m6 m7 m8 m9 m10 m11 m12 m13 m14 m15 m16 : Nat) (h13 : m13 < 256) (h14 : m14 < 256) (h15 : m15 < 256) (h16 : m16 < 256) (k : Nat) (hk : 400 ≤ k) : lanternref05_dots.f k b (m1 : Int) (m2 : Int) (m3 : Int) (m4 : Int) (m5 : Int) (m6 : Int) (m7 : Int) (m8 : Int) (m9 : Int) (m10 : Int) (m11 : Int) (m12 : Int) (m13 : Int) (m14 : Int) (m15 : Int) (m16 : Int) = some (B (dotL m13 m14 m15 m16)) := by
  obtain ⟨k, rfl⟩ : ∃ j, k = j + 5 := ⟨k - 5, by omega⟩
  have q0 : rd [(m1 : Int), (m2 : Int), (m3 : Int), (m4 : Int), (m5 : Int), (m6 : Int), (m7 : Int), (m8 : Int), (m9 : Int), (m10 : Int), (m11 : Int), (m12 : Int), (m13 : Int), (m14 : Int), (m15 : Int), (m16 : Int)] 12 = (m13 : Int) := rfl
  have v0 : wrap64 (12 + 1) = 13 := by rw [wrap_id (by decide) (by decide)]; rfl
  have l0 := dig3 m13 h13
  have q1 : rd [(m1 : Int), (m2 : Int), (m3 : Int), (m4 : Int), (m5 : Int), (m6 : Int), (m7 : Int), (m8 : Int), (m9 : Int), (m10 : Int), (m11 : Int), (m12 : Int), (m13 : Int), (m14 : Int), (m15 : Int), (m16 : Int)] 13 = (m14 : Int) := rfl
  have v1 : wrap64 (13 + 1) = 14 := by rw [wrap_id (by decide) (by decide)]; rfl
  have l1 := dig3 m14 h14
  have q2 : rd [(m1 : Int), (m2 : Int), (m3 : Int), (m4 : Int), (m5 : Int), (m6 : Int), (m7 : Int), (m8 : Int), (m9 : Int), (m10 : Int), (m11 : Int), (m12 : Int), (m13 : Int), (m14 : Int), (m15 : Int), (m16 : Int)] 14 = (m15 : Int) := rfl
  have v2 : wrap64 (14 + 1) = 15 := by rw [wrap_id (by decide) (by decide)]; rfl
  have l2 := dig3 m15 h15
  have q3 : rd [(m1 : Int), (m2 : Int), (m3 : Int), (m4 : Int), (m5 : Int), (m6 : Int), (m7 : Int), (m8 : Int), (m9 : Int), (m10 : Int), (m11 : Int), (m12 : Int), (m13 : Int), (m14 : Int), (m15 : Int), (m16 : Int)] 15 = (m16 : Int) := rfl
  have v3 : wrap64 (15 + 1) = 16 := by rw [wrap_id (by decide) (by decide)]; rfl
  have l3 := dig3 m16 h16
  rw [lanternref05_dots.f, nil_B]
  rw [lanternref05_dots.l0, if_pos (by decide), if_neg (by decide), if_pos (by decide), q0, digw m13 _ h13 (by omega), Option.bind_some, if_pos (by rw [size_B, size_B]; simp; omega), append_B, List.nil_append, v0]
  rw [lanternref05_dots.l0, if_pos (by decide), if_pos (by decide), if_pos (by rw [size_B]; simp; omega), if_pos (by decide), q1, digw m14 _ h14 (by omega), Option.bind_some, dot46, append_B, if_pos (by rw [size_B, size_B]; simp; omega), append_B, v1]
  rw [lanternref05_dots.l0, if_pos (by decide), if_pos (by decide), if_pos (by rw [size_B]; simp; omega), if_pos (by decide), q2, digw m15 _ h15 (by omega), Option.bind_some, dot46, append_B, if_pos (by rw [size_B, size_B]; simp; omega), append_B, v2]
  rw [lanternref05_dots.l0, if_pos (by decide), if_pos (by decide), if_pos (by rw [size_B]; simp; omega), if_pos (by decide), q3, digw m16 _ h16 (by omega), Option.bind_some, dot46, append_B, if_pos (by rw [size_B, size_B]; simp; omega), append_B, v3]
  rw [lanternref05_dots.l0, if_neg (by decide)]
  unfold dotL
  simp

theorem iteF_b (x c : Int) (r : Bool) : (if x = c then some r else some false) = some ((x == c) && r) := by
  by_cases h : x = c
  · subst h; simp
  · rw [if_neg h, beq_eq_false_iff_ne.mpr h]; rfl
theorem wm0 : wrap64 (0 + 1) = 1 := by rw [wrap_id (by decide) (by decide)]; rfl
theorem my0 (k : Nat) (b1 b2 b3 b4 b5 b6 b7 b8 b9 b10 b11 b12 b13 b14 b15 b16 : Int) : lanternref05_May.l0 (k + 2) 0 false b1 b2 b3 b4 b5 b6 b7 b8 b9 b10 b11 b12 b13 b14 b15 b16 = if b1 = 0 then lanternref05_May.l0 k 1 false b1 b2 b3 b4 b5 b6 b7 b8 b9 b10 b11 b12 b13 b14 b15 b16 else some false := by
  rw [lanternref05_May.l0, if_pos (by decide), Bool.not_false, lanternref05_May.j1, if_pos rfl, if_pos (by decide), if_pos (by decide), wm0]
  rfl
theorem wm1 : wrap64 (1 + 1) = 2 := by rw [wrap_id (by decide) (by decide)]; rfl
theorem my1 (k : Nat) (b1 b2 b3 b4 b5 b6 b7 b8 b9 b10 b11 b12 b13 b14 b15 b16 : Int) : lanternref05_May.l0 (k + 2) 1 false b1 b2 b3 b4 b5 b6 b7 b8 b9 b10 b11 b12 b13 b14 b15 b16 = if b2 = 0 then lanternref05_May.l0 k 2 false b1 b2 b3 b4 b5 b6 b7 b8 b9 b10 b11 b12 b13 b14 b15 b16 else some false := by
  rw [lanternref05_May.l0, if_pos (by decide), Bool.not_false, lanternref05_May.j1, if_pos rfl, if_pos (by decide), if_pos (by decide), wm1]
  rfl
theorem wm2 : wrap64 (2 + 1) = 3 := by rw [wrap_id (by decide) (by decide)]; rfl
theorem my2 (k : Nat) (b1 b2 b3 b4 b5 b6 b7 b8 b9 b10 b11 b12 b13 b14 b15 b16 : Int) : lanternref05_May.l0 (k + 2) 2 false b1 b2 b3 b4 b5 b6 b7 b8 b9 b10 b11 b12 b13 b14 b15 b16 = if b3 = 0 then lanternref05_May.l0 k 3 false b1 b2 b3 b4 b5 b6 b7 b8 b9 b10 b11 b12 b13 b14 b15 b16 else some false := by
  rw [lanternref05_May.l0, if_pos (by decide), Bool.not_false, lanternref05_May.j1, if_pos rfl, if_pos (by decide), if_pos (by decide), wm2]
  rfl
theorem wm3 : wrap64 (3 + 1) = 4 := by rw [wrap_id (by decide) (by decide)]; rfl
theorem my3 (k : Nat) (b1 b2 b3 b4 b5 b6 b7 b8 b9 b10 b11 b12 b13 b14 b15 b16 : Int) : lanternref05_May.l0 (k + 2) 3 false b1 b2 b3 b4 b5 b6 b7 b8 b9 b10 b11 b12 b13 b14 b15 b16 = if b4 = 0 then lanternref05_May.l0 k 4 false b1 b2 b3 b4 b5 b6 b7 b8 b9 b10 b11 b12 b13 b14 b15 b16 else some false := by
  rw [lanternref05_May.l0, if_pos (by decide), Bool.not_false, lanternref05_May.j1, if_pos rfl, if_pos (by decide), if_pos (by decide), wm3]
  rfl
theorem wm4 : wrap64 (4 + 1) = 5 := by rw [wrap_id (by decide) (by decide)]; rfl
theorem my4 (k : Nat) (b1 b2 b3 b4 b5 b6 b7 b8 b9 b10 b11 b12 b13 b14 b15 b16 : Int) : lanternref05_May.l0 (k + 2) 4 false b1 b2 b3 b4 b5 b6 b7 b8 b9 b10 b11 b12 b13 b14 b15 b16 = if b5 = 0 then lanternref05_May.l0 k 5 false b1 b2 b3 b4 b5 b6 b7 b8 b9 b10 b11 b12 b13 b14 b15 b16 else some false := by
  rw [lanternref05_May.l0, if_pos (by decide), Bool.not_false, lanternref05_May.j1, if_pos rfl, if_pos (by decide), if_pos (by decide), wm4]
  rfl
theorem wm5 : wrap64 (5 + 1) = 6 := by rw [wrap_id (by decide) (by decide)]; rfl
theorem my5 (k : Nat) (b1 b2 b3 b4 b5 b6 b7 b8 b9 b10 b11 b12 b13 b14 b15 b16 : Int) : lanternref05_May.l0 (k + 2) 5 false b1 b2 b3 b4 b5 b6 b7 b8 b9 b10 b11 b12 b13 b14 b15 b16 = if b6 = 0 then lanternref05_May.l0 k 6 false b1 b2 b3 b4 b5 b6 b7 b8 b9 b10 b11 b12 b13 b14 b15 b16 else some false := by
  rw [lanternref05_May.l0, if_pos (by decide), Bool.not_false, lanternref05_May.j1, if_pos rfl, if_pos (by decide), if_pos (by decide), wm5]
  rfl
theorem wm6 : wrap64 (6 + 1) = 7 := by rw [wrap_id (by decide) (by decide)]; rfl
theorem my6 (k : Nat) (b1 b2 b3 b4 b5 b6 b7 b8 b9 b10 b11 b12 b13 b14 b15 b16 : Int) : lanternref05_May.l0 (k + 2) 6 false b1 b2 b3 b4 b5 b6 b7 b8 b9 b10 b11 b12 b13 b14 b15 b16 = if b7 = 0 then lanternref05_May.l0 k 7 false b1 b2 b3 b4 b5 b6 b7 b8 b9 b10 b11 b12 b13 b14 b15 b16 else some false := by
  rw [lanternref05_May.l0, if_pos (by decide), Bool.not_false, lanternref05_May.j1, if_pos rfl, if_pos (by decide), if_pos (by decide), wm6]
  rfl
theorem wm7 : wrap64 (7 + 1) = 8 := by rw [wrap_id (by decide) (by decide)]; rfl
theorem my7 (k : Nat) (b1 b2 b3 b4 b5 b6 b7 b8 b9 b10 b11 b12 b13 b14 b15 b16 : Int) : lanternref05_May.l0 (k + 2) 7 false b1 b2 b3 b4 b5 b6 b7 b8 b9 b10 b11 b12 b13 b14 b15 b16 = if b8 = 0 then lanternref05_May.l0 k 8 false b1 b2 b3 b4 b5 b6 b7 b8 b9 b10 b11 b12 b13 b14 b15 b16 else some false := by
  rw [lanternref05_May.l0, if_pos (by decide), Bool.not_false, lanternref05_May.j1, if_pos rfl, if_pos (by decide), if_pos (by decide), wm7]
  rfl
theorem wm8 : wrap64 (8 + 1) = 9 := by rw [wrap_id (by decide) (by decide)]; rfl
theorem my8 (k : Nat) (b1 b2 b3 b4 b5 b6 b7 b8 b9 b10 b11 b12 b13 b14 b15 b16 : Int) : lanternref05_May.l0 (k + 2) 8 false b1 b2 b3 b4 b5 b6 b7 b8 b9 b10 b11 b12 b13 b14 b15 b16 = if b9 = 0 then lanternref05_May.l0 k 9 false b1 b2 b3 b4 b5 b6 b7 b8 b9 b10 b11 b12 b13 b14 b15 b16 else some false := by
  rw [lanternref05_May.l0, if_pos (by decide), Bool.not_false, lanternref05_May.j1, if_pos rfl, if_pos (by decide), if_pos (by decide), wm8]
  rfl
theorem wm9 : wrap64 (9 + 1) = 10 := by rw [wrap_id (by decide) (by decide)]; rfl
theorem my9 (k : Nat) (b1 b2 b3 b4 b5 b6 b7 b8 b9 b10 b11 b12 b13 b14 b15 b16 : Int) : lanternref05_May.l0 (k + 2) 9 false b1 b2 b3 b4 b5 b6 b7 b8 b9 b10 b11 b12 b13 b14 b15 b16 = if b10 = 0 then lanternref05_May.l0 k 10 false b1 b2 b3 b4 b5 b6 b7 b8 b9 b10 b11 b12 b13 b14 b15 b16 else some false := by
  rw [lanternref05_May.l0, if_pos (by decide), Bool.not_false, lanternref05_May.j1, if_pos rfl, if_pos (by decide), if_pos (by decide), wm9]
  rfl
theorem wm10 : wrap64 (10 + 1) = 11 := by rw [wrap_id (by decide) (by decide)]; rfl
theorem my10 (k : Nat) (b1 b2 b3 b4 b5 b6 b7 b8 b9 b10 b11 b12 b13 b14 b15 b16 : Int) : lanternref05_May.l0 (k + 2) 10 false b1 b2 b3 b4 b5 b6 b7 b8 b9 b10 b11 b12 b13 b14 b15 b16 = if b11 = 0 then lanternref05_May.l0 k 11 false b1 b2 b3 b4 b5 b6 b7 b8 b9 b10 b11 b12 b13 b14 b15 b16 else some false := by
  rw [lanternref05_May.l0, if_pos (by decide), Bool.not_false, lanternref05_May.j1, if_pos rfl, if_pos (by decide), if_pos (by decide), wm10]
  rfl
theorem wm11 : wrap64 (11 + 1) = 12 := by rw [wrap_id (by decide) (by decide)]; rfl
theorem my11 (k : Nat) (b1 b2 b3 b4 b5 b6 b7 b8 b9 b10 b11 b12 b13 b14 b15 b16 : Int) : lanternref05_May.l0 (k + 2) 11 false b1 b2 b3 b4 b5 b6 b7 b8 b9 b10 b11 b12 b13 b14 b15 b16 = if b12 = 0 then lanternref05_May.l0 k 12 false b1 b2 b3 b4 b5 b6 b7 b8 b9 b10 b11 b12 b13 b14 b15 b16 else some false := by
  rw [lanternref05_May.l0, if_pos (by decide), Bool.not_false, lanternref05_May.j1, if_pos rfl, if_pos (by decide), if_pos (by decide), wm11]
  rfl
def zB (b1 b2 b3 b4 b5 b6 b7 b8 b9 b10 b11 b12 : Int) : Bool := ((b1 == 0) && ((b2 == 0) && ((b3 == 0) && ((b4 == 0) && ((b5 == 0) && ((b6 == 0) && ((b7 == 0) && ((b8 == 0) && ((b9 == 0) && ((b10 == 0) && ((b11 == 0) && (b12 == 0))))))))))))
theorem May_f (k : Nat) (hk : 40 ≤ k) (b : Bool) (b1 b2 b3 b4 b5 b6 b7 b8 b9 b10 b11 b12 b13 b14 b15 b16 : Int) : lanternref05_May.f k b b1 b2 b3 b4 b5 b6 b7 b8 b9 b10 b11 b12 b13 b14 b15 b16 = some (b || zB b1 b2 b3 b4 b5 b6 b7 b8 b9 b10 b11 b12) := by
  obtain ⟨k, rfl⟩ : ∃ j, k = j + 26 := ⟨k - 26, by omega⟩
  rw [lanternref05_May.f]
  cases b
  · have e : lanternref05_May.l0 (k + 2) 12 false b1 b2 b3 b4 b5 b6 b7 b8 b9 b10 b11 b12 b13 b14 b15 b16 = some true := by rw [lanternref05_May.l0, if_neg (by decide), lanternref05_May.j1, if_neg (by decide)]
    rw [my0, my1, my2, my3, my4, my5, my6, my7, my8, my9, my10, my11, e]
    simp only [iteF_b, zB, Bool.and_true, Bool.false_or]
  · rw [show k + 26 = (k + 24) + 2 from rfl, lanternref05_May.l0, if_pos (by decide), Bool.not_true, lanternref05_May.j1, if_neg (by decide), Bool.true_or]
theorem Check_f (b : Bool) (b1 b2 b3 b4 b5 b6 b7 b8 b9 b10 b11 b12 b13 b14 b15 b16 : Int) : ip_Check.f b b1 b2 b3 b4 b5 b6 b7 b8 b9 b10 b11 b12 b13 b14 b15 b16 = some (if (b || zB b1 b2 b3 b4 b5 b6 b7 b8 b9 b10 b11 b12) = true then 0 else 1) := by
  rw [ip_Check.f]
  cases b
  · rw [if_neg (by decide), ip_V4.f, Option.bind_some, Bool.false_or]
    by_cases h : zB b1 b2 b3 b4 b5 b6 b7 b8 b9 b10 b11 b12 = true
    · rw [if_pos h]
      simp [zB] at h
      rw [if_neg (by simp [h])]
    · rw [if_neg h]
      rw [if_pos]
      simp [zB] at h ⊢
      refine Classical.byContradiction fun hn => ?_
      simp only [not_or, Classical.not_not] at hn
      obtain ⟨z0, z1, z2, z3, z4, z5, z6, z7, z8, z9, z10, z11⟩ := hn
      exact h z0 z1 z2 z3 z4 z5 z6 z7 z8 z9 z10 z11
  · rw [if_pos rfl, Bool.true_or, if_pos rfl]
end Go.Proofs.YtfiefecjcmcejaaDoor.Q
