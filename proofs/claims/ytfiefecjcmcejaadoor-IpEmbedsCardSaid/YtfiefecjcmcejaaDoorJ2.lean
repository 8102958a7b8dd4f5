/- The law IpEmbeds, plainly: the law. -/
import Derived.Test.YtfiefecjcmcejaaDoorJ1
set_option linter.unusedSimpArgs false
set_option linter.unusedVariables false
set_option maxRecDepth 10000
namespace Go.Proofs.YtfiefecjcmcejaaDoor.Q
open Go Go.RowKit Go.Lib Go.Proofs.YtfiefecjcmcejaaDoorW.PrintWords Go.Proofs.YtfiefecjcmcejaaDoorW.PrintMore Go.Proofs.YtfiefecjcmcejaaDoorB Go.Proofs.YtfiefecjcmcejaaDoor.E Go.Proofs.YtfiefecjcmcejaaDoorV Go.Proofs.YtfiefecjcmcejaaDoor.P

theorem v4u (x0 x1 x2 x3 : Int) (h0 : 0 ≤ x0 ∧ x0 < 256) (h1 : 0 ≤ x1 ∧ x1 < 256) (h2 : 0 ≤ x2 ∧ x2 < 256) (h3 : 0 ≤ x3 ∧ x3 < 256) (k : Nat) (hk : 5 ≤ k) :
    lanternref05_V4.f k (IntKind.u64.wrap ((IntKind.u64.wrap ((IntKind.u64.wrap ((IntKind.u64.wrap ((IntKind.u64.wrap (x0)) * 16777216)) + (IntKind.u64.wrap ((IntKind.u64.wrap (x1)) * 65536)))) + (IntKind.u64.wrap ((IntKind.u64.wrap (x2)) * 256)))) + (IntKind.u64.wrap (x3)))) = some (V4T x0 x1 x2 x3) := by
  have u (x : Int) (h : 0 ≤ x ∧ x < 18446744073709551616) : IntKind.u64.wrap x = x := by rw [IntKind.wrap_u64]; omega
  rw [u x0 (by omega), u x1 (by omega), u x2 (by omega), u x3 (by omega), u (x0 * 16777216) (by omega), u (x1 * 65536) (by omega), u (x2 * 256) (by omega), u (x0 * 16777216 + x1 * 65536) (by omega), u (x0 * 16777216 + x1 * 65536 + x2 * 256) (by omega), u (x0 * 16777216 + x1 * 65536 + x2 * 256 + x3) (by omega)]
  obtain ⟨n0, e0⟩ := Int.eq_ofNat_of_zero_le h0.1
  obtain ⟨n1, e1⟩ := Int.eq_ofNat_of_zero_le h1.1
  obtain ⟨n2, e2⟩ := Int.eq_ofNat_of_zero_le h2.1
  obtain ⟨n3, e3⟩ := Int.eq_ofNat_of_zero_le h3.1
  have hn : x0 * 16777216 + x1 * 65536 + x2 * 256 + x3 = ((n0 * 16777216 + n1 * 65536 + n2 * 256 + n3 : Nat) : Int) := by omega
  rw [hn, refV4_f _ (by omega) _ hk, V4_bytes n0 n1 n2 n3 (by omega) (by omega) (by omega) (by omega), e0, e1, e2, e3]
theorem IpEmbeds_law (b : Bool) (b1 b2 b3 b4 b5 b6 b7 b8 b9 b10 b11 b12 b13 b14 b15 b16 x0 x1 x2 x3 : Int) (h1 : 0 ≤ b1 ∧ b1 < 256) (h2 : 0 ≤ b2 ∧ b2 < 256) (h3 : 0 ≤ b3 ∧ b3 < 256) (h4 : 0 ≤ b4 ∧ b4 < 256) (h5 : 0 ≤ b5 ∧ b5 < 256) (h6 : 0 ≤ b6 ∧ b6 < 256) (h7 : 0 ≤ b7 ∧ b7 < 256) (h8 : 0 ≤ b8 ∧ b8 < 256) (h9 : 0 ≤ b9 ∧ b9 < 256) (h10 : 0 ≤ b10 ∧ b10 < 256) (h11 : 0 ≤ b11 ∧ b11 < 256) (h12 : 0 ≤ b12 ∧ b12 < 256) (h13 : 0 ≤ b13 ∧ b13 < 256) (h14 : 0 ≤ b14 ∧ b14 < 256) (h15 : 0 ≤ b15 ∧ b15 < 256) (h16 : 0 ≤ b16 ∧ b16 < 256) (g0 : 0 ≤ x0 ∧ x0 < 256) (g1 : 0 ≤ x1 ∧ x1 < 256) (g2 : 0 ≤ x2 ∧ x2 < 256) (g3 : 0 ≤ x3 ∧ x3 < 256) : ∃ k, lanternlaw05_IpEmbeds.f k b b1 b2 b3 b4 b5 b6 b7 b8 b9 b10 b11 b12 b13 b14 b15 b16 x0 x1 x2 x3 = some true := by
  refine ⟨100, ?_⟩
  have haw := awake_f 99 (by decide)
  rw [lanternlaw05_IpEmbeds.f, unmap_f, Option.bind_some, embeds_f 100 (by decide) b b1 b2 b3 b4 b5 b6 b7 b8 b9 b10 b11 b12 b13 b14 b15 b16 h1 h2 h3 h4 h5 h6 h7 h8 h9 h10 h11 h12 h13 h14 h15 h16, Option.bind_some, refEmbeds_f 100 (by decide) b b1 b2 b3 b4 b5 b6 b7 b8 b9 b10 b11 b12 b13 b14 b15 b16 h1 h2 h3 h4 h5 h6 h7 h8 h9 h10 h11 h12 h13 h14 h15 h16, Option.bind_some]
  generalize (if b = true then embV b1 b2 b3 b4 b5 b6 b7 b8 b9 b10 b11 b12 b13 b14 b15 b16 else T18b zT false) = t
  rw [if_neg (by simp), if_neg (by simp), ip_V4.f, Option.bind_some, v4u x0 x1 x2 x3 g0 g1 g2 g3 100 (by decide), Option.bind_some]
  dsimp only [V4T]
  simp only [beq_self_eq_true, Bool.not_true, Bool.or_false, Bool.false_or]
  rw [lanternlaw05_IpEmbeds.j0, if_neg (by decide), refMapped_f 99 (by decide), Option.bind_some]
  by_cases hm : (mapB b1 b2 b3 b4 b5 b6 b7 b8 b9 b10 b11 b12 && b) = true
  · have hm2 : (b && mapB b1 b2 b3 b4 b5 b6 b7 b8 b9 b10 b11 b12) = true := by rw [Bool.and_comm]; exact hm
    rw [if_pos hm, tail12_f 99 (by decide) b b1 b2 b3 b4 b5 b6 b7 b8 b9 b10 b11 b12 b13 b14 b15 b16 h1 h2 h3 h4 h5 h6 h7 h8 h9 h10 h11 h12 h13 h14 h15 h16, Option.bind_some, if_pos hm2, if_pos (by simp [V4T]), haw, Option.bind_some]
  · have hm2 : ¬ (b && mapB b1 b2 b3 b4 b5 b6 b7 b8 b9 b10 b11 b12) = true := by rw [Bool.and_comm]; exact hm
    rw [if_neg hm, if_neg hm2, if_pos (by simp), haw, Option.bind_some]
theorem wr_u8 {x : Int} (h : (Lit.int .u8 x).wf = true) : 0 ≤ x ∧ x < 256 := by
  simp [Lit.wf, IntKind.min, IntKind.max, IntKind.signed, IntKind.bits] at h
  omega
theorem IpEmbeds_wf (b : Bool) (b1 b2 b3 b4 b5 b6 b7 b8 b9 b10 b11 b12 b13 b14 b15 b16 x0 x1 x2 x3 : Int) (h1 : (Lit.int .u8 b1).wf = true) (h2 : (Lit.int .u8 b2).wf = true) (h3 : (Lit.int .u8 b3).wf = true) (h4 : (Lit.int .u8 b4).wf = true) (h5 : (Lit.int .u8 b5).wf = true) (h6 : (Lit.int .u8 b6).wf = true) (h7 : (Lit.int .u8 b7).wf = true) (h8 : (Lit.int .u8 b8).wf = true) (h9 : (Lit.int .u8 b9).wf = true) (h10 : (Lit.int .u8 b10).wf = true) (h11 : (Lit.int .u8 b11).wf = true) (h12 : (Lit.int .u8 b12).wf = true) (h13 : (Lit.int .u8 b13).wf = true) (h14 : (Lit.int .u8 b14).wf = true) (h15 : (Lit.int .u8 b15).wf = true) (h16 : (Lit.int .u8 b16).wf = true) (g0 : (Lit.int .u8 x0).wf = true) (g1 : (Lit.int .u8 x1).wf = true) (g2 : (Lit.int .u8 x2).wf = true) (g3 : (Lit.int .u8 x3).wf = true) : ∃ k, lanternlaw05_IpEmbeds.f k b b1 b2 b3 b4 b5 b6 b7 b8 b9 b10 b11 b12 b13 b14 b15 b16 x0 x1 x2 x3 = some true :=
  IpEmbeds_law b b1 b2 b3 b4 b5 b6 b7 b8 b9 b10 b11 b12 b13 b14 b15 b16 x0 x1 x2 x3 (wr_u8 h1) (wr_u8 h2) (wr_u8 h3) (wr_u8 h4) (wr_u8 h5) (wr_u8 h6) (wr_u8 h7) (wr_u8 h8) (wr_u8 h9) (wr_u8 h10) (wr_u8 h11) (wr_u8 h12) (wr_u8 h13) (wr_u8 h14) (wr_u8 h15) (wr_u8 h16) (wr_u8 g0) (wr_u8 g1) (wr_u8 g2) (wr_u8 g3)
end Go.Proofs.YtfiefecjcmcejaaDoor.Q
