/- The law CidrSafe, plainly: the law. -/
import Derived.Test.YtdopafhppaalfaaDoorS1
import Derived.Test.YtdopafhppaalfaaDoorL2
set_option linter.unusedSimpArgs false
set_option linter.unusedVariables false
set_option maxRecDepth 10000
namespace Go.Proofs.YtdopafhppaalfaaDoor.Q
open Go Go.RowKit Go.Lib Go.Proofs.YtdopafhppaalfaaDoorW.PrintWords Go.Proofs.YtdopafhppaalfaaDoorW.PrintMore Go.Proofs.YtdopafhppaalfaaDoorB Go.Proofs.YtdopafhppaalfaaDoor.E Go.Proofs.YtdopafhppaalfaaDoorV Go.Proofs.YtdopafhppaalfaaDoor.P Go.Proofs.YtdopafhppaalfaaDoor.G Go.Proofs.YtdopafhppaalfaaDoor.L

theorem par6 : lanternref05_Parse.f 60 (⟨#[58, 58, 102, 102, 102, 102, 58, 49, 48, 46, 48, 46, 48, 46, 49]⟩ : ByteArray) = some (true, 0, 0, 0, 0, 0, 0, 0, 0, 0, 0, 255, 255, 10, 0, 0, 1, true) := by kernel_rfl
theorem par4 : lanternref05_Parse.f 60 (⟨#[56, 46, 56, 46, 56, 46, 56]⟩ : ByteArray) = some (false, 0, 0, 0, 0, 0, 0, 0, 0, 0, 0, 0, 0, 8, 8, 8, 8, true) := by kernel_rfl
theorem al6 : cidr_Allow.f 60 true 0 0 0 0 0 0 0 0 0 0 255 255 10 0 0 1 [] = some 8 := by
 rw [cidr_Allow.f, forb60]
 decide +kernel
theorem al4 : cidr_Allow.f 60 false 0 0 0 0 0 0 0 0 0 0 0 0 8 8 8 8 [] = some 0 := by
 rw [cidr_Allow.f, forb60]
 decide +kernel
theorem aw60 : lanternlaw06_awake.f 60 = some true := by
 rw [lanternlaw06_awake.f, par6, Option.bind_some, par4, Option.bind_some]
 dsimp only
 rw [if_pos rfl, if_pos rfl, al6, Option.bind_some, if_pos rfl, al4, Option.bind_some, if_pos rfl, forb60, Option.bind_some]
 kernel_rfl
theorem awake_f (k : Nat) (hk : 60 ≤ k) : lanternlaw06_awake.f k = some true := up_to lanternlaw06_awake.mono aw60 k hk
def embT (a : S24) : Bool × Int × Int × Int × Int × Int × Int × Int × Int × Int × Int × Int × Int × Int × Int × Int × Int × Bool := if a.f0 = true then embV a.f1.f0 a.f1.f1 a.f1.f2 a.f1.f3 a.f1.f4 a.f1.f5 a.f1.f6 a.f1.f7 a.f1.f8 a.f1.f9 a.f1.f10 a.f1.f11 a.f1.f12 a.f1.f13 a.f1.f14 a.f1.f15 else T18b zT false
theorem embS_T (a : S24) : embS a = toSB (embT a) := rfl
theorem refEmb_S (k : Nat) (hk : 60 ≤ k) (a : S24) (ha : okS a) : lanternref05_Embeds.f k a.f0 a.f1.f0 a.f1.f1 a.f1.f2 a.f1.f3 a.f1.f4 a.f1.f5 a.f1.f6 a.f1.f7 a.f1.f8 a.f1.f9 a.f1.f10 a.f1.f11 a.f1.f12 a.f1.f13 a.f1.f14 a.f1.f15 = some (embT a) := by
 have h0 : 0 ≤ a.f1.f0 ∧ a.f1.f0 < 256 := ha.2 _ (by simp [bL])
 have h1 : 0 ≤ a.f1.f1 ∧ a.f1.f1 < 256 := ha.2 _ (by simp [bL])
 have h2 : 0 ≤ a.f1.f2 ∧ a.f1.f2 < 256 := ha.2 _ (by simp [bL])
 have h3 : 0 ≤ a.f1.f3 ∧ a.f1.f3 < 256 := ha.2 _ (by simp [bL])
 have h4 : 0 ≤ a.f1.f4 ∧ a.f1.f4 < 256 := ha.2 _ (by simp [bL])
 have h5 : 0 ≤ a.f1.f5 ∧ a.f1.f5 < 256 := ha.2 _ (by simp [bL])
 have h6 : 0 ≤ a.f1.f6 ∧ a.f1.f6 < 256 := ha.2 _ (by simp [bL])
 have h7 : 0 ≤ a.f1.f7 ∧ a.f1.f7 < 256 := ha.2 _ (by simp [bL])
 have h8 : 0 ≤ a.f1.f8 ∧ a.f1.f8 < 256 := ha.2 _ (by simp [bL])
 have h9 : 0 ≤ a.f1.f9 ∧ a.f1.f9 < 256 := ha.2 _ (by simp [bL])
 have h10 : 0 ≤ a.f1.f10 ∧ a.f1.f10 < 256 := ha.2 _ (by simp [bL])
 have h11 : 0 ≤ a.f1.f11 ∧ a.f1.f11 < 256 := ha.2 _ (by simp [bL])
 have h12 : 0 ≤ a.f1.f12 ∧ a.f1.f12 < 256 := ha.2 _ (by simp [bL])
 have h13 : 0 ≤ a.f1.f13 ∧ a.f1.f13 < 256 := ha.2 _ (by simp [bL])
 have h14 : 0 ≤ a.f1.f14 ∧ a.f1.f14 < 256 := ha.2 _ (by simp [bL])
 have h15 : 0 ≤ a.f1.f15 ∧ a.f1.f15 < 256 := ha.2 _ (by simp [bL])
 exact refEmbeds_f k hk a.f0 a.f1.f0 a.f1.f1 a.f1.f2 a.f1.f3 a.f1.f4 a.f1.f5 a.f1.f6 a.f1.f7 a.f1.f8 a.f1.f9 a.f1.f10 a.f1.f11 a.f1.f12 a.f1.f13 a.f1.f14 a.f1.f15 h0 h1 h2 h3 h4 h5 h6 h7 h8 h9 h10 h11 h12 h13 h14 h15
theorem has_T (n : S34) (a : S24) (hn : okS n.f0) (ha : okS a) : cidr_Has.f n.f0.f0 n.f0.f1.f0 n.f0.f1.f1 n.f0.f1.f2 n.f0.f1.f3 n.f0.f1.f4 n.f0.f1.f5 n.f0.f1.f6 n.f0.f1.f7 n.f0.f1.f8 n.f0.f1.f9 n.f0.f1.f10 n.f0.f1.f11 n.f0.f1.f12 n.f0.f1.f13 n.f0.f1.f14 n.f0.f1.f15 n.f1 a.f0 a.f1.f0 a.f1.f1 a.f1.f2 a.f1.f3 a.f1.f4 a.f1.f5 a.f1.f6 a.f1.f7 a.f1.f8 a.f1.f9 a.f1.f10 a.f1.f11 a.f1.f12 a.f1.f13 a.f1.f14 a.f1.f15 = some (hasS n a) := hasO_S n a hn ha
theorem has_E (n : S34) (a : S24) (t : Bool × Int × Int × Int × Int × Int × Int × Int × Int × Int × Int × Int × Int × Int × Int × Int × Int × Bool) (hn : okS n.f0) (ha : okS (toSB t).1) : cidr_Has.f n.f0.f0 n.f0.f1.f0 n.f0.f1.f1 n.f0.f1.f2 n.f0.f1.f3 n.f0.f1.f4 n.f0.f1.f5 n.f0.f1.f6 n.f0.f1.f7 n.f0.f1.f8 n.f0.f1.f9 n.f0.f1.f10 n.f0.f1.f11 n.f0.f1.f12 n.f0.f1.f13 n.f0.f1.f14 n.f0.f1.f15 n.f1 t.1 t.2.1 t.2.2.1 t.2.2.2.1 t.2.2.2.2.1 t.2.2.2.2.2.1 t.2.2.2.2.2.2.1 t.2.2.2.2.2.2.2.1 t.2.2.2.2.2.2.2.2.1 t.2.2.2.2.2.2.2.2.2.1 t.2.2.2.2.2.2.2.2.2.2.1 t.2.2.2.2.2.2.2.2.2.2.2.1 t.2.2.2.2.2.2.2.2.2.2.2.2.1 t.2.2.2.2.2.2.2.2.2.2.2.2.2.1 t.2.2.2.2.2.2.2.2.2.2.2.2.2.2.1 t.2.2.2.2.2.2.2.2.2.2.2.2.2.2.2.1 t.2.2.2.2.2.2.2.2.2.2.2.2.2.2.2.2.1 = some (hasS n (toSB t).1) := hasO_S n (toSB t).1 hn ha
theorem safe_l (a : S24) (ha : okS a) (hs : ∀ n ∈ FL, hasS n a = false ∧ ((embS a).2 = true → hasS n (embS a).1 = false)) : ∀ (c k i : Nat), i + c = 26 → lanternlaw06_CidrSafe.l0 (k + 100 + c) FL (i : Int) a.f0 a.f1.f0 a.f1.f1 a.f1.f2 a.f1.f3 a.f1.f4 a.f1.f5 a.f1.f6 a.f1.f7 a.f1.f8 a.f1.f9 a.f1.f10 a.f1.f11 a.f1.f12 a.f1.f13 a.f1.f14 a.f1.f15 = some true
 | 0, k, i, hi => by
  rw [lanternlaw06_CidrSafe.l0, if_neg (by rw [show FL.length = 26 from rfl]; omega), awake_f _ (by omega), Option.bind_some]
 | c + 1, k, i, hi => by
  have hlt : i < FL.length := by rw [show FL.length = 26 from rfl]; omega
  have hn := List.getElem_mem hlt
  have er : rd_T34 FL (i : Int) = FL[i] := by
   show FL.getD (i : Int).toNat _ = _
   rw [Int.toNat_natCast, List.getD_eq_getElem?_getD, List.getElem?_eq_getElem hlt, Option.getD_some]
  have ho := FL_ok _ hn
  obtain ⟨s1, s2⟩ := hs _ hn
  have ih := safe_l a ha hs c k (i + 1) (by omega)
  have ew : wrap64 ((i : Int) + 1) = ((i + 1 : Nat) : Int) := by rw [wrap_id (by omega) (by omega)]; omega
  rw [show k + 100 + (c + 1) = (k + 100 + c) + 1 from rfl, lanternlaw06_CidrSafe.l0, if_pos (by omega), if_pos (by omega), er, has_T _ a ho ha, Option.bind_some, s1, if_neg (by decide), refEmb_S _ (by omega) a ha, Option.bind_some]
  have hv := (embS_v4 a ha).2
  rw [embS_T] at s2 hv
  by_cases ho2 : (toSB (embT a)).2 = true
  ·rw [if_pos (by exact ho2), has_E _ a (embT a) ho hv, Option.bind_some, s2 ho2, if_neg (by decide), ew]
   exact ih
  ·rw [if_neg (by exact ho2), ew]
   exact ih
theorem CidrSafe_law (a : S24) (ha : okS a) : ∃ k, lanternlaw06_CidrSafe.f k a.f0 a.f1.f0 a.f1.f1 a.f1.f2 a.f1.f3 a.f1.f4 a.f1.f5 a.f1.f6 a.f1.f7 a.f1.f8 a.f1.f9 a.f1.f10 a.f1.f11 a.f1.f12 a.f1.f13 a.f1.f14 a.f1.f15 = some true := by
 refine ⟨200, ?_⟩
 rw [lanternlaw06_CidrSafe.f, allow_S 200 (by decide) a ha, Option.bind_some]
 by_cases h : (if mayS a = true then letS FL a else 1) = 0
 ·rw [if_pos h, up_to cidr_Forbidden.mono forb60 200 (by decide), Option.bind_some]
  have h2 : letS FL a = 0 := by
   by_cases m : mayS a = true
   ·rw [if_pos m] at h; exact h
   ·rw [if_neg m] at h; exact absurd h (by decide)
  exact safe_l a ha (safe a h2) 26 74 0 rfl
 ·rw [if_neg h, awake_f 200 (by decide), Option.bind_some]
theorem wr_u8 {x : Int} (h : (Lit.int .u8 x).wf = true) : 0 ≤ x ∧ x < 256 := by
 simp [Lit.wf, IntKind.min, IntKind.max, IntKind.signed, IntKind.bits] at h
 omega
theorem CidrSafe_wf (b : Bool) (b1 b2 b3 b4 b5 b6 b7 b8 b9 b10 b11 b12 b13 b14 b15 b16 : Int) (h1 : (Lit.int .u8 b1).wf = true) (h2 : (Lit.int .u8 b2).wf = true) (h3 : (Lit.int .u8 b3).wf = true) (h4 : (Lit.int .u8 b4).wf = true) (h5 : (Lit.int .u8 b5).wf = true) (h6 : (Lit.int .u8 b6).wf = true) (h7 : (Lit.int .u8 b7).wf = true) (h8 : (Lit.int .u8 b8).wf = true) (h9 : (Lit.int .u8 b9).wf = true) (h10 : (Lit.int .u8 b10).wf = true) (h11 : (Lit.int .u8 b11).wf = true) (h12 : (Lit.int .u8 b12).wf = true) (h13 : (Lit.int .u8 b13).wf = true) (h14 : (Lit.int .u8 b14).wf = true) (h15 : (Lit.int .u8 b15).wf = true) (h16 : (Lit.int .u8 b16).wf = true) : ∃ k, lanternlaw06_CidrSafe.f k b b1 b2 b3 b4 b5 b6 b7 b8 b9 b10 b11 b12 b13 b14 b15 b16 = some true := by
 refine CidrSafe_law ⟨b, ⟨b1, b2, b3, b4, b5, b6, b7, b8, b9, b10, b11, b12, b13, b14, b15, b16⟩⟩ ⟨rfl, fun x hx => ?_⟩
 simp only [bL, List.mem_cons, List.not_mem_nil, or_false] at hx
 rcases hx with rfl | rfl | rfl | rfl | rfl | rfl | rfl | rfl | rfl | rfl | rfl | rfl | rfl | rfl | rfl | rfl <;> (apply wr_u8; assumption)
end Go.Proofs.YtdopafhppaalfaaDoor.Q
