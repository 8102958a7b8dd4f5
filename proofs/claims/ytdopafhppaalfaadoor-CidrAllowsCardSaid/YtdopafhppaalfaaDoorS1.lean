/- cidr.Allow's told function, by bits: what is let. (Printed by wip/gen/gen_s1.py.) -/
import Derived.Test.YtdopafhppaalfaaDoorSJ
import Derived.Test.YtdopafhppaalfaaDoorSM
import Derived.Test.YtdopafhppaalfaaDoorM7
set_option linter.unusedSimpArgs false
set_option linter.unusedVariables false
set_option maxRecDepth 10000
namespace Go.Proofs.YtdopafhppaalfaaDoor.Q
open Go Go.RowKit Go.Lib Go.Proofs.YtdopafhppaalfaaDoorW.PrintWords Go.Proofs.YtdopafhppaalfaaDoorW.PrintMore Go.Proofs.YtdopafhppaalfaaDoorB Go.Proofs.YtdopafhppaalfaaDoor.E Go.Proofs.YtdopafhppaalfaaDoorV Go.Proofs.YtdopafhppaalfaaDoor.P Go.Proofs.YtdopafhppaalfaaDoor.G

/-- An address' bytes. -/
def bL (a : S24) : List Int := [a.f1.f0, a.f1.f1, a.f1.f2, a.f1.f3, a.f1.f4, a.f1.f5, a.f1.f6, a.f1.f7, a.f1.f8, a.f1.f9, a.f1.f10, a.f1.f11, a.f1.f12, a.f1.f13, a.f1.f14, a.f1.f15]
def okS (a : S24) : Prop := byteL (bL a)
def hasS (n : S34) (a : S24) : Bool := hasB n.f0.f0 (bL n.f0) n.f1 a.f0 (bL a)
theorem hasO_S (n : S34) (a : S24) (hn : okS n.f0) (ha : okS a) : hasO n a = some (hasS n a) := has_f n.f0.f0 n.f0.f1.f0 n.f0.f1.f1 n.f0.f1.f2 n.f0.f1.f3 n.f0.f1.f4 n.f0.f1.f5 n.f0.f1.f6 n.f0.f1.f7 n.f0.f1.f8 n.f0.f1.f9 n.f0.f1.f10 n.f0.f1.f11 n.f0.f1.f12 n.f0.f1.f13 n.f0.f1.f14 n.f0.f1.f15 n.f1 a.f0 a.f1.f0 a.f1.f1 a.f1.f2 a.f1.f3 a.f1.f4 a.f1.f5 a.f1.f6 a.f1.f7 a.f1.f8 a.f1.f9 a.f1.f10 a.f1.f11 a.f1.f12 a.f1.f13 a.f1.f14 a.f1.f15 hn ha
theorem anyO_all (p : S34 → Option Bool) (q : S34 → Bool) : ∀ l : List S34, (∀ x ∈ l, p x = some (q x)) → anyO p l = some (l.any q)
  | [], _ => rfl
  | x :: l, h => by
    rw [anyO, h x (List.mem_cons_self ..), Option.bind_some, anyO_all p q l (fun y hy => h y (List.mem_cons_of_mem _ hy)), Option.bind_some, List.any_cons]
theorem any_S (l : List S34) (a : S24) (hl : ∀ n ∈ l, okS n.f0) (ha : okS a) : anyO (fun n => hasO n a) l = some (l.any fun n => hasS n a) :=
  anyO_all _ _ l fun n hn => hasO_S n a (hl n hn) ha
def v4S (a b c d : Int) : S24 := ⟨false, ⟨0, 0, 0, 0, 0, 0, 0, 0, 0, 0, 0, 0, a, b, c, d⟩⟩
theorem okS_v4 (a b c d : Int) (ha : 0 ≤ a ∧ a < 256) (hb : 0 ≤ b ∧ b < 256) (hc : 0 ≤ c ∧ c < 256) (hd : 0 ≤ d ∧ d < 256) : okS (v4S a b c d) := by
  refine ⟨rfl, fun x hx => ?_⟩
  simp only [bL, v4S, List.mem_cons, List.not_mem_nil, or_false] at hx
  rcases hx with rfl | rfl | rfl | rfl | rfl | rfl | rfl | rfl | rfl | rfl | rfl | rfl | rfl | rfl | rfl | rfl <;> first | assumption | omega
def mapS (a : S24) : Bool := a.f0 && mapB a.f1.f0 a.f1.f1 a.f1.f2 a.f1.f3 a.f1.f4 a.f1.f5 a.f1.f6 a.f1.f7 a.f1.f8 a.f1.f9 a.f1.f10 a.f1.f11
def unmS (a : S24) : S24 := if mapS a = true then v4S a.f1.f12 a.f1.f13 a.f1.f14 a.f1.f15 else a
theorem unmapO_S (a : S24) : unmapO a = some (unmS a) := by
  unfold unmapO
  rw [unmap_f]
  unfold unmS
  by_cases h : mapS a = true
  · rw [if_pos h, if_pos (show (a.f0 && mapB a.f1.f0 a.f1.f1 a.f1.f2 a.f1.f3 a.f1.f4 a.f1.f5 a.f1.f6 a.f1.f7 a.f1.f8 a.f1.f9 a.f1.f10 a.f1.f11) = true from h)]; rfl
  · rw [if_neg h, if_neg (show ¬ (a.f0 && mapB a.f1.f0 a.f1.f1 a.f1.f2 a.f1.f3 a.f1.f4 a.f1.f5 a.f1.f6 a.f1.f7 a.f1.f8 a.f1.f9 a.f1.f10 a.f1.f11) = true from h)]
theorem okS_unm (a : S24) (ha : okS a) : okS (unmS a) := by
  have h0 : 0 ≤ a.f1.f0 ∧ a.f1.f0 < 256 := ha.2 _ (by simp [bL])
  have h1 : 0 ≤ a.f1.f1 ∧ a.f1.f1 < 256 := ha.2 _ (by simp [bL])
  have h2 : 0 ≤ a.f1.f2 ∧ a.f1.f2 < 256 := ha.2 _ (by simp [bL])
  have h3 : 0 ≤ a.f1.f3 ∧ a.f1.f3 < 256 := ha.2 _ (by simp [bL])
  have h4 : 0 ≤ a.f1.f4 ∧ a.f1.f4 < 256 := ha.2 _ (by simp [bL])
  have h5 : 0 ≤ a.f1.f5 ∧ a.f1.f5 < 256 := ha.2 _ (by simp [bL])
  have h6 : 0 ≤ a.f1.f6 ∧ a.f1.f6 < 256 := ha.2 _ (by simp [bL])
  have h7 : 0 ≤ a.f1.f7 ∧ a.f1.f7 < 256 := ha.2 _ (by simp [bL])
  have h8 : 0 ≤ a.f1.f8 ∧ a.f1.f8 < 256 := ha.2 _ (by simp [bL])
  have h9 : 0 ≤ a.f1.f9 ∧ a.f1.f9 < 256 := ha.2 _ (by simp [bL])
  have h10 : 0 ≤ a.f1.f10 ∧ a.f1.f10 < 256 := ha.2 _ (by simp [bL])
  have h11 : 0 ≤ a.f1.f11 ∧ a.f1.f11 < 256 := ha.2 _ (by simp [bL])
  have h12 : 0 ≤ a.f1.f12 ∧ a.f1.f12 < 256 := ha.2 _ (by simp [bL])
  have h13 : 0 ≤ a.f1.f13 ∧ a.f1.f13 < 256 := ha.2 _ (by simp [bL])
  have h14 : 0 ≤ a.f1.f14 ∧ a.f1.f14 < 256 := ha.2 _ (by simp [bL])
  have h15 : 0 ≤ a.f1.f15 ∧ a.f1.f15 < 256 := ha.2 _ (by simp [bL])
  unfold unmS
  split
  · exact okS_v4 _ _ _ _ h12 h13 h14 h15
  · exact ha
def toSB (t : Bool × Int × Int × Int × Int × Int × Int × Int × Int × Int × Int × Int × Int × Int × Int × Int × Int × Bool) : S24 × Bool := (⟨t.1, ⟨t.2.1, t.2.2.1, t.2.2.2.1, t.2.2.2.2.1, t.2.2.2.2.2.1, t.2.2.2.2.2.2.1, t.2.2.2.2.2.2.2.1, t.2.2.2.2.2.2.2.2.1, t.2.2.2.2.2.2.2.2.2.1, t.2.2.2.2.2.2.2.2.2.2.1, t.2.2.2.2.2.2.2.2.2.2.2.1, t.2.2.2.2.2.2.2.2.2.2.2.2.1, t.2.2.2.2.2.2.2.2.2.2.2.2.2.1, t.2.2.2.2.2.2.2.2.2.2.2.2.2.2.1, t.2.2.2.2.2.2.2.2.2.2.2.2.2.2.2.1, t.2.2.2.2.2.2.2.2.2.2.2.2.2.2.2.2.1⟩⟩, t.2.2.2.2.2.2.2.2.2.2.2.2.2.2.2.2.2)
def embS (a : S24) : S24 × Bool := toSB (if a.f0 = true then embV a.f1.f0 a.f1.f1 a.f1.f2 a.f1.f3 a.f1.f4 a.f1.f5 a.f1.f6 a.f1.f7 a.f1.f8 a.f1.f9 a.f1.f10 a.f1.f11 a.f1.f12 a.f1.f13 a.f1.f14 a.f1.f15 else T18b zT false)
theorem embO_S (k : Nat) (hk : 2 ≤ k) (a : S24) (ha : okS a) : embO k a = some (embS a) := by
  have h0 : 0 ≤ a.f1.f0 ∧ a.f1.f0 < 256 := ha.2 _ (by simp [bL])
  have h1 : 0 ≤ a.f1.f1 ∧ a.f1.f1 < 256 := ha.2 _ (by simp [bL])
  have h2 : 0 ≤ a.f1.f2 ∧ a.f1.f2 < 256 := ha.2 _ (by simp [bL])
  have h3 : 0 ≤ a.f1.f3 ∧ a.f1.f3 < 256 := ha.2 _ (by simp [bL])
  have h4 : 0 ≤ a.f1.f4 ∧ a.f1.f4 < 256 := ha.2 _ (by simp [bL])
  have h5 : 0 ≤ a.f1.f5 ∧ a.f1.f5 < 256 := ha.2 _ (by simp [bL])
  have h6 : 0 ≤ a.f1.f6 ∧ a.f1.f6 < 256 := ha.2 _ (by simp [bL])
  have h7 : 0 ≤ a.f1.f7 ∧ a.f1.f7 < 256 := ha.2 _ (by simp [bL])
  have h8 : 0 ≤ a.f1.f8 ∧ a.f1.f8 < 256 := ha.2 _ (by simp [bL])
  have h9 : 0 ≤ a.f1.f9 ∧ a.f1.f9 < 256 := ha.2 _ (by simp [bL])
  have h10 : 0 ≤ a.f1.f10 ∧ a.f1.f10 < 256 := ha.2 _ (by simp [bL])
  have h11 : 0 ≤ a.f1.f11 ∧ a.f1.f11 < 256 := ha.2 _ (by simp [bL])
  have h12 : 0 ≤ a.f1.f12 ∧ a.f1.f12 < 256 := ha.2 _ (by simp [bL])
  have h13 : 0 ≤ a.f1.f13 ∧ a.f1.f13 < 256 := ha.2 _ (by simp [bL])
  have h14 : 0 ≤ a.f1.f14 ∧ a.f1.f14 < 256 := ha.2 _ (by simp [bL])
  have h15 : 0 ≤ a.f1.f15 ∧ a.f1.f15 < 256 := ha.2 _ (by simp [bL])
  unfold embO embS
  rw [embeds_f k hk a.f0 a.f1.f0 a.f1.f1 a.f1.f2 a.f1.f3 a.f1.f4 a.f1.f5 a.f1.f6 a.f1.f7 a.f1.f8 a.f1.f9 a.f1.f10 a.f1.f11 a.f1.f12 a.f1.f13 a.f1.f14 a.f1.f15 h0 h1 h2 h3 h4 h5 h6 h7 h8 h9 h10 h11 h12 h13 h14 h15]
  generalize (if a.f0 = true then embV a.f1.f0 a.f1.f1 a.f1.f2 a.f1.f3 a.f1.f4 a.f1.f5 a.f1.f6 a.f1.f7 a.f1.f8 a.f1.f9 a.f1.f10 a.f1.f11 a.f1.f12 a.f1.f13 a.f1.f14 a.f1.f15 else T18b zT false) = t
  obtain ⟨r0, r1, r2, r3, r4, r5, r6, r7, r8, r9, r10, r11, r12, r13, r14, r15, r16, ok⟩ := t
  rfl
theorem embV_v4 (a : S24) (ha : okS a) : ∃ x y z w o, toSB (embV a.f1.f0 a.f1.f1 a.f1.f2 a.f1.f3 a.f1.f4 a.f1.f5 a.f1.f6 a.f1.f7 a.f1.f8 a.f1.f9 a.f1.f10 a.f1.f11 a.f1.f12 a.f1.f13 a.f1.f14 a.f1.f15) = (v4S x y z w, o) ∧ (0 ≤ x ∧ x < 256) ∧ (0 ≤ y ∧ y < 256) ∧ (0 ≤ z ∧ z < 256) ∧ (0 ≤ w ∧ w < 256) := by
  have h0 : 0 ≤ a.f1.f0 ∧ a.f1.f0 < 256 := ha.2 _ (by simp [bL])
  have h1 : 0 ≤ a.f1.f1 ∧ a.f1.f1 < 256 := ha.2 _ (by simp [bL])
  have h2 : 0 ≤ a.f1.f2 ∧ a.f1.f2 < 256 := ha.2 _ (by simp [bL])
  have h3 : 0 ≤ a.f1.f3 ∧ a.f1.f3 < 256 := ha.2 _ (by simp [bL])
  have h4 : 0 ≤ a.f1.f4 ∧ a.f1.f4 < 256 := ha.2 _ (by simp [bL])
  have h5 : 0 ≤ a.f1.f5 ∧ a.f1.f5 < 256 := ha.2 _ (by simp [bL])
  have h6 : 0 ≤ a.f1.f6 ∧ a.f1.f6 < 256 := ha.2 _ (by simp [bL])
  have h7 : 0 ≤ a.f1.f7 ∧ a.f1.f7 < 256 := ha.2 _ (by simp [bL])
  have h8 : 0 ≤ a.f1.f8 ∧ a.f1.f8 < 256 := ha.2 _ (by simp [bL])
  have h9 : 0 ≤ a.f1.f9 ∧ a.f1.f9 < 256 := ha.2 _ (by simp [bL])
  have h10 : 0 ≤ a.f1.f10 ∧ a.f1.f10 < 256 := ha.2 _ (by simp [bL])
  have h11 : 0 ≤ a.f1.f11 ∧ a.f1.f11 < 256 := ha.2 _ (by simp [bL])
  have h12 : 0 ≤ a.f1.f12 ∧ a.f1.f12 < 256 := ha.2 _ (by simp [bL])
  have h13 : 0 ≤ a.f1.f13 ∧ a.f1.f13 < 256 := ha.2 _ (by simp [bL])
  have h14 : 0 ≤ a.f1.f14 ∧ a.f1.f14 < 256 := ha.2 _ (by simp [bL])
  have h15 : 0 ≤ a.f1.f15 ∧ a.f1.f15 < 256 := ha.2 _ (by simp [bL])
  have z : (0 : Int) ≤ 0 ∧ (0 : Int) < 256 := by decide
  unfold embV
  split
  · exact ⟨_, _, _, _, _, rfl, h12, h13, h14, h15⟩
  split
  · exact ⟨_, _, _, _, _, rfl, h12, h13, h14, h15⟩
  split
  · split
    · exact ⟨0, 0, 0, 0, _, rfl, z, z, z, z⟩
    · exact ⟨_, _, _, _, _, rfl, h12, h13, h14, h15⟩
  split
  · exact ⟨_, _, _, _, _, rfl, h2, h3, h4, h5⟩
  · exact ⟨0, 0, 0, 0, _, rfl, z, z, z, z⟩
theorem embS_v4 (a : S24) (ha : okS a) : (embS a).1.f0 = false ∧ okS (embS a).1 := by
  unfold embS
  by_cases h : a.f0 = true
  · rw [if_pos h]
    obtain ⟨x, y, z, w, o, e, h1, h2, h3, h4⟩ := embV_v4 a ha
    rw [e]; exact ⟨rfl, okS_v4 _ _ _ _ h1 h2 h3 h4⟩
  · rw [if_neg h]
    have z : (0 : Int) ≤ 0 ∧ (0 : Int) < 256 := by decide
    exact ⟨rfl, okS_v4 0 0 0 0 z z z z⟩
theorem embS_no (a : S24) (h : a.f0 = false) : (embS a).2 = false := by unfold embS; rw [if_neg (by rw [h]; decide)]; rfl
theorem unmS_no (a : S24) (h : a.f0 = false) : unmS a = a := by unfold unmS mapS; rw [h, Bool.false_and, if_neg (by decide)]
/-- What is answered behind the first checks. -/
def letS (l : List S34) (a : S24) : Int := if (l.any fun n => hasS n (unmS a)) = true then 8 else if (embS (unmS a)).2 = true then (if (l.any fun n => hasS n (embS (unmS a)).1) = true then 8 else 0) else 0
theorem l0_S (k : Nat) (l : List S34) (a : S24) (hl : ∀ n ∈ l, okS n.f0) (ha : okS a) : cidr_Allow.l0 (k + 4) a l = some (letS l a) := by
  have h1 := okS_unm a ha
  obtain ⟨h2, h3⟩ := embS_v4 _ h1
  rw [cidr_Allow.l0, unmapO_S, Option.bind_some, any_S l _ hl h1, Option.bind_some, letS]
  by_cases c1 : (l.any fun n => hasS n (unmS a)) = true
  · rw [if_pos c1, if_pos c1]
  · rw [if_neg c1, if_neg c1, embO_S _ (by omega) _ h1, Option.bind_some]
    by_cases c2 : (embS (unmS a)).2 = true
    · rw [if_pos c2, if_pos c2, cidr_Allow.l0, unmapO_S, Option.bind_some, unmS_no _ h2, any_S l _ hl h3, Option.bind_some]
      by_cases c3 : (l.any fun n => hasS n (embS (unmS a)).1) = true
      · rw [if_pos c3, if_pos c3]
      · rw [if_neg c3, if_neg c3, embO_S _ (by omega) _ h3, Option.bind_some, embS_no _ h2, if_neg (by decide)]
    · rw [if_neg c2, if_neg c2]
def mayS (a : S24) : Bool := a.f0 || zB a.f1.f0 a.f1.f1 a.f1.f2 a.f1.f3 a.f1.f4 a.f1.f5 a.f1.f6 a.f1.f7 a.f1.f8 a.f1.f9 a.f1.f10 a.f1.f11
theorem FL_ok : ∀ n ∈ FL, okS n.f0 := by
  have h : FL.all (fun n => decide ((bL n.f0).length = 16) && (bL n.f0).all fun b => decide (0 ≤ b) && decide (b < 256)) = true := by kernel_rfl
  intro n hn
  have h2 := List.all_eq_true.1 h n hn
  rw [Bool.and_eq_true, decide_eq_true_eq, List.all_eq_true] at h2
  refine ⟨h2.1, fun b hb => ?_⟩
  have h3 := h2.2 b hb
  rw [Bool.and_eq_true, decide_eq_true_eq, decide_eq_true_eq] at h3
  exact h3
theorem any_false {l : List S34} {q : S34 → Bool} (h : ¬ (l.any q) = true) : ∀ n ∈ l, q n = false := by
  intro n hn
  rw [Bool.eq_false_iff]
  intro h2
  exact h (List.any_eq_true.2 ⟨n, hn, h2⟩)
end Go.Proofs.YtdopafhppaalfaaDoor.Q
