/- The law IpLooses, plainly. -/
import Derived.Test.YtfiefecjcmcejaaDoorI6
set_option linter.unusedSimpArgs false
set_option linter.unusedVariables false
set_option maxRecDepth 10000
namespace Go.Proofs.YtfiefecjcmcejaaDoor.Q
open Go Go.RowKit Go.Lib Go.Proofs.YtfiefecjcmcejaaDoorW.PrintWords Go.Proofs.YtfiefecjcmcejaaDoorW.PrintMore Go.Proofs.YtfiefecjcmcejaaDoorB Go.Proofs.YtfiefecjcmcejaaDoor.E Go.Proofs.YtfiefecjcmcejaaDoorV Go.Proofs.YtfiefecjcmcejaaDoor.P

theorem aw60 : lanternlaw05_awake.f 60 = some true := by decide +kernel
theorem awake_f (k : Nat) (hk : 60 ≤ k) : lanternlaw05_awake.f k = some true := up_to lanternlaw05_awake.mono aw60 k hk
theorem snoc_of {c : UInt8} {l : List UInt8} (h : l.getLast? = some c) : ∃ t, l = t ++ [c] := by
  rcases List.eq_nil_or_concat l with rfl | ⟨t, b, rfl⟩
  · cases h
  · rw [List.concat_eq_append] at h ⊢
    rw [List.getLast?_concat] at h
    exact ⟨t, by rw [Option.some.inj h]⟩
theorem splitS_snoc (c : UInt8) : ∀ t : List UInt8, splitS c (t ++ [c]) = splitS c t ++ [[]]
  | [] => by simp [splitS]
  | b :: t => by
    rw [List.cons_append, splitS, splitS_snoc c t, splitS]
    split
    · rfl
    · cases h : splitS c t with
      | nil => exact absurd h (splitS_ne c t)
      | cons q u => rfl
theorem mem_split (c b : UInt8) (hb : b ≠ c) : ∀ l : List UInt8, b ∈ l → ∃ p ∈ splitS c l, b ∈ p
  | x :: l, h => by
    rw [splitS]
    split
    · rename_i hx
      have hl : b ∈ l := by
        rcases List.mem_cons.1 h with rfl | h
        · exact absurd hx hb
        · exact h
      obtain ⟨p, hp, hbp⟩ := mem_split c b hb l hl
      exact ⟨p, List.mem_cons_of_mem _ hp, hbp⟩
    · cases hs : splitS c l with
      | nil => exact absurd hs (splitS_ne c l)
      | cons q u =>
        dsimp only
        rcases List.mem_cons.1 h with rfl | h
        · exact ⟨b :: q, by simp, by simp⟩
        · obtain ⟨p, hp, hbp⟩ := mem_split c b hb l h
          rw [hs] at hp
          rcases List.mem_cons.1 hp with rfl | hp
          · exact ⟨x :: p, by simp, by simp [hbp]⟩
          · exact ⟨p, by simp [hp], hbp⟩
theorem numV_bad (base : Nat) (b : UInt8) (hb : D b = none) : ∀ (l : List UInt8) (acc : Nat), b ∈ l → numV base acc l = none
  | x :: l, acc, h => by
    rw [numV]
    rcases List.mem_cons.1 h with rfl | h
    · rw [hb]
    · cases D x with
      | none => rfl
      | some d =>
        dsimp only
        split
        · exact numV_bad base b hb l _ h
        · rfl
theorem partV_bad (l : List UInt8) (h : (58 : UInt8) ∈ l) : partV l = none := by
  have hD : D 58 = none := by decide
  unfold partV
  split
  · rename_i c t
    split
    · rename_i hc
      have ht : (58 : UInt8) ∈ t := by
        rcases List.mem_cons.1 h with h | h
        · exact absurd h (by decide)
        · rcases List.mem_cons.1 h with h | h
          · subst h; exact absurd hc (by decide)
          · exact h
      rw [if_neg (by rintro rfl; cases ht)]
      exact numV_bad 16 58 hD t 0 ht
    · exact numV_bad 8 58 hD _ 0 h
  · cases h
  · exact numV_bad 10 58 hD _ 0 h
theorem looseV_bad (ps : List (List UInt8)) (p : List UInt8) (hp : p ∈ ps) (h : partV p = none) : looseV ps = none := by
  match ps, hp with
  | [a], hp =>
    obtain rfl : p = a := by simpa using hp
    rw [looseV, h]; rfl
  | [a, b], hp =>
    rw [looseV]
    rcases (by simpa using hp : p = a ∨ p = b) with rfl | rfl
    · rw [h]; rfl
    · rw [h]; cases partV a <;> rfl
  | [a, b, c], hp =>
    rw [looseV]
    rcases (by simpa using hp : p = a ∨ p = b ∨ p = c) with rfl | rfl | rfl
    · rw [h]; rfl
    · rw [h]; cases partV a <;> rfl
    · rw [h]; cases partV a <;> cases partV b <;> rfl
  | [a, b, c, d], hp =>
    rw [looseV]
    rcases (by simpa using hp : p = a ∨ p = b ∨ p = c ∨ p = d) with rfl | rfl | rfl | rfl
    · rw [h]; rfl
    · rw [h]; cases partV a <;> rfl
    · rw [h]; cases partV a <;> cases partV b <;> rfl
    · rw [h]; cases partV a <;> cases partV b <;> cases partV c <;> rfl
  | a :: b :: c :: d :: e :: t, hp => rfl
theorem strict_part {p : List UInt8} {n : Nat} (h : strictV p = some n) : partV p = some n ∧ n < 256 ∧ p ≠ [] := by
  unfold strictV at h
  split at h
  · cases h
  · rename_i hg
    obtain ⟨m, hm, h2⟩ := Option.bind_eq_some_iff.1 h
    split at h2
    · rename_i hlt
      obtain rfl := Option.some.inj h2
      refine ⟨?_, hlt, fun e => hg (Or.inl e)⟩
      unfold partV
      split
      · exact absurd (Or.inr ⟨by simp, rfl⟩) hg
      · exact absurd (Or.inl rfl) hg
      · exact hm
    · cases h2
theorem fourP_some {ps : List (List UInt8)} {a b c d : Nat} (h : fourP ps = some (a, b, c, d)) : ∃ p q r s, ps = [p, q, r, s] ∧ strictV p = some a ∧ strictV q = some b ∧ strictV r = some c ∧ strictV s = some d := by
  unfold fourP at h
  split at h
  · rename_i p q r s
    obtain ⟨a', h1, h⟩ := Option.bind_eq_some_iff.1 h
    obtain ⟨b', h2, h⟩ := Option.bind_eq_some_iff.1 h
    obtain ⟨c', h3, h⟩ := Option.bind_eq_some_iff.1 h
    obtain ⟨d', h4, h⟩ := Option.bind_eq_some_iff.1 h
    simp only [Option.some.injEq, Prod.mk.injEq] at h
    obtain ⟨rfl, rfl, rfl, rfl⟩ := h
    exact ⟨p, q, r, s, rfl, h1, h2, h3, h4⟩
  · cases h
theorem V4_bytes (a b c d : Nat) (ha : a < 256) (hb : b < 256) (hc : c < 256) (hd : d < 256) : V4N (a * 16777216 + b * 65536 + c * 256 + d) = V4T a b c d := by
  unfold V4N
  rw [show (a * 16777216 + b * 65536 + c * 256 + d) / 16777216 % 256 = a from by omega, show (a * 16777216 + b * 65536 + c * 256 + d) / 65536 % 256 = b from by omega, show (a * 16777216 + b * 65536 + c * 256 + d) / 256 % 256 = c from by omega, show (a * 16777216 + b * 65536 + c * 256 + d) % 256 = d from by omega]
theorem four_loose {l : List UInt8} {a b c d : Nat} (h : fourV l = some (a, b, c, d)) : looseL l = some (a * 16777216 + b * 65536 + c * 256 + d) ∧ a < 256 ∧ b < 256 ∧ c < 256 ∧ d < 256 := by
  obtain ⟨p, q, r, s, hps, h1, h2, h3, h4⟩ := fourP_some h
  obtain ⟨p1, p2, _⟩ := strict_part h1
  obtain ⟨q1, q2, _⟩ := strict_part h2
  obtain ⟨r1, r2, _⟩ := strict_part h3
  obtain ⟨s1, s2, s3⟩ := strict_part h4
  have hbare : bare l = l := by
    unfold bare
    split
    · rename_i hl
      exfalso
      obtain ⟨t, rfl⟩ := snoc_of hl
      rw [splitS_snoc] at hps
      have := congrArg List.getLast? hps
      rw [List.getLast?_concat] at this
      exact s3 (Option.some.inj this).symm
    · rfl
  refine ⟨?_, p2, q2, r2, s2⟩
  unfold looseL
  rw [hbare, hps, looseV, p1, q1, r1, s1]
  show (if a < 256 ∧ b < 256 ∧ c < 256 ∧ d < 256 then _ else none) = _
  rw [if_pos ⟨p2, q2, r2, s2⟩]
theorem index_one (c : UInt8) : ∀ l : List UInt8, 0 ≤ Lib.index l [c] → c ∈ l
  | [], h => by
    exact absurd (show (0 : Int) ≤ -1 from h) (by decide)
  | b :: l, h => by
    rw [Lib.index] at h
    split at h
    · rename_i hp
      have : c = b := by simpa [List.isPrefixOf] using hp
      simp [this]
    · split at h
      · exact absurd h (by decide)
      · rename_i hne
        have hge := Lib.index_ge l [c]
        have hne' : Lib.index l [c] ≠ -1 := fun e => hne (by rw [e]; rfl)
        have := index_one c l (by omega)
        simp [this]
theorem contains_mem {c : UInt8} {l : List UInt8} (h : Lib.contains l [c] = true) : c ∈ l := index_one c l (of_decide_eq_true h)
theorem parse_loose {l : List UInt8} {n : Nat} {a : Tup} (h : looseL l = some n) (hp : parseV l = some a) : a = V4N n := by
  unfold parseV at hp
  split at hp
  · cases hp
  · split at hp
    · rename_i x y z w hf
      obtain ⟨h1, h2, h3, h4, h5⟩ := four_loose hf
      rw [h] at h1
      obtain rfl := Option.some.inj h1
      rw [V4_bytes x y z w h2 h3 h4 h5]
      exact (Option.some.inj hp).symm
    · split at hp
      · split at hp
        · rename_i hc
          exfalso
          have hm : (58 : UInt8) ∈ l := contains_mem hc
          have hmb : (58 : UInt8) ∈ bare l := by
            unfold bare
            split
            · rename_i hl
              obtain ⟨t, rfl⟩ := snoc_of hl
              rw [List.dropLast_concat]
              rcases List.mem_append.1 hm with h | h
              · exact h
              · exact absurd (List.mem_singleton.1 h) (by decide)
            · exact hm
          obtain ⟨p, hp1, hp2⟩ := mem_split 46 58 (by decide) _ hmb
          unfold looseL at h
          rw [looseV_bad _ p hp1 (partV_bad p hp2)] at h
          cases h
        · cases hp
      · cases hp
theorem IpLooses_law (s : ByteArray) : ∃ k, lanternlaw05_IpLooses.f k s = some true := by
  refine ⟨5000100, ?_⟩
  have haw := awake_f 5000100 (by decide)
  obtain ⟨l, rfl⟩ : ∃ l, s = B l := ⟨L s, (B_L s).symm⟩
  rw [lanternlaw05_IpLooses.f, size_B, haw, Option.bind_some]
  by_cases h : l.length ≤ 300
  · rw [if_neg (by omega), Loose_f l (by omega) _ (by decide), Option.bind_some, refLoose_f l (by omega) _ (by decide), Option.bind_some, Parse_f l (by omega) _ (by decide), Option.bind_some]
    cases hv : looseL l with
    | none =>
      show (if (false : Bool) = true then _ else _) = _
      rw [if_neg (by decide)]
      rfl
    | some n =>
      show (if (true : Bool) = true then _ else _) = _
      rw [if_pos rfl]
      dsimp only [looseR, looseB, T18, T18b]
      cases hpv : parseV l with
      | none => simp [parseR, errL, T18]
      | some a =>
        obtain rfl := parse_loose hv hpv
        simp [parseR, T18]
  · rw [if_pos (by omega)]
end Go.Proofs.YtfiefecjcmcejaaDoor.Q
