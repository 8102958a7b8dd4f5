/- A body in chunks: the program's reading and the reference's are one plain function. -/
import Derived.Test.YtgkcdnkkdhmjfaaDoorD1
set_option linter.unusedSimpArgs false
set_option linter.unusedVariables false
namespace Go.Proofs.YtgkcdnkkdhmjfaaDoor.Q
open Go Go.RowKit Go.Lib Go.Proofs.YtgkcdnkkdhmjfaaDoorW.PrintWords Go.Proofs.YtgkcdnkkdhmjfaaDoorB Go.Proofs.YtgkcdnkkdhmjfaaDoor.E Go.Proofs.YtgkcdnkkdhmjfaaDoor.P

/-! ### a line -/
/-- A line without its end; or the mistake: 10 more is to come, 5 no line. -/
def lineM (r : List UInt8) : List UInt8 ⊕ Int := match splitC 10 r with
  | none => if r.length < 258 then .inr 10 else .inr 5
  | some x => if x.1 = [] ∨ 257 < x.1.length ∨ x.1.getD (x.1.length - 1) 0 ≠ 13 then .inr 5 else .inl (x.1.take (x.1.length - 1))
def lineSays : List UInt8 ⊕ Int → ByteArray × Int × Int
  | .inl u => (B u, ((u.length + 2 : Nat) : Int), 0)
  | .inr e => (⟨#[]⟩, 0, e)
theorem take_f (r : List UInt8) (hr : r.length ≤ 1000000) (k : Nat) (hk : 5 < k) : chunk_take.f k (nums r) = some (lineSays (lineM r)) := by
  obtain ⟨k, rfl⟩ : ∃ m, k = m + 1 := ⟨k - 1, by omega⟩
  have hnl := nums_length r
  unfold chunk_take.f bytes_IndexByte.f lineM
  rw [bytesOf_nums]
  have e10 : (10 : Int).toNat.toUInt8 = 10 := rfl
  rw [e10, indexByte_split, Option.bind_some]
  cases hs : splitC 10 r with
  | none =>
    dsimp only
    rw [if_pos (by omega), chunk_take.j0, hnl]
    by_cases h : r.length < 258
    · rw [decide_eq_true (by omega), if_pos rfl, if_pos h]; rfl
    · rw [decide_eq_false (by omega), if_neg (by simp), if_pos (by omega), if_neg h]; rfl
  | some x =>
    obtain ⟨u, t⟩ := x
    dsimp only
    obtain ⟨e, hu⟩ := splitC_some 10 _ _ _ hs
    have hlen : u.length + 1 + t.length = r.length := by
      have := congrArg List.length e
      rw [List.length_append, List.length_cons] at this
      omega
    rw [if_neg (by omega), chunk_take.j0, if_neg (by simp)]
    by_cases h1 : u = []
    · rw [if_pos (by rw [h1]; decide), if_pos (Or.inl h1)]; rfl
    · have hpos := List.length_pos_iff.2 h1
      rw [if_neg (by omega)]
      by_cases h2 : 257 < u.length
      · rw [if_pos (by omega), if_pos (Or.inr (Or.inl h2))]; rfl
      · have w1 : wrap64 ((u.length : Int) - 1) = ((u.length - 1 : Nat) : Int) := wrap_nat (u.length - 1) (by omega) (by omega)
        have w2 : wrap64 ((u.length : Int) + 1) = ((u.length + 1 : Nat) : Int) := wrap_nat (u.length + 1) rfl (by omega)
        rw [if_neg (by omega), w1, w2, if_pos (by omega), if_pos (by omega), rd_nums]
        clear w1 w2
        have g : r.getD (u.length - 1) 0 = u.getD (u.length - 1) 0 := by
          rw [e]; simp [List.getD_eq_getElem?_getD, List.getElem?_append, show u.length - 1 < u.length from by omega]
        rw [g]
        by_cases h3 : u.getD (u.length - 1) 0 = 13
        · rw [if_pos (by rw [h3]; rfl), if_pos (by omega), if_neg (by rintro (h | h | h); exact h1 h; exact h2 h; exact h h3), Int.toNat_natCast, nums_take, strOf_nums]
          have et : r.take (u.length - 1) = u.take (u.length - 1) := by
            rw [e, List.take_append_of_le_length (by omega)]
          rw [et]
          have hl : (u.take (u.length - 1)).length + 2 = u.length + 1 := by rw [List.length_take]; omega
          rw [show lineSays (.inl (u.take (u.length - 1))) = (B (u.take (u.length - 1)), (((u.take (u.length - 1)).length + 2 : Nat) : Int), 0) from rfl, hl]
        · have h3' : ¬ (((u.getD (u.length - 1) 0).toNat : Int) = 13) := fun q => h3 (by rw [u8_eq]; exact q)
          rw [if_neg h3', if_pos (Or.inr (Or.inr h3))]; rfl

/-! ### the body -/
def decM (bs : List UInt8) : Nat → Nat → List UInt8 → List Int × Int × Int
  | 0, _, _ => ([], 0, 0)
  | f + 1, p, body => match lineM (bs.drop p) with
    | .inr e => ([], 0, e)
    | .inl u => match sizeL u with
      | none => ([], 0, 5)
      | some sz => if sz = 0 then
          (if (parseM (bs.drop (p + u.length + 2)) ((bs.drop (p + u.length + 2)).length + 1) 0 []).2.2 = 0 then (nums body, wrap64 (((p + u.length + 2 : Nat) : Int) + (parseM (bs.drop (p + u.length + 2)) ((bs.drop (p + u.length + 2)).length + 1) 0 []).2.1), 0) else ([], 0, (parseM (bs.drop (p + u.length + 2)) ((bs.drop (p + u.length + 2)).length + 1) 0 []).2.2))
        else if 32768 < body.length + sz then ([], 0, 3)
        else if bs.length < p + u.length + 2 + sz then ([], 0, 10)
        else match bs.drop (p + u.length + 2 + sz) with
          | [] => ([], 0, 10)
          | c :: t => if c ≠ 13 then ([], 0, 5) else match t with
            | [] => ([], 0, 10)
            | d :: _ => if d ≠ 10 then ([], 0, 5) else decM bs f (p + u.length + 2 + sz + 2) (body ++ (bs.drop (p + u.length + 2)).take sz)
theorem lineM_inl {r u : List UInt8} (h : lineM r = .inl u) : ∃ t, r = u ++ 13 :: 10 :: t ∧ splitC 10 r = some (u ++ [13], t) ∧ u.length + 2 ≤ r.length ∧ u.length ≤ 256 := by
  unfold lineM at h
  cases hs : splitC 10 r with
  | none => rw [hs] at h; dsimp only at h; split at h <;> cases h
  | some x =>
    obtain ⟨a, t⟩ := x
    rw [hs] at h
    dsimp only at h
    obtain ⟨e, _⟩ := splitC_some 10 _ _ _ hs
    split at h
    · cases h
    · rename_i hc
      have hpos : 0 < a.length := List.length_pos_iff.2 (fun q => hc (Or.inl q))
      have h2 : ¬ 257 < a.length := fun q => hc (Or.inr (Or.inl q))
      have h3 : a.getD (a.length - 1) 0 = 13 := Decidable.byContradiction (fun q => hc (Or.inr (Or.inr q)))
      injection h with h
      have ha : a = u ++ [13] := by
        have := take_getD a (a.length - 1) (by omega)
        rw [show a.length - 1 + 1 = a.length from by omega, List.take_length, h, h3] at this
        exact this
      subst ha
      refine ⟨t, by rw [e]; simp, rfl, ?_, ?_⟩
      · rw [e]; simp
      · simp at h2; omega
theorem lineM_inr {r : List UInt8} {e : Int} (h : lineM r = .inr e) : e ≠ 0 := by
  unfold lineM at h
  cases hs : splitC 10 r with
  | none => rw [hs] at h; dsimp only at h; split at h <;> (injection h with h; omega)
  | some x =>
    rw [hs] at h; dsimp only at h; split at h
    · injection h with h; omega
    · cases h
theorem prefix_f (l : List UInt8) (hl : l.length ≤ 2) : strings_HasPrefix.f (⟨#[13, 10]⟩ : ByteArray) (B l) = some (([13, 10] : List UInt8).take l.length == l) := by
  unfold strings_HasPrefix.f stringslite_HasPrefix.f
  have hs : (⟨#[13, 10]⟩ : ByteArray).size = 2 := rfl
  rw [hs, size_B, if_pos (by omega), if_pos (by omega), if_pos (by omega), Option.bind_some, toList_L, toList_L, L_B, Int.toNat_natCast, show (⟨#[13, 10]⟩ : ByteArray) = B [13, 10] from rfl, extract_B, L_B, List.drop_zero]

theorem prog_dec (bs : List UInt8) (hb : bs.length ≤ 100000) : ∀ (f k p : Nat) (body : List UInt8), p ≤ bs.length → bs.length < p + f → 3 * f + 4 * bs.length + 1000 < k → body.length ≤ 32768 →
    chunk_Decode.l0 k (nums bs) (nums body) p = some (decM bs f p body)
  | 0, k, p, body, hp, hf, hk, ha => by omega
  | f + 1, k, p, body, hp, hf, hk, ha => by
    obtain ⟨k, rfl⟩ : ∃ m, k = m + 1 := ⟨k - 1, by omega⟩
    have hnl := nums_length bs
    have hnb := nums_length body
    have hld : (bs.drop p).length = bs.length - p := List.length_drop
    rw [chunk_Decode.l0, if_pos (by omega), if_pos (by omega), Int.toNat_natCast, nums_drop, take_f (bs.drop p) (by omega) k (by omega), Option.bind_some, decM]
    cases hl : lineM (bs.drop p) with
    | inr e =>
      rw [show lineSays (.inr e) = (⟨#[]⟩, 0, e) from rfl]
      dsimp only
      rw [if_neg (lineM_inr hl)]
    | inl u =>
      obtain ⟨_, _, _, hu1, hu2⟩ := lineM_inl hl
      rw [show lineSays (.inl u) = (B u, ((u.length + 2 : Nat) : Int), 0) from rfl]
      dsimp only
      rw [if_pos rfl, Size_f (B u) (by rw [size_B]; omega) k (by omega), Option.bind_some, L_B]
      cases hz : sizeL u with
      | none => rw [show sizeSays none = (0, 5) from rfl]; dsimp only; rw [if_neg (by decide)]
      | some sz =>
        have hsz := sizeL_lt _ _ hz
        rw [show sizeSays (some sz) = ((sz : Int), 0) from rfl]
        dsimp only
        have n1 : (p : Int) + ((u.length + 2 : Nat) : Int) = ((p + u.length + 2 : Nat) : Int) := by omega
        have m1 : p + u.length + 2 ≤ 9223372036854775807 := by omega
        have n2 : 32768 - ((nums body).length : Int) = ((32768 - body.length : Nat) : Int) := by omega
        have m2 : 32768 - body.length ≤ 9223372036854775807 := by omega
        have n3 : ((p + u.length + 2 : Nat) : Int) + (sz : Int) = ((p + u.length + 2 + sz : Nat) : Int) := by omega
        have m3 : p + u.length + 2 + sz ≤ 9223372036854775807 := by omega
        have n4 : (sz : Int) + 2 = ((sz + 2 : Nat) : Int) := by omega
        have m4 : sz + 2 ≤ 9223372036854775807 := by omega
        have n5 : ((p + u.length + 2 : Nat) : Int) + ((sz + 2 : Nat) : Int) = ((p + u.length + 2 + sz + 2 : Nat) : Int) := by omega
        have m5 : p + u.length + 2 + sz + 2 ≤ 9223372036854775807 := by omega
        have w1 := wrap_nat (p + u.length + 2) n1 m1
        have w2 := wrap_nat (32768 - body.length) n2 m2
        have w3 := wrap_nat (p + u.length + 2 + sz) n3 m3
        have w4 := wrap_nat (sz + 2) n4 m4
        have w5 := wrap_nat (p + u.length + 2 + sz + 2) n5 m5
        rw [if_pos rfl, w1, w2, w3, w4, w5]
        clear w1 w2 w3 w4 w5 n1 n2 n3 n4 n5 m1 m2 m3 m4 m5
        generalize hq : p + u.length + 2 = q
        have hqb : q ≤ bs.length := by omega
        have hqp : p < q := by omega
        have hldq : (bs.drop q).length = bs.length - q := List.length_drop
        have hnq := nums_length (bs.drop q)
        by_cases c0 : sz = 0
        · rw [if_pos (by omega), if_pos (by omega), if_pos (by omega), Int.toNat_natCast, nums_drop, parse_f (bs.drop q) (by omega) k (by omega), Option.bind_some, if_pos c0]
          by_cases ce : (parseM (bs.drop q) ((bs.drop q).length + 1) 0 []).2.2 = 0
          · rw [if_pos ce, if_pos ce]
          · rw [if_neg ce, if_neg ce]
        · rw [if_neg (by omega), if_neg c0]
          by_cases c1 : 32768 < body.length + sz
          · rw [if_pos (by omega), if_pos c1]
          · rw [if_neg (by omega), if_neg c1, if_pos (by omega), if_pos (by omega), Int.toNat_natCast, nums_drop]
            by_cases c2 : bs.length < q + sz
            · rw [if_pos (by omega), if_pos c2]
            · rw [if_neg (by omega), if_neg c2, if_pos (by omega), if_pos (by omega), Int.toNat_natCast, nums_drop, List.drop_drop, Int.toNat_natCast]
              have hldz : (bs.drop (q + sz)).length = bs.length - (q + sz) := List.length_drop
              have hnz := nums_length (bs.drop (q + sz))
              rcases hz2 : bs.drop (q + sz) with _ | ⟨c, t⟩
              · rw [show (nums ([] : List UInt8)).length = 0 from rfl, show mn 2 ((0 : Nat) : Int) = 0 from by decide, if_pos (by decide), if_pos (by decide), show (nums ([] : List UInt8)).take (0 : Int).toNat = nums [] from rfl, strOf_nums, prefix_f [] (by decide), Option.bind_some, if_pos (by decide), if_pos (by decide)]
              · rcases t with _ | ⟨d, t⟩
                · rw [show (nums [c]).length = 1 from rfl, show mn 2 ((1 : Nat) : Int) = 1 from by decide, if_pos (by decide), if_pos (by decide), show (nums [c]).take (1 : Int).toNat = nums [c] from rfl, strOf_nums, prefix_f [c] (by simp), Option.bind_some]
                  dsimp only
                  by_cases h13 : c = 13
                  · subst h13
                    rw [if_pos (by decide), if_pos (by decide), if_neg (by decide)]
                  · rw [if_neg (by simp; exact fun h => h13 h.symm), if_pos h13]
                · have hlc : (nums (c :: d :: t)).length = t.length + 2 := by rw [nums_length]; rfl
                  have hmn : mn 2 ((t.length + 2 : Nat) : Int) = 2 := by unfold mn; split <;> omega
                  rw [hlc, hmn, if_pos (by decide), if_pos (by omega), show (nums (c :: d :: t)).take (2 : Int).toNat = nums [c, d] from rfl, strOf_nums, prefix_f [c, d] (by simp), Option.bind_some]
                  dsimp only
                  by_cases h13 : c = 13
                  · subst h13
                    by_cases h10 : d = 10
                    · subst h10
                      rw [hz2] at hldz
                      simp only [List.length_cons] at hldz
                      rw [if_pos (by decide), if_neg (by omega), if_pos (by omega), if_pos (by omega), nums_take, nums_drop]
                      have htd : (bs.take (q + sz)).drop q = (bs.drop q).take sz := by
                        rw [List.drop_take, show q + sz - q = sz from by omega]
                      have hlt : ((bs.drop q).take sz).length = sz := by rw [List.length_take]; omega
                      rw [htd, if_pos (by rw [nums_length, nums_length, hlt]; omega), if_neg (by decide), if_neg (by decide)]
                      have := prog_dec bs hb f k (q + sz + 2) (body ++ (bs.drop q).take sz) (by omega) (by omega) (by omega) (by rw [List.length_append, hlt]; omega)
                      rw [show nums body ++ nums ((bs.drop q).take sz) = nums (body ++ (bs.drop q).take sz) from by simp [nums]]
                      exact this
                    · rw [if_neg (by simp; exact fun h => h10 h.symm), if_neg (by decide), if_pos h10]
                  · rw [if_neg (by simp; exact fun h => absurd h.symm h13), if_pos h13]
end Go.Proofs.YtgkcdnkkdhmjfaaDoor.Q
