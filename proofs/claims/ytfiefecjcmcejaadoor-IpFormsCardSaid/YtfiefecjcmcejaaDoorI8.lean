/- The law IpForms, plainly. -/
import Derived.Test.YtfiefecjcmcejaaDoorI7
import Derived.Test.YtfiefecjcmcejaaDoorP15
set_option linter.unusedSimpArgs false
set_option linter.unusedVariables false
set_option maxRecDepth 10000
namespace Go.Proofs.YtfiefecjcmcejaaDoor.Q
open Go Go.RowKit Go.Lib Go.Proofs.YtfiefecjcmcejaaDoorW.PrintWords Go.Proofs.YtfiefecjcmcejaaDoorW.PrintMore Go.Proofs.YtfiefecjcmcejaaDoorB Go.Proofs.YtfiefecjcmcejaaDoor.E Go.Proofs.YtfiefecjcmcejaaDoorV Go.Proofs.YtfiefecjcmcejaaDoor.P

/-- A digit's sign. -/
def dc (d : Nat) : UInt8 := ([48, 49, 50, 51, 52, 53, 54, 55, 56, 57, 97, 98, 99, 100, 101, 102] : List UInt8).getD d 0
theorem dc_facts : ∀ d : Fin 16, D (dc d.val) = some d.val ∧ dc d.val ≠ 46 ∧ dc d.val ≠ 120 ∧ dc d.val ≠ 88 ∧ (dc d.val = 48 → d.val = 0) := by decide
/-- A number's digits. -/
def digL (base n : Nat) : List UInt8 := if h : n < base ∨ base < 2 then [dc (n % base)] else digL base (n / base) ++ [dc (n % base)]
termination_by n
decreasing_by exact Nat.div_lt_self (by omega) (by omega)
theorem numV_app (base : Nat) (c : UInt8) : ∀ (l : List UInt8) (acc : Nat), numV base acc (l ++ [c]) = (numV base acc l).bind fun n => numV base n [c]
  | [], acc => rfl
  | x :: l, acc => by
    rw [List.cons_append, numV, numV]
    cases D x with
    | none => rfl
    | some d =>
      dsimp only
      split
      · exact numV_app base c l _
      · rfl
theorem numV_one (base acc d : Nat) (hd : d < base) (hb : base ≤ 16) : numV base acc [dc d] = some (acc * base + d) := by
  have := (dc_facts ⟨d, by omega⟩).1
  dsimp only at this
  rw [numV, this]
  dsimp only
  rw [if_pos hd]
  rfl
theorem digL_num (base : Nat) (hb : 2 ≤ base ∧ base ≤ 16) (n : Nat) : numV base 0 (digL base n) = some n := by
  induction n using Nat.strongRecOn with
  | _ n ih =>
    rw [digL]
    have hm := Nat.mod_lt n (show 0 < base by omega)
    split
    · rename_i h
      rw [numV_one base 0 _ hm hb.2, Nat.mod_eq_of_lt (by omega), Nat.zero_mul, Nat.zero_add]
    · rename_i h
      rw [numV_app, ih _ (Nat.div_lt_self (by omega) (by omega)), Option.bind_some, numV_one base _ _ hm hb.2, Nat.div_add_mod']
theorem digL_mem (base : Nat) (hb : 2 ≤ base ∧ base ≤ 16) (n : Nat) : ∀ c ∈ digL base n, ∃ d, d < 16 ∧ c = dc d := by
  induction n using Nat.strongRecOn with
  | _ n ih =>
    rw [digL]
    have hm := Nat.mod_lt n (show 0 < base by omega)
    split
    · intro c hc; exact ⟨n % base, by omega, by simpa using hc⟩
    · intro c hc
      rcases List.mem_append.1 hc with h | h
      · exact ih _ (Nat.div_lt_self (by omega) (by omega)) c h
      · exact ⟨n % base, by omega, by simpa using h⟩
theorem digL_head (base : Nat) (hb : 2 ≤ base ∧ base ≤ 16) (n : Nat) (h0 : 0 < n) : ∃ d t, digL base n = dc d :: t ∧ 0 < d ∧ d < 16 := by
  induction n using Nat.strongRecOn with
  | _ n ih =>
    rw [digL]
    have hm := Nat.mod_lt n (show 0 < base by omega)
    split
    · rename_i h
      have : n < base := by omega
      exact ⟨n % base, [], rfl, by rw [Nat.mod_eq_of_lt this]; exact h0, by omega⟩
    · rename_i h
      obtain ⟨d, t, e, h1, h2⟩ := ih (n / base) (Nat.div_lt_self (by omega) (by omega)) (Nat.div_pos (by omega) (by omega))
      rw [e]
      exact ⟨d, t ++ [dc (n % base)], rfl, h1, h2⟩
theorem digL_len (base : Nat) (hb : 2 ≤ base ∧ base ≤ 16) (n : Nat) : ∀ m, n < 2 ^ m → (digL base n).length ≤ m + 1 := by
  induction n using Nat.strongRecOn with
  | _ n ih =>
    intro m hm
    rw [digL]
    split
    · simp
    · rename_i h
      cases m with
      | zero => simp at hm; omega
      | succ m =>
        have h2 : n / base ≤ n / 2 := Nat.div_le_div_left hb.1 (by omega)
        have := ih (n / base) (Nat.div_lt_self (by omega) (by omega)) m (by rw [Nat.pow_succ] at hm; omega)
        simp; omega
def baseOf (c : Nat) : Nat := if c % 3 = 1 then 8 else if c % 3 = 2 then 16 else 10
/-- A number, written so. -/
def formL (n c : Nat) : List UInt8 := (if c % 3 = 1 then [48] else if c % 3 = 2 then [48, 120] else []) ++ digL (baseOf c) n
theorem tmn (n b : Nat) : Int.tmod (n : Int) (b : Int) = ((n % b : Nat) : Int) := by
  rw [Int.tmod_eq_emod_of_nonneg (Int.natCast_nonneg n)]; exact (Int.natCast_emod n b).symm
theorem tdn (n b : Nat) : Int.tdiv (n : Int) (b : Int) = ((n / b : Nat) : Int) := by
  rw [Int.tdiv_eq_ediv_of_nonneg (Int.natCast_nonneg n)]; exact (Int.natCast_ediv n b).symm
theorem u64n (n : Nat) (h : n < 18446744073709551616) : IntKind.u64.wrap (n : Int) = (n : Int) := by rw [IntKind.wrap_u64]; omega
def hexB16 : List UInt8 := [48, 49, 50, 51, 52, 53, 54, 55, 56, 57, 97, 98, 99, 100, 101, 102]
theorem hex_cut : ∀ d : Fin 16, (hexB16.take (d.val + 1)).drop d.val = [dc d.val] := by decide
theorem form_round (base : Nat) (hb : 2 ≤ base ∧ base ≤ 16) (n : Nat) (hn : n < 4294967296) (s : List UInt8) (hs : s.length ≤ 1000) (h : 0 < n ∨ s = []) (k : Nat) :
    lanternlaw05_form.l0 (k + 1) (base : Int) (B s) (n : Int) = lanternlaw05_form.l0 k (base : Int) (B (dc (n % base) :: s)) ((n / base : Nat) : Int) := by
  have hm := Nat.mod_lt n (show 0 < base by omega)
  have e1 : Int.tmod (n : Int) (base : Int) = ((n % base : Nat) : Int) := tmn n base
  have e2 : IntKind.u64.wrap (((n % base : Nat) : Int) + 1) = ((n % base + 1 : Nat) : Int) := by rw [IntKind.wrap_u64]; omega
  have hdl : n / base ≤ n := Nat.div_le_self _ _
  have e3 : IntKind.u64.wrap (Int.tdiv (n : Int) (base : Int)) = ((n / base : Nat) : Int) := by rw [tdn]; exact u64n _ (by omega)
  have hx : (⟨#[48, 49, 50, 51, 52, 53, 54, 55, 56, 57, 97, 98, 99, 100, 101, 102]⟩ : ByteArray).extract (((n % base : Nat) : Int)).toNat (((n % base + 1 : Nat) : Int)).toNat = B [dc (n % base)] := by
    show (B hexB16).extract _ _ = _
    rw [extract_B, Int.toNat_natCast, Int.toNat_natCast]
    exact congrArg B (hex_cut ⟨n % base, by omega⟩)
  have hbody : (if (base : Int) = 0 then none else (if 0 ≤ (Int.tmod (n : Int) (base : Int)) then (if (Int.tmod (n : Int) (base : Int)) ≤ (IntKind.u64.wrap ((Int.tmod (n : Int) (base : Int)) + 1)) then (if (IntKind.u64.wrap ((Int.tmod (n : Int) (base : Int)) + 1)) ≤ 16 then (if ((⟨#[48, 49, 50, 51, 52, 53, 54, 55, 56, 57, 97, 98, 99, 100, 101, 102]⟩ : ByteArray).extract ((Int.tmod (n : Int) (base : Int)) : Int).toNat ((IntKind.u64.wrap ((Int.tmod (n : Int) (base : Int)) + 1)) : Int).toNat).size + (B s).size ≤ 9223372036854775807 then (lanternlaw05_form.l0 k (base : Int) (((⟨#[48, 49, 50, 51, 52, 53, 54, 55, 56, 57, 97, 98, 99, 100, 101, 102]⟩ : ByteArray).extract ((Int.tmod (n : Int) (base : Int)) : Int).toNat ((IntKind.u64.wrap ((Int.tmod (n : Int) (base : Int)) + 1)) : Int).toNat) ++ (B s)) (IntKind.u64.wrap (Int.tdiv (n : Int) (base : Int)))) else (none)) else (none)) else (none)) else (none))) = lanternlaw05_form.l0 k (base : Int) (B (dc (n % base) :: s)) ((n / base : Nat) : Int) := by
    rw [e1, e2, e3, hx, if_neg (by omega), if_pos (by omega), if_pos (by omega), if_pos (by omega), size_B, size_B, if_pos (by simp; omega), append_B]
    rfl
  rw [lanternlaw05_form.l0]
  by_cases h0 : 0 < n
  · rw [if_pos (by omega)]
    exact hbody
  · have hs0 : s = [] := h.resolve_left h0
    rw [if_neg (by omega), toList_L, L_B, if_pos hs0]
    exact hbody
theorem form_fin (base : Nat) (hb : base = 8 ∨ base = 10 ∨ base = 16) (s : List UInt8) (hs : s.length ≤ 1000) (h : s ≠ []) (k : Nat) :
    lanternlaw05_form.l0 (k + 1) (base : Int) (B s) 0 = some (B ((if base = 8 then [48] else if base = 16 then [48, 120] else []) ++ s)) := by
  rw [lanternlaw05_form.l0, if_neg (by decide), toList_L, L_B, if_neg h]
  rcases hb with rfl | rfl | rfl
  · rw [if_pos rfl, size_B, if_pos (show 1 + s.length ≤ 9223372036854775807 by omega)]
    show some (B [48] ++ B s) = _
    rw [append_B]
  · rw [if_neg (by decide), if_neg (by decide)]; rfl
  · rw [if_neg (by decide), if_pos rfl, size_B, if_pos (show 2 + s.length ≤ 9223372036854775807 by omega)]
    show some (B [48, 120] ++ B s) = _
    rw [append_B]; rfl
theorem form_loop (base : Nat) (hb : base = 8 ∨ base = 10 ∨ base = 16) (n : Nat) : ∀ (hn : n < 4294967296) (m : Nat) (hm : n < 2 ^ m) (s : List UInt8) (k : Nat), 0 < n → s.length + m ≤ 900 → m + 1 ≤ k →
    lanternlaw05_form.l0 k (base : Int) (B s) (n : Int) = some (B ((if base = 8 then [48] else if base = 16 then [48, 120] else []) ++ (digL base n ++ s))) := by
  have hb2 : 2 ≤ base ∧ base ≤ 16 := by omega
  induction n using Nat.strongRecOn with
  | _ n ih =>
    intro hn m hm s k h0 hs hk
    cases m with
    | zero => simp at hm; omega
    | succ m =>
      obtain ⟨k, rfl⟩ : ∃ j, k = j + 1 := ⟨k - 1, by omega⟩
      rw [form_round base hb2 n hn s (by omega) (Or.inl h0) k]
      have hle : n / base ≤ n / 2 := Nat.div_le_div_left hb2.1 (by omega)
      rw [Nat.pow_succ] at hm
      by_cases hz : n / base = 0
      · obtain ⟨k, rfl⟩ : ∃ j, k = j + 1 := ⟨k - 1, by omega⟩
        have hlt : n < base := (Nat.div_eq_zero_iff_lt (by omega)).1 hz
        rw [hz, show ((0 : Nat) : Int) = 0 from rfl, form_fin base hb _ (by simp; omega) (by simp) k, digL, dif_pos (Or.inl hlt)]
        rfl
      · have hge : ¬ (n < base ∨ base < 2) := by
          intro h
          rcases h with h | h
          · exact hz (Nat.div_eq_of_lt h)
          · omega
        rw [ih (n / base) (Nat.div_lt_self h0 (by omega)) (by omega) m (by omega) _ k (Nat.pos_of_ne_zero hz) (by simp; omega) (by omega)]
        conv => rhs; rw [digL, dif_neg hge]
        simp
theorem form_f (n : Nat) (hn : n < 4294967296) (c : Nat) (k : Nat) (hk : 40 ≤ k) : lanternlaw05_form.f k (n : Int) (c : Int) = some (B (formL n c)) := by
  obtain ⟨k, rfl⟩ : ∃ j, k = j + 2 := ⟨k - 2, by omega⟩
  have hl (base : Nat) (hb : base = 8 ∨ base = 10 ∨ base = 16) : lanternlaw05_form.l0 k (base : Int) (B []) (n : Int) = some (B ((if base = 8 then [48] else if base = 16 then [48, 120] else []) ++ digL base n)) := by
    by_cases h0 : 0 < n
    · have := form_loop base hb n hn 32 (by omega) [] k h0 (by simp) (by omega)
      rw [this, List.append_nil]
    · obtain rfl : n = 0 := by omega
      obtain ⟨k, rfl⟩ : ∃ j, k = j + 2 := ⟨k - 2, by omega⟩
      have hb2 : 2 ≤ base ∧ base ≤ 16 := by omega
      rw [form_round base hb2 0 (by decide) [] (by simp) (Or.inr rfl) (k + 1), Nat.zero_div, show ((0 : Nat) : Int) = 0 from rfl, form_fin base hb _ (by simp) (by simp) k, digL, dif_pos (Or.inl (by omega))]
  have e3 : Int.tmod (c : Int) 3 = ((c % 3 : Nat) : Int) := tmn c 3
  have h8 := hl 8 (Or.inl rfl)
  have h10 := hl 10 (Or.inr (Or.inl rfl))
  have h16 := hl 16 (Or.inr (Or.inr rfl))
  unfold formL baseOf
  rw [lanternlaw05_form.f, e3]
  by_cases h1 : c % 3 = 1
  · rw [if_pos (by omega), lanternlaw05_form.j0, e3, if_neg (by omega), lanternlaw05_form.j1, if_pos h1, if_pos h1]
    exact h8
  · rw [if_neg (by omega), lanternlaw05_form.j0, e3, if_neg h1, if_neg h1]
    by_cases h2 : c % 3 = 2
    · rw [if_pos (by omega), lanternlaw05_form.j1, if_pos h2, if_pos h2]
      exact h16
    · rw [if_neg (by omega), lanternlaw05_form.j1, if_neg h2, if_neg h2]
      exact h10
theorem form_part (n c : Nat) : partV (formL n c) = some n := by
  unfold formL baseOf
  by_cases h1 : c % 3 = 1
  · rw [if_pos h1, if_pos h1]
    have hd := digL_num 8 (by omega) n
    have hmem := digL_mem 8 (by omega) n
    cases hl : digL 8 n with
    | nil =>
      exfalso
      by_cases h0 : 0 < n
      · obtain ⟨d, t, e, _⟩ := digL_head 8 (by omega) n h0
        rw [e] at hl; cases hl
      · obtain rfl : n = 0 := by omega
        rw [digL, dif_pos (Or.inl (by omega))] at hl; cases hl
    | cons x t =>
      rw [hl] at hd hmem
      obtain ⟨d, hd16, rfl⟩ := hmem x (by simp)
      have hf := dc_facts ⟨d, hd16⟩
      dsimp only at hf
      show partV (48 :: dc d :: t) = _
      rw [partV, if_neg (by rintro (h | h); exact hf.2.2.1 h; exact hf.2.2.2.1 h)]
      rw [numV, show D 48 = some 0 from by decide]
      exact hd
  · rw [if_neg h1, if_neg h1]
    by_cases h2 : c % 3 = 2
    · rw [if_pos h2, if_pos h2]
      have hd := digL_num 16 (by omega) n
      show partV (48 :: 120 :: digL 16 n) = _
      rw [partV, if_pos (Or.inl rfl)]
      by_cases hn : digL 16 n = []
      · rw [hn] at hd
        rw [if_pos hn]
        exact hd
      · rw [if_neg hn, hd]
    · rw [if_neg h2, if_neg h2, List.nil_append]
      have hd := digL_num 10 (by omega) n
      by_cases h0 : 0 < n
      · obtain ⟨d, t, e, h3, h4⟩ := digL_head 10 (by omega) n h0
        have hf := dc_facts ⟨d, h4⟩
        dsimp only at hf
        rw [e] at hd ⊢
        unfold partV
        split
        · rename_i c2 t2 heq
          injection heq with g1 g2
          exact absurd (hf.2.2.2.2 g1) (by omega)
        · rename_i heq; cases heq
        · exact hd
      · obtain rfl : n = 0 := by omega
        rw [digL, dif_pos (Or.inl (by omega))]
        rfl
theorem form_dot (n c : Nat) : ∀ b ∈ formL n c, b ≠ 46 := by
  have hb : 2 ≤ baseOf c ∧ baseOf c ≤ 16 := by unfold baseOf; split <;> (try split) <;> omega
  intro b h
  unfold formL at h
  rcases List.mem_append.1 h with h | h
  · split at h
    · rw [List.mem_singleton.1 h]; decide
    · split at h
      · rcases (by simpa using h : b = 48 ∨ b = 120) with rfl | rfl <;> decide
      · cases h
  · obtain ⟨d, hd, rfl⟩ := digL_mem _ hb n b h
    exact (dc_facts ⟨d, hd⟩).2.1
theorem form_ne (n c : Nat) : formL n c ≠ [] := by
  intro h
  have := form_part n c
  rw [h] at this
  cases this
theorem form_len (n c : Nat) (hn : n < 4294967296) : (formL n c).length ≤ 40 := by
  have hb : 2 ≤ baseOf c ∧ baseOf c ≤ 16 := by unfold baseOf; split <;> (try split) <;> omega
  have := digL_len _ hb n 32 (by omega)
  unfold formL
  split <;> (try split) <;> simp <;> omega
end Go.Proofs.YtfiefecjcmcejaaDoor.Q
