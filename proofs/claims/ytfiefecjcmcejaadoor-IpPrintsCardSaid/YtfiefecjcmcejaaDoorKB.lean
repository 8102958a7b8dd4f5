/- The law IpPrints, plainly: digits. -/
import Derived.Test.YtfiefecjcmcejaaDoorKA
set_option linter.unusedSimpArgs false
set_option linter.unusedVariables false
set_option maxRecDepth 10000
namespace Go.Proofs.YtfiefecjcmcejaaDoor.Q
open Go Go.RowKit Go.Lib Go.Proofs.YtfiefecjcmcejaaDoorW.PrintWords Go.Proofs.YtfiefecjcmcejaaDoorW.PrintMore Go.Proofs.YtfiefecjcmcejaaDoorB Go.Proofs.YtfiefecjcmcejaaDoor.E Go.Proofs.YtfiefecjcmcejaaDoorV Go.Proofs.YtfiefecjcmcejaaDoor.P

theorem digL_lt (base n : Nat) (h : n < base) : digL base n = [dc n] := by rw [digL, dif_pos (Or.inl h), Nat.mod_eq_of_lt h]
theorem digL_ge (base n : Nat) (hb : 2 ≤ base) (h : base ≤ n) : digL base n = digL base (n / base) ++ [dc (n % base)] := by
  conv => lhs; rw [digL]
  rw [dif_neg (by omega)]
theorem refdigits_f (base : Nat) (hb : base = 10 ∨ base = 16) (n : Nat) : ∀ (k : Nat), n < 65536 → n < k → lanternref05_digits.f k (n : Int) (base : Int) = some (B (digL base n)) := by
  have hb2 : 2 ≤ base ∧ base ≤ 16 := by omega
  induction n using Nat.strongRecOn with
  | _ n ih =>
    intro k hn hk
    obtain ⟨k, rfl⟩ : ∃ j, k = j + 1 := ⟨k - 1, by omega⟩
    have hm := Nat.mod_lt n (show 0 < base by omega)
    have e1 : Int.tmod (n : Int) (base : Int) = ((n % base : Nat) : Int) := tmn n base
    have e2 : wrap64 (((n % base : Nat) : Int) + 1) = ((n % base + 1 : Nat) : Int) := wn1 (n % base) (by omega)
    have hdl : n / base ≤ n := Nat.div_le_self _ _
    have e3 : wrap64 (Int.tdiv (n : Int) (base : Int)) = ((n / base : Nat) : Int) := by rw [tdn]; exact wrap_nat (n / base) rfl (by omega)
    have hx : (⟨#[48, 49, 50, 51, 52, 53, 54, 55, 56, 57, 97, 98, 99, 100, 101, 102]⟩ : ByteArray).extract (((n % base : Nat) : Int)).toNat (((n % base + 1 : Nat) : Int)).toNat = B [dc (n % base)] := by
      show (B hexB16).extract _ _ = _
      rw [extract_B, Int.toNat_natCast, Int.toNat_natCast]
      exact congrArg B (hex_cut ⟨n % base, by omega⟩)
    rw [lanternref05_digits.f, e1, e2, e3, hx, if_neg (by omega), if_pos (by omega), if_pos (by omega), if_pos (by omega)]
    by_cases h : n < base
    · rw [if_pos (by omega), digL_lt base n h, Nat.mod_eq_of_lt h]
    · have hlt : n / base < n := Nat.div_lt_self (by omega) (by omega)
      have hlen := digL_len base hb2 (n / base) 16 (by omega)
      rw [if_neg (by omega), ih (n / base) hlt k (by omega) (by omega), Option.bind_some, size_B, size_B, if_pos (by simp; omega), append_B, digL_ge base n hb2.1 (by omega)]
theorem bt_dc : ∀ d : Fin 16, UInt8.ofNat (bt hexS ((d.val : Nat) : Int)).toNat = dc d.val := by decide +kernel
theorem bt_dc' (d : Nat) (h : d < 16) : UInt8.ofNat (bt hexS ((d : Nat) : Int)).toNat = dc d := bt_dc ⟨d, h⟩
theorem hexN_digL (n : Nat) (hn : n < 65536) : hexN n = digL 16 n := by
  have r1 : List.range 1 = [0] := rfl
  have r2 : List.range 2 = [0, 1] := rfl
  have r3 : List.range 3 = [0, 1, 2] := rfl
  have r4 : List.range 4 = [0, 1, 2, 3] := rfl
  unfold hexN hexJ hexB
  by_cases h1 : n < 16
  · rw [if_pos h1, digL_lt 16 n h1]
    show [UInt8.ofNat (bt hexS ((n / 16 ^ (0 - 0) % 16 : Nat) : Int)).toNat] = _
    rw [bt_dc' _ (by omega)]
    congr 2; simp; omega
  · rw [if_neg h1, digL_ge 16 n (by decide) (by omega)]
    by_cases h2 : n < 256
    · rw [if_pos h2, digL_lt 16 (n / 16) (by omega)]
      simp only [r2, List.map_cons, List.map_nil]
      rw [bt_dc' _ (by omega), bt_dc' _ (by omega)]
      show [dc (n / 16 % 16), dc (n / 1 % 16)] = [dc (n / 16), dc (n % 16)]
      rw [Nat.div_one, Nat.mod_eq_of_lt (show n / 16 < 16 by omega)]
    · rw [if_neg h2, digL_ge 16 (n / 16) (by decide) (by omega)]
      by_cases h3 : n < 4096
      · rw [if_pos h3, digL_lt 16 (n / 16 / 16) (by omega)]
        simp only [r3, List.map_cons, List.map_nil]
        rw [bt_dc' _ (by omega), bt_dc' _ (by omega), bt_dc' _ (by omega)]
        show [dc (n / 256 % 16), dc (n / 16 % 16), dc (n / 1 % 16)] = [dc (n / 16 / 16), dc (n / 16 % 16), dc (n % 16)]
        rw [Nat.div_one, show n / 256 % 16 = n / 16 / 16 by omega]
      · rw [if_neg h3, digL_ge 16 (n / 16 / 16) (by decide) (by omega), digL_lt 16 (n / 16 / 16 / 16) (by omega)]
        simp only [r4, List.map_cons, List.map_nil]
        rw [bt_dc' _ (by omega), bt_dc' _ (by omega), bt_dc' _ (by omega), bt_dc' _ (by omega)]
        show [dc (n / 4096 % 16), dc (n / 256 % 16), dc (n / 16 % 16), dc (n / 1 % 16)] = [dc (n / 16 / 16 / 16), dc (n / 16 / 16 % 16), dc (n / 16 % 16), dc (n % 16)]
        rw [Nat.div_one, show n / 4096 % 16 = n / 16 / 16 / 16 by omega, show n / 256 % 16 = n / 16 / 16 % 16 by omega]

theorem dc_dec : ∀ d : Fin 10, UInt8.ofNat (48 + d.val) = dc d.val := by decide
theorem dec_digL (n : Nat) : decDigits n = digL 10 n := by
  induction n using Nat.strongRecOn with
  | _ n ih =>
    rw [decDigits]
    by_cases h : n < 10
    · rw [dif_pos h, digL_lt 10 n h]
      exact congrArg (fun x => [x]) (dc_dec ⟨n, h⟩)
    · rw [dif_neg h, ih _ (by omega), digL_ge 10 n (by decide) (by omega)]
      exact congrArg (fun x => digL 10 (n / 10) ++ [x]) (dc_dec ⟨n % 10, by omega⟩)
theorem itoa_digL (n : Nat) : Lib.itoa (n : Int) = digL 10 n := by
  unfold Lib.itoa
  rw [if_neg (by omega), Int.toNat_natCast, dec_digL]
theorem Itoa_f (n : Nat) (hn : n < 256) : strconv_Itoa.f (wrap64 (n : Int)) = some (B (digL 10 n)) := by
  have e : wrap64 (n : Int) = (n : Int) := wrap_nat n rfl (by omega)
  rw [e]
  unfold strconv_Itoa.f
  rw [if_pos (by omega), itoa_digL]
  rfl
def dotL (a b c d : Nat) : List UInt8 := digL 10 a ++ 46 :: (digL 10 b ++ 46 :: (digL 10 c ++ 46 :: digL 10 d))
theorem dig3 (n : Nat) (hn : n < 256) : (digL 10 n).length ≤ 9 := by
  have := digL_len 10 (by omega) n 8 (by omega)
  omega
theorem dotL_len (a b c d : Nat) (ha : a < 256) (hb : b < 256) (hc : c < 256) (hd : d < 256) : (dotL a b c d).length ≤ 40 := by
  have h1 := dig3 a ha
  have h2 := dig3 b hb
  have h3 := dig3 c hc
  have h4 := dig3 d hd
  unfold dotL
  simp; omega
theorem dots_f (a b c d : Nat) (ha : a < 256) (hb : b < 256) (hc : c < 256) (hd : d < 256) (k : Nat) (hk : 5 ≤ k) : ip_dots.f k [(a : Int), (b : Int), (c : Int), (d : Int)] = some (B (dotL a b c d)) := by
  obtain ⟨k, rfl⟩ : ∃ j, k = j + 5 := ⟨k - 5, by omega⟩
  have hl : ([(a : Int), (b : Int), (c : Int), (d : Int)] : List Int).length = 4 := rfl
  have w0 : wrap64 (0 + 1) = 1 := by rw [wrap_id (by decide) (by decide)]; rfl
  have w1 : wrap64 (1 + 1) = 2 := by rw [wrap_id (by decide) (by decide)]; rfl
  have w2 : wrap64 (2 + 1) = 3 := by rw [wrap_id (by decide) (by decide)]; rfl
  have w3 : wrap64 (3 + 1) = 4 := by rw [wrap_id (by decide) (by decide)]; rfl
  have g0 : rd [(a : Int), (b : Int), (c : Int), (d : Int)] 0 = (a : Int) := rfl
  have g1 : rd [(a : Int), (b : Int), (c : Int), (d : Int)] 1 = (b : Int) := rfl
  have g2 : rd [(a : Int), (b : Int), (c : Int), (d : Int)] 2 = (c : Int) := rfl
  have g3 : rd [(a : Int), (b : Int), (c : Int), (d : Int)] 3 = (d : Int) := rfl
  rw [ip_dots.f, hl]
  show ip_dots.l0 (k + 5) [] [(a : Int), (b : Int), (c : Int), (d : Int)] 4 0 = _
  rw [ip_dots.l0, if_pos (by decide), if_pos (by decide), hl, if_pos (by decide), g0, Itoa_f a ha, Option.bind_some, if_pos (by decide), w0,
    ip_dots.l0, if_pos (by decide), if_pos (by decide), hl, if_pos (by decide), g1, Itoa_f b hb, Option.bind_some, if_pos (by simp), w1,
    ip_dots.l0, if_pos (by decide), if_pos (by decide), hl, if_pos (by decide), g2, Itoa_f c hc, Option.bind_some, if_pos (by simp), w2,
    ip_dots.l0, if_pos (by decide), if_pos (by decide), hl, if_pos (by decide), g3, Itoa_f d hd, Option.bind_some, if_pos (by simp), w3,
    ip_dots.l0, if_neg (by decide)]
  have hj : joinOf ([] ++ [B (digL 10 a)] ++ [B (digL 10 b)] ++ [B (digL 10 c)] ++ [B (digL 10 d)]) (⟨#[46]⟩ : ByteArray) = dotL a b c d := by
    simp [joinOf, Lib.join, B, dotL, List.intercalate, List.intersperse]
  have hlen := dotL_len a b c d ha hb hc hd
  unfold strings_Join.f
  rw [hj, if_pos ⟨by simp, by omega⟩]
  rfl

/-- It depends on which groups are 0 alone. -/
theorem longest_congr (g g' : List Int) (hl : g.length = g'.length) (hz : ∀ i, rd g i = 0 ↔ rd g' i = 0) : ∀ k, (∀ a b c d, ip_longest.l0 k g a b c d = ip_longest.l0 k g' a b c d) ∧ (∀ a b c d e f, ip_longest.l1 k g a b c d e f = ip_longest.l1 k g' a b c d e f) := by
  intro k
  induction k with
  | zero => exact ⟨fun _ _ _ _ => rfl, fun _ _ _ _ _ _ => rfl⟩
  | succ k ih =>
    constructor
    · intro a b c d
      rw [ip_longest.l0, ip_longest.l0, ih.2]
    · intro a b c d e f
      rw [ip_longest.l1, ip_longest.l1, hl]
      simp only [hz, ih.1, ih.2]
def patG (b1 b2 b3 b4 b5 b6 b7 b8 : Bool) : List Int := [b1, b2, b3, b4, b5, b6, b7, b8].map fun b => if b = true then 0 else 1
/-! The reference's loops, up to where they end. -/
mutual
def rl1 : Nat → List Int → Int → Int → Int → Option (Int × Int × Nat)
  | 0, _, _, _, _ => none
  | k + 1, g, a, n, i => if i < 8 then rl2 k g a n i 8 else some (a, n, k)
def rl2 : Nat → List Int → Int → Int → Int → Int → Option (Int × Int × Nat)
  | 0, _, _, _, _, _ => none
  | k + 1, g, a, n, i, j => if j > i then rl3 k g a n i j true i else rl1 k g a n (wrap64 (i + 1))
def rl3 : Nat → List Int → Int → Int → Int → Int → Bool → Int → Option (Int × Int × Nat)
  | 0, _, _, _, _, _, _, _ => none
  | k + 1, g, a, n, i, j, x, m => if m < j then (if x = true then (if 0 ≤ m then (if m < (g.length : Int) then rl3 k g a n i j ((rd g m) == 0) (wrap64 (m + 1)) else none) else none) else rl3 k g a n i j false (wrap64 (m + 1))) else (if x = true then (if (wrap64 (j - i)) > n then rl2 k g i (wrap64 (j - i)) i (wrap64 (j - 1)) else rl2 k g a n i (wrap64 (j - 1))) else rl2 k g a n i (wrap64 (j - 1)))
end
def toL4 (g : List Int) (r : Int × Int × Nat) : Option ByteArray := lanternref05_Print.l4 r.2.2 g r.1 r.2.1 (⟨#[]⟩ : ByteArray) 0
theorem rl_eq (g : List Int) : ∀ k, (∀ a n i, lanternref05_Print.l1 k g a n i = (rl1 k g a n i).bind (toL4 g)) ∧ (∀ a n i j, lanternref05_Print.l2 k g a n i j = (rl2 k g a n i j).bind (toL4 g)) ∧ (∀ a n i j x m, lanternref05_Print.l3 k g a n i j x m = (rl3 k g a n i j x m).bind (toL4 g)) := by
  intro k
  induction k with
  | zero => exact ⟨fun _ _ _ => rfl, fun _ _ _ _ => rfl, fun _ _ _ _ _ _ => rfl⟩
  | succ k ih =>
    obtain ⟨i1, i2, i3⟩ := ih
    refine ⟨fun a n i => ?_, fun a n i j => ?_, fun a n i j x m => ?_⟩
    · rw [lanternref05_Print.l1, rl1]
      split
      · exact i2 _ _ _ _
      · rfl
    · rw [lanternref05_Print.l2, rl2]
      split
      · exact i3 _ _ _ _ _ _
      · exact i1 _ _ _
    · rw [lanternref05_Print.l3, rl3]
      repeat' first | rfl | exact i3 _ _ _ _ _ _ | exact i2 _ _ _ _ | split
theorem rl_congr (g g' : List Int) (hl : g.length = g'.length) (hz : ∀ i, rd g i = 0 ↔ rd g' i = 0) : ∀ k, (∀ a n i, rl1 k g a n i = rl1 k g' a n i) ∧ (∀ a n i j, rl2 k g a n i j = rl2 k g' a n i j) ∧ (∀ a n i j x m, rl3 k g a n i j x m = rl3 k g' a n i j x m) := by
  intro k
  have hb (i : Int) : (rd g i == 0) = (rd g' i == 0) := by
    rw [Bool.eq_iff_iff, beq_iff_eq, beq_iff_eq]; exact hz i
  induction k with
  | zero => exact ⟨fun _ _ _ => rfl, fun _ _ _ _ => rfl, fun _ _ _ _ _ _ => rfl⟩
  | succ k ih =>
    obtain ⟨i1, i2, i3⟩ := ih
    refine ⟨fun a n i => ?_, fun a n i j => ?_, fun a n i j x m => ?_⟩
    · rw [rl1, rl1, i2]
    · rw [rl2, rl2, i1, i3]
    · rw [rl3, rl3, hl, hb]
      simp only [i2, i3]
theorem rl_more (g : List Int) (d : Nat) : ∀ k, (∀ a n i r, rl1 k g a n i = some r → rl1 (k + d) g a n i = some (r.1, r.2.1, r.2.2 + d)) ∧ (∀ a n i j r, rl2 k g a n i j = some r → rl2 (k + d) g a n i j = some (r.1, r.2.1, r.2.2 + d)) ∧ (∀ a n i j x m r, rl3 k g a n i j x m = some r → rl3 (k + d) g a n i j x m = some (r.1, r.2.1, r.2.2 + d)) := by
  intro k
  induction k with
  | zero => exact ⟨fun _ _ _ _ h => by simp [rl1] at h, fun _ _ _ _ _ h => by simp [rl2] at h, fun _ _ _ _ _ _ _ h => by simp [rl3] at h⟩
  | succ k ih =>
    obtain ⟨i1, i2, i3⟩ := ih
    rw [show k + 1 + d = (k + d) + 1 by omega]
    refine ⟨fun a n i r h => ?_, fun a n i j r h => ?_, fun a n i j x m r h => ?_⟩
    · rw [rl1] at h ⊢
      split at h
      · rename_i c; rw [if_pos c]; exact i2 _ _ _ _ _ h
      · rename_i c; rw [if_neg c]; obtain rfl := Option.some.inj h; rfl
    · rw [rl2] at h ⊢
      split at h
      · rename_i c; rw [if_pos c]; exact i3 _ _ _ _ _ _ _ h
      · rename_i c; rw [if_neg c]; exact i1 _ _ _ _ h
    · rw [rl3] at h ⊢
      split at h
      · rename_i c
        rw [if_pos c]
        split at h
        · rename_i c2
          rw [if_pos c2]
          split at h
          · rename_i c3
            rw [if_pos c3]
            split at h
            · rename_i c4; rw [if_pos c4]; exact i3 _ _ _ _ _ _ _ h
            · cases h
          · cases h
        · rename_i c2; rw [if_neg c2]; exact i3 _ _ _ _ _ _ _ h
      · rename_i c
        rw [if_neg c]
        split at h
        · rename_i c2
          rw [if_pos c2]
          split at h
          · rename_i c3; rw [if_pos c3]; exact i2 _ _ _ _ _ h
          · rename_i c3; rw [if_neg c3]; exact i2 _ _ _ _ _ h
        · rename_i c2; rw [if_neg c2]; exact i2 _ _ _ _ _ h
/-- What the run is: of the pattern's groups. -/
def isRun (p : List Int) (a n : Nat) : Bool := decide (a + n ≤ 8) && (List.range 8).all fun i => if a ≤ i ∧ i < a + n then p.getD i 1 == 0 else if i + 1 = a ∨ i = a + n then p.getD i 0 == 1 else true
def runOk (p : List Int) : Bool := match ip_longest.f 200 p, rl1 300 p 0 0 0 with
  | some (a, n), some (a', n', _) => n == n' && a == a' && decide (0 ≤ n) && decide (0 ≤ a) && decide (a ≤ 8) && (decide (n < 2) || isRun p a.toNat n.toNat)
  | _, _ => false
theorem run_all : ∀ b1 b2 b3 b4 b5 b6 b7 b8 : Bool, runOk (patG b1 b2 b3 b4 b5 b6 b7 b8) = true := by decide +kernel

def pat8 (g1 g2 g3 g4 g5 g6 g7 g8 : Int) : List Int := patG (decide (g1 = 0)) (decide (g2 = 0)) (decide (g3 = 0)) (decide (g4 = 0)) (decide (g5 = 0)) (decide (g6 = 0)) (decide (g7 = 0)) (decide (g8 = 0))
theorem pat_zero (g1 g2 g3 g4 g5 g6 g7 g8 : Int) (i : Int) : rd [g1, g2, g3, g4, g5, g6, g7, g8] i = 0 ↔ rd (pat8 g1 g2 g3 g4 g5 g6 g7 g8) i = 0 := by
  have one (g : Int) : g = 0 ↔ (if decide (g = 0) = true then (0 : Int) else 1) = 0 := by
    by_cases h : g = 0 <;> simp [h]
  show [g1, g2, g3, g4, g5, g6, g7, g8].getD i.toNat 0 = 0 ↔ (pat8 g1 g2 g3 g4 g5 g6 g7 g8).getD i.toNat 0 = 0
  generalize i.toNat = m
  match m with
  | 0 => exact one g1
  | 1 => exact one g2
  | 2 => exact one g3
  | 3 => exact one g4
  | 4 => exact one g5
  | 5 => exact one g6
  | 6 => exact one g7
  | 7 => exact one g8
  | m + 8 => exact ⟨fun _ => rfl, fun _ => rfl⟩
theorem up_longest {g : List Int} {r : Int × Int} (h : ip_longest.f 200 g = some r) (k : Nat) (hk : 200 ≤ k) : ip_longest.f k g = some r := up_to (fun k => ip_longest.mono g k) h k hk
/-- The run that both find. -/
theorem run_of (g1 g2 g3 g4 g5 g6 g7 g8 : Int) : ∃ a n d : Nat, (∀ k, 200 ≤ k → ip_longest.f k [g1, g2, g3, g4, g5, g6, g7, g8] = some ((a : Int), (n : Int))) ∧ (∀ k, 300 ≤ k → rl1 k [g1, g2, g3, g4, g5, g6, g7, g8] 0 0 0 = some ((a : Int), (n : Int), d + (k - 300))) ∧ a ≤ 8 ∧ (n < 2 ∨ isRun (pat8 g1 g2 g3 g4 g5 g6 g7 g8) a n = true) := by
  have hr := run_all (decide (g1 = 0)) (decide (g2 = 0)) (decide (g3 = 0)) (decide (g4 = 0)) (decide (g5 = 0)) (decide (g6 = 0)) (decide (g7 = 0)) (decide (g8 = 0))
  have hz := pat_zero g1 g2 g3 g4 g5 g6 g7 g8
  have hl : [g1, g2, g3, g4, g5, g6, g7, g8].length = (pat8 g1 g2 g3 g4 g5 g6 g7 g8).length := rfl
  change runOk (pat8 g1 g2 g3 g4 g5 g6 g7 g8) = true at hr
  have hL : ip_longest.f 200 [g1, g2, g3, g4, g5, g6, g7, g8] = ip_longest.f 200 (pat8 g1 g2 g3 g4 g5 g6 g7 g8) := by
    rw [ip_longest.f, ip_longest.f, hl]; exact (longest_congr _ _ hl hz 200).1 _ _ _ _
  have hR : rl1 300 [g1, g2, g3, g4, g5, g6, g7, g8] 0 0 0 = rl1 300 (pat8 g1 g2 g3 g4 g5 g6 g7 g8) 0 0 0 := (rl_congr _ _ hl hz 300).1 _ _ _
  unfold runOk at hr
  cases h1 : ip_longest.f 200 (pat8 g1 g2 g3 g4 g5 g6 g7 g8) with
  | none => rw [h1] at hr; cases hr
  | some r =>
    obtain ⟨a, n⟩ := r
    cases h2 : rl1 300 (pat8 g1 g2 g3 g4 g5 g6 g7 g8) 0 0 0 with
    | none => rw [h1, h2] at hr; cases hr
    | some q =>
      obtain ⟨a', n', d⟩ := q
      rw [h1, h2] at hr
      simp only [Bool.and_eq_true, Bool.or_eq_true, beq_iff_eq, decide_eq_true_eq] at hr
      obtain ⟨⟨⟨⟨⟨rfl, rfl⟩, hn⟩, ha⟩, ha8⟩, hc⟩ := hr
      obtain ⟨a, rfl⟩ := Int.eq_ofNat_of_zero_le ha
      obtain ⟨n, rfl⟩ := Int.eq_ofNat_of_zero_le hn
      refine ⟨a, n, d, fun k hk => up_longest (hL.trans h1) k hk, fun k hk => ?_, by omega, ?_⟩
      · have := (rl_more [g1, g2, g3, g4, g5, g6, g7, g8] (k - 300) 300).1 0 0 0 _ (hR.trans h2)
        rw [show 300 + (k - 300) = k by omega] at this
        exact this
      · rcases hc with h | h
        · exact Or.inl (by omega)
        · exact Or.inr (by simpa using h)

def ints (ns : List Nat) : List Int := ns.map fun (n : Nat) => (n : Int)
theorem ints_rd (ns : List Nat) (i : Nat) : rd (ints ns) (i : Int) = ((ns.getD i 0 : Nat) : Int) := by
  show (ints ns).getD (i : Int).toNat 0 = _
  rw [Int.toNat_natCast]
  unfold ints
  rw [List.getD_eq_getElem?_getD, List.getD_eq_getElem?_getD, List.getElem?_map]
  cases ns[i]? <;> rfl
/-- Groups, colons between. -/
def hexT (ns : List Nat) : List UInt8 := Lib.join (ns.map (digL 16)) [58]
theorem Format_f (n : Nat) (hn : n < 65536) : strconv_FormatInt.f (n : Int) 16 = some (B (digL 16 n)) := by
  unfold strconv_FormatInt.f
  rw [if_pos ⟨rfl, by omega, by omega⟩, Int.toNat_natCast, hexN_digL n hn]
  rfl
theorem hd_len (n : Nat) (hn : n < 65536) : (digL 16 n).length ≤ 17 := digL_len 16 (by omega) n 16 (by omega)
theorem join_len (l : List (List UInt8)) (m : Nat) (h : ∀ x ∈ l, x.length ≤ m) : (Lib.join l [58]).length ≤ l.length * (m + 1) := by
  induction l with
  | nil => exact Nat.zero_le _
  | cons x t ih =>
    have hx := h x (by simp)
    have ht := ih fun y hy => h y (by simp [hy])
    cases t with
    | nil =>
      show (List.intercalate [58] [x]).length ≤ _
      simp [List.intercalate, List.intersperse]
      omega
    | cons y u =>
      have e : Lib.join (x :: y :: u) [58] = x ++ 58 :: Lib.join (y :: u) [58] := by simp [Lib.join, List.intercalate, List.intersperse]
      rw [e, List.length_append, List.length_cons]
      rw [List.length_cons, Nat.add_mul, Nat.one_mul]
      omega
theorem hex_loop (ns : List Nat) (h : ∀ n ∈ ns, n < 65536) (hl : ns.length ≤ 8) : ∀ (t : List Nat) (i k : Nat), ns.drop i = t → i ≤ ns.length → t.length + 1 ≤ k →
    ip_hex.l0 k ((ns.take i).map fun n => B (digL 16 n)) (ints ns) (ns.length : Int) (i : Int) = some (B (hexT ns)) := by
  intro t
  induction t with
  | nil =>
    intro i k ht hi hk
    obtain ⟨k, rfl⟩ : ∃ j, k = j + 1 := ⟨k - 1, by omega⟩
    have hge : ns.length ≤ i := List.drop_eq_nil_iff.1 ht
    have hj : joinOf ((ns.take i).map fun n => B (digL 16 n)) (⟨#[58]⟩ : ByteArray) = hexT ns := by
      rw [List.take_of_length_le hge]
      unfold joinOf hexT
      rw [List.map_map]
      rfl
    have hlen : (hexT ns).length ≤ 200 := by
      have := join_len (ns.map (digL 16)) 17 (by
        intro x hx
        obtain ⟨n, hn, rfl⟩ := List.mem_map.1 hx
        exact hd_len n (h n hn))
      rw [List.length_map] at this
      unfold hexT
      omega
    rw [ip_hex.l0, if_neg (by omega)]
    unfold strings_Join.f
    rw [hj, if_pos ⟨by rw [List.length_map, List.length_take]; omega, by omega⟩]
    rfl
  | cons n t ih =>
    intro i k ht hi hk
    obtain ⟨k, rfl⟩ : ∃ j, k = j + 1 := ⟨k - 1, by simp at hk; omega⟩
    have hlt : i < ns.length := by
      have := congrArg List.length ht
      simp at this; omega
    have hd := List.drop_eq_getElem_cons hlt
    rw [ht] at hd
    injection hd with e1 e2
    have hn : n < 65536 := by rw [e1]; exact h _ (List.getElem_mem hlt)
    have hg : ns.getD i 0 = n := by rw [List.getD_eq_getElem?_getD, List.getElem?_eq_getElem hlt, Option.getD_some, e1]
    have hli : (ints ns).length = ns.length := List.length_map _
    rw [ip_hex.l0, if_pos (by omega), if_pos (by omega), hli, if_pos (by omega), ints_rd, hg, Format_f n hn, Option.bind_some, if_pos (by rw [List.length_map, List.length_take]; omega), wn1 i (by omega)]
    have hs : ((ns.take i).map fun n => B (digL 16 n)) ++ [B (digL 16 n)] = (ns.take (i + 1)).map fun n => B (digL 16 n) := by
      rw [List.take_succ_eq_append_getElem hlt, List.map_append, ← e1]
      rfl
    rw [hs]
    exact ih (i + 1) k e2.symm (by omega) (by simp at hk; omega)
theorem hex_f (ns : List Nat) (h : ∀ n ∈ ns, n < 65536) (hl : ns.length ≤ 8) (k : Nat) (hk : 9 ≤ k) : ip_hex.f k (ints ns) = some (B (hexT ns)) := by
  have hli : (ints ns).length = ns.length := List.length_map _
  rw [ip_hex.f, hli]
  exact hex_loop ns h hl ns 0 k rfl (Nat.zero_le _) (by omega)

/-- What the reference writes for one group. -/
def stepT (a n i d : Nat) : List UInt8 := (if 2 ≤ n ∧ i = a then [58, 58] else []) ++ (if 2 ≤ n ∧ a ≤ i ∧ i < a + n then [] else (if 0 < i ∧ ¬ (2 ≤ n ∧ i = a + n) then [58] else []) ++ digL 16 d)
theorem B_58 : (⟨#[58]⟩ : ByteArray) = B [58] := rfl
theorem B_58' : (⟨#[58, 58]⟩ : ByteArray) = B [58, 58] := rfl
theorem ref_j7 (ns : List Nat) (h8 : ns.length = 8) (h : ∀ x ∈ ns, x < 65536) (a n i k : Nat) (hi : i < 8) (ha : a ≤ 8) (hn : n ≤ 8) (s : List UInt8) (hs : s.length ≤ 1000) (hk : 70000 ≤ k) (x : Bool) (hx : x = decide (2 ≤ n ∧ a ≤ i ∧ i < a + n)) :
    lanternref05_Print.j7 (k + 1) (ints ns) (a : Int) (n : Int) (B s) (i : Int) x = lanternref05_Print.l4 k (ints ns) (a : Int) (n : Int) (B (s ++ (if 2 ≤ n ∧ a ≤ i ∧ i < a + n then [] else (if 0 < i ∧ ¬ (2 ≤ n ∧ i = a + n) then [58] else []) ++ digL 16 (ns.getD i 0)))) ((i + 1 : Nat) : Int) := by
  have hli : (ints ns).length = 8 := (List.length_map _).trans h8
  have hg : ns.getD i 0 < 65536 := by
    rw [List.getD_eq_getElem?_getD, List.getElem?_eq_getElem (by omega), Option.getD_some]
    exact h _ (List.getElem_mem (by omega))
  have hd := refdigits_f 16 (Or.inr rfl) (ns.getD i 0) k hg (by omega)
  have hdl := hd_len _ hg
  have hw : wrap64 ((a : Int) + (n : Int)) = ((a + n : Nat) : Int) := wrap_nat (a + n) (by omega) (by omega)
  rw [lanternref05_Print.j7, hw, wn1 i (by omega), hli, ints_rd]
  rw [show (16 : Int) = ((16 : Nat) : Int) from rfl, hd]
  subst hx
  by_cases hc : 2 ≤ n ∧ a ≤ i ∧ i < a + n
  · rw [if_pos (decide_eq_true hc), if_pos hc, List.append_nil]
  · rw [if_neg (by simpa using hc), if_neg hc]
    by_cases h0 : 0 < i
    · rw [if_pos (show (i : Int) > 0 by omega)]
      by_cases h2 : 2 ≤ n
      · rw [if_pos (show (n : Int) ≥ 2 by omega)]
        by_cases he : i = a + n
        · rw [if_pos (show (i : Int) = ((a + n : Nat) : Int) by omega), if_pos (by omega), if_pos (by omega), Option.bind_some, if_pos (by rw [size_B, size_B]; omega), append_B, if_neg (fun h => h.2 ⟨h2, he⟩), List.nil_append]
        · rw [if_neg (show ¬ (i : Int) = ((a + n : Nat) : Int) by omega), if_pos (by rw [size_B]; omega), if_pos (by omega), if_pos (by omega), Option.bind_some, B_58, append_B, if_pos (by rw [size_B, size_B, List.length_append, List.length_singleton]; omega), append_B, if_pos ⟨h0, fun h => he h.2⟩, List.append_assoc]
      · rw [if_neg (show ¬ (n : Int) ≥ 2 by omega), if_pos (by rw [size_B]; omega), if_pos (by omega), if_pos (by omega), Option.bind_some, B_58, append_B, if_pos (by rw [size_B, size_B, List.length_append, List.length_singleton]; omega), append_B, if_pos ⟨h0, fun h => h2 h.1⟩, List.append_assoc]
    · rw [if_neg (show ¬ (i : Int) > 0 by omega), if_pos (by omega), if_pos (by omega), Option.bind_some, if_pos (by rw [size_B, size_B]; omega), append_B, if_neg (fun h => h0 h.1), List.nil_append]
theorem rp_step (ns : List Nat) (h8 : ns.length = 8) (h : ∀ x ∈ ns, x < 65536) (a n i k : Nat) (hi : i < 8) (ha : a ≤ 8) (hn : n ≤ 8) (s : List UInt8) (hs : s.length ≤ 900) (hk : 70000 ≤ k) :
    lanternref05_Print.l4 (k + 4) (ints ns) (a : Int) (n : Int) (B s) (i : Int) = lanternref05_Print.l4 k (ints ns) (a : Int) (n : Int) (B (s ++ stepT a n i (ns.getD i 0))) ((i + 1 : Nat) : Int) := by
  have hw : wrap64 ((a : Int) + (n : Int)) = ((a + n : Nat) : Int) := wrap_nat (a + n) (by omega) (by omega)
  have j6 (s : List UInt8) (hs : s.length ≤ 1000) : lanternref05_Print.j6 (k + 2) (ints ns) (a : Int) (n : Int) (B s) (i : Int) = lanternref05_Print.l4 k (ints ns) (a : Int) (n : Int) (B (s ++ (if 2 ≤ n ∧ a ≤ i ∧ i < a + n then [] else (if 0 < i ∧ ¬ (2 ≤ n ∧ i = a + n) then [58] else []) ++ digL 16 (ns.getD i 0)))) ((i + 1 : Nat) : Int) := by
    rw [lanternref05_Print.j6, hw]
    by_cases h2 : 2 ≤ n
    · rw [if_pos (show (n : Int) ≥ 2 by omega)]
      by_cases hia : a ≤ i
      · rw [if_pos (show (i : Int) ≥ (a : Int) by omega)]
        exact ref_j7 ns h8 h a n i k hi ha hn s hs hk _ (by rw [decide_eq_decide]; omega)
      · rw [if_neg (show ¬ (i : Int) ≥ (a : Int) by omega)]
        exact ref_j7 ns h8 h a n i k hi ha hn s hs hk _ (Eq.symm (decide_eq_false (by omega)))
    · rw [if_neg (show ¬ (n : Int) ≥ 2 by omega)]
      exact ref_j7 ns h8 h a n i k hi ha hn s hs hk _ (Eq.symm (decide_eq_false (by omega)))
  rw [lanternref05_Print.l4, if_pos (by omega)]
  unfold stepT
  by_cases h2 : 2 ≤ n
  · rw [if_pos (show (n : Int) ≥ 2 by omega)]
    by_cases he : i = a
    · rw [show ((i : Int) == (a : Int)) = true from beq_iff_eq.mpr (by omega), lanternref05_Print.j5, if_pos rfl, if_pos (by rw [size_B]; omega), B_58', append_B, j6 _ (by simp; omega), if_pos (show 2 ≤ n ∧ i = a from ⟨h2, he⟩), List.append_assoc]
    · rw [show ((i : Int) == (a : Int)) = false from beq_eq_false_iff_ne.mpr (by omega), lanternref05_Print.j5, if_neg (by decide), j6 _ (by omega), if_neg (show ¬ (2 ≤ n ∧ i = a) from fun h => he h.2), List.nil_append]
  · rw [if_neg (show ¬ (n : Int) ≥ 2 by omega), lanternref05_Print.j5, if_neg (by decide), j6 _ (by omega), if_neg (show ¬ (2 ≤ n ∧ i = a) from fun h => h2 h.1), List.nil_append]

theorem stepT_len (a n i d : Nat) (hd : d < 65536) : (stepT a n i d).length ≤ 20 := by
  have := hd_len d hd
  unfold stepT
  split <;> split <;> (try split) <;> simp <;> omega
/-- The text of eight groups, a run of n from a. -/
def shortT (a n : Nat) (ns : List Nat) : List UInt8 := if n < 2 then hexT ns else hexT (ns.take a) ++ 58 :: 58 :: hexT (ns.drop (a + n))
def allT (a n d0 d1 d2 d3 d4 d5 d6 d7 : Nat) : List UInt8 := stepT a n 0 d0 ++ stepT a n 1 d1 ++ stepT a n 2 d2 ++ stepT a n 3 d3 ++ stepT a n 4 d4 ++ stepT a n 5 d5 ++ stepT a n 6 d6 ++ stepT a n 7 d7
theorem allT_one (a n d0 d1 d2 d3 d4 d5 d6 d7 : Nat) (h : n < 2) : allT a n d0 d1 d2 d3 d4 d5 d6 d7 = hexT [d0, d1, d2, d3, d4, d5, d6, d7] := by
  have e (i d : Nat) : stepT a n i d = (if 0 < i then [58] else []) ++ digL 16 d := by
    unfold stepT
    rw [if_neg (by omega), if_neg (by omega), List.nil_append]
    by_cases hi : 0 < i
    · rw [if_pos ⟨hi, by omega⟩, if_pos hi]
    · rw [if_neg (fun h => hi h.1), if_neg hi]
  unfold allT
  simp only [e]
  simp [hexT, Lib.join, List.intercalate, List.intersperse]
theorem allT_two (a m d0 d1 d2 d3 d4 d5 d6 d7 : Nat) (h : a + (m + 2) ≤ 8) : allT a (m + 2) d0 d1 d2 d3 d4 d5 d6 d7 = shortT a (m + 2) [d0, d1, d2, d3, d4, d5, d6, d7] := by
  unfold shortT
  rw [if_neg (by omega)]
  have ha : a = 0 ∨ a = 1 ∨ a = 2 ∨ a = 3 ∨ a = 4 ∨ a = 5 ∨ a = 6 := by omega
  have hm : m = 0 ∨ m = 1 ∨ m = 2 ∨ m = 3 ∨ m = 4 ∨ m = 5 ∨ m = 6 := by omega
  rcases ha with rfl | rfl | rfl | rfl | rfl | rfl | rfl <;> rcases hm with rfl | rfl | rfl | rfl | rfl | rfl | rfl <;> first | (exfalso; omega) | simp [allT, stepT, hexT, Lib.join, List.intercalate, List.intersperse]

theorem rp_text (a n d0 d1 d2 d3 d4 d5 d6 d7 : Nat) (h0 : d0 < 65536) (h1 : d1 < 65536) (h2 : d2 < 65536) (h3 : d3 < 65536) (h4 : d4 < 65536) (h5 : d5 < 65536) (h6 : d6 < 65536) (h7 : d7 < 65536) (ha : a ≤ 8) (hn : n ≤ 8) (k : Nat) (hk : 70000 ≤ k) :
    lanternref05_Print.l4 (k + 33) (ints [d0, d1, d2, d3, d4, d5, d6, d7]) (a : Int) (n : Int) (⟨#[]⟩ : ByteArray) 0 = some (B (allT a n d0 d1 d2 d3 d4 d5 d6 d7)) := by
  have hm : ∀ x ∈ [d0, d1, d2, d3, d4, d5, d6, d7], x < 65536 := by
    intro x hx
    simp only [List.mem_cons, List.not_mem_nil, or_false] at hx
    rcases hx with rfl | rfl | rfl | rfl | rfl | rfl | rfl | rfl <;> assumption
  have l0 := stepT_len a n 0 d0 h0
  have l1 := stepT_len a n 1 d1 h1
  have l2 := stepT_len a n 2 d2 h2
  have l3 := stepT_len a n 3 d3 h3
  have l4 := stepT_len a n 4 d4 h4
  have l5 := stepT_len a n 5 d5 h5
  have l6 := stepT_len a n 6 d6 h6
  have l7 := stepT_len a n 7 d7 h7
  have s0 := rp_step [d0, d1, d2, d3, d4, d5, d6, d7] rfl hm a n 0 (k + 29) (by decide) ha hn ([]) (by simp only [List.length_append, List.length_nil]; omega) (by omega)
  change lanternref05_Print.l4 (k + 33) (ints [d0, d1, d2, d3, d4, d5, d6, d7]) (a : Int) (n : Int) (B ([])) ((0 : Nat) : Int) = lanternref05_Print.l4 (k + 29) (ints [d0, d1, d2, d3, d4, d5, d6, d7]) (a : Int) (n : Int) (B ([] ++ stepT a n 0 d0)) ((1 : Nat) : Int) at s0
  have s1 := rp_step [d0, d1, d2, d3, d4, d5, d6, d7] rfl hm a n 1 (k + 25) (by decide) ha hn ([] ++ stepT a n 0 d0) (by simp only [List.length_append, List.length_nil]; omega) (by omega)
  change lanternref05_Print.l4 (k + 29) (ints [d0, d1, d2, d3, d4, d5, d6, d7]) (a : Int) (n : Int) (B ([] ++ stepT a n 0 d0)) ((1 : Nat) : Int) = lanternref05_Print.l4 (k + 25) (ints [d0, d1, d2, d3, d4, d5, d6, d7]) (a : Int) (n : Int) (B ([] ++ stepT a n 0 d0 ++ stepT a n 1 d1)) ((2 : Nat) : Int) at s1
  have s2 := rp_step [d0, d1, d2, d3, d4, d5, d6, d7] rfl hm a n 2 (k + 21) (by decide) ha hn ([] ++ stepT a n 0 d0 ++ stepT a n 1 d1) (by simp only [List.length_append, List.length_nil]; omega) (by omega)
  change lanternref05_Print.l4 (k + 25) (ints [d0, d1, d2, d3, d4, d5, d6, d7]) (a : Int) (n : Int) (B ([] ++ stepT a n 0 d0 ++ stepT a n 1 d1)) ((2 : Nat) : Int) = lanternref05_Print.l4 (k + 21) (ints [d0, d1, d2, d3, d4, d5, d6, d7]) (a : Int) (n : Int) (B ([] ++ stepT a n 0 d0 ++ stepT a n 1 d1 ++ stepT a n 2 d2)) ((3 : Nat) : Int) at s2
  have s3 := rp_step [d0, d1, d2, d3, d4, d5, d6, d7] rfl hm a n 3 (k + 17) (by decide) ha hn ([] ++ stepT a n 0 d0 ++ stepT a n 1 d1 ++ stepT a n 2 d2) (by simp only [List.length_append, List.length_nil]; omega) (by omega)
  change lanternref05_Print.l4 (k + 21) (ints [d0, d1, d2, d3, d4, d5, d6, d7]) (a : Int) (n : Int) (B ([] ++ stepT a n 0 d0 ++ stepT a n 1 d1 ++ stepT a n 2 d2)) ((3 : Nat) : Int) = lanternref05_Print.l4 (k + 17) (ints [d0, d1, d2, d3, d4, d5, d6, d7]) (a : Int) (n : Int) (B ([] ++ stepT a n 0 d0 ++ stepT a n 1 d1 ++ stepT a n 2 d2 ++ stepT a n 3 d3)) ((4 : Nat) : Int) at s3
  have s4 := rp_step [d0, d1, d2, d3, d4, d5, d6, d7] rfl hm a n 4 (k + 13) (by decide) ha hn ([] ++ stepT a n 0 d0 ++ stepT a n 1 d1 ++ stepT a n 2 d2 ++ stepT a n 3 d3) (by simp only [List.length_append, List.length_nil]; omega) (by omega)
  change lanternref05_Print.l4 (k + 17) (ints [d0, d1, d2, d3, d4, d5, d6, d7]) (a : Int) (n : Int) (B ([] ++ stepT a n 0 d0 ++ stepT a n 1 d1 ++ stepT a n 2 d2 ++ stepT a n 3 d3)) ((4 : Nat) : Int) = lanternref05_Print.l4 (k + 13) (ints [d0, d1, d2, d3, d4, d5, d6, d7]) (a : Int) (n : Int) (B ([] ++ stepT a n 0 d0 ++ stepT a n 1 d1 ++ stepT a n 2 d2 ++ stepT a n 3 d3 ++ stepT a n 4 d4)) ((5 : Nat) : Int) at s4
  have s5 := rp_step [d0, d1, d2, d3, d4, d5, d6, d7] rfl hm a n 5 (k + 9) (by decide) ha hn ([] ++ stepT a n 0 d0 ++ stepT a n 1 d1 ++ stepT a n 2 d2 ++ stepT a n 3 d3 ++ stepT a n 4 d4) (by simp only [List.length_append, List.length_nil]; omega) (by omega)
  change lanternref05_Print.l4 (k + 13) (ints [d0, d1, d2, d3, d4, d5, d6, d7]) (a : Int) (n : Int) (B ([] ++ stepT a n 0 d0 ++ stepT a n 1 d1 ++ stepT a n 2 d2 ++ stepT a n 3 d3 ++ stepT a n 4 d4)) ((5 : Nat) : Int) = lanternref05_Print.l4 (k + 9) (ints [d0, d1, d2, d3, d4, d5, d6, d7]) (a : Int) (n : Int) (B ([] ++ stepT a n 0 d0 ++ stepT a n 1 d1 ++ stepT a n 2 d2 ++ stepT a n 3 d3 ++ stepT a n 4 d4 ++ stepT a n 5 d5)) ((6 : Nat) : Int) at s5
  have s6 := rp_step [d0, d1, d2, d3, d4, d5, d6, d7] rfl hm a n 6 (k + 5) (by decide) ha hn ([] ++ stepT a n 0 d0 ++ stepT a n 1 d1 ++ stepT a n 2 d2 ++ stepT a n 3 d3 ++ stepT a n 4 d4 ++ stepT a n 5 d5) (by simp only [List.length_append, List.length_nil]; omega) (by omega)
  change lanternref05_Print.l4 (k + 9) (ints [d0, d1, d2, d3, d4, d5, d6, d7]) (a : Int) (n : Int) (B ([] ++ stepT a n 0 d0 ++ stepT a n 1 d1 ++ stepT a n 2 d2 ++ stepT a n 3 d3 ++ stepT a n 4 d4 ++ stepT a n 5 d5)) ((6 : Nat) : Int) = lanternref05_Print.l4 (k + 5) (ints [d0, d1, d2, d3, d4, d5, d6, d7]) (a : Int) (n : Int) (B ([] ++ stepT a n 0 d0 ++ stepT a n 1 d1 ++ stepT a n 2 d2 ++ stepT a n 3 d3 ++ stepT a n 4 d4 ++ stepT a n 5 d5 ++ stepT a n 6 d6)) ((7 : Nat) : Int) at s6
  have s7 := rp_step [d0, d1, d2, d3, d4, d5, d6, d7] rfl hm a n 7 (k + 1) (by decide) ha hn ([] ++ stepT a n 0 d0 ++ stepT a n 1 d1 ++ stepT a n 2 d2 ++ stepT a n 3 d3 ++ stepT a n 4 d4 ++ stepT a n 5 d5 ++ stepT a n 6 d6) (by simp only [List.length_append, List.length_nil]; omega) (by omega)
  change lanternref05_Print.l4 (k + 5) (ints [d0, d1, d2, d3, d4, d5, d6, d7]) (a : Int) (n : Int) (B ([] ++ stepT a n 0 d0 ++ stepT a n 1 d1 ++ stepT a n 2 d2 ++ stepT a n 3 d3 ++ stepT a n 4 d4 ++ stepT a n 5 d5 ++ stepT a n 6 d6)) ((7 : Nat) : Int) = lanternref05_Print.l4 (k + 1) (ints [d0, d1, d2, d3, d4, d5, d6, d7]) (a : Int) (n : Int) (B ([] ++ stepT a n 0 d0 ++ stepT a n 1 d1 ++ stepT a n 2 d2 ++ stepT a n 3 d3 ++ stepT a n 4 d4 ++ stepT a n 5 d5 ++ stepT a n 6 d6 ++ stepT a n 7 d7)) ((8 : Nat) : Int) at s7
  have e : lanternref05_Print.l4 (k + 1) (ints [d0, d1, d2, d3, d4, d5, d6, d7]) (a : Int) (n : Int) (B ([] ++ stepT a n 0 d0 ++ stepT a n 1 d1 ++ stepT a n 2 d2 ++ stepT a n 3 d3 ++ stepT a n 4 d4 ++ stepT a n 5 d5 ++ stepT a n 6 d6 ++ stepT a n 7 d7)) ((8 : Nat) : Int) = some (B ([] ++ stepT a n 0 d0 ++ stepT a n 1 d1 ++ stepT a n 2 d2 ++ stepT a n 3 d3 ++ stepT a n 4 d4 ++ stepT a n 5 d5 ++ stepT a n 6 d6 ++ stepT a n 7 d7)) := by
    rw [lanternref05_Print.l4, if_neg (by decide)]
  have := s0.trans (s1.trans (s2.trans (s3.trans (s4.trans (s5.trans (s6.trans (s7.trans e)))))))
  unfold allT
  rw [List.nil_append] at this
  exact this
end Go.Proofs.YtfiefecjcmcejaaDoor.Q
