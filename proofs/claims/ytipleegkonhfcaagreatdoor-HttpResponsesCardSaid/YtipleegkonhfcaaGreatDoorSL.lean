/- Responses that may be, plainly: which they are, and how they are put together. -/
import Derived.Test.YtipleegkonhfcaaGreatDoorKT4
set_option linter.unusedSimpArgs false
set_option linter.unusedVariables false
set_option maxRecDepth 10000
namespace Go.Proofs.YtipleegkonhfcaaGreatDoor.Q
open Go Go.RowKit Go.Lib Go.Proofs.YtipleegkonhfcaaGreatDoorW.PrintWords Go.Proofs.YtipleegkonhfcaaGreatDoorB Go.Proofs.YtipleegkonhfcaaGreatDoor.E Go.Proofs.YtipleegkonhfcaaGreatDoor.KH Go.Proofs.YtipleegkonhfcaaGreatDoor.KN Go.Proofs.YtipleegkonhfcaaGreatDoor.KA Go.Proofs.YtipleegkonhfcaaGreatDoor.KQ Go.Proofs.YtipleegkonhfcaaGreatDoor.KT Go.Proofs.YtipleegkonhfcaaGreatDoor.P Go.Proofs.YtipleegkonhfcaaGreatDoor.U Go.Proofs.YtipleegkonhfcaaGreatDoor.KF

def withS (l : List S67) (n : Nat) (say : Bool) : List S67 := if say = true then l ++ [clH n] else l
theorem withS_t (l : List S67) (n : Nat) : withS l n true = l ++ [clH n] := rfl
theorem withS_f (l : List S67) (n : Nat) : withS l n false = l := rfl
theorem withS_light {l : List S67} (h1 : l.length ≤ 100) (h2 : hsizeL l ≤ 20000) (n : Nat) (h : n ≤ 1000000) (say : Bool) : lightL (withS l n say) = true := by
  cases say with
  | true => exact light_with h1 h2 n h
  | false => exact light_of h1 h2
def fitsS (l : List S67) (n : Nat) (say : Bool) : Bool := decide (allV clB l = [] ∧ allV teB l = [] ∧ n ≤ 32768) && decide (checkV (withS l n say) = 0)
theorem sfits_j0 (l : List S67) (h1 : l.length ≤ 100) (h2 : hsizeL l ≤ 20000) (b : List Int) (hb : b.length ≤ 40000) (say x : Bool) (k : Nat) (hk : 70000 < k) : http_fits.j0 k l b say x = some (!x && decide (checkV (withS l b.length say) = 0)) := by
  obtain ⟨k, rfl⟩ : ∃ m, k = m + 1 := ⟨k - 1, by omega⟩
  rw [http_fits.j0]
  cases x with
  | true => rfl
  | false =>
    rw [if_neg (by decide)]
    have hl := withS_light h1 h2 b.length (by omega) say
    have hc := prog_check (withS l b.length say) hl k (by omega)
    cases say with
    | false =>
      rw [withS_f] at hc ⊢
      rw [if_neg (by decide), hc, Option.bind_some]
      rfl
    | true =>
      rw [withS_t] at hc ⊢
      rw [if_pos rfl, hsized_f l h1 b.length (by omega), Option.bind_some, hc, Option.bind_some]
      rfl
theorem rsfits_j0 (l : List S67) (h1 : l.length ≤ 100) (h2 : hsizeL l ≤ 20000) (b : List Int) (hb : b.length ≤ 40000) (say x : Bool) (k : Nat) (hk : 70000 < k) : lanternref11_fits.j0 k l b say x = some (!x && decide (checkV (withS l b.length say) = 0)) := by
  obtain ⟨k, rfl⟩ : ∃ m, k = m + 1 := ⟨k - 1, by omega⟩
  rw [lanternref11_fits.j0]
  cases x with
  | true => rfl
  | false =>
    rw [if_neg (by decide)]
    have hl := withS_light h1 h2 b.length (by omega) say
    have hc := ref_check (withS l b.length say) hl (fits_of hl) k (by omega)
    cases say with
    | false =>
      rw [withS_f] at hc ⊢
      rw [if_neg (by decide), hc, Option.bind_some]
      rfl
    | true =>
      rw [withS_t] at hc ⊢
      rw [if_pos rfl, hwith_f l h1 b.length (by omega) k (by omega), Option.bind_some, hc, Option.bind_some]
      rfl
theorem sfits_f (l : List S67) (h1 : l.length ≤ 100) (h2 : hsizeL l ≤ 20000) (b : List Int) (hb : b.length ≤ 40000) (say : Bool) (k : Nat) (hk : 80000 < k) : http_fits.f k l b say = some (fitsS l b.length say) := by
  have hs := small_of h1 h2
  have l1 := allV_len clB l
  have l2 := allV_len teB l
  unfold http_fits.f fitsS
  rw [all_f _ l hs (by decide) k (by omega), all_f _ l hs (by decide) k (by omega), Option.bind_some, Option.bind_some, allV_low _ _ l te_low, allV_low _ _ l cl_low]
  rw [wrap_nat ((allV clB l).length + (allV teB l).length) (by omega) (by omega)]
  by_cases hz : (allV clB l).length + (allV teB l).length = 0
  · have z1 : allV clB l = [] := List.eq_nil_of_length_eq_zero (by omega)
    have z2 : allV teB l = [] := List.eq_nil_of_length_eq_zero (by omega)
    rw [if_neg (by omega), sfits_j0 l h1 h2 b hb say _ k (by omega)]
    by_cases h3 : b.length ≤ 32768
    · rw [decide_eq_false (show ¬ ((b.length : Int) > 32768) by omega), decide_eq_true (show allV clB l = [] ∧ allV teB l = [] ∧ b.length ≤ 32768 from ⟨z1, z2, h3⟩)]
      rfl
    · rw [decide_eq_true (show (b.length : Int) > 32768 by omega), decide_eq_false (show ¬ (allV clB l = [] ∧ allV teB l = [] ∧ b.length ≤ 32768) from fun h => h3 h.2.2)]
      rfl
  · rw [if_pos (by omega), sfits_j0 l h1 h2 b hb say _ k (by omega), decide_eq_false (show ¬ (allV clB l = [] ∧ allV teB l = [] ∧ b.length ≤ 32768) from fun h => hz (by rw [h.1, h.2.1]; rfl))]
    rfl
theorem rsfits_f (l : List S67) (h1 : l.length ≤ 100) (h2 : hsizeL l ≤ 20000) (b : List Int) (hb : b.length ≤ 40000) (say : Bool) (k : Nat) (hk : 80000 < k) : lanternref11_fits.f k l b say = some (fitsS l b.length say) := by
  have hs := small_of h1 h2
  unfold lanternref11_fits.f fitsS
  rw [show (⟨#[99, 111, 110, 116, 101, 110, 116, 45, 108, 101, 110, 103, 116, 104]⟩ : ByteArray) = clB from rfl, show (⟨#[116, 114, 97, 110, 115, 102, 101, 114, 45, 101, 110, 99, 111, 100, 105, 110, 103]⟩ : ByteArray) = teB from rfl, rall_f clB l hs (by decide) k (by omega), rall_f teB l hs (by decide) k (by omega), Option.bind_some]
  by_cases z1 : allV clB l = []
  · rw [if_neg (by rw [z1]; simp), Option.bind_some]
    by_cases z2 : allV teB l = []
    · rw [if_neg (by rw [z2]; simp), rsfits_j0 l h1 h2 b hb say _ k (by omega)]
      by_cases h3 : b.length ≤ 32768
      · rw [decide_eq_false (show ¬ ((b.length : Int) > 32768) by omega), decide_eq_true (show allV clB l = [] ∧ allV teB l = [] ∧ b.length ≤ 32768 from ⟨z1, z2, h3⟩)]
        rfl
      · rw [decide_eq_true (show (b.length : Int) > 32768 by omega), decide_eq_false (show ¬ (allV clB l = [] ∧ allV teB l = [] ∧ b.length ≤ 32768) from fun h => h3 h.2.2)]
        rfl
    · have : 0 < (allV teB l).length := List.length_pos_iff.2 z2
      rw [if_pos (by omega), rsfits_j0 l h1 h2 b hb say _ k (by omega), decide_eq_false (show ¬ (allV clB l = [] ∧ allV teB l = [] ∧ b.length ≤ 32768) from fun h => z2 h.2.1)]
      rfl
  · have : 0 < (allV clB l).length := List.length_pos_iff.2 z1
    rw [if_pos (by omega), rsfits_j0 l h1 h2 b hb say _ k (by omega), decide_eq_false (show ¬ (allV clB l = [] ∧ allV teB l = [] ∧ b.length ≤ 32768) from fun h => z1 h.1)]
    rfl
/-! ### which may be -/
def bareM (s : Int) : Bool := decide (s = 204) || decide (s = 304)
theorem hbare_f (s : Int) : http_bare.f s = some (bareM s) := by
  unfold http_bare.f bareM
  by_cases h : s = 204
  · rw [if_pos h, decide_eq_true h]
    rfl
  · rw [if_neg h, decide_eq_false h, Bool.false_or]
    rfl
theorem rbare_f (s : Int) : lanternref11_Bare.f s = some (bareM s) := by
  unfold lanternref11_Bare.f bareM
  by_cases h : s = 204
  · rw [if_pos h, decide_eq_true h]
    rfl
  · rw [if_neg h, decide_eq_false h, Bool.false_or]
    rfl
def mayS (st : Int) (rs : ByteArray) (l : List S67) (n : Nat) : Bool := decide (200 ≤ st ∧ st ≤ 599 ∧ rs.size ≤ 128) && ((L rs).all (inR 32 126) && (!(bareM st && decide (0 < n)) && fitsS l n (!bareM st)))
theorem checkS_f (st : Int) (rs : ByteArray) (hr : rs.size ≤ 5000) (l : List S67) (h1 : l.length ≤ 100) (h2 : hsizeL l ≤ 20000) (b : List Int) (hb : b.length ≤ 40000) (k : Nat) (hk : 80000 < k) : http_CheckResponse.f k st rs l b = some (if mayS st rs l b.length = true then 0 else 1) := by
  have hw : http_within.f k rs 32 126 = some ((L rs).all (inR 32 126)) := hwithin_f rs (by omega) 32 126 k (by omega)
  unfold http_CheckResponse.f mayS
  by_cases a1 : st < 200
  · rw [if_pos a1, decide_eq_false (show ¬ (200 ≤ st ∧ st ≤ 599 ∧ rs.size ≤ 128) by omega)]
    rfl
  rw [if_neg a1]
  by_cases a2 : st > 599
  · rw [if_pos a2, decide_eq_false (show ¬ (200 ≤ st ∧ st ≤ 599 ∧ rs.size ≤ 128) by omega)]
    rfl
  rw [if_neg a2]
  by_cases a3 : rs.size ≤ 128
  · rw [if_neg (by omega), decide_eq_true (show 200 ≤ st ∧ st ≤ 599 ∧ rs.size ≤ 128 by omega), hw, Option.bind_some]
    cases (L rs).all (inR 32 126) with
    | false => rfl
    | true =>
      rw [if_pos rfl, hbare_f, Option.bind_some]
      cases bareM st with
      | false =>
        rw [if_neg (by decide), Option.bind_some, sfits_f l h1 h2 b hb _ k hk, Option.bind_some]
        show _ = some (if fitsS l b.length (!false) = true then 0 else 1)
        cases fitsS l b.length (!false) <;> rfl
      | true =>
        rw [if_pos rfl]
        by_cases h0 : 0 < b.length
        · rw [if_pos (by omega), decide_eq_true h0]
          rfl
        · rw [if_neg (by omega), Option.bind_some, sfits_f l h1 h2 b hb _ k hk, Option.bind_some, decide_eq_false h0]
          show _ = some (if fitsS l b.length (!true) = true then 0 else 1)
          cases fitsS l b.length (!true) <;> rfl
  · rw [if_pos (by omega), decide_eq_false (show ¬ (200 ≤ st ∧ st ≤ 599 ∧ rs.size ≤ 128) by omega)]
    rfl
theorem mayS_j0 (st : Int) (rs : ByteArray) (l : List S67) (h1 : l.length ≤ 100) (h2 : hsizeL l ≤ 20000) (b : List Int) (hb : b.length ≤ 40000) (x : Bool) (k : Nat) (hk : 90000 < k) : lanternref11_MayResponse.j0 k x st rs l b = some (!x && fitsS l b.length (!bareM st)) := by
  obtain ⟨k, rfl⟩ : ∃ m, k = m + 1 := ⟨k - 1, by omega⟩
  rw [lanternref11_MayResponse.j0]
  cases x with
  | true => rfl
  | false =>
    rw [if_neg (by decide), rbare_f, Option.bind_some, rsfits_f l h1 h2 b hb _ k (by omega), Option.bind_some]
    rfl
theorem mayS_f (st : Int) (rs : ByteArray) (hr : rs.size ≤ 5000) (l : List S67) (h1 : l.length ≤ 100) (h2 : hsizeL l ≤ 20000) (b : List Int) (hb : b.length ≤ 40000) (k : Nat) (hk : 90000 < k) : lanternref11_MayResponse.f k st rs l b = some (mayS st rs l b.length) := by
  have hw : lanternref11_between.f k rs 32 126 = some ((L rs).all (inR 32 126)) := between_f rs (by omega) 32 126 k (by omega)
  have hj := fun x => mayS_j0 st rs l h1 h2 b hb x k hk
  unfold lanternref11_MayResponse.f mayS
  by_cases a1 : st < 200
  · rw [if_pos a1, hj, decide_eq_false (show ¬ (200 ≤ st ∧ st ≤ 599 ∧ rs.size ≤ 128) by omega)]
    rfl
  rw [if_neg a1]
  by_cases a2 : st > 599
  · rw [if_pos a2, hj, decide_eq_false (show ¬ (200 ≤ st ∧ st ≤ 599 ∧ rs.size ≤ 128) by omega)]
    rfl
  rw [if_neg a2]
  by_cases a3 : rs.size ≤ 128
  · rw [if_neg (by omega), decide_eq_true (show 200 ≤ st ∧ st ≤ 599 ∧ rs.size ≤ 128 by omega), hw, Option.bind_some]
    cases (L rs).all (inR 32 126) with
    | false =>
      rw [if_neg (by decide), hj]
      rfl
    | true =>
      rw [if_pos rfl, rbare_f, Option.bind_some, hj, hj]
      have hd : decide ((b.length : Int) > 0) = decide (0 < b.length) := decide_eq_decide.2 (by omega)
      rw [hd]
      cases bareM st with
      | false => rfl
      | true =>
        rw [if_pos rfl]
        cases decide (0 < b.length) <;> rfl
  · rw [if_pos (by omega), hj, decide_eq_false (show ¬ (200 ≤ st ∧ st ≤ 599 ∧ rs.size ≤ 128) by omega)]
    rfl
theorem mayS_parts {st : Int} {rs : ByteArray} {l : List S67} {n : Nat} (h : mayS st rs l n = true) : ∃ m : Nat, st = (m : Int) ∧ 200 ≤ m ∧ m ≤ 599 ∧ rs.size ≤ 128 ∧ (L rs).all (inR 32 126) = true ∧ (bareM st = true → n = 0) ∧ allV clB l = [] ∧ allV teB l = [] ∧ n ≤ 32768 ∧ checkV (withS l n (!bareM st)) = 0 := by
  unfold mayS fitsS at h
  rw [Bool.and_eq_true, Bool.and_eq_true, Bool.and_eq_true, Bool.and_eq_true, decide_eq_true_eq, decide_eq_true_eq, decide_eq_true_eq] at h
  obtain ⟨⟨a1, a2, a3⟩, b1, c1, ⟨d1, d2, d3⟩, e1⟩ := h
  refine ⟨st.toNat, by omega, by omega, by omega, a3, b1, fun hb => ?_, d1, d2, d3, e1⟩
  rw [hb, Bool.true_and] at c1
  by_cases h0 : 0 < n
  · rw [decide_eq_true h0] at c1
    exact absurd c1 (by decide)
  · omega
/-! ### put together -/
def slineL (n : Nat) (rs : ByteArray) : List UInt8 := versionL ++ 32 :: (Lib.decDigits n ++ 32 :: L rs)
theorem dec3 (n : Nat) (h1 : 100 ≤ n) (h2 : n ≤ 999) : (Lib.decDigits n).length = 3 := by
  rw [dd2 n (by omega), dd2 (n / 10) (by omega), dd1 (n / 10 / 10) (by omega)]
  rfl
def httpB : ByteArray := ⟨#[72, 84, 84, 80, 47, 49, 46, 49, 32]⟩
theorem sline_p (n : Nat) (rs : ByteArray) : L (((httpB ++ B (Lib.decDigits n)) ++ (⟨#[32]⟩ : ByteArray)) ++ rs) = slineL n rs := by
  rw [L_append, L_append, L_append, L_B]
  unfold slineL versionL httpB
  simp [L]
def respB (n : Nat) (rs : ByteArray) (l : List S67) (bs : List UInt8) : List UInt8 := msgB (slineL n rs) (withS l bs.length (!bareM (n : Int))) bs
theorem printS_f (st : Int) (rs : ByteArray) (hr : rs.size ≤ 5000) (l : List S67) (h1 : l.length ≤ 100) (h2 : hsizeL l ≤ 20000) (bs : List UInt8) (hb : bs.length ≤ 40000) (k : Nat) (hk : 90000 < k) :
    http_PrintResponse.f k st rs l (nums bs) = some (if mayS st rs l bs.length = true then (nums (respB st.toNat rs l bs), 0) else ([], 1)) := by
  have hc := checkS_f st rs hr l h1 h2 (nums bs) (by rw [nums_length]; exact hb) k (by omega)
  rw [nums_length] at hc
  unfold http_PrintResponse.f
  rw [hc, Option.bind_some]
  by_cases hmay : mayS st rs l bs.length = true
  · obtain ⟨m, rfl, m1, m2, h128, _, h0, _, _, hn, hck⟩ := mayS_parts hmay
    have hlt := withS_light h1 h2 bs.length (by omega) (!bareM (m : Int))
    have z1 : (⟨#[32]⟩ : ByteArray).size = 1 := rfl
    have z9 : httpB.size = 9 := rfl
    have zd : (B (Lib.decDigits m)).size = 3 := by rw [size_B, dec3 m (by omega) (by omega)]
    have hj := join_f (((httpB ++ B (Lib.decDigits m)) ++ (⟨#[32]⟩ : ByteArray)) ++ rs) (by rw [size_app, size_app, size_app, z1, z9, zd]; omega) (withS l bs.length (!bareM (m : Int))) hlt hck bs hb k (by omega)
    rw [sline_p] at hj
    have s1 : 9 + (B (Lib.decDigits m)).size ≤ 9223372036854775807 := by omega
    have s2 : (httpB ++ B (Lib.decDigits m)).size + 1 ≤ 9223372036854775807 := by rw [size_app, z9, zd]; omega
    have s3 : ((httpB ++ B (Lib.decDigits m)) ++ (⟨#[32]⟩ : ByteArray)).size + rs.size ≤ 9223372036854775807 := by rw [size_app, size_app, z9, zd, z1]; omega
    rw [if_pos hmay, if_pos rfl, if_pos hmay, nums_length, Int.toNat_natCast, hbare_f, Option.bind_some, show (⟨#[72, 84, 84, 80, 47, 49, 46, 49, 32]⟩ : ByteArray) = httpB from rfl]
    unfold respB
    cases hbr : bareM (m : Int) with
    | true =>
      rw [hbr, Bool.not_true, withS_f] at hj
      rw [if_pos rfl, itoa_f m (by omega), Option.bind_some, if_pos s1, if_pos s2, if_pos s3, hj, Option.bind_some, Bool.not_true, withS_f]
    | false =>
      rw [hbr, Bool.not_false, withS_t] at hj
      rw [if_neg (by decide), hsized_f l h1 bs.length (by omega), Option.bind_some, itoa_f m (by omega), Option.bind_some, if_pos s1, if_pos s2, if_pos s3, hj, Option.bind_some, Bool.not_false, withS_t]
  · rw [if_neg hmay, if_neg (by decide), if_neg hmay]
theorem responseS_f (m : Nat) (m1 : 200 ≤ m) (m2 : m ≤ 599) (rs : ByteArray) (hr : rs.size ≤ 128) (l : List S67) (h1 : l.length ≤ 100) (h2 : hsizeL l ≤ 20000) (bs : List UInt8) (hb : bs.length ≤ 40000) (k : Nat) (hk : 90000 < k) :
    lanternref11_Response.f k (m : Int) rs l (nums bs) = some (nums (respB m rs l bs)) := by
  have hlt := withS_light h1 h2 bs.length (by omega) (!bareM (m : Int))
  have z1 : (⟨#[32]⟩ : ByteArray).size = 1 := rfl
  have z9 : httpB.size = 9 := rfl
  have zd : (B (Lib.decDigits m)).size = 3 := by rw [size_B, dec3 m (by omega) (by omega)]
  have hj := rjoin_f (((httpB ++ B (Lib.decDigits m)) ++ (⟨#[32]⟩ : ByteArray)) ++ rs) (by rw [size_app, size_app, size_app, z1, z9, zd]; omega) (withS l bs.length (!bareM (m : Int))) hlt bs hb k (by omega)
  rw [sline_p] at hj
  have s1 : 9 + (B (Lib.decDigits m)).size ≤ 9223372036854775807 := by omega
  have s2 : (httpB ++ B (Lib.decDigits m)).size + 1 ≤ 9223372036854775807 := by rw [size_app, z9, zd]; omega
  have s3 : ((httpB ++ B (Lib.decDigits m)) ++ (⟨#[32]⟩ : ByteArray)).size + rs.size ≤ 9223372036854775807 := by rw [size_app, size_app, z9, zd, z1]; omega
  unfold lanternref11_Response.f respB
  rw [nums_length, rbare_f, Option.bind_some, show (⟨#[72, 84, 84, 80, 47, 49, 46, 49, 32]⟩ : ByteArray) = httpB from rfl]
  cases hbr : bareM (m : Int) with
  | true =>
    rw [hbr, Bool.not_true, withS_f] at hj
    rw [if_pos rfl, rdig_f m (by omega) k (by omega), Option.bind_some, if_pos s1, if_pos s2, if_pos s3, hj, Option.bind_some, Bool.not_true, withS_f]
  | false =>
    rw [hbr, Bool.not_false, withS_t] at hj
    rw [if_neg (by decide), hwith_f l h1 bs.length (by omega) k (by omega), Option.bind_some, rdig_f m (by omega) k (by omega), Option.bind_some, if_pos s1, if_pos s2, if_pos s3, hj, Option.bind_some, Bool.not_false, withS_t]
end Go.Proofs.YtipleegkonhfcaaGreatDoor.Q
