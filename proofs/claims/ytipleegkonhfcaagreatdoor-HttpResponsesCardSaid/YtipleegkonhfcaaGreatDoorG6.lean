/- The law HttpAsks, plainly. -/
import Derived.Test.YtipleegkonhfcaaGreatDoorG3
import Derived.Test.YtipleegkonhfcaaGreatDoorKA1
set_option linter.unusedSimpArgs false
set_option linter.unusedVariables false
set_option maxRecDepth 10000
namespace Go.Proofs.YtipleegkonhfcaaGreatDoor.Q
open Go Go.RowKit Go.Lib Go.Proofs.YtipleegkonhfcaaGreatDoorW.PrintWords Go.Proofs.YtipleegkonhfcaaGreatDoorB Go.Proofs.YtipleegkonhfcaaGreatDoor.E Go.Proofs.YtipleegkonhfcaaGreatDoor.KA Go.Proofs.YtipleegkonhfcaaGreatDoor.P Go.Proofs.YtipleegkonhfcaaGreatDoor.U Go.Proofs.YtipleegkonhfcaaGreatDoor.KF

theorem same_self (l : List S67) (hl : l.length ≤ 1000000) : ∀ (d k i : Nat), i + d = l.length → d < k → lanternref09_Same.l0 k l l i = some true
  | d, k, i, hd, hk => by
    obtain ⟨k, rfl⟩ : ∃ m, k = m + 1 := ⟨k - 1, by omega⟩
    rw [lanternref09_Same.l0]
    by_cases h : i < l.length
    · obtain ⟨d, rfl⟩ : ∃ m, d = m + 1 := ⟨d - 1, by omega⟩
      rw [if_pos (by omega), if_pos (by omega), if_pos (by omega), if_neg (by simp), wrap_nat (x := (i : Int) + 1) (i + 1) rfl (by omega)]
      exact same_self l hl d k (i + 1) (by omega) (by omega)
    · rw [if_neg (by omega)]
theorem same_f (l : List S67) (hl : l.length ≤ 1000000) (k : Nat) (hk : l.length < k) : lanternref09_Same.f k l l = some true := by
  unfold lanternref09_Same.f
  rw [if_pos rfl]
  exact same_self l hl l.length k 0 (by omega) hk
theorem parseM_at (bs : List UInt8) : ∀ (f p : Nat) (acc : List S67), 0 ≤ (parseM bs f p acc).2.1 ∧ (parseM bs f p acc).2.1 ≤ (bs.length : Int)
  | 0, p, acc => by
    rw [parseM]
    exact ⟨Int.le_refl _, Int.natCast_nonneg _⟩
  | f + 1, p, acc => by
    rw [parseM]
    split
    · split <;> exact ⟨Int.le_refl _, Int.natCast_nonneg _⟩
    · next x hx =>
      obtain ⟨e1, _⟩ := splitC_some _ _ x.1 x.2 hx
      have e2 := congrArg List.length e1
      rw [List.length_append, List.length_cons, List.length_drop] at e2
      split
      · exact ⟨Int.le_refl _, Int.natCast_nonneg _⟩
      · split
        · refine ⟨?_, ?_⟩
          · show (0 : Int) ≤ ((p + x.1.length + 1 : Nat) : Int)
            omega
          · show ((p + x.1.length + 1 : Nat) : Int) ≤ (bs.length : Int)
            omega
        · split
          · exact ⟨Int.le_refl _, Int.natCast_nonneg _⟩
          · split
            · exact ⟨Int.le_refl _, Int.natCast_nonneg _⟩
            · exact parseM_at bs f _ _
abbrev Req := ByteArray × ByteArray × List S67 × List Int × Int × Int
def none6 (e : Int) : Req := ((⟨#[]⟩ : ByteArray), (⟨#[]⟩ : ByteArray), [], [], 0, e)
/-- The headers and the body behind the first line (n bytes). -/
def restM (bs : List UInt8) (n : Nat) (a b : ByteArray) : Req :=
  if (parseM (bs.drop n) ((bs.drop n).length + 1) 0 []).2.2 = 0 then
    (if (bodyM (bs.drop (n + (parseM (bs.drop n) ((bs.drop n).length + 1) 0 []).2.1.toNat)) (allV teB (parseM (bs.drop n) ((bs.drop n).length + 1) 0 []).1) (allV clB (parseM (bs.drop n) ((bs.drop n).length + 1) 0 []).1) false).2.2 = 0 then
      (a, b, (parseM (bs.drop n) ((bs.drop n).length + 1) 0 []).1, (bodyM (bs.drop (n + (parseM (bs.drop n) ((bs.drop n).length + 1) 0 []).2.1.toNat)) (allV teB (parseM (bs.drop n) ((bs.drop n).length + 1) 0 []).1) (allV clB (parseM (bs.drop n) ((bs.drop n).length + 1) 0 []).1) false).1,
        wrap64 (((n + (parseM (bs.drop n) ((bs.drop n).length + 1) 0 []).2.1.toNat : Nat) : Int) + (bodyM (bs.drop (n + (parseM (bs.drop n) ((bs.drop n).length + 1) 0 []).2.1.toNat)) (allV teB (parseM (bs.drop n) ((bs.drop n).length + 1) 0 []).1) (allV clB (parseM (bs.drop n) ((bs.drop n).length + 1) 0 []).1) false).2.1), 0)
    else none6 (bodyM (bs.drop (n + (parseM (bs.drop n) ((bs.drop n).length + 1) 0 []).2.1.toNat)) (allV teB (parseM (bs.drop n) ((bs.drop n).length + 1) 0 []).1) (allV clB (parseM (bs.drop n) ((bs.drop n).length + 1) 0 []).1) false).2.2)
  else none6 (parseM (bs.drop n) ((bs.drop n).length + 1) 0 []).2.2
def versionL : List UInt8 := [72, 84, 84, 80, 47, 49, 46, 49]
def partsM (bs : List UInt8) (n : Nat) : List (List UInt8) → Req
  | [a, b, c] => if tokenL a = true ∧ targetL b = true ∧ c = versionL then restM bs n (B a) (B b) else none6 5
  | _ => none6 5
theorem partsM_not (bs : List UInt8) (n : Nat) : ∀ p : List (List UInt8), p.length ≠ 3 → partsM bs n p = none6 5
  | [], _ => rfl
  | [_], _ => rfl
  | [_, _], _ => rfl
  | [_, _, _], h => absurd rfl h
  | _ :: _ :: _ :: _ :: _, _ => rfl
def reqM (bs : List UInt8) : Req :=
  if (firstM bs).2.2 = 0 then
    partsM bs (firstM bs).2.1.toNat (splitS 32 (L (firstM bs).1))
  else none6 (firstM bs).2.2
theorem firstM_at (bs : List UInt8) : ∃ n : Nat, (firstM bs).2.1 = (n : Int) ∧ n ≤ bs.length ∧ (firstM bs).1.size ≤ bs.length := by
  unfold firstM
  cases hs : splitC 10 (bs.take 4096) with
  | none => exact ⟨0, rfl, Nat.zero_le _, Nat.zero_le _⟩
  | some x =>
    obtain ⟨h1, h2, h3⟩ := splitC_take (u := x.1) (t := x.2) hs
    refine ⟨x.1.length + 1, rfl, by omega, ?_⟩
    show (B (chomp x.1)).size ≤ _
    rw [size_B]
    have := chomp_length x.1
    omega
theorem small_parsed (bs : List UInt8) (hb : bs.length ≤ 1000000) : Small2 (parseM bs (bs.length + 1) 0 []).1 := by
  refine ⟨Nat.le_trans (parseM_acc bs _ _ [] (by simp)) (by decide), fun h hh => ?_⟩
  have := parseM_small bs (bs.length + 1) 0 [] (by simp) h hh
  omega
theorem bytes_le (l : List UInt8) : ∀ p ∈ splitS 32 l, p.length ≤ l.length := by
  induction l with
  | nil => simp [splitS]
  | cons c t ih =>
    intro p hp
    rw [splitS] at hp
    split at hp
    · rcases List.mem_cons.1 hp with rfl | hp
      · simp
      · have := ih p hp
        rw [List.length_cons]
        omega
    · split at hp
      · rw [List.mem_singleton.1 hp]
        simp
      · next h t' he =>
        rcases List.mem_cons.1 hp with rfl | hp
        · have := ih h (by rw [he]; exact List.mem_cons_self)
          rw [List.length_cons, List.length_cons]
          omega
        · have := ih p (by rw [he]; exact List.mem_cons_of_mem _ hp)
          rw [List.length_cons]
          omega
theorem req_j0 (bs : List UInt8) (hb : bs.length ≤ 100000) (n : Nat) (hn : n ≤ bs.length) (a b : ByteArray) (c : ByteArray) (flag : Bool) (k : Nat) (hk : 7 * bs.length + 4000 < k) : http_ParseRequest.j0 k (nums bs) (n : Int) [a, b, c] flag = some (if flag = true then none6 5 else restM bs n a b) := by
  obtain ⟨k, rfl⟩ : ∃ m, k = m + 1 := ⟨k - 1, by omega⟩
  have hnl := nums_length bs
  rw [http_ParseRequest.j0]
  cases flag with
  | true => rfl
  | false =>
    have hdl : (bs.drop n).length ≤ bs.length := by rw [List.length_drop]; omega
    have hp : header_Parse.f k (nums (bs.drop n)) = some (parseM (bs.drop n) ((bs.drop n).length + 1) 0 []) := parse_f _ (by omega) k (by omega)
    have hat := parseM_at (bs.drop n) ((bs.drop n).length + 1) 0 []
    have hsm := small_parsed (bs.drop n) (by omega)
    rw [if_neg (by decide), if_pos (by omega), if_pos (by omega), Int.toNat_natCast, nums_drop, hp, Option.bind_some]
    show _ = some (restM bs n a b)
    unfold restM
    generalize parseM (bs.drop n) ((bs.drop n).length + 1) 0 [] = q at hat hsm ⊢
    obtain ⟨l, m, e⟩ := q
    simp only at hat hsm ⊢
    by_cases he : e = 0
    · rw [if_pos he, if_pos he]
      rw [List.length_drop] at hat
      have hm : (n : Int) + m = ((n + m.toNat : Nat) : Int) := by omega
      have hle : n + m.toNat ≤ bs.length := by omega
      have hle2 : n + m.toNat ≤ 9223372036854775807 := by omega
      have hdl2 : (bs.drop (n + m.toNat)).length ≤ bs.length := by rw [List.length_drop]; omega
      have hbd := body_f (bs.drop (n + m.toNat)) (by omega) l hsm false k (by omega)
      rw [wrap_nat (n + m.toNat) hm hle2, if_pos (by omega), if_pos (by omega), Int.toNat_natCast, nums_drop, hbd, Option.bind_some]
      generalize bodyM (bs.drop (n + m.toNat)) (allV teB l) (allV clB l) false = d
      obtain ⟨d1, d2, d3⟩ := d
      simp only
      by_cases hd : d3 = 0
      · rw [if_pos hd, if_pos hd, if_pos (show (0 : Int) < (([a, b, c].length : Nat) : Int) from (by decide : (0 : Int) < 3)), if_pos (show (1 : Int) < (([a, b, c].length : Nat) : Int) from (by decide : (1 : Int) < 3))]
        rfl
      · rw [if_neg hd, if_neg hd]
        rfl
    · rw [if_neg he, if_neg he]
      rfl
end Go.Proofs.YtipleegkonhfcaaGreatDoor.Q
set_option linter.unusedSimpArgs false
set_option linter.unusedVariables false
set_option maxRecDepth 10000
namespace Go.Proofs.YtipleegkonhfcaaGreatDoor.Q
open Go Go.RowKit Go.Lib Go.Proofs.YtipleegkonhfcaaGreatDoorW.PrintWords Go.Proofs.YtipleegkonhfcaaGreatDoorB Go.Proofs.YtipleegkonhfcaaGreatDoor.E Go.Proofs.YtipleegkonhfcaaGreatDoor.KA Go.Proofs.YtipleegkonhfcaaGreatDoor.P Go.Proofs.YtipleegkonhfcaaGreatDoor.U Go.Proofs.YtipleegkonhfcaaGreatDoor.KF

theorem req_t (x0 : List Int) (x3 : Int) (x6 : List ByteArray) (k : Nat) (hk : 0 < k) : http_ParseRequest.j0 k x0 x3 x6 true = some (none6 5) := by
  obtain ⟨k, rfl⟩ : ∃ m, k = m + 1 := ⟨k - 1, by omega⟩
  rw [http_ParseRequest.j0, if_pos rfl]
  rfl
theorem req_f (bs : List UInt8) (hb : bs.length ≤ 100000) (k : Nat) (hk : 14 * bs.length + 10000 < k) : http_ParseRequest.f k (nums bs) = some (reqM bs) := by
  unfold http_ParseRequest.f reqM
  rw [first_f bs (by omega) k (by omega), Option.bind_some]
  obtain ⟨n, hn, hle, hsz⟩ := firstM_at bs
  generalize firstM bs = q at hn hsz ⊢
  obtain ⟨s, i, e⟩ := q
  simp only at hn hsz ⊢
  subst hn
  by_cases he : e = 0
  · have hl := size_L s
    rw [if_pos he, if_pos he, Int.toNat_natCast]
    rw [split_f 32 s (by omega), Option.bind_some]
    have h3 : ∀ p : List (List UInt8), p.length = 3 → ∃ a b c, p = [a, b, c] := by
      intro p hp
      match p, hp with
      | [a, b, c], _ => exact ⟨a, b, c, rfl⟩
    by_cases hp3 : (splitS 32 (L s)).length = 3
    · obtain ⟨a, b, c, hp⟩ := h3 _ hp3
      have hmem := bytes_le (L s)
      rw [hp] at hmem
      have ha := hmem a (by simp)
      have hb1 := hmem b (by simp)
      rw [hp]
      show _ = some (if tokenL a = true ∧ targetL b = true ∧ c = versionL then restM bs n (B a) (B b) else none6 5)
      rw [show List.map B [a, b, c] = [B a, B b, B c] from rfl]
      rw [if_pos (show ((([B a, B b, B c] : List ByteArray).length : Nat) : Int) = 3 from rfl), if_pos (show (0 : Int) < ((([B a, B b, B c] : List ByteArray).length : Nat) : Int) from (by decide : (0 : Int) < 3)), show rdOf ByteArray.empty [B a, B b, B c] 0 = B a from rfl, show rdOf ByteArray.empty [B a, B b, B c] 1 = B b from rfl, show rdOf ByteArray.empty [B a, B b, B c] 2 = B c from rfl, token_f (B a) (by rw [size_B]; omega), Option.bind_some, L_B]
      cases ht : tokenL a with
      | false =>
        rw [if_neg (by decide), req_t _ _ _ k (by omega)]
        simp only [Bool.false_eq_true, false_and, if_false]
      | true =>
        rw [if_pos rfl, if_pos (show (1 : Int) < ((([B a, B b, B c] : List ByteArray).length : Nat) : Int) from (by decide : (1 : Int) < 3)), target_f (B b) (by rw [size_B]; omega) k (by rw [size_B]; omega), Option.bind_some, L_B]
        cases hg : targetL b with
        | false =>
          rw [if_neg (by decide), req_t _ _ _ k (by omega)]
          simp only [Bool.false_eq_true, false_and, and_false, if_false]
        | true =>
          rw [if_pos rfl, if_pos (show (2 : Int) < ((([B a, B b, B c] : List ByteArray).length : Nat) : Int) from (by decide : (2 : Int) < 3)), toList_L, L_B]
          refine (req_j0 bs hb n hle (B a) (B b) (B c) (c != versionL) k (by omega)).trans ?_
          simp only [true_and]
          by_cases hc : c = versionL
          · rw [if_neg (by simp [hc]), if_pos hc]
          · rw [if_pos (by simp [hc]), if_neg hc]
    · rw [if_neg (by rw [List.length_map]; omega), req_t _ _ _ k (by omega)]
      rw [partsM_not bs n _ hp3]
  · rw [if_neg he, if_neg he]
    rfl
def ask1 : List UInt8 := [71, 69, 84, 32, 47, 32, 72, 84, 84, 80, 47, 49, 46, 49, 13, 10, 72, 111, 115, 116, 58, 32, 97, 13, 10, 13, 10]
def ask2 : List UInt8 := [71, 69, 84, 32, 47, 32, 72, 84, 84, 80, 47, 49, 46, 49, 13, 10, 67, 111, 110, 116, 101, 110, 116, 45, 76, 101, 110, 103, 116, 104, 58, 32, 49, 13, 10, 67, 111, 110, 116, 101, 110, 116, 45, 76, 101, 110, 103, 116, 104, 58, 32, 50, 13, 10, 13, 10, 97, 98]
theorem ask1_r : (reqM ask1).2.2.2.2.2 = 0 ∧ (reqM ask1).2.2.2.2.1 = 27 ∧ L (reqM ask1).1 = [71, 69, 84] ∧ L (reqM ask1).2.1 = [47] ∧ (((reqM ask1).2.2.1.length : Nat) : Int) = 1 := ⟨by kernel_rfl, by kernel_rfl, by kernel_rfl, by kernel_rfl, by kernel_rfl⟩
theorem ask2_r : (reqM ask2).2.2.2.2.2 = 5 := by kernel_rfl
theorem awake_f (k : Nat) (hk : 12000 < k) : lanternlaw11_awake.f k = some true := by
  unfold lanternlaw11_awake.f
  have e1 : http_ParseRequest.f k [71, 69, 84, 32, 47, 32, 72, 84, 84, 80, 47, 49, 46, 49, 13, 10, 72, 111, 115, 116, 58, 32, 97, 13, 10, 13, 10] = some (reqM ask1) := req_f ask1 (by decide) k (by simp [ask1]; omega)
  have e2 : http_ParseRequest.f k [71, 69, 84, 32, 47, 32, 72, 84, 84, 80, 47, 49, 46, 49, 13, 10, 67, 111, 110, 116, 101, 110, 116, 45, 76, 101, 110, 103, 116, 104, 58, 32, 49, 13, 10, 67, 111, 110, 116, 101, 110, 116, 45, 76, 101, 110, 103, 116, 104, 58, 32, 50, 13, 10, 13, 10, 97, 98] = some (reqM ask2) := req_f ask2 (by decide) k (by simp [ask2]; omega)
  obtain ⟨h1, h2, h3, h4, h5⟩ := ask1_r
  rw [e1, e2, Option.bind_some, Option.bind_some, if_pos h1, if_pos h2, toList_L, toList_L, if_pos h3, if_pos h4, if_pos h5, ask2_r]
  rfl
end Go.Proofs.YtipleegkonhfcaaGreatDoor.Q
