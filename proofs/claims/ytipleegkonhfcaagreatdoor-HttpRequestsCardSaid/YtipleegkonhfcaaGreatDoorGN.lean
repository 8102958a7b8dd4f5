/- HTTP, plainly: all values of a name; texts within bounds; what was parsed is no greater than what was read. -/
import Derived.Test.YtipleegkonhfcaaGreatDoorG0
import Derived.Test.YtipleegkonhfcaaGreatDoorSP
import Derived.Test.YtipleegkonhfcaaGreatDoorKA1
import Derived.Test.YtipleegkonhfcaaGreatDoorKQ2
import Derived.Test.YtipleegkonhfcaaGreatDoorKQ3
set_option linter.unusedSimpArgs false
set_option linter.unusedVariables false
set_option maxRecDepth 10000
namespace Go.Proofs.YtipleegkonhfcaaGreatDoor.Q
open Go Go.RowKit Go.Lib Go.Proofs.YtipleegkonhfcaaGreatDoorW.PrintWords Go.Proofs.YtipleegkonhfcaaGreatDoorB Go.Proofs.YtipleegkonhfcaaGreatDoor.E Go.Proofs.YtipleegkonhfcaaGreatDoor.P Go.Proofs.YtipleegkonhfcaaGreatDoor.U Go.Proofs.YtipleegkonhfcaaGreatDoor.KF

def sameB (a b : ByteArray) : Bool := (lowerOf a).toList == (lowerOf b).toList
theorem wn1 (i : Nat) (h : i < 1000000) : wrap64 ((i : Int) + 1) = ((i + 1 : Nat) : Int) := by unfold wrap64; omega
theorem same_b (a b : ByteArray) (ha : a.size ≤ 1000000) (hb : b.size ≤ 1000000) : header_same.f a b = some (sameB a b) := by
  unfold header_same.f text_Lower.f
  rw [if_pos (by omega), if_pos (by omega)]
  rfl
theorem alike_b (a b : ByteArray) (ha : a.size ≤ 1000000) (hb : b.size ≤ 1000000) : lanternref09_Alike.f a b = some (sameB a b) := by
  unfold lanternref09_Alike.f lanternref01_Lower.f
  rw [if_pos (by omega), if_pos (by omega)]
  rfl
def Small (l : List S67) : Prop := l.length ≤ 100 ∧ ∀ h ∈ l, h.f0.size ≤ 1000000
def allV (nm : ByteArray) (l : List S67) : List ByteArray := (l.filter fun h => sameB h.f0 nm).map fun h => h.f1
theorem allV_len (nm : ByteArray) (l : List S67) : (allV nm l).length ≤ l.length := by
  unfold allV
  rw [List.length_map]
  exact List.length_filter_le _ _
theorem rdH (l : List S67) (i : Nat) (h : i < l.length) : rd_T67 l (i : Int) = l[i] := by
  show l.getD (i : Int).toNat z67 = l[i]
  rw [Int.toNat_natCast, List.getD_eq_getElem?_getD, List.getElem?_eq_getElem h, Option.getD_some]
theorem allV_step (nm : ByteArray) (l : List S67) (i : Nat) (h : i < l.length) : allV nm (l.drop i) = (if sameB l[i].f0 nm = true then [l[i].f1] else []) ++ allV nm (l.drop (i + 1)) := by
  rw [List.drop_eq_getElem_cons h]
  unfold allV
  rw [List.filter_cons]
  split <;> rfl
theorem all_loop (nm : ByteArray) (l : List S67) (hs : Small l) (hn : nm.size ≤ 1000000) : ∀ (d k i : Nat) (acc : List ByteArray), i + d = l.length → d < k → acc.length ≤ i → header_All.l0 k nm acc l (l.length : Int) (i : Int) = some (acc ++ allV nm (l.drop i))
  | 0, k + 1, i, acc, hi, hk, ha => by
    rw [header_All.l0, if_neg (by omega), List.drop_eq_nil_of_le (by omega)]
    simp [allV]
  | d + 1, k + 1, i, acc, hi, hk, ha => by
    have hl := hs.1
    have hlt : i < l.length := by omega
    have hsz := hs.2 l[i] (List.getElem_mem hlt)
    have ih := fun acc ha => all_loop nm l hs hn d k (i + 1) acc (by omega) (by omega) ha
    rw [header_All.l0, if_pos (by omega), if_pos (by omega), if_pos (by omega), rdH l i hlt, same_b _ _ hsz hn, Option.bind_some, wn1 i (by omega), allV_step nm l i hlt]
    cases sameB l[i].f0 nm with
    | true =>
      rw [if_pos rfl, if_pos rfl, if_pos (by omega), ih _ (by simp; omega)]
      simp
    | false =>
      rw [if_neg (by decide), if_neg (by decide), ih _ (by omega)]
      simp
theorem all_f (nm : ByteArray) (l : List S67) (hs : Small l) (hn : nm.size ≤ 1000000) (k : Nat) (hk : 1000 < k) : header_All.f k l nm = some (allV nm l) := by
  have := all_loop nm l hs hn l.length k 0 [] (by omega) (by have := hs.1; omega) (by simp)
  unfold header_All.f
  exact this
theorem rall_loop (nm : ByteArray) (l : List S67) (hs : Small l) (hn : nm.size ≤ 1000000) : ∀ (d k i : Nat) (acc : List ByteArray), i + d = l.length → d < k → acc.length ≤ i → lanternref09_All.l0 k l nm acc (i : Int) = some (acc ++ allV nm (l.drop i))
  | 0, k + 1, i, acc, hi, hk, ha => by
    rw [lanternref09_All.l0, if_neg (by omega), List.drop_eq_nil_of_le (by omega)]
    simp [allV]
  | d + 1, k + 1, i, acc, hi, hk, ha => by
    have hl := hs.1
    have hlt : i < l.length := by omega
    have hsz := hs.2 l[i] (List.getElem_mem hlt)
    have ih := fun acc ha => rall_loop nm l hs hn d k (i + 1) acc (by omega) (by omega) ha
    rw [lanternref09_All.l0, if_pos (by omega), if_pos (by omega), rdH l i hlt, alike_b _ _ hsz hn, Option.bind_some, wn1 i (by omega), allV_step nm l i hlt]
    cases sameB l[i].f0 nm with
    | true =>
      rw [if_pos rfl, if_pos rfl, if_pos (by omega), ih _ (by simp; omega)]
      simp
    | false =>
      rw [if_neg (by decide), if_neg (by decide), ih _ (by omega)]
      simp
theorem rall_f (nm : ByteArray) (l : List S67) (hs : Small l) (hn : nm.size ≤ 1000000) (k : Nat) (hk : 1000 < k) : lanternref09_All.f k l nm = some (allV nm l) := by
  have := rall_loop nm l hs hn l.length k 0 [] (by omega) (by have := hs.1; omega) (by simp)
  unfold lanternref09_All.f
  exact this

theorem headL_size {l : List UInt8} {h : S67} (e : headL l = some h) : h.f0.size ≤ l.length ∧ h.f1.size ≤ l.length := by
  unfold headL at e
  split at e
  · cases e
  · next x hx =>
    split at e
    · injection e with e
      subst e
      obtain ⟨e1, _⟩ := splitC_some _ _ x.1 x.2 hx
      have e2 := congrArg List.length e1
      rw [List.length_append, List.length_cons] at e2
      have e3 := trimS_length x.2 blL
      refine ⟨?_, ?_⟩
      · show (B x.1).size ≤ _
        rw [size_B]
        omega
      · show (B (Lib.trimS x.2 blL)).size ≤ _
        rw [size_B]
        omega
    · cases e
theorem parseM_small (bs : List UInt8) : ∀ (f p : Nat) (acc : List S67), (∀ h ∈ acc, h.f0.size ≤ bs.length ∧ h.f1.size ≤ bs.length) → ∀ h ∈ (parseM bs f p acc).1, h.f0.size ≤ bs.length ∧ h.f1.size ≤ bs.length
  | 0, p, acc, ha => by simp [parseM]
  | f + 1, p, acc, ha => by
    rw [parseM]
    split
    · split <;> simp
    · next x hx =>
      obtain ⟨e1, _⟩ := splitC_some _ _ x.1 x.2 hx
      have e2 := congrArg List.length e1
      rw [List.length_append, List.length_cons, List.length_drop] at e2
      split
      · simp
      · split
        · exact ha
        · split
          · simp
          · next h hh =>
            split
            · simp
            · have h1 := headL_size hh
              have h2 := chomp_length x.1
              refine parseM_small bs f _ _ (fun q hq => ?_)
              rcases List.mem_append.1 hq with hq | hq
              · exact ha q hq
              · rw [List.mem_singleton.1 hq]
                omega
theorem allV_mem {nm : ByteArray} {l : List S67} {n : Nat} (h : ∀ x ∈ l, x.f0.size ≤ n ∧ x.f1.size ≤ n) : ∀ v ∈ allV nm l, v.size ≤ n := by
  intro v hv
  unfold allV at hv
  obtain ⟨x, hx, rfl⟩ := List.mem_map.1 hv
  exact (h x (List.mem_filter.1 hx).1).2
def inR (a b : Nat) (c : UInt8) : Bool := decide (a ≤ c.toNat) && decide (c.toNat ≤ b)
theorem hwithin_l (s : ByteArray) (hs : s.size ≤ 1000000000) (a b : Nat) : ∀ (d k i : Nat), i + d = s.size → d < k → http_within.l0 k s (a : Int) (b : Int) (i : Int) = some (((L s).drop i).all (inR a b))
  | 0, k + 1, i, hi, hk => by
    rw [http_within.l0, if_neg (by omega), List.drop_eq_nil_of_le (by rw [← size_L]; omega)]
    rfl
  | d + 1, k + 1, i, hi, hk => by
    have ih := hwithin_l s hs a b d k (i + 1) (by omega) (by omega)
    have hw : wrap64 ((i : Int) + 1) = ((i + 1 : Nat) : Int) := wrap_nat (i + 1) (by omega) (by omega)
    rw [http_within.l0, if_pos (by omega), if_pos (by omega), bt_gb, hw, ih, dropD (L s) i (by rw [← size_L]; omega), List.all_cons]
    clear hw
    unfold gb inR
    by_cases h1 : ((L s).getD i 0).toNat < a
    · rw [if_pos (by omega), decide_eq_false (by omega)]
      rfl
    · rw [if_neg (by omega), decide_eq_true (show a ≤ ((L s).getD i 0).toNat by omega)]
      by_cases h2 : b < ((L s).getD i 0).toNat
      · rw [if_pos (by omega), decide_eq_false (by omega)]
        rfl
      · rw [if_neg (by omega), decide_eq_true (show ((L s).getD i 0).toNat ≤ b by omega)]
        rfl
theorem hwithin_f (s : ByteArray) (hs : s.size ≤ 1000000000) (a b : Nat) (k : Nat) (hk : s.size < k) : http_within.f k s (a : Int) (b : Int) = some ((L s).all (inR a b)) := by
  have := hwithin_l s hs a b s.size k 0 (by omega) hk
  rw [List.drop_zero] at this
  unfold http_within.f
  exact this
theorem between_l (s : ByteArray) (hs : s.size ≤ 1000000000) (a b : Nat) : ∀ (d k i : Nat), i + d = s.size → d < k → lanternref11_between.l0 k s (a : Int) (b : Int) (i : Int) = some (((L s).drop i).all (inR a b))
  | 0, k + 1, i, hi, hk => by
    rw [lanternref11_between.l0, if_neg (by omega), List.drop_eq_nil_of_le (by rw [← size_L]; omega)]
    rfl
  | d + 1, k + 1, i, hi, hk => by
    have ih := between_l s hs a b d k (i + 1) (by omega) (by omega)
    have hw : wrap64 ((i : Int) + 1) = ((i + 1 : Nat) : Int) := wrap_nat (i + 1) (by omega) (by omega)
    rw [lanternref11_between.l0, if_pos (by omega), if_pos (by omega), bt_gb, hw, ih, dropD (L s) i (by rw [← size_L]; omega), List.all_cons]
    clear hw
    unfold gb inR
    by_cases h1 : ((L s).getD i 0).toNat < a
    · rw [if_pos (by omega), decide_eq_false (by omega)]
      rfl
    · rw [if_neg (by omega), decide_eq_true (show a ≤ ((L s).getD i 0).toNat by omega)]
      by_cases h2 : b < ((L s).getD i 0).toNat
      · rw [if_pos (by omega), decide_eq_false (by omega)]
        rfl
      · rw [if_neg (by omega), decide_eq_true (show ((L s).getD i 0).toNat ≤ b by omega)]
        rfl
theorem between_f (s : ByteArray) (hs : s.size ≤ 1000000000) (a b : Nat) (k : Nat) (hk : s.size < k) : lanternref11_between.f k s (a : Int) (b : Int) = some ((L s).all (inR a b)) := by
  have := between_l s hs a b s.size k 0 (by omega) hk
  rw [List.drop_zero] at this
  unfold lanternref11_between.f
  exact this
/-! ### a target -/
def targetL (l : List UInt8) : Bool := decide (l ≠ []) && decide (l.length ≤ 2048) && l.all (inR 33 126)
theorem target_f (s : ByteArray) (hs : s.size ≤ 1000000000) (k : Nat) (hk : s.size < k) : http_target.f k s = some (targetL (L s)) := by
  have hw : http_within.f k s 33 126 = some ((L s).all (inR 33 126)) := hwithin_f s hs 33 126 k hk
  have hz := size_L s
  unfold http_target.f targetL
  rw [toList_L, hw]
  by_cases h1 : L s = []
  · rw [if_pos h1, h1]
    rfl
  · rw [if_neg h1, decide_eq_true h1]
    by_cases h2 : (L s).length ≤ 2048
    · rw [if_pos (by omega), decide_eq_true h2]
      rfl
    · rw [if_neg (by omega), decide_eq_false h2]
      rfl
theorem rtarget_f (s : ByteArray) (hs : s.size ≤ 1000000000) (k : Nat) (hk : s.size < k) : lanternref11_target.f k s = some (targetL (L s)) := by
  have hw : lanternref11_between.f k s 33 126 = some ((L s).all (inR 33 126)) := between_f s hs 33 126 k hk
  have hz := size_L s
  unfold lanternref11_target.f targetL
  rw [hw]
  by_cases h1 : L s = []
  · have h0 : s.size = 0 := by rw [hz, h1]; rfl
    rw [if_neg (by omega), h1]
    rfl
  · have h0 : 0 < (L s).length := List.length_pos_iff.2 h1
    rw [if_pos (by omega), decide_eq_true h1]
    by_cases h2 : (L s).length ≤ 2048
    · rw [if_pos (by omega), decide_eq_true h2]
      rfl
    · rw [if_neg (by omega), decide_eq_false h2]
      rfl
end Go.Proofs.YtipleegkonhfcaaGreatDoor.Q
set_option linter.unusedSimpArgs false
set_option linter.unusedVariables false
set_option maxRecDepth 10000
namespace Go.Proofs.YtipleegkonhfcaaGreatDoor.Q
open Go Go.RowKit Go.Lib Go.Proofs.YtipleegkonhfcaaGreatDoorW.PrintWords Go.Proofs.YtipleegkonhfcaaGreatDoorB Go.Proofs.YtipleegkonhfcaaGreatDoor.E Go.Proofs.YtipleegkonhfcaaGreatDoor.P Go.Proofs.YtipleegkonhfcaaGreatDoor.U Go.Proofs.YtipleegkonhfcaaGreatDoor.KF

def firstM (bs : List UInt8) : ByteArray × Int × Int := match splitC 10 (bs.take 4096) with
  | some x => (B (chomp x.1), ((x.1.length + 1 : Nat) : Int), 0)
  | none => ((⟨#[]⟩ : ByteArray), 0, if 4096 < bs.length then 3 else 10)
theorem splitC_take {c : UInt8} {l u t : List UInt8} {n : Nat} (h : splitC c (l.take n) = some (u, t)) : u.length < n ∧ u.length < l.length ∧ l.take u.length = u := by
  obtain ⟨e, _⟩ := splitC_some _ _ _ _ h
  have hl := congrArg List.length e
  rw [List.length_take, List.length_append, List.length_cons] at hl
  refine ⟨by omega, by omega, ?_⟩
  have h2 : (l.take n).take u.length = u := by rw [e, List.take_left]
  rw [List.take_take, Nat.min_eq_left (by omega)] at h2
  exact h2
theorem first_f (bs : List UInt8) (hb : bs.length ≤ 1000000) (k : Nat) (hk : 5 < k) : http_first.f k (nums bs) = some (firstM bs) := by
  obtain ⟨k, rfl⟩ : ∃ m, k = m + 1 := ⟨k - 1, by omega⟩
  have hnl := nums_length bs
  have hm : mn ((nums bs).length : Int) 4096 = ((min bs.length 4096 : Nat) : Int) := by
    rw [hnl]
    unfold mn
    split <;> omega
  have ht : bs.take (min bs.length 4096) = bs.take 4096 := by
    rcases Nat.le_total bs.length 4096 with h | h
    · rw [Nat.min_eq_left h, List.take_length, List.take_of_length_le h]
    · rw [Nat.min_eq_right h]
  unfold http_first.f firstM
  rw [hm, if_pos (by omega), if_pos (by omega), Int.toNat_natCast, nums_take, ht]
  unfold bytes_IndexByte.f
  rw [bytesOf_nums, show (10 : Int).toNat.toUInt8 = 10 from rfl, indexByte_split, Option.bind_some]
  cases hs : splitC 10 (bs.take 4096) with
  | none =>
    simp only
    rw [if_pos (by omega), http_first.j0]
    by_cases h : 4096 < bs.length
    · rw [if_pos (by rw [hnl]; exact decide_eq_true (by omega)), if_pos h]
    · rw [if_neg (by rw [hnl]; simp; omega), if_pos (by omega), if_neg h]
  | some x =>
    obtain ⟨u, t⟩ := x
    obtain ⟨h1, h2, h3⟩ := splitC_take hs
    have hc := chomp_length u
    simp only
    have hw : wrap64 ((u.length : Int) + 1) = ((u.length + 1 : Nat) : Int) := wrap_nat (u.length + 1) (by omega) (by omega)
    rw [if_neg (by omega), http_first.j0, if_neg (by decide), if_neg (by omega), if_pos (by omega), if_pos (by omega), Int.toNat_natCast, nums_take, strOf_nums, h3, hw]
    unfold strings_TrimSuffix.f
    rw [if_pos (by rw [size_B]; omega), Option.bind_some]
    rw [show (⟨(Lib.trimSuffix (B u).data.toList [13]).toArray⟩ : ByteArray) = B (chomp u) from by rw [show (B u).data.toList = u from L_B u]; rfl]
end Go.Proofs.YtipleegkonhfcaaGreatDoor.Q
set_option linter.unusedSimpArgs false
set_option linter.unusedVariables false
set_option maxRecDepth 10000
namespace Go.Proofs.YtipleegkonhfcaaGreatDoor.Q
open Go Go.RowKit Go.Lib Go.Proofs.YtipleegkonhfcaaGreatDoorW.PrintWords Go.Proofs.YtipleegkonhfcaaGreatDoorB Go.Proofs.YtipleegkonhfcaaGreatDoor.E Go.Proofs.YtipleegkonhfcaaGreatDoor.P Go.Proofs.YtipleegkonhfcaaGreatDoor.U Go.Proofs.YtipleegkonhfcaaGreatDoor.KF

/-! ### numbers -/
def numV : List UInt8 → Nat → Nat
  | [], n => n
  | c :: r, n => numV r (n * 10 + (c.toNat - 48))
theorem numV_lt : ∀ (l : List UInt8) (n : Nat), l.all (inR 48 57) = true → numV l n + 1 ≤ (n + 1) * 10 ^ l.length
  | [], n, h => by simp [numV]
  | c :: r, n, h => by
    rw [List.all_cons, Bool.and_eq_true] at h
    have ih := numV_lt r (n * 10 + (c.toNat - 48)) h.2
    have hc : c.toNat ≤ 57 := by
      have := h.1
      unfold inR at this
      rw [Bool.and_eq_true] at this
      exact of_decide_eq_true this.2
    rw [numV, List.length_cons, Nat.pow_succ]
    refine Nat.le_trans ih ?_
    rw [Nat.mul_comm (10 ^ r.length) 10, ← Nat.mul_assoc]
    exact Nat.mul_le_mul_right _ (by omega)
theorem decFrom_num : ∀ (l : List UInt8) (n : Nat), l.all (inR 48 57) = true → Lib.decFrom n l = some (numV l n)
  | [], n, h => rfl
  | c :: r, n, h => by
    rw [List.all_cons, Bool.and_eq_true] at h
    have hc := h.1
    unfold inR at hc
    rw [Bool.and_eq_true] at hc
    have h1 := of_decide_eq_true hc.1
    have h2 := of_decide_eq_true hc.2
    have hv : Lib.digitVal c = some (c.toNat - 48) := by
      unfold Lib.digitVal
      first
        | rw [if_pos ⟨h1, h2⟩]
        | simp [h1, h2]
    rw [Lib.decFrom, hv]
    exact decFrom_num r _ h.2
theorem atoi_num (l : List UInt8) (h0 : l ≠ []) (h : l.all (inR 48 57) = true) : Lib.atoi l = some ((numV l 0 : Nat) : Int) := by
  cases l with
  | nil => exact absurd rfl h0
  | cons c r =>
    have hd := decFrom_num (c :: r) 0 h
    rw [List.all_cons, Bool.and_eq_true] at h
    have hc := h.1
    unfold inR at hc
    rw [Bool.and_eq_true] at hc
    have h1 := of_decide_eq_true hc.1
    have n1 : (c == 45) = false := by
      rw [beq_eq_false_iff_ne]
      rintro rfl
      revert h1
      decide
    have n2 : (c == 43) = false := by
      rw [beq_eq_false_iff_ne]
      rintro rfl
      revert h1
      decide
    rw [Lib.atoi, n1, n2, if_neg (by decide), if_neg (by decide)]
    unfold Lib.decNat
    rw [List.isEmpty_cons, if_neg (by decide), hd]
    rfl
/-! ### a body of so many bytes -/
def sizedM (bs : List UInt8) (n : Nat) : List Int × Int × Int := if n > 32768 then ([], 0, 3) else if n > bs.length then ([], 0, 10) else (nums (bs.take n), (n : Int), 0)
theorem sized_f (bs : List UInt8) (hb : bs.length ≤ 1000000) (n k : Nat) : http_body.j0 (k + 1) (nums bs) (n : Int) = some (sizedM bs n) := by
  have hnl := nums_length bs
  unfold sizedM
  rw [http_body.j0]
  by_cases h1 : n > 32768
  · rw [if_pos (by omega), if_pos h1]
  · rw [if_neg (by omega), if_neg h1]
    by_cases h2 : n > bs.length
    · rw [if_pos (by omega), if_pos h2]
    · rw [if_neg (by omega), if_neg h2, if_pos (by omega), if_pos (by omega), Int.toNat_natCast, nums_take]
      unfold slices_Clone_byte_byte.f
      rw [if_pos (by rw [nums_length, List.length_take]; omega), Option.bind_some]
def okY (a y : ByteArray) : Bool := (L y == L a) && (decide (1 ≤ y.size) && (decide (y.size ≤ 8) && (L y).all (inR 48 57)))
theorem compactUpTo_one (d : Array (List UInt8)) : ∀ m, 1 ≤ (Lib.compactUpTo d (m + 1)).length ∧ ((Lib.compactUpTo d (m + 1)).length = 1 ↔ ∀ j, j ≤ m → d[j]! = d[0]!)
  | 0 => by
    rw [Lib.compactUpTo_succ, Lib.keeps_lt_one d 0 (by omega)]
    refine ⟨by simp [Lib.compactUpTo], by simp [Lib.compactUpTo], fun _ => by simp [Lib.compactUpTo]⟩
  | m + 1 => by
    obtain ⟨h1, h2⟩ := compactUpTo_one d m
    rw [Lib.compactUpTo_succ, List.length_append]
    by_cases hk : d[m + 1]! = d[m]!
    · rw [Lib.keeps_neg (Nat.succ_pos m) hk]
      simp only [Bool.false_eq_true, if_false, List.length_nil, Nat.add_zero]
      refine ⟨h1, h2.trans ⟨fun h j hj => ?_, fun h j hj => h j (by omega)⟩⟩
      rcases Nat.lt_or_ge j (m + 1) with hlt | hge
      · exact h j (by omega)
      · rw [show j = m + 1 from by omega, hk]
        exact h m (Nat.le_refl _)
    · rw [Lib.keeps_pos hk]
      simp only [if_true, List.length_singleton]
      refine ⟨by omega, fun h => by omega, fun h => ?_⟩
      exact absurd ((h (m + 1) (Nat.le_refl _)).trans (h m (by omega)).symm) hk
theorem compact_one (x : ByteArray) (r : List ByteArray) : (Lib.compact ((x :: r).map (·.data.toList))).length = 1 ↔ ∀ y ∈ r, y = x := by
  have hl : ((x :: r).map (·.data.toList)).length = r.length + 1 := by simp
  unfold Lib.compact
  rw [hl, (compactUpTo_one _ r.length).2]
  have hg : ∀ j (hj : j < r.length + 1), (((x :: r).map (·.data.toList)).toArray)[j]! = ((x :: r)[j]'(by simpa using hj)).data.toList := by
    intro j hj
    rw [getElem!_pos _ _ (by simpa using hj), List.getElem_toArray, List.getElem_map]
  constructor
  · intro h y hy
    obtain ⟨i, hi, rfl⟩ := List.mem_iff_getElem.1 hy
    have := h (i + 1) (by omega)
    rw [hg (i + 1) (by omega), hg 0 (by omega)] at this
    exact L_inj this
  · intro h j hj
    rw [hg j (by omega), hg 0 (by omega)]
    cases j with
    | zero => rfl
    | succ j =>
      have := h (r[j]'(by omega)) (List.getElem_mem _)
      show L ((x :: r)[j + 1]'_) = L x
      rw [List.getElem_cons_succ, this]
theorem okY_all (x : ByteArray) (r : List ByteArray) : (x :: r).all (okY x) = (decide ((Lib.compact ((x :: r).map (·.data.toList))).length = 1) && (decide (1 ≤ x.size) && (decide (x.size ≤ 8) && (L x).all (inR 48 57)))) := by
  rw [Bool.eq_iff_iff, List.all_eq_true, Bool.and_eq_true, decide_eq_true_iff, compact_one]
  constructor
  · intro h
    have h0 := h x List.mem_cons_self
    unfold okY at h0
    rw [Bool.and_eq_true] at h0
    refine ⟨fun y hy => ?_, h0.2⟩
    have h1 := h y (List.mem_cons_of_mem _ hy)
    unfold okY at h1
    rw [Bool.and_eq_true] at h1
    exact L_inj (beq_iff_eq.1 h1.1)
  · rintro ⟨h1, h2⟩ y hy
    have : y = x := by
      rcases List.mem_cons.1 hy with h | h
      · exact h
      · exact h1 y h
    subst this
    unfold okY
    rw [Bool.and_eq_true]
    exact ⟨beq_self_eq_true _, h2⟩
/-! ### the headers' names, whatever their case -/
theorem allV_low (nm nm' : ByteArray) (l : List S67) (h : lowerOf nm = lowerOf nm') : allV nm l = allV nm' l := by
  unfold allV sameB
  rw [h]
def teB : ByteArray := ⟨#[116, 114, 97, 110, 115, 102, 101, 114, 45, 101, 110, 99, 111, 100, 105, 110, 103]⟩
def clB : ByteArray := ⟨#[99, 111, 110, 116, 101, 110, 116, 45, 108, 101, 110, 103, 116, 104]⟩
theorem te_low : lowerOf (⟨#[84, 114, 97, 110, 115, 102, 101, 114, 45, 69, 110, 99, 111, 100, 105, 110, 103]⟩ : ByteArray) = lowerOf teB := by kernel_rfl
theorem cl_low : lowerOf (⟨#[67, 111, 110, 116, 101, 110, 116, 45, 76, 101, 110, 103, 116, 104]⟩ : ByteArray) = lowerOf clB := by kernel_rfl
def chunkedL : List UInt8 := [99, 104, 117, 110, 107, 101, 100]
/-- Which body there is: 0 none, 1 of so many bytes, 2 in chunks, 3 a bad one. -/
def kindM (c s : List ByteArray) : Int × Int := match c with
  | x :: r => if r = [] ∧ L (lowerOf x) = chunkedL ∧ s = [] then (2, 0) else (3, 0)
  | [] => match s with
    | [] => (0, 0)
    | y :: t => if (y :: t).all (okY y) = true then (1, ((numV (L y) 0 : Nat) : Int)) else (3, 0)
theorem kindM_cons (x : ByteArray) (r s : List ByteArray) : kindM (x :: r) s = if r = [] ∧ L (lowerOf x) = chunkedL ∧ s = [] then (2, 0) else (3, 0) := rfl
def Small2 (l : List S67) : Prop := l.length ≤ 100 ∧ ∀ h ∈ l, h.f0.size ≤ 1000000 ∧ h.f1.size ≤ 1000000
theorem Small2.small {l : List S67} (h : Small2 l) : Small l := ⟨h.1, fun x hx => (h.2 x hx).1⟩
def kj0M (c s : List ByteArray) (b : Bool) : Int × Int := if b = true then (2, 0) else match c with
  | x :: r => (3, 0)
  | [] => match s with
    | [] => (0, 0)
    | y :: t => if (y :: t).all (okY y) = true then (1, ((numV (L y) 0 : Nat) : Int)) else (3, 0)
theorem kind_j0 (c s : List ByteArray) (hs : ∀ v ∈ s, v.size ≤ 1000000) (hsl : s.length ≤ 100) (b : Bool) (k : Nat) (hk : 30 < k) : http_kind.j0 k c s b = some (kj0M c s b) := by
  obtain ⟨k, rfl⟩ : ∃ m, k = m + 1 := ⟨k - 1, by omega⟩
  rw [http_kind.j0]
  unfold kj0M
  cases b with
  | true => rfl
  | false =>
    rw [if_neg (by decide)]
    cases c with
    | cons x r =>
      rw [if_pos (show (((x :: r).length : Nat) : Int) > 0 from by rw [List.length_cons]; omega)]
      rfl
    | nil =>
      rw [if_neg (show ¬ ((([] : List ByteArray).length : Nat) : Int) > 0 from by decide)]
      cases s with
      | nil =>
        rw [if_pos (show ((([] : List ByteArray).length : Nat) : Int) = 0 from rfl)]
        rfl
      | cons y t =>
        have hy := hs y List.mem_cons_self
        rw [if_neg (show ¬ (((y :: t).length : Nat) : Int) = 0 from by rw [List.length_cons]; omega)]
        show _ = some (if (y :: t).all (okY y) = true then ((1, ((numV (L y) 0 : Nat) : Int)) : Int × Int) else (3, 0))
        unfold slices_Compact_string_string.f
        rw [if_pos (by rw [List.length_cons] at hsl ⊢; omega), Option.bind_some, List.length_map, okY_all]
        have h0 : rdOf ByteArray.empty (y :: t) 0 = y := rfl
        have hz := size_L y
        rw [h0]
        by_cases h1 : (Lib.compact ((y :: t).map (·.data.toList))).length = 1
        · rw [if_pos (by omega), if_pos (by rw [List.length_cons]; omega), decide_eq_true h1, Bool.true_and, toList_L]
          by_cases h2 : L y = []
          · have : y.size = 0 := by rw [hz, h2]; rfl
            rw [if_pos h2, decide_eq_false (by omega)]
            rfl
          · have hp : 0 < (L y).length := List.length_pos_iff.2 h2
            rw [if_neg h2, decide_eq_true (show 1 ≤ y.size by omega), Bool.true_and]
            by_cases h3 : y.size ≤ 8
            · have hw : http_within.f k y 48 57 = some ((L y).all (inR 48 57)) := hwithin_f y (by omega) 48 57 k (by omega)
              rw [if_neg (by omega), decide_eq_true h3, Bool.true_and, hw, Option.bind_some]
              cases h4 : (L y).all (inR 48 57) with
              | false => rfl
              | true =>
                rw [if_pos rfl, if_pos rfl]
                unfold strconv_Atoi.f
                rw [if_pos (by omega), show y.data.toList = L y from rfl, atoi_num (L y) h2 h4]
                rfl
            · rw [if_pos (by omega), decide_eq_false h3]
              rfl
        · rw [if_neg (by omega), decide_eq_false h1]
          rfl
theorem kind_f (l : List S67) (hl : Small2 l) (k : Nat) (hk : 1000 < k) : http_kind.f k l = some (kindM (allV teB l) (allV clB l)) := by
  have hs1 : ∀ v ∈ allV teB l, v.size ≤ 1000000 := allV_mem hl.2
  have hs2 : ∀ v ∈ allV clB l, v.size ≤ 1000000 := allV_mem hl.2
  have hl2 : (allV clB l).length ≤ 100 := Nat.le_trans (allV_len _ _) hl.1
  unfold http_kind.f
  rw [all_f _ l hl.small (by decide) k hk, all_f _ l hl.small (by decide) k hk, Option.bind_some, Option.bind_some, allV_low _ _ l te_low, allV_low _ _ l cl_low]
  generalize hc : allV teB l = c at hs1 ⊢
  generalize hs : allV clB l = s at hs2 hl2 ⊢
  clear hc hs
  cases c with
  | nil =>
    rw [if_neg (by decide), kind_j0 [] s hs2 hl2 false k (by omega)]
    rfl
  | cons x r =>
    cases r with
    | cons y t =>
      rw [if_neg (by simp only [List.length_cons]; omega), kind_j0 _ s hs2 hl2 false k (by omega)]
      rw [kindM_cons, if_neg (by rintro ⟨h, _⟩; cases h)]
      rfl
    | nil =>
      have hx := hs1 x List.mem_cons_self
      rw [if_pos (show (([x].length : Nat) : Int) = 1 from rfl), if_pos (show (0 : Int) < (([x].length : Nat) : Int) from Int.zero_lt_one)]
      unfold text_Lower.f
      rw [show rdOf ByteArray.empty [x] 0 = x from rfl, if_pos (by omega), Option.bind_some, toList_L]
      rw [kindM_cons]
      by_cases h1 : L (lowerOf x) = chunkedL
      · rw [if_pos (show L (lowerOf x) = [99, 104, 117, 110, 107, 101, 100] from h1), kind_j0 _ s hs2 hl2 _ k (by omega)]
        unfold kj0M
        cases s with
        | nil => rw [if_pos (show ((([] : List ByteArray).length : Int) == 0) = true from rfl), if_pos ⟨rfl, h1, rfl⟩]
        | cons y t => rw [if_neg (show ¬ (((y :: t).length : Int) == 0) = true from by rw [beq_iff_eq, List.length_cons]; omega), if_neg (by rintro ⟨_, _, h⟩; cases h)]
      · rw [if_neg (show ¬ L (lowerOf x) = [99, 104, 117, 110, 107, 101, 100] from h1), kind_j0 _ s hs2 hl2 _ k (by omega), if_neg (by rintro ⟨_, h, _⟩; exact h1 h)]
        rfl
/-! ### the body -/
def bodyM (bs : List UInt8) (c s : List ByteArray) (rest : Bool) : List Int × Int × Int := match kindM c s with
  | (t, n) => if t = 3 then ([], 0, 5) else if t = 2 then decM bs (bs.length + 1) 0 [] else if t = 0 ∧ rest = true then sizedM bs bs.length else sizedM bs n.toNat
theorem kindM_facts (c s : List ByteArray) : 0 ≤ (kindM c s).2 := by
  unfold kindM
  repeat (first | split | simp | omega)
theorem body_f (bs : List UInt8) (hb : bs.length ≤ 100000) (l : List S67) (hl : Small2 l) (rest : Bool) (k : Nat) (hk : 7 * bs.length + 3000 < k) : http_body.f k (nums bs) l rest = some (bodyM bs (allV teB l) (allV clB l) rest) := by
  obtain ⟨k, rfl⟩ : ∃ m, k = m + 1 := ⟨k - 1, by omega⟩
  have hnl := nums_length bs
  unfold http_body.f bodyM
  rw [kind_f l hl _ (by omega), Option.bind_some]
  have hn := kindM_facts (allV teB l) (allV clB l)
  generalize kindM (allV teB l) (allV clB l) = q at hn ⊢
  obtain ⟨t, n⟩ := q
  simp only at hn ⊢
  by_cases h3 : t = 3
  · rw [if_pos h3, if_pos h3]
  · rw [if_neg h3, if_neg h3]
    by_cases h2 : t = 2
    · have hd : chunk_Decode.f (k + 1) (nums bs) = some (decM bs (bs.length + 1) 0 []) := by
        unfold chunk_Decode.f
        exact prog_dec bs hb (bs.length + 1) (k + 1) 0 [] (by omega) (by omega) (by omega) (by simp)
      rw [if_pos h2, if_pos h2, hd, Option.bind_some]
    · rw [if_neg h2, if_neg h2]
      have hc : n = ((n.toNat : Nat) : Int) := by omega
      by_cases h0 : t = 0
      · rw [if_pos h0]
        cases rest with
        | true =>
          rw [if_pos rfl, if_pos ⟨h0, rfl⟩, hnl]
          exact sized_f bs (by omega) _ k
        | false =>
          rw [if_neg (by decide), if_neg (by rintro ⟨_, h⟩; cases h), hc]
          exact sized_f bs (by omega) _ k
      · rw [if_neg h0, if_neg (by rintro ⟨h, _⟩; exact h0 h), hc]
        exact sized_f bs (by omega) _ k
end Go.Proofs.YtipleegkonhfcaaGreatDoor.Q
set_option linter.unusedSimpArgs false
set_option linter.unusedVariables false
set_option maxRecDepth 10000
namespace Go.Proofs.YtipleegkonhfcaaGreatDoor.Q
open Go Go.RowKit Go.Lib Go.Proofs.YtipleegkonhfcaaGreatDoorW.PrintWords Go.Proofs.YtipleegkonhfcaaGreatDoorB Go.Proofs.YtipleegkonhfcaaGreatDoor.E Go.Proofs.YtipleegkonhfcaaGreatDoor.KA Go.Proofs.YtipleegkonhfcaaGreatDoor.P Go.Proofs.YtipleegkonhfcaaGreatDoor.U Go.Proofs.YtipleegkonhfcaaGreatDoor.KF

theorem same_self (l : List S67) (hl : l.length ≤ 1000000) : ∀ (d k i : Nat), i + d = l.length → d < k → lanternref09_Same.l0 k l l i = some true
  | d, k, i, hd, hk => by
    obtain ⟨k, rfl⟩ : ∃ m, k = m + 1 := ⟨k - 1, by omega⟩
    rw [lanternref09_Same.l0]
    by_cases h : i < l.length
    · obtain ⟨d, rfl⟩ : ∃ m, d = m + 1 := ⟨d - 1, by omega⟩
      rw [if_pos (by omega), if_pos (by omega), if_pos (by omega), if_neg (by simp), wrap_nat (x := (i : Int) + 1) (i + 1) rfl (by omega)]
      exact same_self l hl d k (i + 1) (by omega) (by omega)
    · rw [if_neg (by omega)]
theorem same_f (l : List S67) (hl : l.length ≤ 1000000) (k : Nat) (hk : l.length < k) : lanternref09_Same.f k l l = some true := by
  unfold lanternref09_Same.f
  rw [if_pos rfl]
  exact same_self l hl l.length k 0 (by omega) hk
theorem parseM_at (bs : List UInt8) : ∀ (f p : Nat) (acc : List S67), 0 ≤ (parseM bs f p acc).2.1 ∧ (parseM bs f p acc).2.1 ≤ (bs.length : Int)
  | 0, p, acc => by
    rw [parseM]
    exact ⟨Int.le_refl _, Int.natCast_nonneg _⟩
  | f + 1, p, acc => by
    rw [parseM]
    split
    · split <;> exact ⟨Int.le_refl _, Int.natCast_nonneg _⟩
    · next x hx =>
      obtain ⟨e1, _⟩ := splitC_some _ _ x.1 x.2 hx
      have e2 := congrArg List.length e1
      rw [List.length_append, List.length_cons, List.length_drop] at e2
      split
      · exact ⟨Int.le_refl _, Int.natCast_nonneg _⟩
      · split
        · refine ⟨?_, ?_⟩
          · show (0 : Int) ≤ ((p + x.1.length + 1 : Nat) : Int)
            omega
          · show ((p + x.1.length + 1 : Nat) : Int) ≤ (bs.length : Int)
            omega
        · split
          · exact ⟨Int.le_refl _, Int.natCast_nonneg _⟩
          · split
            · exact ⟨Int.le_refl _, Int.natCast_nonneg _⟩
            · exact parseM_at bs f _ _
abbrev Req := ByteArray × ByteArray × List S67 × List Int × Int × Int
def none6 (e : Int) : Req := ((⟨#[]⟩ : ByteArray), (⟨#[]⟩ : ByteArray), [], [], 0, e)
/-- The headers and the body behind the first line (n bytes). -/
def restM (bs : List UInt8) (n : Nat) (a b : ByteArray) : Req :=
  if (parseM (bs.drop n) ((bs.drop n).length + 1) 0 []).2.2 = 0 then
    (if (bodyM (bs.drop (n + (parseM (bs.drop n) ((bs.drop n).length + 1) 0 []).2.1.toNat)) (allV teB (parseM (bs.drop n) ((bs.drop n).length + 1) 0 []).1) (allV clB (parseM (bs.drop n) ((bs.drop n).length + 1) 0 []).1) false).2.2 = 0 then
      (a, b, (parseM (bs.drop n) ((bs.drop n).length + 1) 0 []).1, (bodyM (bs.drop (n + (parseM (bs.drop n) ((bs.drop n).length + 1) 0 []).2.1.toNat)) (allV teB (parseM (bs.drop n) ((bs.drop n).length + 1) 0 []).1) (allV clB (parseM (bs.drop n) ((bs.drop n).length + 1) 0 []).1) false).1,
        wrap64 (((n + (parseM (bs.drop n) ((bs.drop n).length + 1) 0 []).2.1.toNat : Nat) : Int) + (bodyM (bs.drop (n + (parseM (bs.drop n) ((bs.drop n).length + 1) 0 []).2.1.toNat)) (allV teB (parseM (bs.drop n) ((bs.drop n).length + 1) 0 []).1) (allV clB (parseM (bs.drop n) ((bs.drop n).length + 1) 0 []).1) false).2.1), 0)
    else none6 (bodyM (bs.drop (n + (parseM (bs.drop n) ((bs.drop n).length + 1) 0 []).2.1.toNat)) (allV teB (parseM (bs.drop n) ((bs.drop n).length + 1) 0 []).1) (allV clB (parseM (bs.drop n) ((bs.drop n).length + 1) 0 []).1) false).2.2)
  else none6 (parseM (bs.drop n) ((bs.drop n).length + 1) 0 []).2.2
def versionL : List UInt8 := [72, 84, 84, 80, 47, 49, 46, 49]
def partsM (bs : List UInt8) (n : Nat) : List (List UInt8) → Req
  | [a, b, c] => if tokenL a = true ∧ targetL b = true ∧ c = versionL then restM bs n (B a) (B b) else none6 5
  | _ => none6 5
theorem partsM_not (bs : List UInt8) (n : Nat) : ∀ p : List (List UInt8), p.length ≠ 3 → partsM bs n p = none6 5
  | [], _ => rfl
  | [_], _ => rfl
  | [_, _], _ => rfl
  | [_, _, _], h => absurd rfl h
  | _ :: _ :: _ :: _ :: _, _ => rfl
def reqM (bs : List UInt8) : Req :=
  if (firstM bs).2.2 = 0 then
    partsM bs (firstM bs).2.1.toNat (splitS 32 (L (firstM bs).1))
  else none6 (firstM bs).2.2
theorem firstM_at (bs : List UInt8) : ∃ n : Nat, (firstM bs).2.1 = (n : Int) ∧ n ≤ bs.length ∧ (firstM bs).1.size ≤ bs.length := by
  unfold firstM
  cases hs : splitC 10 (bs.take 4096) with
  | none => exact ⟨0, rfl, Nat.zero_le _, Nat.zero_le _⟩
  | some x =>
    obtain ⟨h1, h2, h3⟩ := splitC_take (u := x.1) (t := x.2) hs
    refine ⟨x.1.length + 1, rfl, by omega, ?_⟩
    show (B (chomp x.1)).size ≤ _
    rw [size_B]
    have := chomp_length x.1
    omega
theorem small_parsed (bs : List UInt8) (hb : bs.length ≤ 1000000) : Small2 (parseM bs (bs.length + 1) 0 []).1 := by
  refine ⟨Nat.le_trans (parseM_acc bs _ _ [] (by simp)) (by decide), fun h hh => ?_⟩
  have := parseM_small bs (bs.length + 1) 0 [] (by simp) h hh
  omega
theorem bytes_le (l : List UInt8) : ∀ p ∈ splitS 32 l, p.length ≤ l.length := by
  induction l with
  | nil => simp [splitS]
  | cons c t ih =>
    intro p hp
    rw [splitS] at hp
    split at hp
    · rcases List.mem_cons.1 hp with rfl | hp
      · simp
      · have := ih p hp
        rw [List.length_cons]
        omega
    · split at hp
      · rw [List.mem_singleton.1 hp]
        simp
      · next h t' he =>
        rcases List.mem_cons.1 hp with rfl | hp
        · have := ih h (by rw [he]; exact List.mem_cons_self)
          rw [List.length_cons, List.length_cons]
          omega
        · have := ih p (by rw [he]; exact List.mem_cons_of_mem _ hp)
          rw [List.length_cons]
          omega
theorem req_j0 (bs : List UInt8) (hb : bs.length ≤ 100000) (n : Nat) (hn : n ≤ bs.length) (a b : ByteArray) (c : ByteArray) (flag : Bool) (k : Nat) (hk : 7 * bs.length + 4000 < k) : http_ParseRequest.j0 k (nums bs) (n : Int) [a, b, c] flag = some (if flag = true then none6 5 else restM bs n a b) := by
  obtain ⟨k, rfl⟩ : ∃ m, k = m + 1 := ⟨k - 1, by omega⟩
  have hnl := nums_length bs
  rw [http_ParseRequest.j0]
  cases flag with
  | true => rfl
  | false =>
    have hdl : (bs.drop n).length ≤ bs.length := by rw [List.length_drop]; omega
    have hp : header_Parse.f k (nums (bs.drop n)) = some (parseM (bs.drop n) ((bs.drop n).length + 1) 0 []) := parse_f _ (by omega) k (by omega)
    have hat := parseM_at (bs.drop n) ((bs.drop n).length + 1) 0 []
    have hsm := small_parsed (bs.drop n) (by omega)
    rw [if_neg (by decide), if_pos (by omega), if_pos (by omega), Int.toNat_natCast, nums_drop, hp, Option.bind_some]
    show _ = some (restM bs n a b)
    unfold restM
    generalize parseM (bs.drop n) ((bs.drop n).length + 1) 0 [] = q at hat hsm ⊢
    obtain ⟨l, m, e⟩ := q
    simp only at hat hsm ⊢
    by_cases he : e = 0
    · rw [if_pos he, if_pos he]
      rw [List.length_drop] at hat
      have hm : (n : Int) + m = ((n + m.toNat : Nat) : Int) := by omega
      have hle : n + m.toNat ≤ bs.length := by omega
      have hle2 : n + m.toNat ≤ 9223372036854775807 := by omega
      have hdl2 : (bs.drop (n + m.toNat)).length ≤ bs.length := by rw [List.length_drop]; omega
      have hbd := body_f (bs.drop (n + m.toNat)) (by omega) l hsm false k (by omega)
      rw [wrap_nat (n + m.toNat) hm hle2, if_pos (by omega), if_pos (by omega), Int.toNat_natCast, nums_drop, hbd, Option.bind_some]
      generalize bodyM (bs.drop (n + m.toNat)) (allV teB l) (allV clB l) false = d
      obtain ⟨d1, d2, d3⟩ := d
      simp only
      by_cases hd : d3 = 0
      · rw [if_pos hd, if_pos hd, if_pos (show (0 : Int) < (([a, b, c].length : Nat) : Int) from (by decide : (0 : Int) < 3)), if_pos (show (1 : Int) < (([a, b, c].length : Nat) : Int) from (by decide : (1 : Int) < 3))]
        rfl
      · rw [if_neg hd, if_neg hd]
        rfl
    · rw [if_neg he, if_neg he]
      rfl
end Go.Proofs.YtipleegkonhfcaaGreatDoor.Q
set_option linter.unusedSimpArgs false
set_option linter.unusedVariables false
set_option maxRecDepth 10000
namespace Go.Proofs.YtipleegkonhfcaaGreatDoor.Q
open Go Go.RowKit Go.Lib Go.Proofs.YtipleegkonhfcaaGreatDoorW.PrintWords Go.Proofs.YtipleegkonhfcaaGreatDoorB Go.Proofs.YtipleegkonhfcaaGreatDoor.E Go.Proofs.YtipleegkonhfcaaGreatDoor.KA Go.Proofs.YtipleegkonhfcaaGreatDoor.P Go.Proofs.YtipleegkonhfcaaGreatDoor.U Go.Proofs.YtipleegkonhfcaaGreatDoor.KF

theorem req_t (x0 : List Int) (x3 : Int) (x6 : List ByteArray) (k : Nat) (hk : 0 < k) : http_ParseRequest.j0 k x0 x3 x6 true = some (none6 5) := by
  obtain ⟨k, rfl⟩ : ∃ m, k = m + 1 := ⟨k - 1, by omega⟩
  rw [http_ParseRequest.j0, if_pos rfl]
  rfl
theorem req_f (bs : List UInt8) (hb : bs.length ≤ 100000) (k : Nat) (hk : 14 * bs.length + 10000 < k) : http_ParseRequest.f k (nums bs) = some (reqM bs) := by
  unfold http_ParseRequest.f reqM
  rw [first_f bs (by omega) k (by omega), Option.bind_some]
  obtain ⟨n, hn, hle, hsz⟩ := firstM_at bs
  generalize firstM bs = q at hn hsz ⊢
  obtain ⟨s, i, e⟩ := q
  simp only at hn hsz ⊢
  subst hn
  by_cases he : e = 0
  · have hl := size_L s
    rw [if_pos he, if_pos he, Int.toNat_natCast]
    rw [split_f 32 s (by omega), Option.bind_some]
    have h3 : ∀ p : List (List UInt8), p.length = 3 → ∃ a b c, p = [a, b, c] := by
      intro p hp
      match p, hp with
      | [a, b, c], _ => exact ⟨a, b, c, rfl⟩
    by_cases hp3 : (splitS 32 (L s)).length = 3
    · obtain ⟨a, b, c, hp⟩ := h3 _ hp3
      have hmem := bytes_le (L s)
      rw [hp] at hmem
      have ha := hmem a (by simp)
      have hb1 := hmem b (by simp)
      rw [hp]
      show _ = some (if tokenL a = true ∧ targetL b = true ∧ c = versionL then restM bs n (B a) (B b) else none6 5)
      rw [show List.map B [a, b, c] = [B a, B b, B c] from rfl]
      rw [if_pos (show ((([B a, B b, B c] : List ByteArray).length : Nat) : Int) = 3 from rfl), if_pos (show (0 : Int) < ((([B a, B b, B c] : List ByteArray).length : Nat) : Int) from (by decide : (0 : Int) < 3)), show rdOf ByteArray.empty [B a, B b, B c] 0 = B a from rfl, show rdOf ByteArray.empty [B a, B b, B c] 1 = B b from rfl, show rdOf ByteArray.empty [B a, B b, B c] 2 = B c from rfl, token_f (B a) (by rw [size_B]; omega), Option.bind_some, L_B]
      cases ht : tokenL a with
      | false =>
        rw [if_neg (by decide), req_t _ _ _ k (by omega)]
        simp only [Bool.false_eq_true, false_and, if_false]
      | true =>
        rw [if_pos rfl, if_pos (show (1 : Int) < ((([B a, B b, B c] : List ByteArray).length : Nat) : Int) from (by decide : (1 : Int) < 3)), target_f (B b) (by rw [size_B]; omega) k (by rw [size_B]; omega), Option.bind_some, L_B]
        cases hg : targetL b with
        | false =>
          rw [if_neg (by decide), req_t _ _ _ k (by omega)]
          simp only [Bool.false_eq_true, false_and, and_false, if_false]
        | true =>
          rw [if_pos rfl, if_pos (show (2 : Int) < ((([B a, B b, B c] : List ByteArray).length : Nat) : Int) from (by decide : (2 : Int) < 3)), toList_L, L_B]
          refine (req_j0 bs hb n hle (B a) (B b) (B c) (c != versionL) k (by omega)).trans ?_
          simp only [true_and]
          by_cases hc : c = versionL
          · rw [if_neg (by simp [hc]), if_pos hc]
          · rw [if_pos (by simp [hc]), if_neg hc]
    · rw [if_neg (by rw [List.length_map]; omega), req_t _ _ _ k (by omega)]
      rw [partsM_not bs n _ hp3]
  · rw [if_neg he, if_neg he]
    rfl
def ask1 : List UInt8 := [71, 69, 84, 32, 47, 32, 72, 84, 84, 80, 47, 49, 46, 49, 13, 10, 72, 111, 115, 116, 58, 32, 97, 13, 10, 13, 10]
def ask2 : List UInt8 := [71, 69, 84, 32, 47, 32, 72, 84, 84, 80, 47, 49, 46, 49, 13, 10, 67, 111, 110, 116, 101, 110, 116, 45, 76, 101, 110, 103, 116, 104, 58, 32, 49, 13, 10, 67, 111, 110, 116, 101, 110, 116, 45, 76, 101, 110, 103, 116, 104, 58, 32, 50, 13, 10, 13, 10, 97, 98]
theorem ask1_r : (reqM ask1).2.2.2.2.2 = 0 ∧ (reqM ask1).2.2.2.2.1 = 27 ∧ L (reqM ask1).1 = [71, 69, 84] ∧ L (reqM ask1).2.1 = [47] ∧ (((reqM ask1).2.2.1.length : Nat) : Int) = 1 := ⟨by kernel_rfl, by kernel_rfl, by kernel_rfl, by kernel_rfl, by kernel_rfl⟩
theorem ask2_r : (reqM ask2).2.2.2.2.2 = 5 := by kernel_rfl
theorem awake_f (k : Nat) (hk : 12000 < k) : lanternlaw11_awake.f k = some true := by
  unfold lanternlaw11_awake.f
  have e1 : http_ParseRequest.f k [71, 69, 84, 32, 47, 32, 72, 84, 84, 80, 47, 49, 46, 49, 13, 10, 72, 111, 115, 116, 58, 32, 97, 13, 10, 13, 10] = some (reqM ask1) := req_f ask1 (by decide) k (by simp [ask1]; omega)
  have e2 : http_ParseRequest.f k [71, 69, 84, 32, 47, 32, 72, 84, 84, 80, 47, 49, 46, 49, 13, 10, 67, 111, 110, 116, 101, 110, 116, 45, 76, 101, 110, 103, 116, 104, 58, 32, 49, 13, 10, 67, 111, 110, 116, 101, 110, 116, 45, 76, 101, 110, 103, 116, 104, 58, 32, 50, 13, 10, 13, 10, 97, 98] = some (reqM ask2) := req_f ask2 (by decide) k (by simp [ask2]; omega)
  obtain ⟨h1, h2, h3, h4, h5⟩ := ask1_r
  rw [e1, e2, Option.bind_some, Option.bind_some, if_pos h1, if_pos h2, toList_L, toList_L, if_pos h3, if_pos h4, if_pos h5, ask2_r]
  rfl
end Go.Proofs.YtipleegkonhfcaaGreatDoor.Q
set_option linter.unusedSimpArgs false
set_option linter.unusedVariables false
set_option maxRecDepth 10000
namespace Go.Proofs.YtipleegkonhfcaaGreatDoor.Q
open Go Go.RowKit Go.Lib Go.Proofs.YtipleegkonhfcaaGreatDoorW.PrintWords Go.Proofs.YtipleegkonhfcaaGreatDoorB Go.Proofs.YtipleegkonhfcaaGreatDoor.E Go.Proofs.YtipleegkonhfcaaGreatDoor.KH Go.Proofs.YtipleegkonhfcaaGreatDoor.KQ Go.Proofs.YtipleegkonhfcaaGreatDoor.P Go.Proofs.YtipleegkonhfcaaGreatDoor.U Go.Proofs.YtipleegkonhfcaaGreatDoor.KF

def sz (h : S67) : Nat := h.f0.size + 2 + h.f1.size + 2
def hsizeL (l : List S67) : Nat := 2 + (l.map sz).sum
/-- No text is longer than the machine's reach. -/
def Fits (l : List S67) : Prop := ∀ h ∈ l, h.f0.size ≤ 140737488355328 ∧ h.f1.size ≤ 140737488355328
theorem rdh_ (l : List S67) (i : Nat) (h : i < l.length) : rd_T67 l (i : Int) = l[i] := by
  show l.getD (i : Int).toNat z67 = l[i]
  rw [Int.toNat_natCast, List.getD_eq_getElem?_getD, List.getElem?_eq_getElem h, Option.getD_some]
theorem size_loop (l : List S67) (hl : l.length ≤ 101) (hf : Fits l) : ∀ (d k i n : Nat), i + d = l.length → d < k → n ≤ 2 + i * 300000000000000 →
    lanternref09_Size.l0 k l n i = some ((n + ((l.drop i).map sz).sum : Nat) : Int)
  | d, k, i, n, hd, hk, hn => by
    obtain ⟨k, rfl⟩ : ∃ m, k = m + 1 := ⟨k - 1, by omega⟩
    rw [lanternref09_Size.l0]
    by_cases h : i < l.length
    · obtain ⟨d, rfl⟩ : ∃ m, d = m + 1 := ⟨d - 1, by omega⟩
      have hb := hf l[i] (List.getElem_mem h)
      rw [if_pos (by omega), if_pos (by omega), rdh_ l i h]
      have b1 : n + l[i].f0.size ≤ 9223372036854775807 := by omega
      have b2 : n + l[i].f0.size + 2 ≤ 9223372036854775807 := by omega
      have b3 : n + l[i].f0.size + 2 + l[i].f1.size ≤ 9223372036854775807 := by omega
      have b4 : n + l[i].f0.size + 2 + l[i].f1.size + 2 ≤ 9223372036854775807 := by omega
      have b5 : i + 1 ≤ 9223372036854775807 := by omega
      rw [wrap_nat (x := (n : Int) + (l[i].f0.size : Int)) _ rfl b1, wrap_nat (x := ((n + l[i].f0.size : Nat) : Int) + 2) (n + l[i].f0.size + 2) rfl b2, wrap_nat (x := ((n + l[i].f0.size + 2 : Nat) : Int) + (l[i].f1.size : Int)) (n + l[i].f0.size + 2 + l[i].f1.size) rfl b3,
        wrap_nat (x := ((n + l[i].f0.size + 2 + l[i].f1.size : Nat) : Int) + 2) (n + l[i].f0.size + 2 + l[i].f1.size + 2) rfl b4, wrap_nat (x := (i : Int) + 1) (i + 1) rfl b5]
      rw [size_loop l hl hf d k (i + 1) _ (by omega) (by omega) (by omega), List.drop_eq_getElem_cons h, List.map_cons, List.sum_cons]
      have e : n + l[i].f0.size + 2 + l[i].f1.size + 2 + (List.map sz (List.drop (i + 1) l)).sum = n + (sz l[i] + (List.map sz (List.drop (i + 1) l)).sum) := by unfold sz; omega
      rw [e]
    · rw [if_neg (by omega), List.drop_eq_nil_of_le (by omega)]
      simp
theorem size_f (l : List S67) (hl : l.length ≤ 101) (hf : Fits l) (k : Nat) (hk : l.length < k) : lanternref09_Size.f k l = some (hsizeL l : Int) := by
  unfold lanternref09_Size.f
  have := size_loop l hl hf l.length k 0 2 (by omega) hk (by omega)
  rw [List.drop_zero] at this
  exact this
def lightL (l : List S67) : Bool := decide (l.length ≤ 101) && decide (hsizeL l ≤ 20100)
theorem sz_le (l : List S67) : ∀ h ∈ l, sz h ≤ (l.map sz).sum := by
  induction l with
  | nil => simp
  | cons a t ih =>
    intro h hm
    rw [List.map_cons, List.sum_cons]
    rcases List.mem_cons.1 hm with rfl | hm
    · omega
    · have := ih h hm
      omega
theorem light_parts {l : List S67} (h : lightL l = true) : l.length ≤ 101 ∧ hsizeL l ≤ 20100 ∧ ∀ x ∈ l, x.f0.size ≤ 20100 ∧ x.f1.size ≤ 20100 := by
  unfold lightL at h
  rw [Bool.and_eq_true, decide_eq_true_eq, decide_eq_true_eq] at h
  refine ⟨h.1, h.2, fun x hx => ?_⟩
  have := sz_le l x hx
  have h2 := h.2
  unfold hsizeL at h2
  have e : sz x = x.f0.size + 2 + x.f1.size + 2 := rfl
  rw [e] at this
  omega
def mayH (h : S67) : Bool := mayL (L h.f0) (L h.f1)
/-- Why headers may not be. -/
def checkV (l : List S67) : Int := if l.all mayH = true then (if l.length > 64 then 3 else if hsizeL l > 8192 then 3 else 0) else 1
theorem ref_check_loop (l : List S67) (hl : lightL l = true) (hf : Fits l) (K : Nat) (hK : 50000 ≤ K) : ∀ (d k i : Nat), i + d = l.length → d + K < k →
    lanternref09_Check.l0 k l i = some (if (l.drop i).all mayH = true then (if l.length > 64 then 3 else if hsizeL l > 8192 then 3 else 0) else 1)
  | d, k, i, hd, hk => by
    obtain ⟨p1, p2, p3⟩ := light_parts hl
    obtain ⟨k, rfl⟩ : ∃ m, k = m + 1 := ⟨k - 1, by omega⟩
    rw [lanternref09_Check.l0]
    by_cases h : i < l.length
    · obtain ⟨d, rfl⟩ : ∃ m, d = m + 1 := ⟨d - 1, by omega⟩
      have hb := p3 l[i] (List.getElem_mem h)
      rw [if_pos (by omega), if_pos (by omega), rdh_ l i h, ref_may _ _ (by omega) (by omega) k (by omega), List.drop_eq_getElem_cons h, List.all_cons]
      simp only [Option.bind_some]
      rw [show mayL (L l[i].f0) (L l[i].f1) = mayH l[i] from rfl]
      cases hm : mayH l[i] with
      | true => rw [if_pos rfl, Bool.true_and, wrap_nat (x := (i : Int) + 1) (i + 1) rfl (by omega)]; exact ref_check_loop l hl hf K hK d k (i + 1) (by omega) (by omega)
      | false => rw [if_neg (by simp), Bool.false_and, if_neg (by simp)]
    · rw [if_neg (by omega), List.drop_eq_nil_of_le (by omega), size_f l p1 hf k (by omega)]
      simp only [Option.bind_some, List.all_nil, if_true]
      by_cases h1 : l.length > 64
      · rw [if_pos (by omega), if_pos h1]
      · rw [if_neg (by omega), if_neg h1]
        by_cases h2 : hsizeL l > 8192
        · rw [if_pos (by omega), if_pos h2]
        · rw [if_neg (by omega), if_neg h2]
theorem ref_check (l : List S67) (hl : lightL l = true) (hf : Fits l) (k : Nat) (hk : 60000 < k) : lanternref09_Check.f k l = some (checkV l) := by
  have p1 := (light_parts hl).1
  unfold lanternref09_Check.f
  have := ref_check_loop l hl hf 50000 (Nat.le_refl _) l.length k 0 (by omega) (by omega)
  rw [List.drop_zero] at this
  exact this
theorem prog_check_loop (l : List S67) (hl : lightL l = true) (K : Nat) (hK : 50000 ≤ K) : ∀ (d k i n : Nat), i + d = l.length → d + K < k → n + ((l.drop i).map sz).sum = hsizeL l →
    header_Check.l0 k l n l (l.length : Int) i = some (if (l.drop i).all mayH = true then (if l.length > 64 then 3 else if hsizeL l > 8192 then 3 else 0) else 1)
  | d, k, i, n, hd, hk, hn => by
    obtain ⟨p1, p2, p3⟩ := light_parts hl
    obtain ⟨k, rfl⟩ : ∃ m, k = m + 1 := ⟨k - 1, by omega⟩
    rw [header_Check.l0]
    by_cases h : i < l.length
    · obtain ⟨d, rfl⟩ : ∃ m, d = m + 1 := ⟨d - 1, by omega⟩
      have hb := p3 l[i] (List.getElem_mem h)
      rw [List.drop_eq_getElem_cons h, List.map_cons, List.sum_cons] at hn
      rw [if_pos (by omega), if_pos (by omega), if_pos (by omega), rdh_ l i h, may_f _ _ (by omega) (by omega) k (by omega), List.drop_eq_getElem_cons h, List.all_cons]
      simp only [Option.bind_some]
      rw [show mayL (L l[i].f0) (L l[i].f1) = mayH l[i] from rfl]
      have b1 : l[i].f0.size + l[i].f1.size ≤ 9223372036854775807 := by omega
      have b2 : l[i].f0.size + l[i].f1.size + 4 ≤ 9223372036854775807 := by omega
      have b3 : n + (l[i].f0.size + l[i].f1.size + 4) ≤ 9223372036854775807 := by omega
      have b5 : i + 1 ≤ 9223372036854775807 := by omega
      have hn' : n + (l[i].f0.size + l[i].f1.size + 4) + (List.map sz (List.drop (i + 1) l)).sum = hsizeL l := by unfold sz at hn ⊢; omega
      cases hm : mayH l[i] with
      | true =>
        rw [if_pos rfl, Bool.true_and, wrap_nat (x := (l[i].f0.size : Int) + (l[i].f1.size : Int)) (l[i].f0.size + l[i].f1.size) rfl b1, wrap_nat (x := ((l[i].f0.size + l[i].f1.size : Nat) : Int) + 4) (l[i].f0.size + l[i].f1.size + 4) rfl b2,
          wrap_nat (x := (n : Int) + ((l[i].f0.size + l[i].f1.size + 4 : Nat) : Int)) (n + (l[i].f0.size + l[i].f1.size + 4)) rfl b3, wrap_nat (x := (i : Int) + 1) (i + 1) rfl b5]
        exact prog_check_loop l hl K hK d k (i + 1) _ (by omega) (by omega) hn'
      | false => rw [if_neg (by simp), Bool.false_and, if_neg (by simp)]
    · rw [List.drop_eq_nil_of_le (by omega)] at hn
      simp at hn
      rw [if_neg (by omega), List.drop_eq_nil_of_le (by omega)]
      simp only [List.all_nil, if_true]
      by_cases h1 : l.length > 64
      · rw [if_pos (by omega), if_pos h1]
      · rw [if_neg (by omega), if_neg h1]
        by_cases h2 : hsizeL l > 8192
        · rw [if_pos (by omega), if_pos h2]
        · rw [if_neg (by omega), if_neg h2]
theorem prog_check (l : List S67) (hl : lightL l = true) (k : Nat) (hk : 60000 < k) : header_Check.f k l = some (checkV l) := by
  have p1 := (light_parts hl).1
  unfold header_Check.f
  have := prog_check_loop l hl 50000 (Nat.le_refl _) l.length k 0 2 (by omega) (by omega) (by rw [List.drop_zero]; rfl)
  rw [List.drop_zero] at this
  exact this
theorem headB_length (h : S67) : (headB h).length = sz h := by
  unfold headB sz
  simp only [List.length_append, data_length]
  rfl
theorem headsB_length (l : List S67) : (headsB l).length = (l.map sz).sum := by
  induction l with
  | nil => rfl
  | cons a t ih => rw [headsB, List.flatMap_cons, List.length_append, headB_length, List.map_cons, List.sum_cons, ← ih]; rfl

/-! ### what was printed is read line by line -/
theorem splitC_of (c : UInt8) : ∀ (u t : List UInt8), (∀ b ∈ u, b ≠ c) → splitC c (u ++ c :: t) = some (u, t)
  | [], t, _ => by simp [splitC]
  | b :: u, t, h => by
    rw [List.cons_append, splitC, if_neg (h b (by simp)), splitC_of c u t (fun d hd => h d (by simp [hd]))]
    rfl
theorem splitC_none_of (c : UInt8) : ∀ (l : List UInt8), (∀ b ∈ l, b ≠ c) → splitC c l = none
  | [], _ => rfl
  | b :: l, h => by
    rw [splitC, if_neg (h b (by simp)), splitC_none_of c l (fun d hd => h d (by simp [hd]))]
    rfl
theorem sign_not (c : UInt8) (h : signL.contains c = true) : c ≠ 58 ∧ c ≠ 10 := by
  have := u8_all (p := fun c => signL.contains c = true → c ≠ 58 ∧ c ≠ 10) (by decide +kernel) c
  exact this h
theorem okc_not (c : UInt8) (h : okc c = true) : c ≠ 10 := by
  have := u8_all (p := fun c => okc c = true → c ≠ 10) (by decide +kernel) c
  exact this h
theorem trim_blank (v : List UInt8) (hv : TrimmedS blL v) : Lib.trimS (32 :: v) blL = v := by
  have gd : ∀ j, (32 :: v : List UInt8).getD (j + 1) 0 = v.getD j 0 := fun j => by simp [List.getD_eq_getElem?_getD]
  have := trimS_range blL (32 :: v) 1 (v.length + 1) (by omega) (by simp) (fun j hj => by
      obtain rfl : j = 0 := by omega
      rfl) (fun j h1 h2 => by simp at h2; omega) (fun h => by
      rw [gd 0]
      cases v with
      | nil => simp at h
      | cons c t => exact hv.1 c t rfl) (fun h => by
      have hne : v ≠ [] := by intro h0; rw [h0] at h; simp at h
      have hpos := List.length_pos_iff.2 hne
      rw [show v.length + 1 - 1 = (v.length - 1) + 1 from by omega, gd]
      have e : v = v.dropLast ++ [v.getLast hne] := (List.dropLast_concat_getLast hne).symm
      have h2 := hv.2 _ _ e
      have h3 : v.getD (v.length - 1) 0 = v.getLast hne := by
        rw [List.getD_eq_getElem?_getD, List.getElem?_eq_getElem (by omega), List.getLast_eq_getElem]
        rfl
      rw [h3]
      exact h2) (fun h => by left; rw [List.length_cons]; exact h)
  rw [this]
  simp
def lineB (h : S67) : List UInt8 := L h.f0 ++ 58 :: 32 :: L h.f1
theorem headB_line (h : S67) : headB h = (lineB h ++ [13]) ++ [10] := by
  unfold headB lineB
  simp [L]
theorem may_parts {h : S67} (hm : mayH h = true) : (∀ c ∈ L h.f0, signL.contains c = true) ∧ (∀ c ∈ L h.f1, okc c = true) ∧ TrimmedS blL (L h.f1) := by
  unfold mayH mayL tokenL valueL at hm
  simp only [Bool.and_eq_true, List.all_eq_true] at hm
  exact ⟨hm.1.2, hm.2.1, (trimS_iff _ _).1 (of_decide_eq_true hm.2.2)⟩
theorem line_clean {h : S67} (hm : mayH h = true) : ∀ b ∈ lineB h ++ [13], b ≠ 10 := by
  obtain ⟨p1, p2, p3⟩ := may_parts hm
  intro b hb
  unfold lineB at hb
  simp only [List.mem_append, List.mem_cons, List.not_mem_nil, or_false] at hb
  rcases hb with (hb | rfl | rfl | hb) | rfl
  · exact (sign_not b (p1 b hb)).2
  · decide
  · decide
  · exact okc_not b (p2 b hb)
  · decide
theorem headL_line {h : S67} (hm : mayH h = true) : headL (lineB h) = some h := by
  obtain ⟨p1, p2, p3⟩ := may_parts hm
  unfold headL lineB
  rw [splitC_of 58 (L h.f0) _ (fun b hb => (sign_not b (p1 b hb)).1)]
  simp only
  rw [trim_blank _ p3, if_pos (show mayL (L h.f0) (L h.f1) = true from hm), B_L, B_L]
theorem chomp_line (u : List UInt8) : chomp (u ++ [13]) = u := by
  rw [chomp_eq, if_pos ⟨by simp, by simp⟩]
  simp
theorem print_f (l : List S67) (hl : lightL l = true) (k : Nat) (hk : 60000 < k) (hc : checkV l = 0) : header_Print.f k l = some (nums (headsB l ++ [13, 10]), 0) := by
  obtain ⟨p1, p2, p3⟩ := light_parts hl
  unfold header_Print.f
  rw [prog_check l hl k hk, hc]
  simp only [Option.bind_some, if_true]
  rw [if_pos (by rw [headsB_length]; unfold hsizeL at p2; omega)]
  rfl
theorem check_zero {l : List S67} (hc : checkV l = 0) : l.all mayH = true ∧ l.length ≤ 64 ∧ hsizeL l ≤ 8192 := by
  unfold checkV at hc
  by_cases h1 : l.all mayH = true
  · rw [if_pos h1] at hc
    by_cases h2 : l.length > 64
    · rw [if_pos h2] at hc; cases hc
    · rw [if_neg h2] at hc
      by_cases h3 : hsizeL l > 8192
      · rw [if_pos h3] at hc; cases hc
      · exact ⟨h1, by omega, by omega⟩
  · rw [if_neg h1] at hc; cases hc
theorem full_parse (l : List S67) (hm : l.all mayH = true) (hl : l.length ≤ 64) (h8 : (headsB l ++ [13, 10]).length ≤ 8192) (more : List UInt8) :
    ∀ (d f i : Nat), i + d = l.length → (headsB l ++ [13, 10] ++ more).length < (headsB (l.take i)).length + f →
      parseM (headsB l ++ [13, 10] ++ more) f (headsB (l.take i)).length (l.take i) = (l, ((headsB l ++ [13, 10]).length : Int), 0)
  | d, 0, i, hd, hf => by
    have e : headsB l = headsB (l.take i) ++ headsB (l.drop i) := by
      conv => lhs; rw [← List.take_append_drop i l]
      rw [headsB, headsB, headsB, List.flatMap_append]
    have := congrArg List.length e
    rw [List.length_append] at this
    simp only [List.length_append] at hf
    omega
  | d, f + 1, i, hd, hf => by
    have hdrop : (headsB l ++ [13, 10] ++ more).drop (headsB (l.take i)).length = headsB (l.drop i) ++ [13, 10] ++ more := by
      have e : headsB l = headsB (l.take i) ++ headsB (l.drop i) := by
        conv => lhs; rw [← List.take_append_drop i l]
        rw [headsB, headsB, headsB, List.flatMap_append]
      rw [e, List.append_assoc, List.append_assoc, List.drop_left, List.append_assoc]
    rw [parseM, hdrop]
    by_cases h : i < l.length
    · obtain ⟨d, rfl⟩ : ∃ j, d = j + 1 := ⟨d - 1, by omega⟩
      have hmi : mayH l[i] = true := List.all_eq_true.1 hm _ (List.getElem_mem h)
      have hst : headsB (l.drop i) = headB l[i] ++ headsB (l.drop (i + 1)) := by
        rw [List.drop_eq_getElem_cons h, headsB, headsB, List.flatMap_cons]
      have hst2 : headsB (l.take (i + 1)) = headsB (l.take i) ++ headB l[i] := by
        have := headsB_step l i h
        rw [rdh_ l i h] at this
        exact this
      have hlen2 := congrArg List.length hst2
      rw [List.length_append] at hlen2
      have hhl : (headB l[i]).length = (lineB l[i] ++ [13]).length + 1 := by rw [headB_line, List.length_append]; rfl
      have hpl : (headsB (l.take (i + 1))).length ≤ (headsB l).length := by
        have e : headsB l = headsB (l.take (i + 1)) ++ headsB (l.drop (i + 1)) := by
          conv => lhs; rw [← List.take_append_drop (i + 1) l]
          rw [headsB, headsB, headsB, List.flatMap_append]
        have := congrArg List.length e
        rw [List.length_append] at this
        omega
      have hP : (headsB l ++ [13, 10]).length = (headsB l).length + 2 := by rw [List.length_append]; rfl
      have ht : headsB (l.drop i) ++ [13, 10] ++ more = (lineB l[i] ++ [13]) ++ 10 :: (headsB (l.drop (i + 1)) ++ [13, 10] ++ more) := by
        rw [hst, headB_line]
        simp
      rw [ht, splitC_of 10 _ _ (line_clean hmi)]
      simp only
      rw [if_neg (by omega), chomp_line, if_neg (by unfold lineB; simp), headL_line hmi]
      simp only
      have htl : (l.take i).length = i := by rw [List.length_take]; omega
      rw [if_neg (by omega)]
      have hp2 : (headsB (l.take i)).length + (lineB l[i] ++ [13]).length + 1 = (headsB (l.take (i + 1))).length := by omega
      rw [hp2, ← List.take_succ_eq_append_getElem h]
      exact full_parse l hm hl h8 more d f (i + 1) (by omega) (by omega)
    · obtain rfl : i = l.length := by omega
      rw [List.take_length, List.drop_length]
      have e0 : headsB ([] : List S67) ++ [13, 10] ++ more = [13] ++ 10 :: more := by simp [headsB]
      have hP : (headsB l ++ [13, 10]).length = (headsB l).length + 2 := by rw [List.length_append]; rfl
      rw [e0, splitC_of 10 [13] more (by decide)]
      simp only
      rw [if_neg (by simp; omega), if_pos (by decide), hP]
      rfl
theorem ref_print_loop (l : List S67) (hl : lightL l = true) : ∀ (d k i : Nat) (acc : List Int), i + d = l.length → d < k → acc.length + (headsB (l.drop i)).length ≤ 1000000 →
    lanternref09_Print.l0 k l acc i = some (acc ++ nums (headsB (l.drop i) ++ [13, 10]))
  | d, k, i, acc, hd, hk, ha => by
    obtain ⟨p1, p2, p3⟩ := light_parts hl
    obtain ⟨k, rfl⟩ : ∃ m, k = m + 1 := ⟨k - 1, by omega⟩
    rw [lanternref09_Print.l0]
    by_cases h : i < l.length
    · obtain ⟨d, rfl⟩ : ∃ m, d = m + 1 := ⟨d - 1, by omega⟩
      have hst : headsB (l.drop i) = headB l[i] ++ headsB (l.drop (i + 1)) := by
        rw [List.drop_eq_getElem_cons h, headsB, headsB, List.flatMap_cons]
      have hhl : (headB l[i]).length = l[i].f0.size + 2 + l[i].f1.size + 2 := headB_length l[i]
      rw [hst, List.length_append, hhl] at ha
      have z0 : (Go.Proofs.YtipleegkonhfcaaGreatDoorW.PrintWords.bytesOf l[i].f0).length = l[i].f0.size := bytesOf_length _
      have z1 : (Go.Proofs.YtipleegkonhfcaaGreatDoorW.PrintWords.bytesOf l[i].f1).length = l[i].f1.size := bytesOf_length _
      rw [if_pos (by omega), if_pos (by omega), rdh_ l i h, if_pos (by omega)]
      simp only [Option.bind_some]
      rw [if_pos (by simp only [List.length_append, z0, List.length_cons, List.length_nil]; omega), if_pos (by simp only [List.length_append, z0, List.length_cons, List.length_nil]; omega), if_pos (by simp only [List.length_append, z0, z1, List.length_cons, List.length_nil]; omega), wrap_nat (x := (i : Int) + 1) (i + 1) rfl (by omega)]
      rw [ref_print_loop l hl d k (i + 1) _ (by omega) (by omega) (by simp only [List.length_append, z0, z1, List.length_cons, List.length_nil]; omega), hst]
      have en : nums (headB l[i]) = Go.Proofs.YtipleegkonhfcaaGreatDoorW.PrintWords.bytesOf l[i].f0 ++ [58, 32] ++ Go.Proofs.YtipleegkonhfcaaGreatDoorW.PrintWords.bytesOf l[i].f1 ++ [13, 10] := by
        unfold nums headB Go.Proofs.YtipleegkonhfcaaGreatDoorW.PrintWords.bytesOf
        simp
      have e2 : nums (headB l[i] ++ headsB (List.drop (i + 1) l) ++ [13, 10]) = nums (headB l[i]) ++ nums (headsB (List.drop (i + 1) l) ++ [13, 10]) := by simp [nums]
      rw [e2, en]
      simp [List.append_assoc]
    · rw [List.drop_eq_nil_of_le (by omega)] at ha ⊢
      rw [if_neg (by omega)]
      simp only [Option.bind_some]
      rw [if_pos (by simp only [List.length_cons, List.length_nil]; omega)]
      rfl
end Go.Proofs.YtipleegkonhfcaaGreatDoor.Q
set_option linter.unusedSimpArgs false
set_option linter.unusedVariables false
set_option maxRecDepth 10000
namespace Go.Proofs.YtipleegkonhfcaaGreatDoor.Q
open Go Go.RowKit Go.Lib Go.Proofs.YtipleegkonhfcaaGreatDoorW.PrintWords Go.Proofs.YtipleegkonhfcaaGreatDoorB Go.Proofs.YtipleegkonhfcaaGreatDoor.E Go.Proofs.YtipleegkonhfcaaGreatDoor.KH Go.Proofs.YtipleegkonhfcaaGreatDoor.KN Go.Proofs.YtipleegkonhfcaaGreatDoor.KA Go.Proofs.YtipleegkonhfcaaGreatDoor.KQ Go.Proofs.YtipleegkonhfcaaGreatDoor.P Go.Proofs.YtipleegkonhfcaaGreatDoor.U Go.Proofs.YtipleegkonhfcaaGreatDoor.KF

/-! ### numerals -/
def dgt (n : Nat) : UInt8 := UInt8.ofNat (48 + n)
theorem dd1 (u : Nat) (h : u < 10) : Lib.decDigits u = [dgt u] := by rw [Lib.decDigits, dif_pos h]; rfl
theorem dd2 (u : Nat) (h : ¬ u < 10) : Lib.decDigits u = Lib.decDigits (u / 10) ++ [dgt (u % 10)] := by
  conv => lhs; rw [Lib.decDigits, dif_neg h]
  rfl
theorem dgt_in (n : Nat) (h : n < 10) : inR 48 57 (dgt n) = true ∧ (dgt n).toNat = 48 + n := by
  have : ∀ m : Fin 10, inR 48 57 (dgt m.val) = true ∧ (dgt m.val).toNat = 48 + m.val := by decide +kernel
  exact this ⟨n, h⟩
theorem numV_append : ∀ (l r : List UInt8) (n : Nat), numV (l ++ r) n = numV r (numV l n)
  | [], r, n => rfl
  | c :: l, r, n => by
    rw [List.cons_append, numV, numV]
    exact numV_append l r _
theorem dec_facts : ∀ (d u : Nat), u < 10 ^ (d + 1) → (Lib.decDigits u).all (inR 48 57) = true ∧ numV (Lib.decDigits u) 0 = u ∧ 1 ≤ (Lib.decDigits u).length ∧ (Lib.decDigits u).length ≤ d + 1
  | 0, u, h => by
    have h' : u < 10 := by simpa using h
    rw [dd1 u h']
    have := dgt_in u h'
    refine ⟨by simp [this.1], ?_, by simp, by simp⟩
    rw [numV, numV, this.2]
    omega
  | d + 1, u, h => by
    by_cases h' : u < 10
    · rw [dd1 u h']
      have := dgt_in u h'
      refine ⟨by simp [this.1], ?_, by simp, by simp⟩
      rw [numV, numV, this.2]
      omega
    · have hd : u / 10 < 10 ^ (d + 1) := by
        rw [Nat.div_lt_iff_lt_mul (by decide)]
        rw [Nat.pow_succ] at h
        exact h
      obtain ⟨i1, i2, i3, i4⟩ := dec_facts d (u / 10) hd
      have := dgt_in (u % 10) (Nat.mod_lt _ (by decide))
      rw [dd2 u h']
      refine ⟨by rw [List.all_append, i1]; simp [this.1], ?_, by simp, by rw [List.length_append, List.length_singleton]; omega⟩
      rw [numV_append, i2, numV, numV, this.2]
      omega
theorem itoa_f (n : Nat) (h : n ≤ 1000000) : strconv_Itoa.f (n : Int) = some (B (Lib.decDigits n)) := by
  unfold strconv_Itoa.f
  rw [if_pos (by omega)]
  unfold Lib.itoa
  rw [if_neg (by omega), Int.toNat_natCast]
  rfl
theorem appB (l m : List UInt8) : B l ++ B m = B (l ++ m) := by
  apply L_inj
  rw [L_append, L_B, L_B, L_B]
theorem rdig1 (u k : Nat) (h : u < 10) : lanternref06_Digits.f (k + 1) (u : Int) = some (B [dgt u]) := by
  have hw : wrap64 ((u : Int) + 1) = ((u + 1 : Nat) : Int) := wrap_nat (u + 1) rfl (by omega)
  rw [lanternref06_Digits.f, if_pos (by omega), if_pos (by omega), hw, if_pos (by omega), if_pos (by omega), Int.toNat_natCast, Int.toNat_natCast]
  have : ∀ m : Fin 10, (⟨#[48, 49, 50, 51, 52, 53, 54, 55, 56, 57]⟩ : ByteArray).extract m.val (m.val + 1) = B [dgt m.val] := by decide +kernel
  exact congrArg some (this ⟨u, h⟩)
theorem rdig (k : Nat) : ∀ (d u : Nat), u < 10 ^ (d + 1) → u ≤ 1000000 → lanternref06_Digits.f (k + d + 2) (u : Int) = some (B (Lib.decDigits u))
  | 0, u, h, hu => by
    have h' : u < 10 := by simpa using h
    rw [dd1 u h']
    exact rdig1 u (k + 1) h'
  | d + 1, u, h, hu => by
    by_cases h' : u < 10
    · rw [dd1 u h']
      exact rdig1 u (k + d + 2) h'
    · have hd : u / 10 < 10 ^ (d + 1) := by
        rw [Nat.div_lt_iff_lt_mul (by decide)]
        rw [Nat.pow_succ] at h
        exact h
      have ih := rdig k d (u / 10) hd (by omega)
      have hl := (dec_facts d (u / 10) hd).2.2.2
      have e1 : Int.tdiv (u : Int) 10 = ((u / 10 : Nat) : Int) := by rw [Int.tdiv_eq_ediv_of_nonneg (by omega)]; omega
      have e2 : Int.tmod (u : Int) 10 = ((u % 10 : Nat) : Int) := by rw [Int.tmod_eq_emod_of_nonneg (by omega)]; omega
      have hw : wrap64 ((u / 10 : Nat) : Int) = ((u / 10 : Nat) : Int) := wrap_nat (u / 10) rfl (by omega)
      have hdl : (Lib.decDigits (u / 10)).length ≤ 1000000000 := by
        have := (dec_facts 7 (u / 10) (by omega)).2.2.2
        omega
      rw [show k + (d + 1) + 2 = (k + d + 2) + 1 from by omega, lanternref06_Digits.f, if_neg (by omega), e1, hw, ih, Option.bind_some, e2, rdig1 (u % 10) (k + d + 1) (Nat.mod_lt _ (by decide)), Option.bind_some, if_pos (by rw [size_B, size_B, List.length_singleton]; omega), appB, dd2 u h']
theorem rdig_f (n : Nat) (h : n ≤ 1000000) (k : Nat) (hk : 20 < k) : lanternref06_Digits.f k (n : Int) = some (B (Lib.decDigits n)) := by
  obtain ⟨k, rfl⟩ : ∃ m, k = m + 7 + 2 := ⟨k - 9, by omega⟩
  exact rdig k 7 n (by omega) h
/-! ### headers with the body's length -/
def clN : ByteArray := ⟨#[67, 111, 110, 116, 101, 110, 116, 45, 76, 101, 110, 103, 116, 104]⟩
def clH (n : Nat) : S67 := ⟨clN, B (Lib.decDigits n)⟩
def withH (l : List S67) (n : Nat) : List S67 := if n = 0 then l else l ++ [clH n]
theorem hsized_f (l : List S67) (hl : l.length ≤ 100) (n : Nat) (h : n ≤ 1000000) : http_sized.f l (n : Int) = some (l ++ [clH n]) := by
  unfold http_sized.f api_Header.f
  rw [if_pos (by omega), Option.bind_some, itoa_f n h, Option.bind_some, if_pos (by omega)]
  rfl
theorem hwith_f (l : List S67) (hl : l.length ≤ 100) (n : Nat) (h : n ≤ 1000000) (k : Nat) (hk : 20 < k) : lanternref11_With.f k l (n : Int) = some (l ++ [clH n]) := by
  unfold lanternref11_With.f
  rw [Option.bind_some, if_pos (by rw [List.length_nil]; omega), Option.bind_some, rdig_f n h k hk, Option.bind_some, List.nil_append, if_pos (by omega)]
  rfl
theorem light_with {l : List S67} (h1 : l.length ≤ 100) (h2 : hsizeL l ≤ 20000) (n : Nat) (h : n ≤ 1000000) : lightL (l ++ [clH n]) = true := by
  have hd := (dec_facts 7 n (by omega)).2.2.2
  unfold lightL
  rw [decide_eq_true (by rw [List.length_append, List.length_singleton]; omega), decide_eq_true]
  · rfl
  · unfold hsizeL at h2 ⊢
    rw [List.map_append, List.sum_append]
    have : ([clH n].map sz).sum = 14 + 2 + (B (Lib.decDigits n)).size + 2 := by
      show (clH n).f0.size + 2 + (clH n).f1.size + 2 + 0 = _
      rfl
    rw [this, size_B]
    omega
theorem light_of {l : List S67} (h1 : l.length ≤ 100) (h2 : hsizeL l ≤ 20000) : lightL l = true := by
  unfold lightL
  rw [decide_eq_true (by omega), decide_eq_true (by omega)]
  rfl
theorem hlight_f (l : List S67) (hf : Fits l) (b : List Int) (k : Nat) (hk : 200 < k) : lanternlaw11_light.f k l b = some (decide (l.length ≤ 100) && (decide (hsizeL l ≤ 20000) && decide (b.length ≤ 40000))) := by
  unfold lanternlaw11_light.f
  by_cases h1 : l.length ≤ 100
  · rw [if_pos (by omega), size_f l (by omega) hf k (by omega), Option.bind_some, decide_eq_true h1]
    by_cases h2 : hsizeL l ≤ 20000
    · rw [if_pos (by omega), decide_eq_true h2, Bool.true_and, Bool.true_and]
      exact congrArg some (decide_eq_decide.2 (by omega))
    · rw [if_neg (by omega), decide_eq_false h2]
      rfl
  · rw [if_neg (by omega), decide_eq_false h1]
    rfl
theorem fits_of {l : List S67} (h : lightL l = true) : Fits l := by
  intro x hx
  have := (light_parts h).2.2 x hx
  omega
/-! ### which may be -/
def fitsM (l : List S67) (n : Nat) : Bool := decide (allV clB l = [] ∧ allV teB l = [] ∧ n ≤ 32768) && decide (checkV (withH l n) = 0)
theorem withH_light {l : List S67} (h1 : l.length ≤ 100) (h2 : hsizeL l ≤ 20000) (n : Nat) (h : n ≤ 1000000) : lightL (withH l n) = true := by
  unfold withH
  split
  · exact light_of h1 h2
  · exact light_with h1 h2 n h
theorem hfits_j0 (l : List S67) (h1 : l.length ≤ 100) (h2 : hsizeL l ≤ 20000) (b : List Int) (hb : b.length ≤ 40000) (x : Bool) (k : Nat) (hk : 70000 < k) : http_fits.j0 k l b (decide ((b.length : Int) > 0)) x = some (!x && decide (checkV (withH l b.length) = 0)) := by
  obtain ⟨k, rfl⟩ : ∃ m, k = m + 1 := ⟨k - 1, by omega⟩
  rw [http_fits.j0]
  cases x with
  | true => rfl
  | false =>
    rw [if_neg (by decide)]
    have hl := withH_light h1 h2 b.length (by omega)
    have hc := prog_check (withH l b.length) hl k (by omega)
    unfold withH at hc ⊢
    by_cases h0 : b.length = 0
    · rw [if_pos h0] at hc ⊢
      rw [if_neg (show ¬ decide ((b.length : Int) > 0) = true from by rw [decide_eq_true_eq]; omega), hc, Option.bind_some]
      rfl
    · rw [if_neg h0] at hc ⊢
      rw [if_pos (decide_eq_true (by omega)), hsized_f l h1 b.length (by omega), Option.bind_some, hc, Option.bind_some]
      rfl
theorem rfits_j0 (l : List S67) (h1 : l.length ≤ 100) (h2 : hsizeL l ≤ 20000) (b : List Int) (hb : b.length ≤ 40000) (x : Bool) (k : Nat) (hk : 70000 < k) : lanternref11_fits.j0 k l b (decide ((b.length : Int) > 0)) x = some (!x && decide (checkV (withH l b.length) = 0)) := by
  obtain ⟨k, rfl⟩ : ∃ m, k = m + 1 := ⟨k - 1, by omega⟩
  rw [lanternref11_fits.j0]
  cases x with
  | true => rfl
  | false =>
    rw [if_neg (by decide)]
    have hl := withH_light h1 h2 b.length (by omega)
    have hc := ref_check (withH l b.length) hl (fits_of hl) k (by omega)
    unfold withH at hc ⊢
    by_cases h0 : b.length = 0
    · rw [if_pos h0] at hc ⊢
      rw [if_neg (show ¬ decide ((b.length : Int) > 0) = true from by rw [decide_eq_true_eq]; omega), hc, Option.bind_some]
      rfl
    · rw [if_neg h0] at hc ⊢
      rw [if_pos (decide_eq_true (by omega)), hwith_f l h1 b.length (by omega) k (by omega), Option.bind_some, hc, Option.bind_some]
      rfl
theorem small_of {l : List S67} (h1 : l.length ≤ 100) (h2 : hsizeL l ≤ 20000) : Small l := by
  refine ⟨h1, fun x hx => ?_⟩
  have := (light_parts (light_of h1 h2)).2.2 x hx
  omega
theorem hfits_f (l : List S67) (h1 : l.length ≤ 100) (h2 : hsizeL l ≤ 20000) (b : List Int) (hb : b.length ≤ 40000) (k : Nat) (hk : 80000 < k) : http_fits.f k l b (decide ((b.length : Int) > 0)) = some (fitsM l b.length) := by
  have hs := small_of h1 h2
  have l1 := allV_len clB l
  have l2 := allV_len teB l
  unfold http_fits.f fitsM
  rw [all_f _ l hs (by decide) k (by omega), all_f _ l hs (by decide) k (by omega), Option.bind_some, Option.bind_some, allV_low _ _ l te_low, allV_low _ _ l cl_low]
  rw [wrap_nat ((allV clB l).length + (allV teB l).length) (by omega) (by omega)]
  by_cases hz : (allV clB l).length + (allV teB l).length = 0
  · have z1 : allV clB l = [] := List.eq_nil_of_length_eq_zero (by omega)
    have z2 : allV teB l = [] := List.eq_nil_of_length_eq_zero (by omega)
    rw [if_neg (by omega), hfits_j0 l h1 h2 b hb _ k (by omega)]
    by_cases h3 : b.length ≤ 32768
    · rw [decide_eq_false (show ¬ ((b.length : Int) > 32768) by omega), decide_eq_true (show allV clB l = [] ∧ allV teB l = [] ∧ b.length ≤ 32768 from ⟨z1, z2, h3⟩)]
      rfl
    · rw [decide_eq_true (show (b.length : Int) > 32768 by omega), decide_eq_false (show ¬ (allV clB l = [] ∧ allV teB l = [] ∧ b.length ≤ 32768) from fun h => h3 h.2.2)]
      rfl
  · rw [if_pos (by omega), hfits_j0 l h1 h2 b hb _ k (by omega), decide_eq_false (show ¬ (allV clB l = [] ∧ allV teB l = [] ∧ b.length ≤ 32768) from fun h => hz (by rw [h.1, h.2.1]; rfl))]
    rfl
theorem rfits_f (l : List S67) (h1 : l.length ≤ 100) (h2 : hsizeL l ≤ 20000) (b : List Int) (hb : b.length ≤ 40000) (k : Nat) (hk : 80000 < k) : lanternref11_fits.f k l b (decide ((b.length : Int) > 0)) = some (fitsM l b.length) := by
  have hs := small_of h1 h2
  unfold lanternref11_fits.f fitsM
  rw [show (⟨#[99, 111, 110, 116, 101, 110, 116, 45, 108, 101, 110, 103, 116, 104]⟩ : ByteArray) = clB from rfl, show (⟨#[116, 114, 97, 110, 115, 102, 101, 114, 45, 101, 110, 99, 111, 100, 105, 110, 103]⟩ : ByteArray) = teB from rfl, rall_f clB l hs (by decide) k (by omega), rall_f teB l hs (by decide) k (by omega), Option.bind_some]
  by_cases z1 : allV clB l = []
  · rw [if_neg (by rw [z1]; simp), Option.bind_some]
    by_cases z2 : allV teB l = []
    · rw [if_neg (by rw [z2]; simp), rfits_j0 l h1 h2 b hb _ k (by omega)]
      by_cases h3 : b.length ≤ 32768
      · rw [decide_eq_false (show ¬ ((b.length : Int) > 32768) by omega), decide_eq_true (show allV clB l = [] ∧ allV teB l = [] ∧ b.length ≤ 32768 from ⟨z1, z2, h3⟩)]
        rfl
      · rw [decide_eq_true (show (b.length : Int) > 32768 by omega), decide_eq_false (show ¬ (allV clB l = [] ∧ allV teB l = [] ∧ b.length ≤ 32768) from fun h => h3 h.2.2)]
        rfl
    · have : 0 < (allV teB l).length := List.length_pos_iff.2 z2
      rw [if_pos (by omega), rfits_j0 l h1 h2 b hb _ k (by omega), decide_eq_false (show ¬ (allV clB l = [] ∧ allV teB l = [] ∧ b.length ≤ 32768) from fun h => z2 h.2.1)]
      rfl
  · have : 0 < (allV clB l).length := List.length_pos_iff.2 z1
    rw [if_pos (by omega), rfits_j0 l h1 h2 b hb _ k (by omega), decide_eq_false (show ¬ (allV clB l = [] ∧ allV teB l = [] ∧ b.length ≤ 32768) from fun h => z1 h.1)]
    rfl
def mayR (m t : ByteArray) (l : List S67) (n : Nat) : Bool := tokenL (L m) && (targetL (L t) && fitsM l n)
theorem checkR_f (m t : ByteArray) (hm : m.size ≤ 5000) (ht : t.size ≤ 5000) (l : List S67) (h1 : l.length ≤ 100) (h2 : hsizeL l ≤ 20000) (b : List Int) (hb : b.length ≤ 40000) (k : Nat) (hk : 80000 < k) : http_CheckRequest.f k m t l b = some (if mayR m t l b.length = true then 0 else 1) := by
  unfold http_CheckRequest.f mayR
  rw [token_f m (by omega), Option.bind_some]
  cases tokenL (L m) with
  | false => rfl
  | true =>
    rw [if_pos rfl, target_f t (by omega) k (by omega), Option.bind_some]
    cases targetL (L t) with
    | false => rfl
    | true =>
      rw [if_pos rfl, hfits_f l h1 h2 b hb k hk, Option.bind_some]
      cases fitsM l b.length <;> rfl
theorem mayR_f (m t : ByteArray) (hm : m.size ≤ 5000) (ht : t.size ≤ 5000) (l : List S67) (h1 : l.length ≤ 100) (h2 : hsizeL l ≤ 20000) (b : List Int) (hb : b.length ≤ 40000) (k : Nat) (hk : 80000 < k) : lanternref11_MayRequest.f k m t l b = some (mayR m t l b.length) := by
  unfold lanternref11_MayRequest.f mayR
  rw [ref_token m (by omega) k (by omega), Option.bind_some]
  cases tokenL (L m) with
  | false => rfl
  | true =>
    rw [if_pos rfl, rtarget_f t (by omega) k (by omega), Option.bind_some]
    cases targetL (L t) with
    | false => rfl
    | true =>
      rw [if_pos rfl, rfits_f l h1 h2 b hb k hk, Option.bind_some]
      rfl
end Go.Proofs.YtipleegkonhfcaaGreatDoor.Q
set_option linter.unusedSimpArgs false
set_option linter.unusedVariables false
set_option maxRecDepth 10000
namespace Go.Proofs.YtipleegkonhfcaaGreatDoor.Q
open Go Go.RowKit Go.Lib Go.Proofs.YtipleegkonhfcaaGreatDoorW.PrintWords Go.Proofs.YtipleegkonhfcaaGreatDoorB Go.Proofs.YtipleegkonhfcaaGreatDoor.E Go.Proofs.YtipleegkonhfcaaGreatDoor.KH Go.Proofs.YtipleegkonhfcaaGreatDoor.KN Go.Proofs.YtipleegkonhfcaaGreatDoor.KA Go.Proofs.YtipleegkonhfcaaGreatDoor.KQ Go.Proofs.YtipleegkonhfcaaGreatDoor.P Go.Proofs.YtipleegkonhfcaaGreatDoor.U Go.Proofs.YtipleegkonhfcaaGreatDoor.KF

/-! ### slices.Concat of three -/
theorem concat_f (x y z : List Int) (h : x.length + y.length + z.length ≤ 1000000) (k : Nat) (hk : 20 < k) : slices_Concat_byte_byte.f k [x, y, z] = some (x ++ y ++ z) := by
  obtain ⟨k, rfl⟩ : ∃ m, k = m + 8 := ⟨k - 8, by omega⟩
  have w0 : wrap64 ((0 : Int) + (x.length : Int)) = ((x.length : Nat) : Int) := wrap_nat x.length (by omega) (by omega)
  have w1 : wrap64 (((x.length : Nat) : Int) + (y.length : Int)) = ((x.length + y.length : Nat) : Int) := wrap_nat _ (by omega) (by omega)
  have w2 : wrap64 (((x.length + y.length : Nat) : Int) + (z.length : Int)) = ((x.length + y.length + z.length : Nat) : Int) := wrap_nat _ (by omega) (by omega)
  have i0 : wrap64 ((0 : Int) + 1) = 1 := wrap_nat 1 rfl (by decide)
  have i1 : wrap64 ((1 : Int) + 1) = 2 := wrap_nat 2 rfl (by decide)
  have i2 : wrap64 ((2 : Int) + 1) = 3 := wrap_nat 3 rfl (by decide)
  have hl3 : (([x, y, z] : List (List Int)).length : Int) = 3 := rfl
  have r0 : rd_L1 [x, y, z] 0 = x := rfl
  have r1 : rd_L1 [x, y, z] 1 = y := rfl
  have r2 : rd_L1 [x, y, z] 2 = z := rfl
  have n0 : ¬ ((x.length : Nat) : Int) < 0 := by omega
  have n1 : ¬ ((x.length + y.length : Nat) : Int) < 0 := by omega
  have n2 : ¬ ((x.length + y.length + z.length : Nat) : Int) < 0 := by omega
  have hg : slices_Grow_byte_byte.f ([] : List Int) ((x.length + y.length + z.length : Nat) : Int) = some [] := by
    unfold slices_Grow_byte_byte.f
    rw [if_pos ⟨rfl, by omega, by omega⟩]
  have c0 : ([] : List Int).length + x.length < 140737488355328 := by rw [List.length_nil]; omega
  have c1 : (([] : List Int) ++ x).length + y.length < 140737488355328 := by rw [List.nil_append]; omega
  have c2 : (([] : List Int) ++ x ++ y).length + z.length < 140737488355328 := by rw [List.nil_append, List.length_append]; omega
  unfold slices_Concat_byte_byte.f
  rw [hl3]
  rw [slices_Concat_byte_byte.l0, if_pos (by decide), if_pos (by decide), hl3, if_pos (by decide), r0, w0, if_neg n0, i0]
  rw [slices_Concat_byte_byte.l0, if_pos (by decide), if_pos (by decide), hl3, if_pos (by decide), r1, w1, if_neg n1, i1]
  rw [slices_Concat_byte_byte.l0, if_pos (by decide), if_pos (by decide), hl3, if_pos (by decide), r2, w2, if_neg n2, i2]
  rw [slices_Concat_byte_byte.l0, if_neg (by decide), hg, Option.bind_some, hl3]
  rw [slices_Concat_byte_byte.l1, if_pos (by decide), if_pos (by decide), hl3, if_pos (by decide), r0, if_pos c0, i0]
  rw [slices_Concat_byte_byte.l1, if_pos (by decide), if_pos (by decide), hl3, if_pos (by decide), r1, if_pos c1, i1]
  rw [slices_Concat_byte_byte.l1, if_pos (by decide), if_pos (by decide), hl3, if_pos (by decide), r2, if_pos c2, i2]
  rw [slices_Concat_byte_byte.l1, if_neg (by decide), List.nil_append]
/-! ### a message put together -/
theorem bytesOf_L (s : ByteArray) : Go.Proofs.YtipleegkonhfcaaGreatDoorW.PrintWords.bytesOf s = nums (L s) := rfl
def msgB (line : List UInt8) (l : List S67) (bs : List UInt8) : List UInt8 := line ++ [13, 10] ++ (headsB l ++ [13, 10]) ++ bs
theorem nums_append (a b : List UInt8) : nums (a ++ b) = nums a ++ nums b := by simp [nums]
theorem heads_le {l : List S67} (hl : lightL l = true) : (headsB l).length ≤ 20100 := by
  have := (light_parts hl).2.1
  rw [headsB_length]
  unfold hsizeL at this
  omega
theorem join_f (s : ByteArray) (hs : s.size ≤ 20000) (l : List S67) (hl : lightL l = true) (hc : checkV l = 0) (bs : List UInt8) (hb : bs.length ≤ 40000) (k : Nat) (hk : 70000 < k) : http_join.f k s l (nums bs) = some (nums (msgB (L s) l bs)) := by
  have hh := heads_le hl
  have hz := size_L s
  unfold http_join.f
  rw [print_f l hl k (by omega) hc, Option.bind_some]
  rw [if_pos (by omega), bytesOf_L, L_append, show L (⟨#[13, 10]⟩ : ByteArray) = [13, 10] from rfl]
  rw [concat_f _ _ _ (by rw [nums_length, nums_length, nums_length, List.length_append, List.length_append]; simp only [List.length_cons, List.length_nil]; omega) k (by omega)]
  unfold msgB
  rw [nums_append (L s ++ [13, 10] ++ (headsB l ++ [13, 10])), nums_append (L s ++ [13, 10])]
theorem rjoin_f (s : ByteArray) (hs : s.size ≤ 20000) (l : List S67) (hl : lightL l = true) (bs : List UInt8) (hb : bs.length ≤ 40000) (k : Nat) (hk : 70000 < k) : lanternref11_join.f k s l (nums bs) = some (nums (msgB (L s) l bs)) := by
  have hh := heads_le hl
  have hp := (light_parts hl).1
  have hp1 : lanternref09_Print.f k l = some (nums (headsB l ++ [13, 10])) := by
    have := ref_print_loop l hl l.length k 0 [] (by omega) (by omega) (by rw [List.drop_zero, List.length_nil]; omega)
    rw [List.drop_zero, List.nil_append] at this
    unfold lanternref09_Print.f
    exact this
  unfold lanternref11_join.f
  rw [hp1, Option.bind_some, if_pos (by rw [nums_length, nums_length, List.length_append]; simp only [List.length_cons, List.length_nil]; omega), bytesOf_L]
  unfold msgB
  rw [nums_append (L s ++ [13, 10] ++ (headsB l ++ [13, 10])), nums_append (L s ++ [13, 10]), nums_append (L s) [13, 10]]
  rfl
def lineL (m t : ByteArray) : List UInt8 := L m ++ 32 :: (L t ++ 32 :: versionL)
theorem line_p (m t : ByteArray) : L ((((m ++ (⟨#[32]⟩ : ByteArray)) ++ t) ++ (⟨#[32]⟩ : ByteArray)) ++ (⟨#[72, 84, 84, 80, 47, 49, 46, 49]⟩ : ByteArray)) = lineL m t := by
  rw [L_append, L_append, L_append, L_append]
  unfold lineL versionL
  simp [L]
theorem line_r (m t : ByteArray) : L (((m ++ (⟨#[32]⟩ : ByteArray)) ++ t) ++ (⟨#[32, 72, 84, 84, 80, 47, 49, 46, 49]⟩ : ByteArray)) = lineL m t := by
  rw [L_append, L_append, L_append]
  unfold lineL versionL
  simp [L]
def reqB (m t : ByteArray) (l : List S67) (bs : List UInt8) : List UInt8 := msgB (lineL m t) (withH l bs.length) bs
theorem size_app (a b : ByteArray) : (a ++ b).size = a.size + b.size := ByteArray.size_append
theorem may_fits {m t : ByteArray} {l : List S67} {n : Nat} (h : mayR m t l n = true) : tokenL (L m) = true ∧ targetL (L t) = true ∧ allV clB l = [] ∧ allV teB l = [] ∧ n ≤ 32768 ∧ checkV (withH l n) = 0 := by
  unfold mayR fitsM at h
  rw [Bool.and_eq_true, Bool.and_eq_true, Bool.and_eq_true, decide_eq_true_eq, decide_eq_true_eq] at h
  exact ⟨h.1, h.2.1, h.2.2.1.1, h.2.2.1.2.1, h.2.2.1.2.2, h.2.2.2⟩
theorem printR_f (m t : ByteArray) (hm : m.size ≤ 5000) (ht : t.size ≤ 5000) (l : List S67) (h1 : l.length ≤ 100) (h2 : hsizeL l ≤ 20000) (bs : List UInt8) (hb : bs.length ≤ 40000) (k : Nat) (hk : 80000 < k) :
    http_PrintRequest.f k m t l (nums bs) = some (if mayR m t l bs.length = true then (nums (reqB m t l bs), 0) else ([], 1)) := by
  have hc := checkR_f m t hm ht l h1 h2 (nums bs) (by rw [nums_length]; exact hb) k hk
  rw [nums_length] at hc
  unfold http_PrintRequest.f
  rw [hc, Option.bind_some]
  by_cases hmay : mayR m t l bs.length = true
  · obtain ⟨_, _, _, _, hn, hck⟩ := may_fits hmay
    have hlt := withH_light h1 h2 bs.length (by omega)
    have z1 : (⟨#[32]⟩ : ByteArray).size = 1 := rfl
    have z8 : (⟨#[72, 84, 84, 80, 47, 49, 46, 49]⟩ : ByteArray).size = 8 := rfl
    have hj := join_f ((((m ++ (⟨#[32]⟩ : ByteArray)) ++ t) ++ (⟨#[32]⟩ : ByteArray)) ++ (⟨#[72, 84, 84, 80, 47, 49, 46, 49]⟩ : ByteArray)) (by rw [size_app, size_app, size_app, size_app, z1, z8]; omega) (withH l bs.length) hlt hck bs hb k (by omega)
    rw [line_p] at hj
    rw [if_pos hmay, if_pos rfl, nums_length, if_pos hmay]
    have s1 : m.size + 1 ≤ 9223372036854775807 := by omega
    have s2 : (m ++ (⟨#[32]⟩ : ByteArray)).size + t.size ≤ 9223372036854775807 := by rw [size_app, z1]; omega
    have s3 : ((m ++ (⟨#[32]⟩ : ByteArray)) ++ t).size + 1 ≤ 9223372036854775807 := by rw [size_app, size_app, z1]; omega
    have s4 : (((m ++ (⟨#[32]⟩ : ByteArray)) ++ t) ++ (⟨#[32]⟩ : ByteArray)).size + 8 ≤ 9223372036854775807 := by rw [size_app, size_app, size_app, z1]; omega
    by_cases h0 : bs.length = 0
    · have hw : withH l bs.length = l := by unfold withH; rw [if_pos h0]
      rw [hw] at hj
      unfold reqB
      rw [if_neg (by omega), if_pos s1, if_pos s2, if_pos s3, if_pos s4, hj, Option.bind_some, hw]
    · have hw : withH l bs.length = l ++ [clH bs.length] := by unfold withH; rw [if_neg h0]
      rw [hw] at hj
      unfold reqB
      rw [if_pos (by omega), hsized_f l h1 bs.length (by omega), Option.bind_some, if_pos s1, if_pos s2, if_pos s3, if_pos s4, hj, Option.bind_some, hw]
  · rw [if_neg hmay, if_neg (by decide), if_neg hmay]
theorem requestR_f (m t : ByteArray) (hm : m.size ≤ 5000) (ht : t.size ≤ 5000) (l : List S67) (h1 : l.length ≤ 100) (h2 : hsizeL l ≤ 20000) (bs : List UInt8) (hb : bs.length ≤ 40000) (k : Nat) (hk : 80000 < k) :
    lanternref11_Request.f k m t l (nums bs) = some (nums (reqB m t l bs)) := by
  have hlt := withH_light h1 h2 bs.length (by omega)
  have z1 : (⟨#[32]⟩ : ByteArray).size = 1 := rfl
  have z9 : (⟨#[32, 72, 84, 84, 80, 47, 49, 46, 49]⟩ : ByteArray).size = 9 := rfl
  have hj := rjoin_f (((m ++ (⟨#[32]⟩ : ByteArray)) ++ t) ++ (⟨#[32, 72, 84, 84, 80, 47, 49, 46, 49]⟩ : ByteArray)) (by rw [size_app, size_app, size_app, z1, z9]; omega) (withH l bs.length) hlt bs hb k (by omega)
  rw [line_r] at hj
  have s1 : m.size + 1 ≤ 9223372036854775807 := by omega
  have s2 : (m ++ (⟨#[32]⟩ : ByteArray)).size + t.size ≤ 9223372036854775807 := by rw [size_app, z1]; omega
  have s3 : ((m ++ (⟨#[32]⟩ : ByteArray)) ++ t).size + 9 ≤ 9223372036854775807 := by rw [size_app, size_app, z1]; omega
  unfold lanternref11_Request.f reqB
  rw [nums_length]
  by_cases h0 : bs.length = 0
  · have hw : withH l bs.length = l := by unfold withH; rw [if_pos h0]
    rw [hw] at hj ⊢
    rw [if_neg (by omega), if_pos s1, if_pos s2, if_pos s3, hj, Option.bind_some]
  · have hw : withH l bs.length = l ++ [clH bs.length] := by unfold withH; rw [if_neg h0]
    rw [hw] at hj ⊢
    rw [if_pos (by omega), hwith_f l h1 bs.length (by omega) k (by omega), Option.bind_some, if_pos s1, if_pos s2, if_pos s3, hj, Option.bind_some]
end Go.Proofs.YtipleegkonhfcaaGreatDoor.Q
set_option linter.unusedSimpArgs false
set_option linter.unusedVariables false
set_option maxRecDepth 10000
namespace Go.Proofs.YtipleegkonhfcaaGreatDoor.Q
open Go Go.RowKit Go.Lib Go.Proofs.YtipleegkonhfcaaGreatDoorW.PrintWords Go.Proofs.YtipleegkonhfcaaGreatDoorB Go.Proofs.YtipleegkonhfcaaGreatDoor.E Go.Proofs.YtipleegkonhfcaaGreatDoor.KH Go.Proofs.YtipleegkonhfcaaGreatDoor.KN Go.Proofs.YtipleegkonhfcaaGreatDoor.KA Go.Proofs.YtipleegkonhfcaaGreatDoor.KQ Go.Proofs.YtipleegkonhfcaaGreatDoor.P Go.Proofs.YtipleegkonhfcaaGreatDoor.U Go.Proofs.YtipleegkonhfcaaGreatDoor.KF

theorem sign_no (c : UInt8) (h : signL.contains c = true) : c ≠ 32 ∧ c ≠ 10 := by
  have : ∀ n : Fin 256, signL.contains (UInt8.ofNat n.val) = true → UInt8.ofNat n.val ≠ 32 ∧ UInt8.ofNat n.val ≠ 10 := by decide +kernel
  exact u8_all (p := fun c => signL.contains c = true → c ≠ 32 ∧ c ≠ 10) this c h
theorem inR_no (c : UInt8) (h : inR 33 126 c = true) : c ≠ 32 ∧ c ≠ 10 := by
  unfold inR at h
  rw [Bool.and_eq_true] at h
  have h1 := of_decide_eq_true h.1
  refine ⟨?_, ?_⟩ <;> · rintro rfl; revert h1; decide
theorem token_no {l : List UInt8} (h : tokenL l = true) : ∀ c ∈ l, c ≠ 32 ∧ c ≠ 10 := by
  unfold tokenL at h
  rw [Bool.and_eq_true] at h
  exact fun c hc => sign_no c (List.all_eq_true.1 h.2 c hc)
theorem target_no {l : List UInt8} (h : targetL l = true) : ∀ c ∈ l, c ≠ 32 ∧ c ≠ 10 := by
  unfold targetL at h
  rw [Bool.and_eq_true] at h
  exact fun c hc => inR_no c (List.all_eq_true.1 h.2 c hc)
theorem version_no : ∀ c ∈ versionL, c ≠ 32 ∧ c ≠ 10 := by decide
theorem line_parts {m t : ByteArray} (h1 : tokenL (L m) = true) (h2 : targetL (L t) = true) : splitS 32 (lineL m t) = [L m, L t, versionL] := by
  unfold lineL
  rw [splitS_hit 32 _ _ (fun b hb => (token_no h1 b hb).1), splitS_hit 32 _ _ (fun b hb => (target_no h2 b hb).1), splitS_miss 32 _ (fun b hb => (version_no b hb).1)]
theorem line_ten {m t : ByteArray} (h1 : tokenL (L m) = true) (h2 : targetL (L t) = true) : ∀ b ∈ lineL m t ++ [13], b ≠ 10 := by
  intro b hb
  unfold lineL at hb
  rcases List.mem_append.1 hb with hb | hb
  · rcases List.mem_append.1 hb with hb | hb
    · exact (token_no h1 b hb).2
    · rcases List.mem_cons.1 hb with rfl | hb
      · decide
      · rcases List.mem_append.1 hb with hb | hb
        · exact (target_no h2 b hb).2
        · rcases List.mem_cons.1 hb with rfl | hb
          · decide
          · exact (version_no b hb).2
  · rw [List.mem_singleton.1 hb]
    decide
theorem line_len (m t : ByteArray) : (lineL m t).length = m.size + t.size + 10 := by
  unfold lineL
  rw [List.length_append, List.length_cons, List.length_append, List.length_cons, ← size_L, ← size_L, show versionL.length = 8 from rfl]
  omega
/-- The first line of what begins so. -/
theorem firstM_line (u rest : List UInt8) (hu : ∀ b ∈ u ++ [13], b ≠ 10) : firstM ((u ++ [13]) ++ 10 :: rest) = if u.length + 1 < 4096 then (B u, ((u.length + 2 : Nat) : Int), 0) else ((⟨#[]⟩ : ByteArray), 0, 3) := by
  have hl : (u ++ [13]).length = u.length + 1 := by simp
  unfold firstM
  by_cases h : u.length + 1 < 4096
  · have ht : ((u ++ [13]) ++ 10 :: rest).take 4096 = (u ++ [13]) ++ 10 :: rest.take (4096 - (u.length + 1) - 1) := by
      rw [List.take_append, List.take_of_length_le (by rw [hl]; omega), hl]
      obtain ⟨q, hq⟩ : ∃ q, 4096 - (u.length + 1) = q + 1 := ⟨4096 - (u.length + 1) - 1, by omega⟩
      rw [hq, List.take_succ_cons, Nat.add_sub_cancel]
    rw [ht, splitC_of 10 _ _ hu, if_pos h]
    simp only
    rw [chomp_line, hl]
  · have ht : ((u ++ [13]) ++ 10 :: rest).take 4096 = (u ++ [13]).take 4096 := by
      rw [List.take_append_of_le_length (by rw [hl]; omega)]
    rw [ht, splitC_none_of 10 _ (fun b hb => hu b (List.mem_of_mem_take hb)), if_neg h]
    simp only
    rw [if_pos (by rw [List.length_append, hl, List.length_cons]; omega)]
theorem allV_snoc (nm : ByteArray) (l : List S67) (h : S67) : allV nm (l ++ [h]) = allV nm l ++ (if sameB h.f0 nm = true then [h.f1] else []) := by
  unfold allV
  rw [List.filter_append, List.map_append, List.filter_cons]
  split <;> rfl
theorem body_back (l : List S67) (bs more : List UInt8) (h1 : allV clB l = []) (h2 : allV teB l = []) (hn : bs.length ≤ 32768) : bodyM (bs ++ more) (allV teB (withH l bs.length)) (allV clB (withH l bs.length)) false = (nums bs, (bs.length : Int), 0) := by
  have hte : sameB clN teB = false := by kernel_rfl
  have hcl : sameB clN clB = true := by kernel_rfl
  unfold withH bodyM
  by_cases h0 : bs.length = 0
  · have hb : bs = [] := List.eq_nil_of_length_eq_zero h0
    rw [if_pos h0, h1, h2, hb]
    rfl
  · rw [if_neg h0, allV_snoc, allV_snoc, h1, h2]
    have e1 : sameB (clH bs.length).f0 teB = false := hte
    have e2 : sameB (clH bs.length).f0 clB = true := hcl
    rw [e1, e2, if_neg (by decide), if_pos rfl, List.append_nil, List.nil_append]
    obtain ⟨d1, d2, d3, d4⟩ := dec_facts 7 bs.length (by omega)
    have hL : L (clH bs.length).f1 = Lib.decDigits bs.length := L_B _
    have hz : (clH bs.length).f1.size = (Lib.decDigits bs.length).length := size_B _
    have hok : [(clH bs.length).f1].all (okY (clH bs.length).f1) = true := by
      rw [List.all_cons, List.all_nil, Bool.and_true]
      unfold okY
      rw [hL, hz, beq_self_eq_true, decide_eq_true d3, decide_eq_true d4, d1]
      rfl
    unfold kindM
    simp only [hok, if_true]
    rw [hL, d2, if_neg (by decide), if_neg (by decide), if_neg (by rintro ⟨h, _⟩; exact absurd h (by decide)), Int.toNat_natCast]
    unfold sizedM
    rw [if_neg (by omega), if_neg (by rw [List.length_append]; omega), List.take_left]
theorem partsM_three (bs : List UInt8) (n : Nat) (a b c : List UInt8) : partsM bs n [a, b, c] = if tokenL a = true ∧ targetL b = true ∧ c = versionL then restM bs n (B a) (B b) else none6 5 := rfl
theorem round (m t : ByteArray) (l : List S67) (bs more : List UInt8) (hm : m.size ≤ 5000) (ht : t.size ≤ 5000) (hb : bs.length ≤ 40000) (h : mayR m t l bs.length = true) :
    reqM (reqB m t l bs ++ more) = if 4084 < m.size + t.size then none6 3 else (m, t, withH l bs.length, nums bs, ((reqB m t l bs).length : Int), 0) := by
  obtain ⟨f1, f2, f3, f4, f5, f6⟩ := may_fits h
  obtain ⟨g1, g2, g3⟩ := check_zero f6
  have hlen := line_len m t
  obtain ⟨l', hl'⟩ : ∃ l', l' = withH l bs.length := ⟨_, rfl⟩
  have hbk := body_back l bs more f3 f4 f5
  rw [← hl'] at g1 g2 g3 f6 hbk ⊢
  have hsz : (headsB l' ++ [13, 10]).length ≤ 8192 := by
    rw [List.length_append, headsB_length]
    unfold hsizeL at g3
    simp only [List.length_cons, List.length_nil]
    omega
  obtain ⟨rest, hrest⟩ : ∃ rest, rest = headsB l' ++ [13, 10] ++ (bs ++ more) := ⟨_, rfl⟩
  have hall : reqB m t l bs ++ more = (lineL m t ++ [13]) ++ 10 :: rest := by
    unfold reqB msgB
    rw [← hl', hrest]
    simp only [List.append_assoc, List.cons_append, List.nil_append]
  have hrl : (reqB m t l bs).length = (lineL m t).length + 2 + (headsB l' ++ [13, 10]).length + bs.length := by
    unfold reqB msgB
    rw [← hl', List.length_append, List.length_append, List.length_append]
    rfl
  unfold reqM
  rw [hall, firstM_line _ _ (line_ten f1 f2), hlen, hrl]
  by_cases hbig : 4084 < m.size + t.size
  · rw [if_neg (show ¬ (m.size + t.size + 10 + 1 < 4096) by omega), if_pos hbig]
    rfl
  · rw [if_pos (show m.size + t.size + 10 + 1 < 4096 by omega), if_neg hbig]
    simp only [if_true]
    rw [L_B, line_parts f1 f2, Int.toNat_natCast]
    rw [partsM_three, if_pos ⟨f1, f2, rfl⟩, B_L, B_L]
    have hdrop : ((lineL m t ++ [13]) ++ 10 :: rest).drop (m.size + t.size + 10 + 2) = rest := by
      have e : (lineL m t ++ [13] ++ [10]).length = m.size + t.size + 10 + 2 := by
        rw [List.length_append, List.length_append, hlen]
        rfl
      rw [show (lineL m t ++ [13]) ++ 10 :: rest = (lineL m t ++ [13] ++ [10]) ++ rest from by simp, ← e, List.drop_left]
    have hdrop2 : ((lineL m t ++ [13]) ++ 10 :: rest).drop (m.size + t.size + 10 + 2 + (headsB l' ++ [13, 10]).length) = bs ++ more := by
      rw [← List.drop_drop, hdrop, hrest, List.drop_left]
    have hfp := full_parse l' g1 g2 hsz (bs ++ more) l'.length (rest.length + 1) 0 (by omega) (by rw [hrest, List.take_zero]; show _ < 0 + _; omega)
    rw [List.take_zero, show (headsB ([] : List S67)).length = 0 from rfl, ← hrest] at hfp
    unfold restM
    rw [hdrop, hfp]
    simp only [if_true]
    rw [Int.toNat_natCast, hdrop2, hbk]
    simp only [if_true]
    rw [wrap_nat (m.size + t.size + 10 + 2 + (headsB l' ++ [13, 10]).length + bs.length) (by omega) (by omega), hlen]
theorem awake_K (k : Nat) (hk : 12000 < k) : lanternlaw11_awake.f k = some true := awake_f k hk
theorem law_j0 (m t : ByteArray) (l : List S67) (bs more : List UInt8) (hm : m.size ≤ 5000) (ht : t.size ≤ 5000) (h1 : l.length ≤ 100) (h2 : hsizeL l ≤ 20000) (hb : bs.length ≤ 40000) (hmo : more.length ≤ 1000) (k : Nat) (hk : 2000000 < k) :
    lanternlaw11_HttpRequests.j0 k (nums more) false m t l (nums bs) = some true := by
  obtain ⟨k, rfl⟩ : ∃ m, k = m + 1 := ⟨k - 1, by omega⟩
  have hc := checkR_f m t hm ht l h1 h2 (nums bs) (by rw [nums_length]; exact hb) k (by omega)
  have hmy := mayR_f m t hm ht l h1 h2 (nums bs) (by rw [nums_length]; exact hb) k (by omega)
  rw [nums_length] at hc hmy
  rw [lanternlaw11_HttpRequests.j0, if_neg (by decide), printR_f m t hm ht l h1 h2 bs hb k (by omega), Option.bind_some, hmy, Option.bind_some]
  by_cases hmay : mayR m t l bs.length = true
  · have hrd := round m t l bs more hm ht hb hmay
    have hlt := withH_light h1 h2 bs.length (by omega)
    have hwl := (light_parts hlt).1
    have hh := heads_le hlt
    have hrl : (reqB m t l bs).length ≤ 75000 := by
      unfold reqB msgB
      rw [List.length_append, List.length_append, List.length_append, List.length_append, line_len]
      simp only [List.length_cons, List.length_nil]
      omega
    rw [if_pos hmay, requestR_f m t hm ht l h1 h2 bs hb k (by omega), Option.bind_some, hc, Option.bind_some, if_pos hmay]
    simp only [hmay, if_true]
    rw [Option.bind_some, List.length_nil, nums_length, if_pos (by omega), Option.bind_some, List.nil_append, nums_length, nums_length, if_pos (by omega), ← nums_append]
    rw [req_f (reqB m t l bs ++ more) (by rw [List.length_append]; omega) k (by rw [List.length_append]; omega), Option.bind_some, hrd, wrap_nat (m.size + t.size) (by omega) (by omega)]
    by_cases hbig : 4084 < m.size + t.size
    · rw [if_pos (show ((m.size + t.size : Nat) : Int) > 4084 by omega), if_pos hbig, if_pos (show (none6 3).2.2.2.2.2 = 3 from rfl), awake_K k (by omega)]
      rfl
    · rw [if_neg (show ¬ ((m.size + t.size : Nat) : Int) > 4084 by omega), if_neg hbig]
      have hs : lanternref11_SameRequest.f k m t (withH l bs.length) (nums bs) m t (withH l bs.length) (nums bs) = some true := by
        unfold lanternref11_SameRequest.f
        rw [if_pos rfl, if_pos rfl, same_f _ (by omega) _ (by omega), Option.bind_some, if_pos rfl, beq_self_eq_true]
      have hnb := nums_length bs
      simp only
      by_cases h0 : bs.length = 0
      · have hw : withH l bs.length = l := by unfold withH; rw [if_pos h0]
        rw [hw] at hs ⊢
        rw [if_neg (by omega)]
        simp only [if_true, hs, Option.bind_some]
        rw [awake_K k (by omega)]
        rfl
      · have hw : withH l bs.length = l ++ [clH bs.length] := by unfold withH; rw [if_neg h0]
        rw [hw] at hs ⊢
        rw [if_pos (by omega), hnb, hwith_f l h1 bs.length (by omega) k (by omega), Option.bind_some]
        simp only [if_true, hs, Option.bind_some]
        rw [awake_K k (by omega)]
        rfl
  · rw [if_neg hmay, hc, Option.bind_some, if_neg hmay, if_pos rfl, if_neg hmay]
    rw [if_pos rfl, if_pos (show ((([] : List Int).length : Nat) : Int) = 0 from rfl), awake_K k (by omega)]
    rfl
theorem law_j0t (m t : ByteArray) (l : List S67) (b more : List Int) (k : Nat) (hk : 20000 < k) : lanternlaw11_HttpRequests.j0 k more true m t l b = some true := by
  obtain ⟨k, rfl⟩ : ∃ m, k = m + 1 := ⟨k - 1, by omega⟩
  rw [lanternlaw11_HttpRequests.j0, if_pos rfl, awake_K k (by omega)]
  rfl
theorem HttpRequests (m t : ByteArray) (l : List S67) (b more : List Int) (hf : Fits l) (hb : ∀ n ∈ b, 0 ≤ n ∧ n < 256) (hmo : ∀ n ∈ more, 0 ≤ n ∧ n < 256) : ∃ k, lanternlaw11_HttpRequests.f k m t l b more = some true := by
  refine ⟨3000000, ?_⟩
  unfold lanternlaw11_HttpRequests.f
  rw [hlight_f l hf b _ (by decide), Option.bind_some]
  by_cases h1 : l.length ≤ 100
  · by_cases h2 : hsizeL l ≤ 20000
    · by_cases h3 : b.length ≤ 40000
      · rw [decide_eq_true h1, decide_eq_true h2, decide_eq_true h3, if_pos (show (true && (true && true)) = true from rfl)]
        by_cases h4 : m.size ≤ 5000
        · rw [if_neg (by omega)]
          by_cases h5 : t.size ≤ 5000
          · rw [if_neg (by omega)]
            by_cases h6 : more.length ≤ 1000
            · rw [decide_eq_false (show ¬ ((more.length : Int) > 1000) by omega)]
              obtain ⟨bs, rfl⟩ : ∃ bs, b = nums bs := ⟨Lib.bytesOf b, (nums_of hb).symm⟩
              obtain ⟨ms, rfl⟩ : ∃ ms, more = nums ms := ⟨Lib.bytesOf more, (nums_of hmo).symm⟩
              rw [nums_length] at h3 h6
              exact law_j0 m t l bs ms h4 h5 h1 h2 h3 h6 _ (by decide)
            · rw [decide_eq_true (show (more.length : Int) > 1000 by omega)]
              exact law_j0t m t l b more _ (by decide)
          · rw [if_pos (by omega)]
            exact law_j0t m t l b more _ (by decide)
        · rw [if_pos (by omega)]
          exact law_j0t m t l b more _ (by decide)
      · rw [decide_eq_false h3, Bool.and_false, Bool.and_false, if_neg (by decide)]
        exact law_j0t m t l b more _ (by decide)
    · rw [decide_eq_false h2, Bool.false_and, Bool.and_false, if_neg (by decide)]
      exact law_j0t m t l b more _ (by decide)
  · rw [decide_eq_false h1, Bool.false_and, if_neg (by decide)]
    exact law_j0t m t l b more _ (by decide)
end Go.Proofs.YtipleegkonhfcaaGreatDoor.Q
